/- Models of the program's functions, and the proofs that runs give them: MADE BY PROGRAM (wip/tools/dec.py). -/
import Derived.Test.YtgplhblofefkjaaDoorMendTMod0x

set_option maxRecDepth 100000
set_option linter.unusedVariables false
namespace Go.MendM
open Go.Sp Go.MendT
noncomputable section
/-- spadille/spadillelaw09.large -/
def o14_0 : List ROp := [
  ⟨(some 1), .box 24 (.tmp 0), 0, none, []⟩,
  ⟨(some 2), .assign (.const (.bool false)), 4, none, []⟩]
def c14_0 : RC := .reg [] o14_0
def o14_1 : List ROp := [
  ⟨(some 3), .fieldAddr 24 (.tmp 1) 1, 0, none, []⟩,
  ⟨(some 4), .load 22 (.tmp 3), 22, none, []⟩,
  ⟨(some 5), .call ⟨.builtin .len, #[(.tmp 4)], #[22]⟩, 3, none, []⟩,
  ⟨(some 6), .binOp .gtr 3 (.tmp 5) (.const (.int .i64 40)) 3, 4, none, []⟩,
  ⟨(some 7), .move (.tmp 6), 4, none, []⟩,
  ⟨(some 8), .fieldAddr 24 (.tmp 1) 2, 0, (some ((some 7), false)), []⟩,
  ⟨(some 9), .load 22 (.tmp 8), 22, (some ((some 7), false)), []⟩,
  ⟨(some 10), .call ⟨.builtin .len, #[(.tmp 9)], #[22]⟩, 3, (some ((some 7), false)), []⟩,
  ⟨(some 11), .binOp .gtr 3 (.tmp 10) (.const (.int .i64 40)) 3, 4, (some ((some 7), false)), []⟩,
  ⟨(some 12), .pick (.tmp 7) (.const (.bool true)) (.tmp 11), 4, none, []⟩,
  ⟨(some 2), .assign (.tmp 12), 4, none, []⟩]
def c14_1 : RC := .reg [] o14_1
def c14_2 : RC := .seq c14_1 .ret
def c14_3 : RC := .seq c14_0 c14_2
def m14_0 (pu : PureF) (n : Nat) (b158 : Bool) : Option Value :=
  (some (.bool b158))
def m14_ (pu : PureF) (n : Nat) (x151 : Int) (s153 : Sl) (s155 : Sl) : Option Value :=
  (bb (ilt (40 : Int) (Int.ofNat (Sl.n s153))) (m14_0 pu n true) (m14_0 pu n (ilt (40 : Int) (Int.ofNat (Sl.n s155)))))
def m14 (pu : PureF) (n : Nat) (args : List Value) : Option Value :=
  (ll args none fun a0 args => (ll args (oo (vAgg a0) none fun l146 => (ll l146 none fun v148 l146 => (ll l146 none fun v149 l146 => (ll l146 none fun v150 l146 => (ll l146 (oo (toI .i64 v148) none fun x151 => (oo (toSl 1 v149) none fun s153 => (oo (toSl 1 v150) none fun s155 => (m14_ pu n x151 s153 s155)))) fun _ _ => none))))) fun _ _ => none))
theorem r14 {call : CallF} (pu : PureF) (n : Nat) (hcall : call = callP tabs isP pu inl) {args : List Value} {v : Value} (hm : m14 pu n args = some v) (_ : ∀ x ∈ args, closed2 x = true) : args.length ≤ 13 ∧ Run tt call 1 c14_3 (Fr.made 13 args) (pureHeap tabs) (Fin tt 1 [.tmp 2] v) := by
  subst hcall
  unfold m14 at hm
  have hq := ll_uncons hm; clear hm; obtain ⟨a0, args_0, rfl, hm⟩ := hq
  have hq := ll_end hm; clear hm; obtain ⟨rfl, hm⟩ := hq
  have hq := oo_inv hm; clear hm; obtain ⟨l146, h147, hm⟩ := hq
  obtain rfl := vAgg_some h147
  have hq := ll_uncons hm; clear hm; obtain ⟨v148, l146_0, rfl, hm⟩ := hq
  have hq := ll_uncons hm; clear hm; obtain ⟨v149, l146_1, rfl, hm⟩ := hq
  have hq := ll_uncons hm; clear hm; obtain ⟨v150, l146_2, rfl, hm⟩ := hq
  have hq := ll_end hm; clear hm; obtain ⟨rfl, hm⟩ := hq
  have hq := oo_inv hm; clear hm; obtain ⟨x151, h152, hm⟩ := hq
  obtain rfl := toI_some h152
  have hq := oo_inv hm; clear hm; obtain ⟨s153, h154, hm⟩ := hq
  obtain rfl := toSl_some h154
  have hq := oo_inv hm; clear hm; obtain ⟨s155, h156, hm⟩ := hq
  obtain rfl := toSl_some h156
  unfold m14_ at hm
  refine ⟨by simp, ?_⟩
  refine .same (F' := (⟨13, frTr [(0, (.agg ⟨[(.int .i64 x151), (Sl.v 1 s153), (Sl.v 1 s155)]⟩))] .nil⟩ : Fr)) (H' := (⟨1, objTr [(.cells tab0 true false [])] 0 .nil, true⟩ : AHeap)) (by kernel_rfl) (by kernel_rfl) ?_
  refine .then ?_
  refine .reg (F' := (Fr.puts (⟨13, frTr [(0, (.agg ⟨[(.int .i64 x151), (Sl.v 1 s153), (Sl.v 1 s155)]⟩))] .nil⟩ : Fr) [(1, (.pointer (some ⟨1, 0, none⟩))), (2, (.bool false))])) (H' := (⟨2, objTr [(.cells tab0 true false []), (.cells [(.int .i64 x151), (Sl.v 1 s153), (Sl.v 1 s155)] false false [])] 0 .nil, true⟩ : AHeap)) (by kernel_rfl) ?_
  refine .ghs (⟨13, frTr [(1, (.pointer (some ⟨1, 0, none⟩)))] .nil⟩ : Fr) (⟨2, objTr [(.cells tab0 true false []), (.cells [(.int .i64 x151), (Sl.v 1 s153), (Sl.v 1 s155)] false false [])] 0 .nil, true⟩ : AHeap) (.gc [] [false] [.tmp 1 false] [1] (by kernel_rfl) trivial (by kernel_rfl)) ?_
  refine .join (v := v) (fun y : Bool => ((⟨13, frTr [(2, (.bool y))] .nil⟩ : Fr), (⟨1, objTr [(.cells tab0 true false [])] 0 .nil, true⟩ : AHeap))) (fun y => m14_0 pu n y) ?_ ?_
  · rintro b158 hm
    unfold m14_0 at hm
    refine .ret ?_
    exact fin_ret (.bool b158) (by kernel_rfl) (by kernel_rfl) hm
  · skip
    have hq := bb_cases hm; clear hm; rcases hq with ⟨h159, hm⟩ | ⟨h159, hm⟩
    · skip
      refine .reg (F' := (Fr.puts (⟨13, frTr [(1, (.pointer (some ⟨1, 0, none⟩)))] .nil⟩ : Fr) [(3, (.pointer (some ⟨1, 1, none⟩))), (4, (Sl.v 1 s153)), (5, (.int .i64 (Int.ofNat (Sl.n s153)))), (6, (.bool true)), (7, (.bool true)), (8, (.tuple ⟨[]⟩)), (9, (.tuple ⟨[]⟩)), (10, (.tuple ⟨[]⟩)), (11, (.tuple ⟨[]⟩)), (12, (.bool true)), (2, (.bool true))])) (H' := (⟨2, objTr [(.cells tab0 true false []), (.cells [(.int .i64 x151), (Sl.v 1 s153), (Sl.v 1 s155)] false false [])] 0 .nil, true⟩ : AHeap)) (evOps_cut 3 (by kernel_rfl) (evOps_data (some ((.bool (ilt (40 : Int) (Int.ofNat (Sl.n s153)))), (⟨2, objTr [(.cells tab0 true false []), (.cells [(.int .i64 x151), (Sl.v 1 s153), (Sl.v 1 s155)] false false [])] 0 .nil, true⟩ : AHeap))) (by kernel_rfl) (show _ = some ((.bool true), _) from (by rw [h159])) (okAt_of (by kernel_rfl) (by kernel_rfl)) (by kernel_rfl))) ?_
      exact ⟨true, hm, (.gc [] [false] [] [2] (by kernel_rfl) trivial (by kernel_rfl))⟩
    · skip
      refine .reg (F' := (Fr.puts (⟨13, frTr [(1, (.pointer (some ⟨1, 0, none⟩)))] .nil⟩ : Fr) [(3, (.pointer (some ⟨1, 1, none⟩))), (4, (Sl.v 1 s153)), (5, (.int .i64 (Int.ofNat (Sl.n s153)))), (6, (.bool false)), (7, (.bool false)), (8, (.pointer (some ⟨1, 2, none⟩))), (9, (Sl.v 1 s155)), (10, (.int .i64 (Int.ofNat (Sl.n s155)))), (11, (.bool (ilt (40 : Int) (Int.ofNat (Sl.n s155))))), (12, (.bool (ilt (40 : Int) (Int.ofNat (Sl.n s155))))), (2, (.bool (ilt (40 : Int) (Int.ofNat (Sl.n s155)))))])) (H' := (⟨2, objTr [(.cells tab0 true false []), (.cells [(.int .i64 x151), (Sl.v 1 s153), (Sl.v 1 s155)] false false [])] 0 .nil, true⟩ : AHeap)) (evOps_cut 3 (by kernel_rfl) (evOps_data (some ((.bool (ilt (40 : Int) (Int.ofNat (Sl.n s153)))), (⟨2, objTr [(.cells tab0 true false []), (.cells [(.int .i64 x151), (Sl.v 1 s153), (Sl.v 1 s155)] false false [])] 0 .nil, true⟩ : AHeap))) (by kernel_rfl) (show _ = some ((.bool false), _) from (by rw [h159])) (okAt_of (by kernel_rfl) (by kernel_rfl)) (by kernel_rfl))) ?_
      exact ⟨(ilt (40 : Int) (Int.ofNat (Sl.n s155))), hm, (.gc [] [false] [] [2] (by kernel_rfl) trivial (by kernel_rfl))⟩
/-- spadille/mend.Wrong -/
def o16_0 : List ROp := [
  ⟨(some 1), .box 24 (.tmp 0), 0, none, []⟩,
  ⟨(some 2), .assign (.const (.slice none 0 0)), 22, none, []⟩,
  ⟨(some 3), .assign (.const (.int .i64 0)), 28, none, []⟩]
def c16_0 : RC := .reg [] o16_0
def o16_1 : List ROp := [
  ⟨(some 5), .load 24 (.tmp 1), 24, none, []⟩,
  ⟨(some 6), .call ⟨.value (.func 21), #[(.tmp 5)], #[24]⟩, 28, none, []⟩,
  ⟨(some 4), .assign (.tmp 6), 28, none, []⟩]
def c16_1 : RC := .reg [] o16_1
def o16_2 : List ROp := [
  ⟨(some 7), .move (.tmp 4), 28, none, []⟩,
  ⟨(some 8), .binOp .neq 28 (.tmp 7) (.const (.int .i64 0)) 28, 4, none, []⟩]
def c16_2 : RC := .reg [] o16_2
def o16_3 : List ROp := [
  ⟨(some 9), .move (.tmp 4), 28, none, []⟩,
  ⟨(some 2), .assign (.const (.slice none 0 0)), 22, none, []⟩,
  ⟨(some 3), .assign (.tmp 9), 28, none, []⟩]
def c16_3 : RC := .reg [] o16_3
def c16_4 : RC := .seq c16_3 .ret
def c16_5 : RC := .cond (.tmp 8) c16_4 .skip
def c16_6 : RC := .seq c16_2 c16_5
def c16_7 : RC := .seq c16_1 c16_6
def o16_8 : List ROp := [
  ⟨(some 10), .load 24 (.tmp 1), 24, none, []⟩,
  ⟨(some 11), .call ⟨.value (.func 53), #[(.tmp 10)], #[24]⟩, 79, none, []⟩,
  ⟨(some 12), .call ⟨.value (.func 54), #[(.tmp 11)], #[79]⟩, 22, none, []⟩,
  ⟨(some 2), .assign (.tmp 12), 22, none, []⟩,
  ⟨(some 3), .assign (.const (.int .i64 0)), 28, none, []⟩]
def c16_8 : RC := .reg [] o16_8
def c16_9 : RC := .seq c16_8 .ret
def c16_10 : RC := .seq c16_7 c16_9
def c16_11 : RC := .seq c16_0 c16_10

def m16_ (pu : PureF) (n : Nat) (x165 : Int) (s167 : Sl) (s169 : Sl) : Option Value :=
  (oo (pu 21 [(.agg ⟨[(.int .i64 x165), (Sl.v 1 s167), (Sl.v 1 s169)]⟩)]) none fun v171 => (oo (toI .i64 v171) none fun x173 => (bb (nt (ieq x173 (0 : Int))) (some (.tuple ⟨[(Sl.v 1 (Sl.mk 0 2 [])), (.int .i64 x173)]⟩)) (oo (pu 53 [(.agg ⟨[(.int .i64 x165), (Sl.v 1 s167), (Sl.v 1 s169)]⟩)]) none fun v176 => (oo (toI .u16 v176) none fun x178 => (oo (pu 54 [(.int .u16 x178)]) none fun v180 => (oo (toSl 1 v180) none fun s182 => (some (.tuple ⟨[(Sl.v 1 s182), (.int .i64 (0 : Int))]⟩)))))))))
def m16 (pu : PureF) (n : Nat) (args : List Value) : Option Value :=
  (ll args none fun a0 args => (ll args (oo (vAgg a0) none fun l160 => (ll l160 none fun v162 l160 => (ll l160 none fun v163 l160 => (ll l160 none fun v164 l160 => (ll l160 (oo (toI .i64 v162) none fun x165 => (oo (toSl 1 v163) none fun s167 => (oo (toSl 1 v164) none fun s169 => (m16_ pu n x165 s167 s169)))) fun _ _ => none))))) fun _ _ => none))
theorem r16 {call : CallF} (pu : PureF) (n : Nat) (hcall : call = callP tabs isP pu inl) {args : List Value} {v : Value} (hm : m16 pu n args = some v) (_ : ∀ x ∈ args, closed2 x = true) : args.length ≤ 13 ∧ Run tt call 1 c16_11 (Fr.made 13 args) (pureHeap tabs) (Fin tt 1 [.tmp 2, .tmp 3] v) := by
  subst hcall
  unfold m16 at hm
  have hq := ll_uncons hm; clear hm; obtain ⟨a0, args_0, rfl, hm⟩ := hq
  have hq := ll_end hm; clear hm; obtain ⟨rfl, hm⟩ := hq
  have hq := oo_inv hm; clear hm; obtain ⟨l160, h161, hm⟩ := hq
  obtain rfl := vAgg_some h161
  have hq := ll_uncons hm; clear hm; obtain ⟨v162, l160_0, rfl, hm⟩ := hq
  have hq := ll_uncons hm; clear hm; obtain ⟨v163, l160_1, rfl, hm⟩ := hq
  have hq := ll_uncons hm; clear hm; obtain ⟨v164, l160_2, rfl, hm⟩ := hq
  have hq := ll_end hm; clear hm; obtain ⟨rfl, hm⟩ := hq
  have hq := oo_inv hm; clear hm; obtain ⟨x165, h166, hm⟩ := hq
  obtain rfl := toI_some h166
  have hq := oo_inv hm; clear hm; obtain ⟨s167, h168, hm⟩ := hq
  obtain rfl := toSl_some h168
  have hq := oo_inv hm; clear hm; obtain ⟨s169, h170, hm⟩ := hq
  obtain rfl := toSl_some h170
  unfold m16_ at hm
  refine ⟨by simp, ?_⟩
  refine .same (F' := (⟨13, frTr [(0, (.agg ⟨[(.int .i64 x165), (Sl.v 1 s167), (Sl.v 1 s169)]⟩))] .nil⟩ : Fr)) (H' := (⟨1, objTr [(.cells tab0 true false [])] 0 .nil, true⟩ : AHeap)) (by kernel_rfl) (by kernel_rfl) ?_
  refine .then ?_
  refine .reg (F' := (Fr.puts (⟨13, frTr [(0, (.agg ⟨[(.int .i64 x165), (Sl.v 1 s167), (Sl.v 1 s169)]⟩))] .nil⟩ : Fr) [(1, (.pointer (some ⟨1, 0, none⟩))), (2, (.slice none 0 0)), (3, (.int .i64 (0 : Int)))])) (H' := (⟨2, objTr [(.cells tab0 true false []), (.cells [(.int .i64 x165), (Sl.v 1 s167), (Sl.v 1 s169)] false false [])] 0 .nil, true⟩ : AHeap)) (by kernel_rfl) ?_
  refine .ghs (⟨13, frTr [(1, (.pointer (some ⟨1, 0, none⟩)))] .nil⟩ : Fr) (⟨2, objTr [(.cells tab0 true false []), (.cells [(.int .i64 x165), (Sl.v 1 s167), (Sl.v 1 s169)] false false [])] 0 .nil, true⟩ : AHeap) (.gc [] [false] [.tmp 1 false] [1] (by kernel_rfl) trivial (by kernel_rfl)) ?_
  refine .then ?_
  refine .then ?_
  have hq := oo_inv hm; clear hm; obtain ⟨v171, h172, hm⟩ := hq
  have hq := oo_inv hm; clear hm; obtain ⟨x173, h174, hm⟩ := hq
  obtain rfl := toI_some h174
  refine .reg (F' := (Fr.puts (⟨13, frTr [(1, (.pointer (some ⟨1, 0, none⟩)))] .nil⟩ : Fr) [(5, (.agg ⟨[(.int .i64 x165), (Sl.v 1 s167), (Sl.v 1 s169)]⟩)), (6, (.int .i64 x173)), (4, (.int .i64 x173))])) (H' := (⟨2, objTr [(.cells tab0 true false []), (.cells [(.int .i64 x165), (Sl.v 1 s167), (Sl.v 1 s169)] false false [])] 0 .nil, true⟩ : AHeap)) (evOps_cut 1 (by kernel_rfl) (evOps_data ((oo (pu 21 [(.agg ⟨[(.int .i64 x165), (Sl.v 1 s167), (Sl.v 1 s169)]⟩)]) none fun v => some (v, (⟨2, objTr [(.cells tab0 true false []), (.cells [(.int .i64 x165), (Sl.v 1 s167), (Sl.v 1 s169)] false false [])] 0 .nil, true⟩ : AHeap)))) (by kernel_rfl) (call_eq h172) (okAt_of (by kernel_rfl) (by kernel_rfl)) (by kernel_rfl))) ?_
  refine .ghs (⟨13, frTr [(1, (.pointer (some ⟨1, 0, none⟩))), (4, (.int .i64 x173))] .nil⟩ : Fr) (⟨2, objTr [(.cells tab0 true false []), (.cells [(.int .i64 x165), (Sl.v 1 s167), (Sl.v 1 s169)] false false [])] 0 .nil, true⟩ : AHeap) (.gc [] [false] [.tmp 1 false] [1, 4] (by kernel_rfl) trivial (by kernel_rfl)) ?_
  refine .then ?_
  refine .reg (F' := (Fr.puts (⟨13, frTr [(1, (.pointer (some ⟨1, 0, none⟩))), (4, (.int .i64 x173))] .nil⟩ : Fr) [(7, (.int .i64 x173)), (8, (.bool (nt (ieq x173 (0 : Int)))))])) (H' := (⟨2, objTr [(.cells tab0 true false []), (.cells [(.int .i64 x165), (Sl.v 1 s167), (Sl.v 1 s169)] false false [])] 0 .nil, true⟩ : AHeap)) (by kernel_rfl) ?_
  refine .ghs (⟨13, frTr [(1, (.pointer (some ⟨1, 0, none⟩))), (4, (.int .i64 x173)), (8, (.bool (nt (ieq x173 (0 : Int)))))] .nil⟩ : Fr) (⟨2, objTr [(.cells tab0 true false []), (.cells [(.int .i64 x165), (Sl.v 1 s167), (Sl.v 1 s169)] false false [])] 0 .nil, true⟩ : AHeap) (.gc [] [false] [.tmp 1 false] [1, 4, 8] (by kernel_rfl) trivial (by kernel_rfl)) ?_
  have hq := bb_cases hm; clear hm; rcases hq with ⟨h175, hm⟩ | ⟨h175, hm⟩
  · refine .ifT (nt (ieq x173 (0 : Int))) (by kernel_rfl) h175 ?_
    refine .then ?_
    refine .reg (F' := (Fr.puts (⟨13, frTr [(1, (.pointer (some ⟨1, 0, none⟩))), (4, (.int .i64 x173)), (8, (.bool (nt (ieq x173 (0 : Int)))))] .nil⟩ : Fr) [(9, (.int .i64 x173)), (2, (.slice none 0 0)), (3, (.int .i64 x173))])) (H' := (⟨2, objTr [(.cells tab0 true false []), (.cells [(.int .i64 x165), (Sl.v 1 s167), (Sl.v 1 s169)] false false [])] 0 .nil, true⟩ : AHeap)) (by kernel_rfl) ?_
    refine .ghs (⟨13, frTr [(2, (.slice none 0 0)), (3, (.int .i64 x173))] .nil⟩ : Fr) (⟨1, objTr [(.cells tab0 true false [])] 0 .nil, true⟩ : AHeap) (.gc [] [false] [] [2, 3] (by kernel_rfl) trivial (by kernel_rfl)) ?_
    refine .ghs (Fr.puts (⟨13, frTr [(2, (.slice none 0 0)), (3, (.int .i64 x173))] .nil⟩ : Fr) [(2, (Sl.v 1 (Sl.mk 0 2 [])))]) (⟨1, objTr [(.cells tab0 true false [])] 0 .nil, true⟩ : AHeap) (.freeze 1 2 1 (by kernel_rfl) (by kernel_rfl) (GhS.id _ _)) ?_
    refine .ret ?_
    exact fin_ret (.tuple ⟨[(Sl.v 1 (Sl.mk 0 2 [])), (.int .i64 x173)]⟩) (by kernel_rfl) (by kernel_rfl) hm
  · refine .ifF (nt (ieq x173 (0 : Int))) (by kernel_rfl) h175 ?_
    refine .skip ?_
    refine .ghs (⟨13, frTr [(1, (.pointer (some ⟨1, 0, none⟩)))] .nil⟩ : Fr) (⟨2, objTr [(.cells tab0 true false []), (.cells [(.int .i64 x165), (Sl.v 1 s167), (Sl.v 1 s169)] false false [])] 0 .nil, true⟩ : AHeap) (.gc [] [false] [.tmp 1 false] [1] (by kernel_rfl) trivial (by kernel_rfl)) ?_
    refine .then ?_
    have hq := oo_inv hm; clear hm; obtain ⟨v176, h177, hm⟩ := hq
    have hq := oo_inv hm; clear hm; obtain ⟨x178, h179, hm⟩ := hq
    obtain rfl := toI_some h179
    have hq := oo_inv hm; clear hm; obtain ⟨v180, h181, hm⟩ := hq
    have hq := oo_inv hm; clear hm; obtain ⟨s182, h183, hm⟩ := hq
    obtain rfl := toSl_some h183
    refine .reg (F' := (Fr.puts (⟨13, frTr [(1, (.pointer (some ⟨1, 0, none⟩)))] .nil⟩ : Fr) [(10, (.agg ⟨[(.int .i64 x165), (Sl.v 1 s167), (Sl.v 1 s169)]⟩)), (11, (.int .u16 x178)), (12, (Sl.v 1 s182)), (2, (Sl.v 1 s182)), (3, (.int .i64 (0 : Int)))])) (H' := (⟨2, objTr [(.cells tab0 true false []), (.cells [(.int .i64 x165), (Sl.v 1 s167), (Sl.v 1 s169)] false false [])] 0 .nil, true⟩ : AHeap)) (evOps_cut 1 (by kernel_rfl) (evOps_data ((oo (pu 53 [(.agg ⟨[(.int .i64 x165), (Sl.v 1 s167), (Sl.v 1 s169)]⟩)]) none fun v => some (v, (⟨2, objTr [(.cells tab0 true false []), (.cells [(.int .i64 x165), (Sl.v 1 s167), (Sl.v 1 s169)] false false [])] 0 .nil, true⟩ : AHeap)))) (by kernel_rfl) (call_eq h177) (okAt_of (by kernel_rfl) (by kernel_rfl)) (evOps_data ((oo (pu 54 [(.int .u16 x178)]) none fun v => some (v, (⟨2, objTr [(.cells tab0 true false []), (.cells [(.int .i64 x165), (Sl.v 1 s167), (Sl.v 1 s169)] false false [])] 0 .nil, true⟩ : AHeap)))) (by kernel_rfl) (call_eq h181) (okAt_of (by kernel_rfl) (by kernel_rfl)) (by kernel_rfl)))) ?_
    refine .ghs (⟨13, frTr [(2, (Sl.v 1 s182)), (3, (.int .i64 (0 : Int)))] .nil⟩ : Fr) (⟨1, objTr [(.cells tab0 true false [])] 0 .nil, true⟩ : AHeap) (.gc [] [false] [] [2, 3] (by kernel_rfl) trivial (by kernel_rfl)) ?_
    refine .ret ?_
    exact fin_ret (.tuple ⟨[(Sl.v 1 s182), (.int .i64 (0 : Int))]⟩) (by kernel_rfl) (by kernel_rfl) hm
/-- spadille/spadilleref09.Wrong -/
def o17_0 : List ROp := [
  ⟨(some 1), .box 27 (.tmp 0), 0, none, []⟩,
  ⟨(some 2), .assign (.const (.slice none 0 0)), 22, none, []⟩,
  ⟨(some 3), .assign (.const (.int .i64 0)), 28, none, []⟩]
def c17_0 : RC := .reg [] o17_0
def o17_1 : List ROp := [
  ⟨(some 5), .load 27 (.tmp 1), 27, none, []⟩,
  ⟨(some 6), .call ⟨.value (.func 22), #[(.tmp 5)], #[27]⟩, 28, none, []⟩,
  ⟨(some 4), .assign (.tmp 6), 28, none, []⟩]
def c17_1 : RC := .reg [] o17_1
def o17_2 : List ROp := [
  ⟨(some 7), .move (.tmp 4), 28, none, []⟩,
  ⟨(some 8), .binOp .neq 28 (.tmp 7) (.const (.int .i64 0)) 28, 4, none, []⟩]
def c17_2 : RC := .reg [] o17_2
def o17_3 : List ROp := [
  ⟨(some 9), .move (.tmp 4), 28, none, []⟩,
  ⟨(some 2), .assign (.const (.slice none 0 0)), 22, none, []⟩,
  ⟨(some 3), .assign (.tmp 9), 28, none, []⟩]
def c17_3 : RC := .reg [] o17_3
def c17_4 : RC := .seq c17_3 .ret
def c17_5 : RC := .cond (.tmp 8) c17_4 .skip
def c17_6 : RC := .seq c17_2 c17_5
def o17_7 : List ROp := [
  ⟨(some 10), .load 27 (.tmp 1), 27, none, []⟩,
  ⟨(some 11), .call ⟨.value (.func 55), #[(.tmp 10)], #[27]⟩, 22, none, []⟩,
  ⟨(some 2), .assign (.tmp 11), 22, none, []⟩,
  ⟨(some 3), .assign (.const (.int .i64 0)), 28, none, []⟩]
def c17_7 : RC := .reg [] o17_7
def c17_8 : RC := .seq c17_7 .ret
def c17_9 : RC := .seq c17_6 c17_8
def c17_10 : RC := .seq c17_1 c17_9
def c17_11 : RC := .seq c17_0 c17_10

def m17_ (pu : PureF) (n : Nat) (x189 : Int) (s191 : Sl) (s193 : Sl) : Option Value :=
  (oo (pu 22 [(.agg ⟨[(.int .i64 x189), (Sl.v 1 s191), (Sl.v 1 s193)]⟩)]) none fun v195 => (oo (toI .i64 v195) none fun x197 => (bb (nt (ieq x197 (0 : Int))) (some (.tuple ⟨[(Sl.v 1 (Sl.mk 0 2 [])), (.int .i64 x197)]⟩)) (oo (pu 55 [(.agg ⟨[(.int .i64 x189), (Sl.v 1 s191), (Sl.v 1 s193)]⟩)]) none fun v200 => (oo (toSl 1 v200) none fun s202 => (some (.tuple ⟨[(Sl.v 1 s202), (.int .i64 (0 : Int))]⟩)))))))
def m17 (pu : PureF) (n : Nat) (args : List Value) : Option Value :=
  (ll args none fun a0 args => (ll args (oo (vAgg a0) none fun l184 => (ll l184 none fun v186 l184 => (ll l184 none fun v187 l184 => (ll l184 none fun v188 l184 => (ll l184 (oo (toI .i64 v186) none fun x189 => (oo (toSl 1 v187) none fun s191 => (oo (toSl 1 v188) none fun s193 => (m17_ pu n x189 s191 s193)))) fun _ _ => none))))) fun _ _ => none))
theorem r17 {call : CallF} (pu : PureF) (n : Nat) (hcall : call = callP tabs isP pu inl) {args : List Value} {v : Value} (hm : m17 pu n args = some v) (_ : ∀ x ∈ args, closed2 x = true) : args.length ≤ 12 ∧ Run tt call 1 c17_11 (Fr.made 12 args) (pureHeap tabs) (Fin tt 1 [.tmp 2, .tmp 3] v) := by
  subst hcall
  unfold m17 at hm
  have hq := ll_uncons hm; clear hm; obtain ⟨a0, args_0, rfl, hm⟩ := hq
  have hq := ll_end hm; clear hm; obtain ⟨rfl, hm⟩ := hq
  have hq := oo_inv hm; clear hm; obtain ⟨l184, h185, hm⟩ := hq
  obtain rfl := vAgg_some h185
  have hq := ll_uncons hm; clear hm; obtain ⟨v186, l184_0, rfl, hm⟩ := hq
  have hq := ll_uncons hm; clear hm; obtain ⟨v187, l184_1, rfl, hm⟩ := hq
  have hq := ll_uncons hm; clear hm; obtain ⟨v188, l184_2, rfl, hm⟩ := hq
  have hq := ll_end hm; clear hm; obtain ⟨rfl, hm⟩ := hq
  have hq := oo_inv hm; clear hm; obtain ⟨x189, h190, hm⟩ := hq
  obtain rfl := toI_some h190
  have hq := oo_inv hm; clear hm; obtain ⟨s191, h192, hm⟩ := hq
  obtain rfl := toSl_some h192
  have hq := oo_inv hm; clear hm; obtain ⟨s193, h194, hm⟩ := hq
  obtain rfl := toSl_some h194
  unfold m17_ at hm
  refine ⟨by simp, ?_⟩
  refine .same (F' := (⟨12, frTr [(0, (.agg ⟨[(.int .i64 x189), (Sl.v 1 s191), (Sl.v 1 s193)]⟩))] .nil⟩ : Fr)) (H' := (⟨1, objTr [(.cells tab0 true false [])] 0 .nil, true⟩ : AHeap)) (by kernel_rfl) (by kernel_rfl) ?_
  refine .then ?_
  refine .reg (F' := (Fr.puts (⟨12, frTr [(0, (.agg ⟨[(.int .i64 x189), (Sl.v 1 s191), (Sl.v 1 s193)]⟩))] .nil⟩ : Fr) [(1, (.pointer (some ⟨1, 0, none⟩))), (2, (.slice none 0 0)), (3, (.int .i64 (0 : Int)))])) (H' := (⟨2, objTr [(.cells tab0 true false []), (.cells [(.int .i64 x189), (Sl.v 1 s191), (Sl.v 1 s193)] false false [])] 0 .nil, true⟩ : AHeap)) (by kernel_rfl) ?_
  refine .ghs (⟨12, frTr [(1, (.pointer (some ⟨1, 0, none⟩)))] .nil⟩ : Fr) (⟨2, objTr [(.cells tab0 true false []), (.cells [(.int .i64 x189), (Sl.v 1 s191), (Sl.v 1 s193)] false false [])] 0 .nil, true⟩ : AHeap) (.gc [] [false] [.tmp 1 false] [1] (by kernel_rfl) trivial (by kernel_rfl)) ?_
  refine .then ?_
  have hq := oo_inv hm; clear hm; obtain ⟨v195, h196, hm⟩ := hq
  have hq := oo_inv hm; clear hm; obtain ⟨x197, h198, hm⟩ := hq
  obtain rfl := toI_some h198
  refine .reg (F' := (Fr.puts (⟨12, frTr [(1, (.pointer (some ⟨1, 0, none⟩)))] .nil⟩ : Fr) [(5, (.agg ⟨[(.int .i64 x189), (Sl.v 1 s191), (Sl.v 1 s193)]⟩)), (6, (.int .i64 x197)), (4, (.int .i64 x197))])) (H' := (⟨2, objTr [(.cells tab0 true false []), (.cells [(.int .i64 x189), (Sl.v 1 s191), (Sl.v 1 s193)] false false [])] 0 .nil, true⟩ : AHeap)) (evOps_cut 1 (by kernel_rfl) (evOps_data ((oo (pu 22 [(.agg ⟨[(.int .i64 x189), (Sl.v 1 s191), (Sl.v 1 s193)]⟩)]) none fun v => some (v, (⟨2, objTr [(.cells tab0 true false []), (.cells [(.int .i64 x189), (Sl.v 1 s191), (Sl.v 1 s193)] false false [])] 0 .nil, true⟩ : AHeap)))) (by kernel_rfl) (call_eq h196) (okAt_of (by kernel_rfl) (by kernel_rfl)) (by kernel_rfl))) ?_
  refine .ghs (⟨12, frTr [(1, (.pointer (some ⟨1, 0, none⟩))), (4, (.int .i64 x197))] .nil⟩ : Fr) (⟨2, objTr [(.cells tab0 true false []), (.cells [(.int .i64 x189), (Sl.v 1 s191), (Sl.v 1 s193)] false false [])] 0 .nil, true⟩ : AHeap) (.gc [] [false] [.tmp 1 false] [1, 4] (by kernel_rfl) trivial (by kernel_rfl)) ?_
  refine .then ?_
  refine .then ?_
  refine .reg (F' := (Fr.puts (⟨12, frTr [(1, (.pointer (some ⟨1, 0, none⟩))), (4, (.int .i64 x197))] .nil⟩ : Fr) [(7, (.int .i64 x197)), (8, (.bool (nt (ieq x197 (0 : Int)))))])) (H' := (⟨2, objTr [(.cells tab0 true false []), (.cells [(.int .i64 x189), (Sl.v 1 s191), (Sl.v 1 s193)] false false [])] 0 .nil, true⟩ : AHeap)) (by kernel_rfl) ?_
  refine .ghs (⟨12, frTr [(1, (.pointer (some ⟨1, 0, none⟩))), (4, (.int .i64 x197)), (8, (.bool (nt (ieq x197 (0 : Int)))))] .nil⟩ : Fr) (⟨2, objTr [(.cells tab0 true false []), (.cells [(.int .i64 x189), (Sl.v 1 s191), (Sl.v 1 s193)] false false [])] 0 .nil, true⟩ : AHeap) (.gc [] [false] [.tmp 1 false] [1, 4, 8] (by kernel_rfl) trivial (by kernel_rfl)) ?_
  have hq := bb_cases hm; clear hm; rcases hq with ⟨h199, hm⟩ | ⟨h199, hm⟩
  · refine .ifT (nt (ieq x197 (0 : Int))) (by kernel_rfl) h199 ?_
    refine .then ?_
    refine .reg (F' := (Fr.puts (⟨12, frTr [(1, (.pointer (some ⟨1, 0, none⟩))), (4, (.int .i64 x197)), (8, (.bool (nt (ieq x197 (0 : Int)))))] .nil⟩ : Fr) [(9, (.int .i64 x197)), (2, (.slice none 0 0)), (3, (.int .i64 x197))])) (H' := (⟨2, objTr [(.cells tab0 true false []), (.cells [(.int .i64 x189), (Sl.v 1 s191), (Sl.v 1 s193)] false false [])] 0 .nil, true⟩ : AHeap)) (by kernel_rfl) ?_
    refine .ghs (⟨12, frTr [(2, (.slice none 0 0)), (3, (.int .i64 x197))] .nil⟩ : Fr) (⟨1, objTr [(.cells tab0 true false [])] 0 .nil, true⟩ : AHeap) (.gc [] [false] [] [2, 3] (by kernel_rfl) trivial (by kernel_rfl)) ?_
    refine .ghs (Fr.puts (⟨12, frTr [(2, (.slice none 0 0)), (3, (.int .i64 x197))] .nil⟩ : Fr) [(2, (Sl.v 1 (Sl.mk 0 2 [])))]) (⟨1, objTr [(.cells tab0 true false [])] 0 .nil, true⟩ : AHeap) (.freeze 1 2 1 (by kernel_rfl) (by kernel_rfl) (GhS.id _ _)) ?_
    refine .ret ?_
    exact fin_ret (.tuple ⟨[(Sl.v 1 (Sl.mk 0 2 [])), (.int .i64 x197)]⟩) (by kernel_rfl) (by kernel_rfl) hm
  · refine .ifF (nt (ieq x197 (0 : Int))) (by kernel_rfl) h199 ?_
    refine .skip ?_
    refine .ghs (⟨12, frTr [(1, (.pointer (some ⟨1, 0, none⟩)))] .nil⟩ : Fr) (⟨2, objTr [(.cells tab0 true false []), (.cells [(.int .i64 x189), (Sl.v 1 s191), (Sl.v 1 s193)] false false [])] 0 .nil, true⟩ : AHeap) (.gc [] [false] [.tmp 1 false] [1] (by kernel_rfl) trivial (by kernel_rfl)) ?_
    refine .then ?_
    have hq := oo_inv hm; clear hm; obtain ⟨v200, h201, hm⟩ := hq
    have hq := oo_inv hm; clear hm; obtain ⟨s202, h203, hm⟩ := hq
    obtain rfl := toSl_some h203
    refine .reg (F' := (Fr.puts (⟨12, frTr [(1, (.pointer (some ⟨1, 0, none⟩)))] .nil⟩ : Fr) [(10, (.agg ⟨[(.int .i64 x189), (Sl.v 1 s191), (Sl.v 1 s193)]⟩)), (11, (Sl.v 1 s202)), (2, (Sl.v 1 s202)), (3, (.int .i64 (0 : Int)))])) (H' := (⟨2, objTr [(.cells tab0 true false []), (.cells [(.int .i64 x189), (Sl.v 1 s191), (Sl.v 1 s193)] false false [])] 0 .nil, true⟩ : AHeap)) (evOps_cut 1 (by kernel_rfl) (evOps_data ((oo (pu 55 [(.agg ⟨[(.int .i64 x189), (Sl.v 1 s191), (Sl.v 1 s193)]⟩)]) none fun v => some (v, (⟨2, objTr [(.cells tab0 true false []), (.cells [(.int .i64 x189), (Sl.v 1 s191), (Sl.v 1 s193)] false false [])] 0 .nil, true⟩ : AHeap)))) (by kernel_rfl) (call_eq h201) (okAt_of (by kernel_rfl) (by kernel_rfl)) (by kernel_rfl))) ?_
    refine .ghs (⟨12, frTr [(2, (Sl.v 1 s202)), (3, (.int .i64 (0 : Int)))] .nil⟩ : Fr) (⟨1, objTr [(.cells tab0 true false [])] 0 .nil, true⟩ : AHeap) (.gc [] [false] [] [2, 3] (by kernel_rfl) trivial (by kernel_rfl)) ?_
    refine .ret ?_
    exact fin_ret (.tuple ⟨[(Sl.v 1 s202), (.int .i64 (0 : Int))]⟩) (by kernel_rfl) (by kernel_rfl) hm
/-- spadille/mend.After -/
def o18_0 : List ROp := [
  ⟨(some 3), .box 24 (.tmp 0), 0, none, []⟩,
  ⟨(some 6), .alloc 24, 0, none, []⟩,
  ⟨(some 7), .assign (.const (.int .i64 0)), 28, none, []⟩]
def c18_0 : RC := .reg [] o18_0
def o18_1 : List ROp := [
  ⟨(some 9), .load 24 (.tmp 3), 24, none, []⟩,
  ⟨(some 10), .call ⟨.value (.func 21), #[(.tmp 9)], #[24]⟩, 28, none, []⟩,
  ⟨(some 8), .assign (.tmp 10), 28, none, []⟩]
def c18_1 : RC := .reg [] o18_1
def o18_2 : List ROp := [
  ⟨(some 11), .move (.tmp 8), 28, none, []⟩,
  ⟨(some 12), .binOp .eql 28 (.tmp 11) (.const (.int .i64 0)) 28, 4, none, []⟩]
def c18_2 : RC := .reg [] o18_2
def o18_3 : List ROp := [
  ⟨(some 13), .load 24 (.tmp 3), 24, none, []⟩,
  ⟨(some 14), .move (.tmp 1), 3, none, []⟩,
  ⟨(some 15), .move (.tmp 2), 3, none, []⟩,
  ⟨(some 16), .call ⟨.value (.func 56), #[(.tmp 13), (.tmp 14), (.tmp 15)], #[24, 3, 3]⟩, 28, none, []⟩,
  ⟨(some 8), .assign (.tmp 16), 28, none, []⟩]
def c18_3 : RC := .reg [] o18_3
def c18_4 : RC := .cond (.tmp 12) c18_3 .skip
def c18_5 : RC := .seq c18_2 c18_4
def o18_6 : List ROp := [
  ⟨(some 17), .move (.tmp 8), 28, none, []⟩,
  ⟨(some 18), .binOp .neq 28 (.tmp 17) (.const (.int .i64 0)) 28, 4, none, []⟩]
def c18_6 : RC := .reg [] o18_6
def o18_7 : List ROp := [
  ⟨(some 19), .build 24 #[], 24, none, []⟩,
  ⟨(some 20), .move (.tmp 8), 28, none, []⟩,
  ⟨none, .store 24 (.tmp 6) (.tmp 19), 0, none, []⟩,
  ⟨(some 7), .assign (.tmp 20), 28, none, []⟩]
def c18_7 : RC := .reg [] o18_7
def c18_8 : RC := .seq c18_7 .ret
def c18_9 : RC := .cond (.tmp 18) c18_8 .skip
def c18_10 : RC := .seq c18_6 c18_9
def o18_11 : List ROp := [
  ⟨(some 21), .load 24 (.tmp 3), 24, none, []⟩,
  ⟨(some 22), .move (.tmp 1), 3, none, []⟩,
  ⟨(some 23), .move (.tmp 2), 3, none, []⟩,
  ⟨(some 24), .call ⟨.value (.func 57), #[(.tmp 21), (.tmp 22), (.tmp 23)], #[24, 3, 3]⟩, 24, none, []⟩,
  ⟨none, .store 24 (.tmp 6) (.tmp 24), 0, none, []⟩,
  ⟨(some 7), .assign (.const (.int .i64 0)), 28, none, []⟩]
def c18_11 : RC := .reg [] o18_11
def c18_12 : RC := .seq c18_11 .ret
def c18_13 : RC := .seq c18_10 c18_12
def c18_14 : RC := .seq c18_5 c18_13
def c18_15 : RC := .seq c18_1 c18_14
def c18_16 : RC := .seq c18_0 c18_15
def m18_0 (pu : PureF) (n : Nat) (z228 : Int) (z229 : Int) (z230 : Int) (z231 : Int) (s232 : Sl) (s233 : Sl) (z234 : Int) : Option Value :=
  (bb (nt (ieq z230 (0 : Int))) (some (.tuple ⟨[(.agg ⟨[(.int .i64 (0 : Int)), (Sl.v 1 (Sl.mk 0 2 [])), (Sl.v 1 (Sl.mk 0 2 []))]⟩), (.int .i64 z230)]⟩)) (oo (pu 57 [(.agg ⟨[(.int .i64 z231), (Sl.v 1 s232), (Sl.v 1 s233)]⟩), (.int .i64 z228), (.int .i64 z229)]) none fun v236 => (oo (vAgg v236) none fun l238 => (ll l238 none fun v240 l238 => (ll l238 none fun v241 l238 => (ll l238 none fun v242 l238 => (ll l238 (oo (toI .i64 v240) none fun x243 => (oo (toSl 1 v241) none fun s245 => (oo (toSl 1 v242) none fun s247 => (some (.tuple ⟨[(.agg ⟨[(.int .i64 x243), (Sl.v 1 s245), (Sl.v 1 s247)]⟩), (.int .i64 (0 : Int))]⟩))))) fun _ _ => none)))))))
def m18_ (pu : PureF) (n : Nat) (x209 : Int) (s211 : Sl) (s213 : Sl) (x215 : Int) (x217 : Int) : Option Value :=
  (oo (pu 21 [(.agg ⟨[(.int .i64 x209), (Sl.v 1 s211), (Sl.v 1 s213)]⟩)]) none fun v219 => (oo (toI .i64 v219) none fun x221 => (bb (ieq x221 (0 : Int)) (oo (pu 56 [(.agg ⟨[(.int .i64 x209), (Sl.v 1 s211), (Sl.v 1 s213)]⟩), (.int .i64 x215), (.int .i64 x217)]) none fun v250 => (oo (toI .i64 v250) none fun x252 => (m18_0 pu n x215 x217 x252 x209 s211 s213 (0 : Int)))) (m18_0 pu n x215 x217 x221 x209 s211 s213 (0 : Int)))))
def m18 (pu : PureF) (n : Nat) (args : List Value) : Option Value :=
  (ll args none fun a0 args => (ll args none fun a1 args => (ll args none fun a2 args => (ll args (oo (vAgg a0) none fun l204 => (ll l204 none fun v206 l204 => (ll l204 none fun v207 l204 => (ll l204 none fun v208 l204 => (ll l204 (oo (toI .i64 v206) none fun x209 => (oo (toSl 1 v207) none fun s211 => (oo (toSl 1 v208) none fun s213 => (oo (toI .i64 a1) none fun x215 => (oo (toI .i64 a2) none fun x217 => (m18_ pu n x209 s211 s213 x215 x217)))))) fun _ _ => none))))) fun _ _ => none))))
theorem r18 {call : CallF} (pu : PureF) (n : Nat) (hcall : call = callP tabs isP pu inl) {args : List Value} {v : Value} (hm : m18 pu n args = some v) (_ : ∀ x ∈ args, closed2 x = true) : args.length ≤ 25 ∧ Run tt call 1 c18_16 (Fr.made 25 args) (pureHeap tabs) (Fin tt 1 [.cell 6 24, .tmp 7] v) := by
  subst hcall
  unfold m18 at hm
  have hq := ll_uncons hm; clear hm; obtain ⟨a0, args_0, rfl, hm⟩ := hq
  have hq := ll_uncons hm; clear hm; obtain ⟨a1, args_1, rfl, hm⟩ := hq
  have hq := ll_uncons hm; clear hm; obtain ⟨a2, args_2, rfl, hm⟩ := hq
  have hq := ll_end hm; clear hm; obtain ⟨rfl, hm⟩ := hq
  have hq := oo_inv hm; clear hm; obtain ⟨l204, h205, hm⟩ := hq
  obtain rfl := vAgg_some h205
  have hq := ll_uncons hm; clear hm; obtain ⟨v206, l204_0, rfl, hm⟩ := hq
  have hq := ll_uncons hm; clear hm; obtain ⟨v207, l204_1, rfl, hm⟩ := hq
  have hq := ll_uncons hm; clear hm; obtain ⟨v208, l204_2, rfl, hm⟩ := hq
  have hq := ll_end hm; clear hm; obtain ⟨rfl, hm⟩ := hq
  have hq := oo_inv hm; clear hm; obtain ⟨x209, h210, hm⟩ := hq
  obtain rfl := toI_some h210
  have hq := oo_inv hm; clear hm; obtain ⟨s211, h212, hm⟩ := hq
  obtain rfl := toSl_some h212
  have hq := oo_inv hm; clear hm; obtain ⟨s213, h214, hm⟩ := hq
  obtain rfl := toSl_some h214
  have hq := oo_inv hm; clear hm; obtain ⟨x215, h216, hm⟩ := hq
  obtain rfl := toI_some h216
  have hq := oo_inv hm; clear hm; obtain ⟨x217, h218, hm⟩ := hq
  obtain rfl := toI_some h218
  unfold m18_ at hm
  refine ⟨by simp, ?_⟩
  refine .same (F' := (⟨25, frTr [(0, (.agg ⟨[(.int .i64 x209), (Sl.v 1 s211), (Sl.v 1 s213)]⟩)), (1, (.int .i64 x215)), (2, (.int .i64 x217))] .nil⟩ : Fr)) (H' := (⟨1, objTr [(.cells tab0 true false [])] 0 .nil, true⟩ : AHeap)) (by kernel_rfl) (by kernel_rfl) ?_
  refine .then ?_
  refine .reg (F' := (Fr.puts (⟨25, frTr [(0, (.agg ⟨[(.int .i64 x209), (Sl.v 1 s211), (Sl.v 1 s213)]⟩)), (1, (.int .i64 x215)), (2, (.int .i64 x217))] .nil⟩ : Fr) [(3, (.pointer (some ⟨1, 0, none⟩))), (6, (.pointer (some ⟨2, 0, none⟩))), (7, (.int .i64 (0 : Int)))])) (H' := (⟨3, objTr [(.cells tab0 true false []), (.cells [(.int .i64 x209), (Sl.v 1 s211), (Sl.v 1 s213)] false false []), (.cells [(.int .i64 (0 : Int)), (.slice none 0 0), (.slice none 0 0)] false false [])] 0 .nil, true⟩ : AHeap)) (by kernel_rfl) ?_
  refine .ghs (⟨25, frTr [(1, (.int .i64 x215)), (2, (.int .i64 x217)), (3, (.pointer (some ⟨1, 0, none⟩))), (6, (.pointer (some ⟨2, 0, none⟩)))] .nil⟩ : Fr) (⟨3, objTr [(.cells tab0 true false []), (.cells [(.int .i64 x209), (Sl.v 1 s211), (Sl.v 1 s213)] false false []), (.cells [(.int .i64 (0 : Int)), (.slice none 0 0), (.slice none 0 0)] false false [])] 0 .nil, true⟩ : AHeap) (.gc [] [false] [.tmp 3 false, .tmp 6 false] [1, 2, 3, 6] (by kernel_rfl) trivial (by kernel_rfl)) ?_
  refine .then ?_
  have hq := oo_inv hm; clear hm; obtain ⟨v219, h220, hm⟩ := hq
  have hq := oo_inv hm; clear hm; obtain ⟨x221, h222, hm⟩ := hq
  obtain rfl := toI_some h222
  refine .reg (F' := (Fr.puts (⟨25, frTr [(1, (.int .i64 x215)), (2, (.int .i64 x217)), (3, (.pointer (some ⟨1, 0, none⟩))), (6, (.pointer (some ⟨2, 0, none⟩)))] .nil⟩ : Fr) [(9, (.agg ⟨[(.int .i64 x209), (Sl.v 1 s211), (Sl.v 1 s213)]⟩)), (10, (.int .i64 x221)), (8, (.int .i64 x221))])) (H' := (⟨3, objTr [(.cells tab0 true false []), (.cells [(.int .i64 x209), (Sl.v 1 s211), (Sl.v 1 s213)] false false []), (.cells [(.int .i64 (0 : Int)), (.slice none 0 0), (.slice none 0 0)] false false [])] 0 .nil, true⟩ : AHeap)) (evOps_cut 1 (by kernel_rfl) (evOps_data ((oo (pu 21 [(.agg ⟨[(.int .i64 x209), (Sl.v 1 s211), (Sl.v 1 s213)]⟩)]) none fun v => some (v, (⟨3, objTr [(.cells tab0 true false []), (.cells [(.int .i64 x209), (Sl.v 1 s211), (Sl.v 1 s213)] false false []), (.cells [(.int .i64 (0 : Int)), (.slice none 0 0), (.slice none 0 0)] false false [])] 0 .nil, true⟩ : AHeap)))) (by kernel_rfl) (call_eq h220) (okAt_of (by kernel_rfl) (by kernel_rfl)) (by kernel_rfl))) ?_
  refine .ghs (⟨25, frTr [(1, (.int .i64 x215)), (2, (.int .i64 x217)), (3, (.pointer (some ⟨1, 0, none⟩))), (6, (.pointer (some ⟨2, 0, none⟩))), (8, (.int .i64 x221))] .nil⟩ : Fr) (⟨3, objTr [(.cells tab0 true false []), (.cells [(.int .i64 x209), (Sl.v 1 s211), (Sl.v 1 s213)] false false []), (.cells [(.int .i64 (0 : Int)), (.slice none 0 0), (.slice none 0 0)] false false [])] 0 .nil, true⟩ : AHeap) (.gc [] [false] [.tmp 3 false, .tmp 6 false] [1, 2, 3, 6, 8] (by kernel_rfl) trivial (by kernel_rfl)) ?_
  refine .join (v := v) (fun y : Int × Int × Int × Int × Sl × Sl × Int => ((⟨25, frTr [(1, (.int .i64 y.1)), (2, (.int .i64 y.2.1)), (3, (.pointer (some ⟨1, 0, none⟩))), (6, (.pointer (some ⟨2, 0, none⟩))), (8, (.int .i64 y.2.2.1))] .nil⟩ : Fr), (⟨3, objTr [(.cells tab0 true false []), (.cells [(.int .i64 y.2.2.2.1), (Sl.v 1 y.2.2.2.2.1), (Sl.v 1 y.2.2.2.2.2.1)] false false []), (.cells [(.int .i64 y.2.2.2.2.2.2), (.slice none 0 0), (.slice none 0 0)] false false [])] 0 .nil, true⟩ : AHeap))) (fun y => m18_0 pu n y.1 y.2.1 y.2.2.1 y.2.2.2.1 y.2.2.2.2.1 y.2.2.2.2.2.1 y.2.2.2.2.2.2) ?_ ?_
  · rintro ⟨z228, z229, z230, z231, s232, s233, z234⟩ hm
    unfold m18_0 at hm
    refine .then ?_
    refine .then ?_
    refine .reg (F' := (Fr.puts (⟨25, frTr [(1, (.int .i64 z228)), (2, (.int .i64 z229)), (3, (.pointer (some ⟨1, 0, none⟩))), (6, (.pointer (some ⟨2, 0, none⟩))), (8, (.int .i64 z230))] .nil⟩ : Fr) [(17, (.int .i64 z230)), (18, (.bool (nt (ieq z230 (0 : Int)))))])) (H' := (⟨3, objTr [(.cells tab0 true false []), (.cells [(.int .i64 z231), (Sl.v 1 s232), (Sl.v 1 s233)] false false []), (.cells [(.int .i64 z234), (.slice none 0 0), (.slice none 0 0)] false false [])] 0 .nil, true⟩ : AHeap)) (by kernel_rfl) ?_
    refine .ghs (⟨25, frTr [(1, (.int .i64 z228)), (2, (.int .i64 z229)), (3, (.pointer (some ⟨1, 0, none⟩))), (6, (.pointer (some ⟨2, 0, none⟩))), (8, (.int .i64 z230)), (18, (.bool (nt (ieq z230 (0 : Int)))))] .nil⟩ : Fr) (⟨3, objTr [(.cells tab0 true false []), (.cells [(.int .i64 z231), (Sl.v 1 s232), (Sl.v 1 s233)] false false []), (.cells [(.int .i64 z234), (.slice none 0 0), (.slice none 0 0)] false false [])] 0 .nil, true⟩ : AHeap) (.gc [] [false] [.tmp 3 false, .tmp 6 false] [1, 2, 3, 6, 8, 18] (by kernel_rfl) trivial (by kernel_rfl)) ?_
    have hq := bb_cases hm; clear hm; rcases hq with ⟨h235, hm⟩ | ⟨h235, hm⟩
    · refine .ifT (nt (ieq z230 (0 : Int))) (by kernel_rfl) h235 ?_
      refine .then ?_
      refine .reg (F' := (Fr.puts (⟨25, frTr [(1, (.int .i64 z228)), (2, (.int .i64 z229)), (3, (.pointer (some ⟨1, 0, none⟩))), (6, (.pointer (some ⟨2, 0, none⟩))), (8, (.int .i64 z230)), (18, (.bool (nt (ieq z230 (0 : Int)))))] .nil⟩ : Fr) [(19, (.agg ⟨[(.int .i64 (0 : Int)), (.slice none 0 0), (.slice none 0 0)]⟩)), (20, (.int .i64 z230)), (7, (.int .i64 z230))])) (H' := (⟨3, objTr [(.cells tab0 true false []), (.cells [(.int .i64 z231), (Sl.v 1 s232), (Sl.v 1 s233)] false false []), (.cells [(.int .i64 (0 : Int)), (.slice none 0 0), (.slice none 0 0)] false false [])] 0 .nil, true⟩ : AHeap)) (by kernel_rfl) ?_
      refine .ghs (⟨25, frTr [(6, (.pointer (some ⟨1, 0, none⟩))), (7, (.int .i64 z230))] .nil⟩ : Fr) (⟨2, objTr [(.cells tab0 true false []), (.cells [(.int .i64 (0 : Int)), (.slice none 0 0), (.slice none 0 0)] false false [])] 0 .nil, true⟩ : AHeap) (.gc [] [false] [.tmp 6 false] [6, 7] (by kernel_rfl) trivial (by kernel_rfl)) ?_
      refine .ret ?_
      exact finT_ret (.tuple ⟨[(.agg ⟨[(.int .i64 (0 : Int)), (.slice none 0 0), (.slice none 0 0)]⟩), (.int .i64 z230)]⟩) (.tuple ⟨[(.agg ⟨[(.int .i64 (0 : Int)), (Sl.v 1 (Sl.mk 0 2 [])), (Sl.v 1 (Sl.mk 0 2 []))]⟩), (.int .i64 z230)]⟩) (by kernel_rfl) (Tell.tup (.cons (Tell.agg (.cons (Tell.refl _ _ _) (.cons (.weak (Weak.nil 1 2)) (.cons (.weak (Weak.nil 1 2)) (TellL.nil _))))) (.cons (Tell.refl _ _ _) (TellL.nil _)))) (by kernel_rfl) hm
    · refine .ifF (nt (ieq z230 (0 : Int))) (by kernel_rfl) h235 ?_
      refine .skip ?_
      refine .ghs (⟨25, frTr [(1, (.int .i64 z228)), (2, (.int .i64 z229)), (3, (.pointer (some ⟨1, 0, none⟩))), (6, (.pointer (some ⟨2, 0, none⟩)))] .nil⟩ : Fr) (⟨3, objTr [(.cells tab0 true false []), (.cells [(.int .i64 z231), (Sl.v 1 s232), (Sl.v 1 s233)] false false []), (.cells [(.int .i64 z234), (.slice none 0 0), (.slice none 0 0)] false false [])] 0 .nil, true⟩ : AHeap) (.gc [] [false] [.tmp 3 false, .tmp 6 false] [1, 2, 3, 6] (by kernel_rfl) trivial (by kernel_rfl)) ?_
      refine .then ?_
      have hq := oo_inv hm; clear hm; obtain ⟨v236, h237, hm⟩ := hq
      have hq := oo_inv hm; clear hm; obtain ⟨l238, h239, hm⟩ := hq
      obtain rfl := vAgg_some h239
      have hq := ll_uncons hm; clear hm; obtain ⟨v240, l238_0, rfl, hm⟩ := hq
      have hq := ll_uncons hm; clear hm; obtain ⟨v241, l238_1, rfl, hm⟩ := hq
      have hq := ll_uncons hm; clear hm; obtain ⟨v242, l238_2, rfl, hm⟩ := hq
      have hq := ll_end hm; clear hm; obtain ⟨rfl, hm⟩ := hq
      have hq := oo_inv hm; clear hm; obtain ⟨x243, h244, hm⟩ := hq
      obtain rfl := toI_some h244
      have hq := oo_inv hm; clear hm; obtain ⟨s245, h246, hm⟩ := hq
      obtain rfl := toSl_some h246
      have hq := oo_inv hm; clear hm; obtain ⟨s247, h248, hm⟩ := hq
      obtain rfl := toSl_some h248
      refine .reg (F' := (Fr.puts (⟨25, frTr [(1, (.int .i64 z228)), (2, (.int .i64 z229)), (3, (.pointer (some ⟨1, 0, none⟩))), (6, (.pointer (some ⟨2, 0, none⟩)))] .nil⟩ : Fr) [(21, (.agg ⟨[(.int .i64 z231), (Sl.v 1 s232), (Sl.v 1 s233)]⟩)), (22, (.int .i64 z228)), (23, (.int .i64 z229)), (24, (.agg ⟨[(.int .i64 x243), (Sl.v 1 s245), (Sl.v 1 s247)]⟩)), (7, (.int .i64 (0 : Int)))])) (H' := (⟨3, objTr [(.cells tab0 true false []), (.cells [(.int .i64 z231), (Sl.v 1 s232), (Sl.v 1 s233)] false false []), (.cells [(.int .i64 x243), (Sl.v 1 s245), (Sl.v 1 s247)] false false [])] 0 .nil, true⟩ : AHeap)) (evOps_cut 3 (by kernel_rfl) (evOps_data ((oo (pu 57 [(.agg ⟨[(.int .i64 z231), (Sl.v 1 s232), (Sl.v 1 s233)]⟩), (.int .i64 z228), (.int .i64 z229)]) none fun v => some (v, (⟨3, objTr [(.cells tab0 true false []), (.cells [(.int .i64 z231), (Sl.v 1 s232), (Sl.v 1 s233)] false false []), (.cells [(.int .i64 z234), (.slice none 0 0), (.slice none 0 0)] false false [])] 0 .nil, true⟩ : AHeap)))) (by kernel_rfl) (call_eq h237) (okAt_of (by kernel_rfl) (by kernel_rfl)) (by kernel_rfl))) ?_
      refine .ghs (⟨25, frTr [(6, (.pointer (some ⟨1, 0, none⟩))), (7, (.int .i64 (0 : Int)))] .nil⟩ : Fr) (⟨2, objTr [(.cells tab0 true false []), (.cells [(.int .i64 x243), (Sl.v 1 s245), (Sl.v 1 s247)] false false [])] 0 .nil, true⟩ : AHeap) (.gc [] [false] [.tmp 6 false] [6, 7] (by kernel_rfl) trivial (by kernel_rfl)) ?_
      refine .ret ?_
      exact fin_ret (.tuple ⟨[(.agg ⟨[(.int .i64 x243), (Sl.v 1 s245), (Sl.v 1 s247)]⟩), (.int .i64 (0 : Int))]⟩) (by kernel_rfl) (by kernel_rfl) hm
  · skip
    refine .then ?_
    refine .reg (F' := (Fr.puts (⟨25, frTr [(1, (.int .i64 x215)), (2, (.int .i64 x217)), (3, (.pointer (some ⟨1, 0, none⟩))), (6, (.pointer (some ⟨2, 0, none⟩))), (8, (.int .i64 x221))] .nil⟩ : Fr) [(11, (.int .i64 x221)), (12, (.bool (ieq x221 (0 : Int))))])) (H' := (⟨3, objTr [(.cells tab0 true false []), (.cells [(.int .i64 x209), (Sl.v 1 s211), (Sl.v 1 s213)] false false []), (.cells [(.int .i64 (0 : Int)), (.slice none 0 0), (.slice none 0 0)] false false [])] 0 .nil, true⟩ : AHeap)) (by kernel_rfl) ?_
    refine .ghs (⟨25, frTr [(1, (.int .i64 x215)), (2, (.int .i64 x217)), (3, (.pointer (some ⟨1, 0, none⟩))), (6, (.pointer (some ⟨2, 0, none⟩))), (8, (.int .i64 x221)), (12, (.bool (ieq x221 (0 : Int))))] .nil⟩ : Fr) (⟨3, objTr [(.cells tab0 true false []), (.cells [(.int .i64 x209), (Sl.v 1 s211), (Sl.v 1 s213)] false false []), (.cells [(.int .i64 (0 : Int)), (.slice none 0 0), (.slice none 0 0)] false false [])] 0 .nil, true⟩ : AHeap) (.gc [] [false] [.tmp 3 false, .tmp 6 false] [1, 2, 3, 6, 8, 12] (by kernel_rfl) trivial (by kernel_rfl)) ?_
    have hq := bb_cases hm; clear hm; rcases hq with ⟨h249, hm⟩ | ⟨h249, hm⟩
    · refine .ifT (ieq x221 (0 : Int)) (by kernel_rfl) h249 ?_
      have hq := oo_inv hm; clear hm; obtain ⟨v250, h251, hm⟩ := hq
      have hq := oo_inv hm; clear hm; obtain ⟨x252, h253, hm⟩ := hq
      obtain rfl := toI_some h253
      refine .reg (F' := (Fr.puts (⟨25, frTr [(1, (.int .i64 x215)), (2, (.int .i64 x217)), (3, (.pointer (some ⟨1, 0, none⟩))), (6, (.pointer (some ⟨2, 0, none⟩))), (8, (.int .i64 x221)), (12, (.bool (ieq x221 (0 : Int))))] .nil⟩ : Fr) [(13, (.agg ⟨[(.int .i64 x209), (Sl.v 1 s211), (Sl.v 1 s213)]⟩)), (14, (.int .i64 x215)), (15, (.int .i64 x217)), (16, (.int .i64 x252)), (8, (.int .i64 x252))])) (H' := (⟨3, objTr [(.cells tab0 true false []), (.cells [(.int .i64 x209), (Sl.v 1 s211), (Sl.v 1 s213)] false false []), (.cells [(.int .i64 (0 : Int)), (.slice none 0 0), (.slice none 0 0)] false false [])] 0 .nil, true⟩ : AHeap)) (evOps_cut 3 (by kernel_rfl) (evOps_data ((oo (pu 56 [(.agg ⟨[(.int .i64 x209), (Sl.v 1 s211), (Sl.v 1 s213)]⟩), (.int .i64 x215), (.int .i64 x217)]) none fun v => some (v, (⟨3, objTr [(.cells tab0 true false []), (.cells [(.int .i64 x209), (Sl.v 1 s211), (Sl.v 1 s213)] false false []), (.cells [(.int .i64 (0 : Int)), (.slice none 0 0), (.slice none 0 0)] false false [])] 0 .nil, true⟩ : AHeap)))) (by kernel_rfl) (call_eq h251) (okAt_of (by kernel_rfl) (by kernel_rfl)) (by kernel_rfl))) ?_
      exact ⟨(x215, x217, x252, x209, s211, s213, (0 : Int)), hm, (.gc [] [false] [.tmp 3 false, .tmp 6 false] [1, 2, 3, 6, 8] (by kernel_rfl) trivial (by kernel_rfl))⟩
    · refine .ifF (ieq x221 (0 : Int)) (by kernel_rfl) h249 ?_
      refine .skip ?_
      exact ⟨(x215, x217, x221, x209, s211, s213, (0 : Int)), hm, (.gc [] [false] [.tmp 3 false, .tmp 6 false] [1, 2, 3, 6, 8] (by kernel_rfl) trivial (by kernel_rfl))⟩
/-- spadille/spadilleref09.After -/
def o19_0 : List ROp := [
  ⟨(some 3), .box 27 (.tmp 0), 0, none, []⟩,
  ⟨(some 6), .alloc 27, 0, none, []⟩,
  ⟨(some 7), .assign (.const (.int .i64 0)), 28, none, []⟩]
def c19_0 : RC := .reg [] o19_0
def o19_1 : List ROp := [
  ⟨(some 9), .load 27 (.tmp 3), 27, none, []⟩,
  ⟨(some 10), .call ⟨.value (.func 22), #[(.tmp 9)], #[27]⟩, 28, none, []⟩,
  ⟨(some 8), .assign (.tmp 10), 28, none, []⟩]
def c19_1 : RC := .reg [] o19_1
def o19_2 : List ROp := [
  ⟨(some 11), .move (.tmp 8), 28, none, []⟩,
  ⟨(some 12), .binOp .eql 28 (.tmp 11) (.const (.int .i64 0)) 28, 4, none, []⟩]
def c19_2 : RC := .reg [] o19_2
def o19_3 : List ROp := [
  ⟨(some 13), .load 27 (.tmp 3), 27, none, []⟩,
  ⟨(some 14), .move (.tmp 1), 3, none, []⟩,
  ⟨(some 15), .move (.tmp 2), 3, none, []⟩,
  ⟨(some 16), .call ⟨.value (.func 58), #[(.tmp 13), (.tmp 14), (.tmp 15)], #[27, 3, 3]⟩, 28, none, []⟩,
  ⟨(some 8), .assign (.tmp 16), 28, none, []⟩]
def c19_3 : RC := .reg [] o19_3
def c19_4 : RC := .cond (.tmp 12) c19_3 .skip
def c19_5 : RC := .seq c19_2 c19_4
def o19_6 : List ROp := [
  ⟨(some 17), .move (.tmp 8), 28, none, []⟩,
  ⟨(some 18), .binOp .neq 28 (.tmp 17) (.const (.int .i64 0)) 28, 4, none, []⟩]
def c19_6 : RC := .reg [] o19_6
def o19_7 : List ROp := [
  ⟨(some 19), .build 27 #[], 27, none, []⟩,
  ⟨(some 20), .move (.tmp 8), 28, none, []⟩,
  ⟨none, .store 27 (.tmp 6) (.tmp 19), 0, none, []⟩,
  ⟨(some 7), .assign (.tmp 20), 28, none, []⟩]
def c19_7 : RC := .reg [] o19_7
def c19_8 : RC := .seq c19_7 .ret
def c19_9 : RC := .cond (.tmp 18) c19_8 .skip
def c19_10 : RC := .seq c19_6 c19_9
def o19_11 : List ROp := [
  ⟨(some 21), .load 27 (.tmp 3), 27, none, []⟩,
  ⟨(some 22), .move (.tmp 1), 3, none, []⟩,
  ⟨(some 23), .move (.tmp 2), 3, none, []⟩,
  ⟨(some 24), .call ⟨.value (.func 59), #[(.tmp 21), (.tmp 22), (.tmp 23)], #[27, 3, 3]⟩, 27, none, []⟩,
  ⟨none, .store 27 (.tmp 6) (.tmp 24), 0, none, []⟩,
  ⟨(some 7), .assign (.const (.int .i64 0)), 28, none, []⟩]
def c19_11 : RC := .reg [] o19_11
def c19_12 : RC := .seq c19_11 .ret
def c19_13 : RC := .seq c19_10 c19_12
def c19_14 : RC := .seq c19_5 c19_13
def c19_15 : RC := .seq c19_1 c19_14
def c19_16 : RC := .seq c19_0 c19_15
def m19_0 (pu : PureF) (n : Nat) (z278 : Int) (z279 : Int) (z280 : Int) (z281 : Int) (s282 : Sl) (s283 : Sl) (z284 : Int) : Option Value :=
  (bb (nt (ieq z280 (0 : Int))) (some (.tuple ⟨[(.agg ⟨[(.int .i64 (0 : Int)), (Sl.v 1 (Sl.mk 0 2 [])), (Sl.v 1 (Sl.mk 0 2 []))]⟩), (.int .i64 z280)]⟩)) (oo (pu 59 [(.agg ⟨[(.int .i64 z281), (Sl.v 1 s282), (Sl.v 1 s283)]⟩), (.int .i64 z278), (.int .i64 z279)]) none fun v286 => (oo (vAgg v286) none fun l288 => (ll l288 none fun v290 l288 => (ll l288 none fun v291 l288 => (ll l288 none fun v292 l288 => (ll l288 (oo (toI .i64 v290) none fun x293 => (oo (toSl 1 v291) none fun s295 => (oo (toSl 1 v292) none fun s297 => (some (.tuple ⟨[(.agg ⟨[(.int .i64 x293), (Sl.v 1 s295), (Sl.v 1 s297)]⟩), (.int .i64 (0 : Int))]⟩))))) fun _ _ => none)))))))
def m19_ (pu : PureF) (n : Nat) (x259 : Int) (s261 : Sl) (s263 : Sl) (x265 : Int) (x267 : Int) : Option Value :=
  (oo (pu 22 [(.agg ⟨[(.int .i64 x259), (Sl.v 1 s261), (Sl.v 1 s263)]⟩)]) none fun v269 => (oo (toI .i64 v269) none fun x271 => (bb (ieq x271 (0 : Int)) (oo (pu 58 [(.agg ⟨[(.int .i64 x259), (Sl.v 1 s261), (Sl.v 1 s263)]⟩), (.int .i64 x265), (.int .i64 x267)]) none fun v300 => (oo (toI .i64 v300) none fun x302 => (m19_0 pu n x265 x267 x302 x259 s261 s263 (0 : Int)))) (m19_0 pu n x265 x267 x271 x259 s261 s263 (0 : Int)))))
def m19 (pu : PureF) (n : Nat) (args : List Value) : Option Value :=
  (ll args none fun a0 args => (ll args none fun a1 args => (ll args none fun a2 args => (ll args (oo (vAgg a0) none fun l254 => (ll l254 none fun v256 l254 => (ll l254 none fun v257 l254 => (ll l254 none fun v258 l254 => (ll l254 (oo (toI .i64 v256) none fun x259 => (oo (toSl 1 v257) none fun s261 => (oo (toSl 1 v258) none fun s263 => (oo (toI .i64 a1) none fun x265 => (oo (toI .i64 a2) none fun x267 => (m19_ pu n x259 s261 s263 x265 x267)))))) fun _ _ => none))))) fun _ _ => none))))
theorem r19 {call : CallF} (pu : PureF) (n : Nat) (hcall : call = callP tabs isP pu inl) {args : List Value} {v : Value} (hm : m19 pu n args = some v) (_ : ∀ x ∈ args, closed2 x = true) : args.length ≤ 25 ∧ Run tt call 1 c19_16 (Fr.made 25 args) (pureHeap tabs) (Fin tt 1 [.cell 6 27, .tmp 7] v) := by
  subst hcall
  unfold m19 at hm
  have hq := ll_uncons hm; clear hm; obtain ⟨a0, args_0, rfl, hm⟩ := hq
  have hq := ll_uncons hm; clear hm; obtain ⟨a1, args_1, rfl, hm⟩ := hq
  have hq := ll_uncons hm; clear hm; obtain ⟨a2, args_2, rfl, hm⟩ := hq
  have hq := ll_end hm; clear hm; obtain ⟨rfl, hm⟩ := hq
  have hq := oo_inv hm; clear hm; obtain ⟨l254, h255, hm⟩ := hq
  obtain rfl := vAgg_some h255
  have hq := ll_uncons hm; clear hm; obtain ⟨v256, l254_0, rfl, hm⟩ := hq
  have hq := ll_uncons hm; clear hm; obtain ⟨v257, l254_1, rfl, hm⟩ := hq
  have hq := ll_uncons hm; clear hm; obtain ⟨v258, l254_2, rfl, hm⟩ := hq
  have hq := ll_end hm; clear hm; obtain ⟨rfl, hm⟩ := hq
  have hq := oo_inv hm; clear hm; obtain ⟨x259, h260, hm⟩ := hq
  obtain rfl := toI_some h260
  have hq := oo_inv hm; clear hm; obtain ⟨s261, h262, hm⟩ := hq
  obtain rfl := toSl_some h262
  have hq := oo_inv hm; clear hm; obtain ⟨s263, h264, hm⟩ := hq
  obtain rfl := toSl_some h264
  have hq := oo_inv hm; clear hm; obtain ⟨x265, h266, hm⟩ := hq
  obtain rfl := toI_some h266
  have hq := oo_inv hm; clear hm; obtain ⟨x267, h268, hm⟩ := hq
  obtain rfl := toI_some h268
  unfold m19_ at hm
  refine ⟨by simp, ?_⟩
  refine .same (F' := (⟨25, frTr [(0, (.agg ⟨[(.int .i64 x259), (Sl.v 1 s261), (Sl.v 1 s263)]⟩)), (1, (.int .i64 x265)), (2, (.int .i64 x267))] .nil⟩ : Fr)) (H' := (⟨1, objTr [(.cells tab0 true false [])] 0 .nil, true⟩ : AHeap)) (by kernel_rfl) (by kernel_rfl) ?_
  refine .then ?_
  refine .reg (F' := (Fr.puts (⟨25, frTr [(0, (.agg ⟨[(.int .i64 x259), (Sl.v 1 s261), (Sl.v 1 s263)]⟩)), (1, (.int .i64 x265)), (2, (.int .i64 x267))] .nil⟩ : Fr) [(3, (.pointer (some ⟨1, 0, none⟩))), (6, (.pointer (some ⟨2, 0, none⟩))), (7, (.int .i64 (0 : Int)))])) (H' := (⟨3, objTr [(.cells tab0 true false []), (.cells [(.int .i64 x259), (Sl.v 1 s261), (Sl.v 1 s263)] false false []), (.cells [(.int .i64 (0 : Int)), (.slice none 0 0), (.slice none 0 0)] false false [])] 0 .nil, true⟩ : AHeap)) (by kernel_rfl) ?_
  refine .ghs (⟨25, frTr [(1, (.int .i64 x265)), (2, (.int .i64 x267)), (3, (.pointer (some ⟨1, 0, none⟩))), (6, (.pointer (some ⟨2, 0, none⟩)))] .nil⟩ : Fr) (⟨3, objTr [(.cells tab0 true false []), (.cells [(.int .i64 x259), (Sl.v 1 s261), (Sl.v 1 s263)] false false []), (.cells [(.int .i64 (0 : Int)), (.slice none 0 0), (.slice none 0 0)] false false [])] 0 .nil, true⟩ : AHeap) (.gc [] [false] [.tmp 3 false, .tmp 6 false] [1, 2, 3, 6] (by kernel_rfl) trivial (by kernel_rfl)) ?_
  refine .then ?_
  have hq := oo_inv hm; clear hm; obtain ⟨v269, h270, hm⟩ := hq
  have hq := oo_inv hm; clear hm; obtain ⟨x271, h272, hm⟩ := hq
  obtain rfl := toI_some h272
  refine .reg (F' := (Fr.puts (⟨25, frTr [(1, (.int .i64 x265)), (2, (.int .i64 x267)), (3, (.pointer (some ⟨1, 0, none⟩))), (6, (.pointer (some ⟨2, 0, none⟩)))] .nil⟩ : Fr) [(9, (.agg ⟨[(.int .i64 x259), (Sl.v 1 s261), (Sl.v 1 s263)]⟩)), (10, (.int .i64 x271)), (8, (.int .i64 x271))])) (H' := (⟨3, objTr [(.cells tab0 true false []), (.cells [(.int .i64 x259), (Sl.v 1 s261), (Sl.v 1 s263)] false false []), (.cells [(.int .i64 (0 : Int)), (.slice none 0 0), (.slice none 0 0)] false false [])] 0 .nil, true⟩ : AHeap)) (evOps_cut 1 (by kernel_rfl) (evOps_data ((oo (pu 22 [(.agg ⟨[(.int .i64 x259), (Sl.v 1 s261), (Sl.v 1 s263)]⟩)]) none fun v => some (v, (⟨3, objTr [(.cells tab0 true false []), (.cells [(.int .i64 x259), (Sl.v 1 s261), (Sl.v 1 s263)] false false []), (.cells [(.int .i64 (0 : Int)), (.slice none 0 0), (.slice none 0 0)] false false [])] 0 .nil, true⟩ : AHeap)))) (by kernel_rfl) (call_eq h270) (okAt_of (by kernel_rfl) (by kernel_rfl)) (by kernel_rfl))) ?_
  refine .ghs (⟨25, frTr [(1, (.int .i64 x265)), (2, (.int .i64 x267)), (3, (.pointer (some ⟨1, 0, none⟩))), (6, (.pointer (some ⟨2, 0, none⟩))), (8, (.int .i64 x271))] .nil⟩ : Fr) (⟨3, objTr [(.cells tab0 true false []), (.cells [(.int .i64 x259), (Sl.v 1 s261), (Sl.v 1 s263)] false false []), (.cells [(.int .i64 (0 : Int)), (.slice none 0 0), (.slice none 0 0)] false false [])] 0 .nil, true⟩ : AHeap) (.gc [] [false] [.tmp 3 false, .tmp 6 false] [1, 2, 3, 6, 8] (by kernel_rfl) trivial (by kernel_rfl)) ?_
  refine .join (v := v) (fun y : Int × Int × Int × Int × Sl × Sl × Int => ((⟨25, frTr [(1, (.int .i64 y.1)), (2, (.int .i64 y.2.1)), (3, (.pointer (some ⟨1, 0, none⟩))), (6, (.pointer (some ⟨2, 0, none⟩))), (8, (.int .i64 y.2.2.1))] .nil⟩ : Fr), (⟨3, objTr [(.cells tab0 true false []), (.cells [(.int .i64 y.2.2.2.1), (Sl.v 1 y.2.2.2.2.1), (Sl.v 1 y.2.2.2.2.2.1)] false false []), (.cells [(.int .i64 y.2.2.2.2.2.2), (.slice none 0 0), (.slice none 0 0)] false false [])] 0 .nil, true⟩ : AHeap))) (fun y => m19_0 pu n y.1 y.2.1 y.2.2.1 y.2.2.2.1 y.2.2.2.2.1 y.2.2.2.2.2.1 y.2.2.2.2.2.2) ?_ ?_
  · rintro ⟨z278, z279, z280, z281, s282, s283, z284⟩ hm
    unfold m19_0 at hm
    refine .then ?_
    refine .then ?_
    refine .reg (F' := (Fr.puts (⟨25, frTr [(1, (.int .i64 z278)), (2, (.int .i64 z279)), (3, (.pointer (some ⟨1, 0, none⟩))), (6, (.pointer (some ⟨2, 0, none⟩))), (8, (.int .i64 z280))] .nil⟩ : Fr) [(17, (.int .i64 z280)), (18, (.bool (nt (ieq z280 (0 : Int)))))])) (H' := (⟨3, objTr [(.cells tab0 true false []), (.cells [(.int .i64 z281), (Sl.v 1 s282), (Sl.v 1 s283)] false false []), (.cells [(.int .i64 z284), (.slice none 0 0), (.slice none 0 0)] false false [])] 0 .nil, true⟩ : AHeap)) (by kernel_rfl) ?_
    refine .ghs (⟨25, frTr [(1, (.int .i64 z278)), (2, (.int .i64 z279)), (3, (.pointer (some ⟨1, 0, none⟩))), (6, (.pointer (some ⟨2, 0, none⟩))), (8, (.int .i64 z280)), (18, (.bool (nt (ieq z280 (0 : Int)))))] .nil⟩ : Fr) (⟨3, objTr [(.cells tab0 true false []), (.cells [(.int .i64 z281), (Sl.v 1 s282), (Sl.v 1 s283)] false false []), (.cells [(.int .i64 z284), (.slice none 0 0), (.slice none 0 0)] false false [])] 0 .nil, true⟩ : AHeap) (.gc [] [false] [.tmp 3 false, .tmp 6 false] [1, 2, 3, 6, 8, 18] (by kernel_rfl) trivial (by kernel_rfl)) ?_
    have hq := bb_cases hm; clear hm; rcases hq with ⟨h285, hm⟩ | ⟨h285, hm⟩
    · refine .ifT (nt (ieq z280 (0 : Int))) (by kernel_rfl) h285 ?_
      refine .then ?_
      refine .reg (F' := (Fr.puts (⟨25, frTr [(1, (.int .i64 z278)), (2, (.int .i64 z279)), (3, (.pointer (some ⟨1, 0, none⟩))), (6, (.pointer (some ⟨2, 0, none⟩))), (8, (.int .i64 z280)), (18, (.bool (nt (ieq z280 (0 : Int)))))] .nil⟩ : Fr) [(19, (.agg ⟨[(.int .i64 (0 : Int)), (.slice none 0 0), (.slice none 0 0)]⟩)), (20, (.int .i64 z280)), (7, (.int .i64 z280))])) (H' := (⟨3, objTr [(.cells tab0 true false []), (.cells [(.int .i64 z281), (Sl.v 1 s282), (Sl.v 1 s283)] false false []), (.cells [(.int .i64 (0 : Int)), (.slice none 0 0), (.slice none 0 0)] false false [])] 0 .nil, true⟩ : AHeap)) (by kernel_rfl) ?_
      refine .ghs (⟨25, frTr [(6, (.pointer (some ⟨1, 0, none⟩))), (7, (.int .i64 z280))] .nil⟩ : Fr) (⟨2, objTr [(.cells tab0 true false []), (.cells [(.int .i64 (0 : Int)), (.slice none 0 0), (.slice none 0 0)] false false [])] 0 .nil, true⟩ : AHeap) (.gc [] [false] [.tmp 6 false] [6, 7] (by kernel_rfl) trivial (by kernel_rfl)) ?_
      refine .ret ?_
      exact finT_ret (.tuple ⟨[(.agg ⟨[(.int .i64 (0 : Int)), (.slice none 0 0), (.slice none 0 0)]⟩), (.int .i64 z280)]⟩) (.tuple ⟨[(.agg ⟨[(.int .i64 (0 : Int)), (Sl.v 1 (Sl.mk 0 2 [])), (Sl.v 1 (Sl.mk 0 2 []))]⟩), (.int .i64 z280)]⟩) (by kernel_rfl) (Tell.tup (.cons (Tell.agg (.cons (Tell.refl _ _ _) (.cons (.weak (Weak.nil 1 2)) (.cons (.weak (Weak.nil 1 2)) (TellL.nil _))))) (.cons (Tell.refl _ _ _) (TellL.nil _)))) (by kernel_rfl) hm
    · refine .ifF (nt (ieq z280 (0 : Int))) (by kernel_rfl) h285 ?_
      refine .skip ?_
      refine .ghs (⟨25, frTr [(1, (.int .i64 z278)), (2, (.int .i64 z279)), (3, (.pointer (some ⟨1, 0, none⟩))), (6, (.pointer (some ⟨2, 0, none⟩)))] .nil⟩ : Fr) (⟨3, objTr [(.cells tab0 true false []), (.cells [(.int .i64 z281), (Sl.v 1 s282), (Sl.v 1 s283)] false false []), (.cells [(.int .i64 z284), (.slice none 0 0), (.slice none 0 0)] false false [])] 0 .nil, true⟩ : AHeap) (.gc [] [false] [.tmp 3 false, .tmp 6 false] [1, 2, 3, 6] (by kernel_rfl) trivial (by kernel_rfl)) ?_
      refine .then ?_
      have hq := oo_inv hm; clear hm; obtain ⟨v286, h287, hm⟩ := hq
      have hq := oo_inv hm; clear hm; obtain ⟨l288, h289, hm⟩ := hq
      obtain rfl := vAgg_some h289
      have hq := ll_uncons hm; clear hm; obtain ⟨v290, l288_0, rfl, hm⟩ := hq
      have hq := ll_uncons hm; clear hm; obtain ⟨v291, l288_1, rfl, hm⟩ := hq
      have hq := ll_uncons hm; clear hm; obtain ⟨v292, l288_2, rfl, hm⟩ := hq
      have hq := ll_end hm; clear hm; obtain ⟨rfl, hm⟩ := hq
      have hq := oo_inv hm; clear hm; obtain ⟨x293, h294, hm⟩ := hq
      obtain rfl := toI_some h294
      have hq := oo_inv hm; clear hm; obtain ⟨s295, h296, hm⟩ := hq
      obtain rfl := toSl_some h296
      have hq := oo_inv hm; clear hm; obtain ⟨s297, h298, hm⟩ := hq
      obtain rfl := toSl_some h298
      refine .reg (F' := (Fr.puts (⟨25, frTr [(1, (.int .i64 z278)), (2, (.int .i64 z279)), (3, (.pointer (some ⟨1, 0, none⟩))), (6, (.pointer (some ⟨2, 0, none⟩)))] .nil⟩ : Fr) [(21, (.agg ⟨[(.int .i64 z281), (Sl.v 1 s282), (Sl.v 1 s283)]⟩)), (22, (.int .i64 z278)), (23, (.int .i64 z279)), (24, (.agg ⟨[(.int .i64 x293), (Sl.v 1 s295), (Sl.v 1 s297)]⟩)), (7, (.int .i64 (0 : Int)))])) (H' := (⟨3, objTr [(.cells tab0 true false []), (.cells [(.int .i64 z281), (Sl.v 1 s282), (Sl.v 1 s283)] false false []), (.cells [(.int .i64 x293), (Sl.v 1 s295), (Sl.v 1 s297)] false false [])] 0 .nil, true⟩ : AHeap)) (evOps_cut 3 (by kernel_rfl) (evOps_data ((oo (pu 59 [(.agg ⟨[(.int .i64 z281), (Sl.v 1 s282), (Sl.v 1 s283)]⟩), (.int .i64 z278), (.int .i64 z279)]) none fun v => some (v, (⟨3, objTr [(.cells tab0 true false []), (.cells [(.int .i64 z281), (Sl.v 1 s282), (Sl.v 1 s283)] false false []), (.cells [(.int .i64 z284), (.slice none 0 0), (.slice none 0 0)] false false [])] 0 .nil, true⟩ : AHeap)))) (by kernel_rfl) (call_eq h287) (okAt_of (by kernel_rfl) (by kernel_rfl)) (by kernel_rfl))) ?_
      refine .ghs (⟨25, frTr [(6, (.pointer (some ⟨1, 0, none⟩))), (7, (.int .i64 (0 : Int)))] .nil⟩ : Fr) (⟨2, objTr [(.cells tab0 true false []), (.cells [(.int .i64 x293), (Sl.v 1 s295), (Sl.v 1 s297)] false false [])] 0 .nil, true⟩ : AHeap) (.gc [] [false] [.tmp 6 false] [6, 7] (by kernel_rfl) trivial (by kernel_rfl)) ?_
      refine .ret ?_
      exact fin_ret (.tuple ⟨[(.agg ⟨[(.int .i64 x293), (Sl.v 1 s295), (Sl.v 1 s297)]⟩), (.int .i64 (0 : Int))]⟩) (by kernel_rfl) (by kernel_rfl) hm
  · skip
    refine .then ?_
    refine .reg (F' := (Fr.puts (⟨25, frTr [(1, (.int .i64 x265)), (2, (.int .i64 x267)), (3, (.pointer (some ⟨1, 0, none⟩))), (6, (.pointer (some ⟨2, 0, none⟩))), (8, (.int .i64 x271))] .nil⟩ : Fr) [(11, (.int .i64 x271)), (12, (.bool (ieq x271 (0 : Int))))])) (H' := (⟨3, objTr [(.cells tab0 true false []), (.cells [(.int .i64 x259), (Sl.v 1 s261), (Sl.v 1 s263)] false false []), (.cells [(.int .i64 (0 : Int)), (.slice none 0 0), (.slice none 0 0)] false false [])] 0 .nil, true⟩ : AHeap)) (by kernel_rfl) ?_
    refine .ghs (⟨25, frTr [(1, (.int .i64 x265)), (2, (.int .i64 x267)), (3, (.pointer (some ⟨1, 0, none⟩))), (6, (.pointer (some ⟨2, 0, none⟩))), (8, (.int .i64 x271)), (12, (.bool (ieq x271 (0 : Int))))] .nil⟩ : Fr) (⟨3, objTr [(.cells tab0 true false []), (.cells [(.int .i64 x259), (Sl.v 1 s261), (Sl.v 1 s263)] false false []), (.cells [(.int .i64 (0 : Int)), (.slice none 0 0), (.slice none 0 0)] false false [])] 0 .nil, true⟩ : AHeap) (.gc [] [false] [.tmp 3 false, .tmp 6 false] [1, 2, 3, 6, 8, 12] (by kernel_rfl) trivial (by kernel_rfl)) ?_
    have hq := bb_cases hm; clear hm; rcases hq with ⟨h299, hm⟩ | ⟨h299, hm⟩
    · refine .ifT (ieq x271 (0 : Int)) (by kernel_rfl) h299 ?_
      have hq := oo_inv hm; clear hm; obtain ⟨v300, h301, hm⟩ := hq
      have hq := oo_inv hm; clear hm; obtain ⟨x302, h303, hm⟩ := hq
      obtain rfl := toI_some h303
      refine .reg (F' := (Fr.puts (⟨25, frTr [(1, (.int .i64 x265)), (2, (.int .i64 x267)), (3, (.pointer (some ⟨1, 0, none⟩))), (6, (.pointer (some ⟨2, 0, none⟩))), (8, (.int .i64 x271)), (12, (.bool (ieq x271 (0 : Int))))] .nil⟩ : Fr) [(13, (.agg ⟨[(.int .i64 x259), (Sl.v 1 s261), (Sl.v 1 s263)]⟩)), (14, (.int .i64 x265)), (15, (.int .i64 x267)), (16, (.int .i64 x302)), (8, (.int .i64 x302))])) (H' := (⟨3, objTr [(.cells tab0 true false []), (.cells [(.int .i64 x259), (Sl.v 1 s261), (Sl.v 1 s263)] false false []), (.cells [(.int .i64 (0 : Int)), (.slice none 0 0), (.slice none 0 0)] false false [])] 0 .nil, true⟩ : AHeap)) (evOps_cut 3 (by kernel_rfl) (evOps_data ((oo (pu 58 [(.agg ⟨[(.int .i64 x259), (Sl.v 1 s261), (Sl.v 1 s263)]⟩), (.int .i64 x265), (.int .i64 x267)]) none fun v => some (v, (⟨3, objTr [(.cells tab0 true false []), (.cells [(.int .i64 x259), (Sl.v 1 s261), (Sl.v 1 s263)] false false []), (.cells [(.int .i64 (0 : Int)), (.slice none 0 0), (.slice none 0 0)] false false [])] 0 .nil, true⟩ : AHeap)))) (by kernel_rfl) (call_eq h301) (okAt_of (by kernel_rfl) (by kernel_rfl)) (by kernel_rfl))) ?_
      exact ⟨(x265, x267, x302, x259, s261, s263, (0 : Int)), hm, (.gc [] [false] [.tmp 3 false, .tmp 6 false] [1, 2, 3, 6, 8] (by kernel_rfl) trivial (by kernel_rfl))⟩
    · refine .ifF (ieq x271 (0 : Int)) (by kernel_rfl) h299 ?_
      refine .skip ?_
      exact ⟨(x265, x267, x271, x259, s261, s263, (0 : Int)), hm, (.gc [] [false] [.tmp 3 false, .tmp 6 false] [1, 2, 3, 6, 8] (by kernel_rfl) trivial (by kernel_rfl))⟩
end
end Go.MendM
