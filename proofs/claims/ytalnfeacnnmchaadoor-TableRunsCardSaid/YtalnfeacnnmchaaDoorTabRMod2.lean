/- Models of the program's functions, and the proofs that runs give them: MADE BY PROGRAM (wip/tools/dec.py). -/
import Derived.Test.YtalnfeacnnmchaaDoorTabRMod1x

set_option maxRecDepth 100000
set_option linter.unusedVariables false
namespace Go.TabRM
open Go.Sp Go.TabR
noncomputable section
/-- spadille/spadilleref07.Run -/
def o7_0 : List ROp := [
  ⟨(some 2), .box 28 (.tmp 0), 0, none, []⟩,
  ⟨(some 4), .assign (.const (.slice none 0 0)), 25, none, []⟩,
  ⟨(some 5), .assign (.const (.int .i64 0)), 29, none, []⟩]
def c7_0 : RC := .reg [] o7_0
def o7_1 : List ROp := [
  ⟨(some 7), .load 28 (.tmp 2), 28, none, []⟩,
  ⟨(some 8), .call ⟨.value (.func 10), #[(.tmp 7)], #[28]⟩, 29, none, []⟩,
  ⟨(some 6), .assign (.tmp 8), 29, none, []⟩]
def c7_1 : RC := .reg [] o7_1
def o7_2 : List ROp := [
  ⟨(some 9), .move (.tmp 6), 29, none, []⟩,
  ⟨(some 10), .binOp .eql 29 (.tmp 9) (.const (.int .i64 0)) 29, 4, none, []⟩,
  ⟨(some 11), .move (.tmp 10), 4, none, []⟩,
  ⟨(some 12), .move (.tmp 1), 25, (some ((some 11), true)), []⟩,
  ⟨(some 13), .call ⟨.builtin .len, #[(.tmp 12)], #[25]⟩, 3, (some ((some 11), true)), []⟩,
  ⟨(some 14), .fieldAddr 28 (.tmp 2) 0, 0, (some ((some 11), true)), []⟩,
  ⟨(some 15), .load 3 (.tmp 14), 3, (some ((some 11), true)), []⟩,
  ⟨(some 16), .binOp .neq 3 (.tmp 13) (.tmp 15) 3, 4, (some ((some 11), true)), []⟩,
  ⟨(some 17), .pick (.tmp 11) (.tmp 16) (.const (.bool false)), 4, none, []⟩]
def c7_2 : RC := .reg [] o7_2
def o7_3 : List ROp := [
  ⟨(some 6), .assign (.const (.int .i64 5)), 29, none, []⟩]
def c7_3 : RC := .reg [] o7_3
def c7_4 : RC := .cond (.tmp 17) c7_3 .skip
def c7_5 : RC := .seq c7_2 c7_4
def o7_6 : List ROp := [
  ⟨(some 18), .move (.tmp 6), 29, none, []⟩,
  ⟨(some 19), .binOp .neq 29 (.tmp 18) (.const (.int .i64 0)) 29, 4, none, []⟩]
def c7_6 : RC := .reg [] o7_6
def o7_7 : List ROp := [
  ⟨(some 20), .move (.tmp 6), 29, none, []⟩,
  ⟨(some 4), .assign (.const (.slice none 0 0)), 25, none, []⟩,
  ⟨(some 5), .assign (.tmp 20), 29, none, []⟩]
def c7_7 : RC := .reg [] o7_7
def c7_8 : RC := .seq c7_7 .ret
def c7_9 : RC := .cond (.tmp 19) c7_8 .skip
def c7_10 : RC := .seq c7_6 c7_9
def o7_11 : List ROp := [
  ⟨(some 21), .load 28 (.tmp 2), 28, none, []⟩,
  ⟨(some 22), .move (.tmp 1), 25, none, []⟩,
  ⟨(some 23), .call ⟨.value (.func 30), #[(.tmp 21), (.tmp 22), (.const (.int .i64 (-1)))], #[28, 25, 3]⟩, 25, none, []⟩,
  ⟨(some 4), .assign (.tmp 23), 25, none, []⟩,
  ⟨(some 5), .assign (.const (.int .i64 0)), 29, none, []⟩]
def c7_11 : RC := .reg [] o7_11
def c7_12 : RC := .seq c7_11 .ret
def c7_13 : RC := .seq c7_10 c7_12
def c7_14 : RC := .seq c7_5 c7_13
def c7_15 : RC := .seq c7_1 c7_14
def c7_16 : RC := .seq c7_0 c7_15
def m7_0 (pu : PureF) (n : Nat) (s253 : Sl) (z254 : Int) (z255 : Int) (s256 : Sl) : Option Value :=
  (bb (nt (ieq z254 (0 : Int))) (some (.tuple ⟨[(Sl.v 1 (Sl.mk 0 2 [])), (.int .i64 z254)]⟩)) (oo (pu 30 [(.agg ⟨[(.int .i64 z255), (Sl.v 2 s256)]⟩), (Sl.v 1 s253), (.int .i64 (-1 : Int))]) none fun v258 => (oo (toSl 1 v258) none fun s260 => (some (.tuple ⟨[(Sl.v 1 s260), (.int .i64 (0 : Int))]⟩)))))
def m7_1 (pu : PureF) (n : Nat) (s263 : Sl) (z264 : Int) (b265 : Bool) (z266 : Int) (s267 : Sl) : Option Value :=
  (bb b265 (m7_0 pu n s263 (5 : Int) z266 s267) (m7_0 pu n s263 z264 z266 s267))
def m7_ (pu : PureF) (n : Nat) (x235 : Int) (s237 : Sl) (s239 : Sl) : Option Value :=
  (oo (pu 10 [(.agg ⟨[(.int .i64 x235), (Sl.v 2 s237)]⟩)]) none fun v241 => (oo (toI .i64 v241) none fun x243 => (bb (ieq x243 (0 : Int)) (m7_1 pu n s239 x243 (nt (ieq (Int.ofNat (Sl.n s239)) x235)) x235 s237) (m7_1 pu n s239 x243 false x235 s237))))
def m7 (pu : PureF) (n : Nat) (args : List Value) : Option Value :=
  (ll args none fun a0 args => (ll args none fun a1 args => (ll args (oo (vAgg a0) none fun l231 => (ll l231 none fun v233 l231 => (ll l231 none fun v234 l231 => (ll l231 (oo (toI .i64 v233) none fun x235 => (oo (toSl 2 v234) none fun s237 => (oo (toSl 1 a1) none fun s239 => (m7_ pu n x235 s237 s239)))) fun _ _ => none)))) fun _ _ => none)))
theorem r7 {call : CallF} (pu : PureF) (n : Nat) (hcall : call = callP tabs isP pu inl) {args : List Value} {v : Value} (hm : m7 pu n args = some v) (_ : ∀ x ∈ args, closed2 x = true) : args.length ≤ 24 ∧ Run tt call 1 c7_16 (Fr.made 24 args) (pureHeap tabs) (Fin tt 1 [.tmp 4, .tmp 5] v) := by
  subst hcall
  unfold m7 at hm
  have hq := ll_uncons hm; clear hm; obtain ⟨a0, args_0, rfl, hm⟩ := hq
  have hq := ll_uncons hm; clear hm; obtain ⟨a1, args_1, rfl, hm⟩ := hq
  have hq := ll_end hm; clear hm; obtain ⟨rfl, hm⟩ := hq
  have hq := oo_inv hm; clear hm; obtain ⟨l231, h232, hm⟩ := hq
  obtain rfl := vAgg_some h232
  have hq := ll_uncons hm; clear hm; obtain ⟨v233, l231_0, rfl, hm⟩ := hq
  have hq := ll_uncons hm; clear hm; obtain ⟨v234, l231_1, rfl, hm⟩ := hq
  have hq := ll_end hm; clear hm; obtain ⟨rfl, hm⟩ := hq
  have hq := oo_inv hm; clear hm; obtain ⟨x235, h236, hm⟩ := hq
  obtain rfl := toI_some h236
  have hq := oo_inv hm; clear hm; obtain ⟨s237, h238, hm⟩ := hq
  obtain rfl := toSl_some h238
  have hq := oo_inv hm; clear hm; obtain ⟨s239, h240, hm⟩ := hq
  obtain rfl := toSl_some h240
  unfold m7_ at hm
  refine ⟨by simp, ?_⟩
  refine .same (F' := (⟨24, frTr [(0, (.agg ⟨[(.int .i64 x235), (Sl.v 2 s237)]⟩)), (1, (Sl.v 1 s239))] .nil⟩ : Fr)) (H' := (⟨1, objTr [(.cells tab0 true false [])] 0 .nil, true⟩ : AHeap)) (by kernel_rfl) (by kernel_rfl) ?_
  refine .then ?_
  refine .reg (F' := (Fr.puts (⟨24, frTr [(0, (.agg ⟨[(.int .i64 x235), (Sl.v 2 s237)]⟩)), (1, (Sl.v 1 s239))] .nil⟩ : Fr) [(2, (.pointer (some ⟨1, 0, none⟩))), (4, (.slice none 0 0)), (5, (.int .i64 (0 : Int)))])) (H' := (⟨2, objTr [(.cells tab0 true false []), (.cells [(.int .i64 x235), (Sl.v 2 s237)] false false [])] 0 .nil, true⟩ : AHeap)) (by kernel_rfl) ?_
  refine .ghs (⟨24, frTr [(1, (Sl.v 1 s239)), (2, (.pointer (some ⟨1, 0, none⟩)))] .nil⟩ : Fr) (⟨2, objTr [(.cells tab0 true false []), (.cells [(.int .i64 x235), (Sl.v 2 s237)] false false [])] 0 .nil, true⟩ : AHeap) (.gc [] [false] [.tmp 2 false] [1, 2] (by kernel_rfl) trivial (by kernel_rfl)) ?_
  refine .then ?_
  have hq := oo_inv hm; clear hm; obtain ⟨v241, h242, hm⟩ := hq
  have hq := oo_inv hm; clear hm; obtain ⟨x243, h244, hm⟩ := hq
  obtain rfl := toI_some h244
  refine .reg (F' := (Fr.puts (⟨24, frTr [(1, (Sl.v 1 s239)), (2, (.pointer (some ⟨1, 0, none⟩)))] .nil⟩ : Fr) [(7, (.agg ⟨[(.int .i64 x235), (Sl.v 2 s237)]⟩)), (8, (.int .i64 x243)), (6, (.int .i64 x243))])) (H' := (⟨2, objTr [(.cells tab0 true false []), (.cells [(.int .i64 x235), (Sl.v 2 s237)] false false [])] 0 .nil, true⟩ : AHeap)) (evOps_cut 1 (by kernel_rfl) (evOps_data ((oo (pu 10 [(.agg ⟨[(.int .i64 x235), (Sl.v 2 s237)]⟩)]) none fun v => some (v, (⟨2, objTr [(.cells tab0 true false []), (.cells [(.int .i64 x235), (Sl.v 2 s237)] false false [])] 0 .nil, true⟩ : AHeap)))) (by kernel_rfl) (call_eq h242) (okAt_of (by kernel_rfl) (by kernel_rfl)) (by kernel_rfl))) ?_
  refine .ghs (⟨24, frTr [(1, (Sl.v 1 s239)), (2, (.pointer (some ⟨1, 0, none⟩))), (6, (.int .i64 x243))] .nil⟩ : Fr) (⟨2, objTr [(.cells tab0 true false []), (.cells [(.int .i64 x235), (Sl.v 2 s237)] false false [])] 0 .nil, true⟩ : AHeap) (.gc [] [false] [.tmp 2 false] [1, 2, 6] (by kernel_rfl) trivial (by kernel_rfl)) ?_
  refine .join (v := v) (fun y : Sl × Int × Int × Sl => ((⟨24, frTr [(1, (Sl.v 1 y.1)), (2, (.pointer (some ⟨1, 0, none⟩))), (6, (.int .i64 y.2.1))] .nil⟩ : Fr), (⟨2, objTr [(.cells tab0 true false []), (.cells [(.int .i64 y.2.2.1), (Sl.v 2 y.2.2.2)] false false [])] 0 .nil, true⟩ : AHeap))) (fun y => m7_0 pu n y.1 y.2.1 y.2.2.1 y.2.2.2) ?_ ?_
  · rintro ⟨s253, z254, z255, s256⟩ hm
    unfold m7_0 at hm
    refine .then ?_
    refine .then ?_
    refine .reg (F' := (Fr.puts (⟨24, frTr [(1, (Sl.v 1 s253)), (2, (.pointer (some ⟨1, 0, none⟩))), (6, (.int .i64 z254))] .nil⟩ : Fr) [(18, (.int .i64 z254)), (19, (.bool (nt (ieq z254 (0 : Int)))))])) (H' := (⟨2, objTr [(.cells tab0 true false []), (.cells [(.int .i64 z255), (Sl.v 2 s256)] false false [])] 0 .nil, true⟩ : AHeap)) (by kernel_rfl) ?_
    refine .ghs (⟨24, frTr [(1, (Sl.v 1 s253)), (2, (.pointer (some ⟨1, 0, none⟩))), (6, (.int .i64 z254)), (19, (.bool (nt (ieq z254 (0 : Int)))))] .nil⟩ : Fr) (⟨2, objTr [(.cells tab0 true false []), (.cells [(.int .i64 z255), (Sl.v 2 s256)] false false [])] 0 .nil, true⟩ : AHeap) (.gc [] [false] [.tmp 2 false] [1, 2, 6, 19] (by kernel_rfl) trivial (by kernel_rfl)) ?_
    have hq := bb_cases hm; clear hm; rcases hq with ⟨h257, hm⟩ | ⟨h257, hm⟩
    · refine .ifT (nt (ieq z254 (0 : Int))) (by kernel_rfl) h257 ?_
      refine .then ?_
      refine .reg (F' := (Fr.puts (⟨24, frTr [(1, (Sl.v 1 s253)), (2, (.pointer (some ⟨1, 0, none⟩))), (6, (.int .i64 z254)), (19, (.bool (nt (ieq z254 (0 : Int)))))] .nil⟩ : Fr) [(20, (.int .i64 z254)), (4, (.slice none 0 0)), (5, (.int .i64 z254))])) (H' := (⟨2, objTr [(.cells tab0 true false []), (.cells [(.int .i64 z255), (Sl.v 2 s256)] false false [])] 0 .nil, true⟩ : AHeap)) (by kernel_rfl) ?_
      refine .ghs (⟨24, frTr [(4, (.slice none 0 0)), (5, (.int .i64 z254))] .nil⟩ : Fr) (⟨1, objTr [(.cells tab0 true false [])] 0 .nil, true⟩ : AHeap) (.gc [] [false] [] [4, 5] (by kernel_rfl) trivial (by kernel_rfl)) ?_
      refine .ghs (Fr.puts (⟨24, frTr [(4, (.slice none 0 0)), (5, (.int .i64 z254))] .nil⟩ : Fr) [(4, (Sl.v 1 (Sl.mk 0 2 [])))]) (⟨1, objTr [(.cells tab0 true false [])] 0 .nil, true⟩ : AHeap) (.freeze 1 4 1 (by kernel_rfl) (by kernel_rfl) (GhS.id _ _)) ?_
      refine .ret ?_
      exact fin_ret (.tuple ⟨[(Sl.v 1 (Sl.mk 0 2 [])), (.int .i64 z254)]⟩) (by kernel_rfl) (by kernel_rfl) hm
    · refine .ifF (nt (ieq z254 (0 : Int))) (by kernel_rfl) h257 ?_
      refine .skip ?_
      refine .ghs (⟨24, frTr [(1, (Sl.v 1 s253)), (2, (.pointer (some ⟨1, 0, none⟩)))] .nil⟩ : Fr) (⟨2, objTr [(.cells tab0 true false []), (.cells [(.int .i64 z255), (Sl.v 2 s256)] false false [])] 0 .nil, true⟩ : AHeap) (.gc [] [false] [.tmp 2 false] [1, 2] (by kernel_rfl) trivial (by kernel_rfl)) ?_
      refine .then ?_
      have hq := oo_inv hm; clear hm; obtain ⟨v258, h259, hm⟩ := hq
      have hq := oo_inv hm; clear hm; obtain ⟨s260, h261, hm⟩ := hq
      obtain rfl := toSl_some h261
      refine .reg (F' := (Fr.puts (⟨24, frTr [(1, (Sl.v 1 s253)), (2, (.pointer (some ⟨1, 0, none⟩)))] .nil⟩ : Fr) [(21, (.agg ⟨[(.int .i64 z255), (Sl.v 2 s256)]⟩)), (22, (Sl.v 1 s253)), (23, (Sl.v 1 s260)), (4, (Sl.v 1 s260)), (5, (.int .i64 (0 : Int)))])) (H' := (⟨2, objTr [(.cells tab0 true false []), (.cells [(.int .i64 z255), (Sl.v 2 s256)] false false [])] 0 .nil, true⟩ : AHeap)) (evOps_cut 2 (by kernel_rfl) (evOps_data ((oo (pu 30 [(.agg ⟨[(.int .i64 z255), (Sl.v 2 s256)]⟩), (Sl.v 1 s253), (.int .i64 (-1 : Int))]) none fun v => some (v, (⟨2, objTr [(.cells tab0 true false []), (.cells [(.int .i64 z255), (Sl.v 2 s256)] false false [])] 0 .nil, true⟩ : AHeap)))) (by kernel_rfl) (call_eq h259) (okAt_of (by kernel_rfl) (by kernel_rfl)) (by kernel_rfl))) ?_
      refine .ghs (⟨24, frTr [(4, (Sl.v 1 s260)), (5, (.int .i64 (0 : Int)))] .nil⟩ : Fr) (⟨1, objTr [(.cells tab0 true false [])] 0 .nil, true⟩ : AHeap) (.gc [] [false] [] [4, 5] (by kernel_rfl) trivial (by kernel_rfl)) ?_
      refine .ret ?_
      exact fin_ret (.tuple ⟨[(Sl.v 1 s260), (.int .i64 (0 : Int))]⟩) (by kernel_rfl) (by kernel_rfl) hm
  · skip
    refine .join (v := v) (fun y : Sl × Int × Bool × Int × Sl => ((⟨24, frTr [(1, (Sl.v 1 y.1)), (2, (.pointer (some ⟨1, 0, none⟩))), (6, (.int .i64 y.2.1)), (17, (.bool y.2.2.1))] .nil⟩ : Fr), (⟨2, objTr [(.cells tab0 true false []), (.cells [(.int .i64 y.2.2.2.1), (Sl.v 2 y.2.2.2.2)] false false [])] 0 .nil, true⟩ : AHeap))) (fun y => m7_1 pu n y.1 y.2.1 y.2.2.1 y.2.2.2.1 y.2.2.2.2) ?_ ?_
    · rintro ⟨s263, z264, b265, z266, s267⟩ hm
      unfold m7_1 at hm
      have hq := bb_cases hm; clear hm; rcases hq with ⟨h268, hm⟩ | ⟨h268, hm⟩
      · refine .ifT b265 (by kernel_rfl) h268 ?_
        refine .reg (F' := (Fr.puts (⟨24, frTr [(1, (Sl.v 1 s263)), (2, (.pointer (some ⟨1, 0, none⟩))), (6, (.int .i64 z264)), (17, (.bool b265))] .nil⟩ : Fr) [(6, (.int .i64 (5 : Int)))])) (H' := (⟨2, objTr [(.cells tab0 true false []), (.cells [(.int .i64 z266), (Sl.v 2 s267)] false false [])] 0 .nil, true⟩ : AHeap)) (by kernel_rfl) ?_
        exact ⟨(s263, (5 : Int), z266, s267), hm, (.gc [] [false] [.tmp 2 false] [1, 2, 6] (by kernel_rfl) trivial (by kernel_rfl))⟩
      · refine .ifF b265 (by kernel_rfl) h268 ?_
        refine .skip ?_
        exact ⟨(s263, z264, z266, s267), hm, (.gc [] [false] [.tmp 2 false] [1, 2, 6] (by kernel_rfl) trivial (by kernel_rfl))⟩
    · skip
      have hq := bb_cases hm; clear hm; rcases hq with ⟨h269, hm⟩ | ⟨h269, hm⟩
      · skip
        refine .reg (F' := (Fr.puts (⟨24, frTr [(1, (Sl.v 1 s239)), (2, (.pointer (some ⟨1, 0, none⟩))), (6, (.int .i64 x243))] .nil⟩ : Fr) [(9, (.int .i64 x243)), (10, (.bool true)), (11, (.bool true)), (12, (Sl.v 1 s239)), (13, (.int .i64 (Int.ofNat (Sl.n s239)))), (14, (.pointer (some ⟨1, 0, none⟩))), (15, (.int .i64 x235)), (16, (.bool (nt (ieq (Int.ofNat (Sl.n s239)) x235)))), (17, (.bool (nt (ieq (Int.ofNat (Sl.n s239)) x235))))])) (H' := (⟨2, objTr [(.cells tab0 true false []), (.cells [(.int .i64 x235), (Sl.v 2 s237)] false false [])] 0 .nil, true⟩ : AHeap)) (evOps_cut 1 (by kernel_rfl) (evOps_data (some ((.bool (ieq x243 (0 : Int))), (⟨2, objTr [(.cells tab0 true false []), (.cells [(.int .i64 x235), (Sl.v 2 s237)] false false [])] 0 .nil, true⟩ : AHeap))) (by kernel_rfl) (show _ = some ((.bool true), _) from (by rw [h269])) (okAt_of (by kernel_rfl) (by kernel_rfl)) (by kernel_rfl))) ?_
        exact ⟨(s239, x243, (nt (ieq (Int.ofNat (Sl.n s239)) x235)), x235, s237), hm, (.gc [] [false] [.tmp 2 false] [1, 2, 6, 17] (by kernel_rfl) trivial (by kernel_rfl))⟩
      · skip
        refine .reg (F' := (Fr.puts (⟨24, frTr [(1, (Sl.v 1 s239)), (2, (.pointer (some ⟨1, 0, none⟩))), (6, (.int .i64 x243))] .nil⟩ : Fr) [(9, (.int .i64 x243)), (10, (.bool false)), (11, (.bool false)), (12, (.tuple ⟨[]⟩)), (13, (.tuple ⟨[]⟩)), (14, (.tuple ⟨[]⟩)), (15, (.tuple ⟨[]⟩)), (16, (.tuple ⟨[]⟩)), (17, (.bool false))])) (H' := (⟨2, objTr [(.cells tab0 true false []), (.cells [(.int .i64 x235), (Sl.v 2 s237)] false false [])] 0 .nil, true⟩ : AHeap)) (evOps_cut 1 (by kernel_rfl) (evOps_data (some ((.bool (ieq x243 (0 : Int))), (⟨2, objTr [(.cells tab0 true false []), (.cells [(.int .i64 x235), (Sl.v 2 s237)] false false [])] 0 .nil, true⟩ : AHeap))) (by kernel_rfl) (show _ = some ((.bool false), _) from (by rw [h269])) (okAt_of (by kernel_rfl) (by kernel_rfl)) (by kernel_rfl))) ?_
        exact ⟨(s239, x243, false, x235, s237), hm, (.gc [] [false] [.tmp 2 false] [1, 2, 6, 17] (by kernel_rfl) trivial (by kernel_rfl))⟩
/-- spadille/spadillelaw07.same -/
def o8_0 : List ROp := [
  ⟨(some 4), .assign (.const (.bool false)), 4, none, []⟩]
def c8_0 : RC := .reg [] o8_0
def o8_1 : List ROp := [
  ⟨(some 6), .move (.tmp 0), 25, none, []⟩,
  ⟨(some 7), .call ⟨.builtin .len, #[(.tmp 6)], #[25]⟩, 3, none, []⟩,
  ⟨(some 8), .move (.tmp 1), 25, none, []⟩,
  ⟨(some 9), .call ⟨.builtin .len, #[(.tmp 8)], #[25]⟩, 3, none, []⟩,
  ⟨(some 10), .binOp .neq 3 (.tmp 7) (.tmp 9) 3, 4, none, []⟩]
def c8_1 : RC := .reg [] o8_1
def o8_2 : List ROp := [
  ⟨(some 4), .assign (.const (.bool false)), 4, none, []⟩]
def c8_2 : RC := .reg [] o8_2
def c8_3 : RC := .seq c8_2 .ret
def c8_4 : RC := .cond (.tmp 10) c8_3 .skip
def c8_5 : RC := .seq c8_1 c8_4
def o8_6 : List ROp := [
  ⟨(some 5), .assign (.const (.int .i64 0)), 3, none, []⟩]
def c8_6 : RC := .reg [] o8_6
def o8_7 : List ROp := [
  ⟨(some 11), .move (.tmp 5), 3, none, []⟩,
  ⟨(some 12), .move (.tmp 0), 25, none, []⟩,
  ⟨(some 13), .call ⟨.builtin .len, #[(.tmp 12)], #[25]⟩, 3, none, []⟩,
  ⟨(some 14), .binOp .lss 3 (.tmp 11) (.tmp 13) 3, 4, none, []⟩]
def c8_7 : RC := .reg [] o8_7
def c8_8 : RC := .cond (.tmp 14) .skip (.exit 0)
def c8_9 : RC := .seq c8_7 c8_8
def o8_10 : List ROp := [
  ⟨(some 17), .move (.tmp 0), 25, none, []⟩,
  ⟨(some 18), .move (.tmp 5), 3, none, []⟩,
  ⟨(some 19), .indexAddr 25 (.tmp 17) (.tmp 18), 0, none, []⟩,
  ⟨(some 20), .load 3 (.tmp 19), 3, none, []⟩,
  ⟨(some 21), .move (.tmp 1), 25, none, []⟩,
  ⟨(some 22), .move (.tmp 5), 3, none, []⟩,
  ⟨(some 23), .indexAddr 25 (.tmp 21) (.tmp 22), 0, none, []⟩,
  ⟨(some 24), .load 3 (.tmp 23), 3, none, []⟩,
  ⟨(some 25), .binOp .neq 3 (.tmp 20) (.tmp 24) 3, 4, none, []⟩]
def c8_10 : RC := .reg [0, 1, 2, 3, 4, 5, 6, 7, 8] o8_10
def o8_11 : List ROp := [
  ⟨(some 4), .assign (.const (.bool false)), 4, none, []⟩]
def c8_11 : RC := .reg [] o8_11
def c8_12 : RC := .seq c8_11 .ret
def c8_13 : RC := .cond (.tmp 25) c8_12 .skip
def c8_14 : RC := .seq c8_10 c8_13
def c8_15 : RC := .block 1 c8_14
def o8_16 : List ROp := [
  ⟨(some 15), .move (.tmp 5), 3, none, []⟩,
  ⟨(some 16), .binOp .add 3 (.tmp 15) (.const (.int .i64 1)) 3, 3, none, []⟩,
  ⟨(some 5), .assign (.tmp 16), 3, none, []⟩]
def c8_16 : RC := .reg [] o8_16
def c8_17 : RC := .seq c8_15 c8_16
def c8_18 : RC := .seq c8_9 c8_17
def c8_19 : RC := .loop c8_18
def c8_20 : RC := .block 0 c8_19
def c8_21 : RC := .seq c8_6 c8_20
def o8_22 : List ROp := [
  ⟨(some 4), .assign (.const (.bool true)), 4, none, []⟩]
def c8_22 : RC := .reg [] o8_22
def c8_23 : RC := .seq c8_22 .ret
def c8_24 : RC := .seq c8_21 c8_23
def c8_25 : RC := .seq c8_5 c8_24
def c8_26 : RC := .seq c8_0 c8_25
def m8_0 (pu : PureF) (n : Nat) : Option Value :=
  (some (.bool true))
def b8_1 (pu : PureF) (n : Nat) (ih0 : Sl → Sl → Int → Option Value) (s292 : Sl) (s293 : Sl) (z294 : Int) : Option Value :=
  (bb (ilt z294 (Int.ofNat (Sl.n s292))) (oo (toN z294) none fun k296 => (bb (an (Nat.blt k296 (Sl.n s292)) true) (oo (nthL (Sl.cs s292) (k296 * 1)) none fun v299 => (oo (toI .i64 v299) none fun x301 => (bb (an (Nat.blt k296 (Sl.n s293)) true) (oo (nthL (Sl.cs s293) (k296 * 1)) none fun v304 => (oo (toI .i64 v304) none fun x306 => (bb (nt (ieq x301 x306)) (some (.bool false)) (ih0 s292 s293 (wrapF .i64 (Int.add (Int.ofNat k296) (1 : Int))))))) none))) none)) (m8_0 pu n))
def l8_1 (pu : PureF) (n : Nat) (w : Nat) : Sl → Sl → Int → Option Value :=
  Nat.rec (motive := fun _ => Sl → Sl → Int → Option Value) (fun _ _ _ => none) (fun _ ih0 => b8_1 pu n ih0) w
def m8_ (pu : PureF) (n : Nat) (s270 : Sl) (s272 : Sl) : Option Value :=
  (bb (nt (ieq (Int.ofNat (Sl.n s270)) (Int.ofNat (Sl.n s272)))) (some (.bool false)) (l8_1 pu n n s270 s272 (0 : Int)))
def m8 (pu : PureF) (n : Nat) (args : List Value) : Option Value :=
  (ll args none fun a0 args => (ll args none fun a1 args => (ll args (oo (toSl 1 a0) none fun s270 => (oo (toSl 1 a1) none fun s272 => (m8_ pu n s270 s272))) fun _ _ => none)))
theorem r8 {call : CallF} (pu : PureF) (n : Nat) (hcall : call = callP tabs isP pu inl) {args : List Value} {v : Value} (hm : m8 pu n args = some v) (_ : ∀ x ∈ args, closed2 x = true) : args.length ≤ 26 ∧ Run tt call 1 c8_26 (Fr.made 26 args) (pureHeap tabs) (Fin tt 1 [.tmp 4] v) := by
  subst hcall
  unfold m8 at hm
  have hq := ll_uncons hm; clear hm; obtain ⟨a0, args_0, rfl, hm⟩ := hq
  have hq := ll_uncons hm; clear hm; obtain ⟨a1, args_1, rfl, hm⟩ := hq
  have hq := ll_end hm; clear hm; obtain ⟨rfl, hm⟩ := hq
  have hq := oo_inv hm; clear hm; obtain ⟨s270, h271, hm⟩ := hq
  obtain rfl := toSl_some h271
  have hq := oo_inv hm; clear hm; obtain ⟨s272, h273, hm⟩ := hq
  obtain rfl := toSl_some h273
  unfold m8_ at hm
  refine ⟨by simp, ?_⟩
  refine .same (F' := (⟨26, frTr [(0, (Sl.v 1 s270)), (1, (Sl.v 1 s272))] .nil⟩ : Fr)) (H' := (⟨1, objTr [(.cells tab0 true false [])] 0 .nil, true⟩ : AHeap)) (by kernel_rfl) (by kernel_rfl) ?_
  refine .then ?_
  refine .reg (F' := (Fr.puts (⟨26, frTr [(0, (Sl.v 1 s270)), (1, (Sl.v 1 s272))] .nil⟩ : Fr) [(4, (.bool false))])) (H' := (⟨1, objTr [(.cells tab0 true false [])] 0 .nil, true⟩ : AHeap)) (by kernel_rfl) ?_
  refine .ghs (⟨26, frTr [(0, (Sl.v 1 s270)), (1, (Sl.v 1 s272))] .nil⟩ : Fr) (⟨1, objTr [(.cells tab0 true false [])] 0 .nil, true⟩ : AHeap) (.gc [] [false] [] [0, 1] (by kernel_rfl) trivial (by kernel_rfl)) ?_
  refine .then ?_
  refine .then ?_
  refine .reg (F' := (Fr.puts (⟨26, frTr [(0, (Sl.v 1 s270)), (1, (Sl.v 1 s272))] .nil⟩ : Fr) [(6, (Sl.v 1 s270)), (7, (.int .i64 (Int.ofNat (Sl.n s270)))), (8, (Sl.v 1 s272)), (9, (.int .i64 (Int.ofNat (Sl.n s272)))), (10, (.bool (nt (ieq (Int.ofNat (Sl.n s270)) (Int.ofNat (Sl.n s272))))))])) (H' := (⟨1, objTr [(.cells tab0 true false [])] 0 .nil, true⟩ : AHeap)) (by kernel_rfl) ?_
  refine .ghs (⟨26, frTr [(0, (Sl.v 1 s270)), (1, (Sl.v 1 s272)), (10, (.bool (nt (ieq (Int.ofNat (Sl.n s270)) (Int.ofNat (Sl.n s272))))))] .nil⟩ : Fr) (⟨1, objTr [(.cells tab0 true false [])] 0 .nil, true⟩ : AHeap) (.gc [] [false] [] [0, 1, 10] (by kernel_rfl) trivial (by kernel_rfl)) ?_
  have hq := bb_cases hm; clear hm; rcases hq with ⟨h274, hm⟩ | ⟨h274, hm⟩
  · refine .ifT (nt (ieq (Int.ofNat (Sl.n s270)) (Int.ofNat (Sl.n s272)))) (by kernel_rfl) h274 ?_
    refine .then ?_
    refine .reg (F' := (Fr.puts (⟨26, frTr [(0, (Sl.v 1 s270)), (1, (Sl.v 1 s272)), (10, (.bool (nt (ieq (Int.ofNat (Sl.n s270)) (Int.ofNat (Sl.n s272))))))] .nil⟩ : Fr) [(4, (.bool false))])) (H' := (⟨1, objTr [(.cells tab0 true false [])] 0 .nil, true⟩ : AHeap)) (by kernel_rfl) ?_
    refine .ghs (⟨26, frTr [(4, (.bool false))] .nil⟩ : Fr) (⟨1, objTr [(.cells tab0 true false [])] 0 .nil, true⟩ : AHeap) (.gc [] [false] [] [4] (by kernel_rfl) trivial (by kernel_rfl)) ?_
    refine .ret ?_
    exact fin_ret (.bool false) (by kernel_rfl) (by kernel_rfl) hm
  · refine .ifF (nt (ieq (Int.ofNat (Sl.n s270)) (Int.ofNat (Sl.n s272)))) (by kernel_rfl) h274 ?_
    refine .skip ?_
    refine .ghs (⟨26, frTr [(0, (Sl.v 1 s270)), (1, (Sl.v 1 s272))] .nil⟩ : Fr) (⟨1, objTr [(.cells tab0 true false [])] 0 .nil, true⟩ : AHeap) (.gc [] [false] [] [0, 1] (by kernel_rfl) trivial (by kernel_rfl)) ?_
    refine .join (v := v) (fun y : Unit => ((⟨26, frTr [] .nil⟩ : Fr), (⟨1, objTr [(.cells tab0 true false [])] 0 .nil, true⟩ : AHeap))) (fun y => m8_0 pu n) ?_ ?_
    · rintro _ hm
      unfold m8_0 at hm
      refine .then ?_
      refine .reg (F' := (Fr.puts (⟨26, frTr [] .nil⟩ : Fr) [(4, (.bool true))])) (H' := (⟨1, objTr [(.cells tab0 true false [])] 0 .nil, true⟩ : AHeap)) (by kernel_rfl) ?_
      refine .ghs (⟨26, frTr [(4, (.bool true))] .nil⟩ : Fr) (⟨1, objTr [(.cells tab0 true false [])] 0 .nil, true⟩ : AHeap) (.gc [] [false] [] [4] (by kernel_rfl) trivial (by kernel_rfl)) ?_
      refine .ret ?_
      exact fin_ret (.bool true) (by kernel_rfl) (by kernel_rfl) hm
    · skip
      refine .then ?_
      refine .reg (F' := (Fr.puts (⟨26, frTr [(0, (Sl.v 1 s270)), (1, (Sl.v 1 s272))] .nil⟩ : Fr) [(5, (.int .i64 (0 : Int)))])) (H' := (⟨1, objTr [(.cells tab0 true false [])] 0 .nil, true⟩ : AHeap)) (by kernel_rfl) ?_
      refine .ghs (⟨26, frTr [(0, (Sl.v 1 s270)), (1, (Sl.v 1 s272)), (5, (.int .i64 (0 : Int)))] .nil⟩ : Fr) (⟨1, objTr [(.cells tab0 true false [])] 0 .nil, true⟩ : AHeap) (.gc [] [false] [] [0, 1, 5] (by kernel_rfl) trivial (by kernel_rfl)) ?_
      refine .block ?_
      refine .loopM (v := v) (fun y : Sl × Sl × Int => ((⟨26, frTr [(0, (Sl.v 1 y.1)), (1, (Sl.v 1 y.2.1)), (5, (.int .i64 y.2.2))] .nil⟩ : Fr), (⟨1, objTr [(.cells tab0 true false [])] 0 .nil, true⟩ : AHeap))) (fun w y => l8_1 pu n w y.1 y.2.1 y.2.2) n ⟨(s270, s272, (0 : Int)), hm, (.gc [] [false] [] [0, 1, 5] (by kernel_rfl) trivial (by kernel_rfl))⟩ (fun _ => rfl) ?_
      rintro w0 ⟨s292, s293, z294⟩ hm
      refine .then ?_
      refine .then ?_
      refine .reg (F' := (Fr.puts (⟨26, frTr [(0, (Sl.v 1 s292)), (1, (Sl.v 1 s293)), (5, (.int .i64 z294))] .nil⟩ : Fr) [(11, (.int .i64 z294)), (12, (Sl.v 1 s292)), (13, (.int .i64 (Int.ofNat (Sl.n s292)))), (14, (.bool (ilt z294 (Int.ofNat (Sl.n s292)))))])) (H' := (⟨1, objTr [(.cells tab0 true false [])] 0 .nil, true⟩ : AHeap)) (by kernel_rfl) ?_
      refine .ghs (⟨26, frTr [(0, (Sl.v 1 s292)), (1, (Sl.v 1 s293)), (5, (.int .i64 z294)), (14, (.bool (ilt z294 (Int.ofNat (Sl.n s292)))))] .nil⟩ : Fr) (⟨1, objTr [(.cells tab0 true false [])] 0 .nil, true⟩ : AHeap) (.gc [] [false] [] [0, 1, 5, 14] (by kernel_rfl) trivial (by kernel_rfl)) ?_
      have hq := bb_cases hm; clear hm; rcases hq with ⟨h295, hm⟩ | ⟨h295, hm⟩
      · refine .ifT (ilt z294 (Int.ofNat (Sl.n s292))) (by kernel_rfl) h295 ?_
        refine .skip ?_
        refine .ghs (⟨26, frTr [(0, (Sl.v 1 s292)), (1, (Sl.v 1 s293)), (5, (.int .i64 z294))] .nil⟩ : Fr) (⟨1, objTr [(.cells tab0 true false [])] 0 .nil, true⟩ : AHeap) (.gc [] [false] [] [0, 1, 5] (by kernel_rfl) trivial (by kernel_rfl)) ?_
        refine .then ?_
        refine .block ?_
        refine .then ?_
        have hq := oo_inv hm; clear hm; obtain ⟨k296, h297, hm⟩ := hq
        obtain rfl := toN_some h297
        have hq := bb_inv hm; clear hm; obtain ⟨h298, hm⟩ := hq
        have hq := oo_inv hm; clear hm; obtain ⟨v299, h300, hm⟩ := hq
        have hq := oo_inv hm; clear hm; obtain ⟨x301, h302, hm⟩ := hq
        obtain rfl := toI_some h302
        have hq := bb_inv hm; clear hm; obtain ⟨h303, hm⟩ := hq
        have hq := oo_inv hm; clear hm; obtain ⟨v304, h305, hm⟩ := hq
        have hq := oo_inv hm; clear hm; obtain ⟨x306, h307, hm⟩ := hq
        obtain rfl := toI_some h307
        refine .reg (F' := (Fr.puts (⟨26, frTr [(0, (Sl.v 1 s292)), (1, (Sl.v 1 s293)), (5, (.int .i64 (Int.ofNat k296)))] .nil⟩ : Fr) [(17, (Sl.v 1 s292)), (18, (.int .i64 (Int.ofNat k296))), (19, (fpV (k296 * 1) (Sl.cs s292))), (20, (.int .i64 x301)), (21, (Sl.v 1 s293)), (22, (.int .i64 (Int.ofNat k296))), (23, (fpV (k296 * 1) (Sl.cs s293))), (24, (.int .i64 x306)), (25, (.bool (nt (ieq x301 x306))))])) (H' := (⟨1, objTr [(.cells tab0 true false [])] 0 .nil, true⟩ : AHeap)) (evOps_cut 2 (by kernel_rfl) (evOps_data (keep (⟨1, objTr [(.cells tab0 true false [])] 0 .nil, true⟩ : AHeap) (bb (an (Nat.blt k296 (Sl.n s292)) true) (some (fpV (k296 * 1) (Sl.cs s292))) none)) (by kernel_rfl) (keep_bb h298) (okAt_of (by kernel_rfl) (by kernel_rfl)) (evOps_data (keep (⟨1, objTr [(.cells tab0 true false [])] 0 .nil, true⟩ : AHeap) (nthL (Sl.cs s292) (k296 * 1))) (by kernel_rfl) (keep_eq h300) (okAt_of (by kernel_rfl) (by kernel_rfl)) (evOps_cut 2 (by kernel_rfl) (evOps_data (keep (⟨1, objTr [(.cells tab0 true false [])] 0 .nil, true⟩ : AHeap) (bb (an (Nat.blt k296 (Sl.n s293)) true) (some (fpV (k296 * 1) (Sl.cs s293))) none)) (by kernel_rfl) (keep_bb h303) (okAt_of (by kernel_rfl) (by kernel_rfl)) (evOps_data (keep (⟨1, objTr [(.cells tab0 true false [])] 0 .nil, true⟩ : AHeap) (nthL (Sl.cs s293) (k296 * 1))) (by kernel_rfl) (keep_eq h305) (okAt_of (by kernel_rfl) (by kernel_rfl)) (by kernel_rfl))))))) ?_
        refine .ghs (⟨26, frTr [(0, (Sl.v 1 s292)), (1, (Sl.v 1 s293)), (5, (.int .i64 (Int.ofNat k296))), (25, (.bool (nt (ieq x301 x306))))] .nil⟩ : Fr) (⟨1, objTr [(.cells tab0 true false [])] 0 .nil, true⟩ : AHeap) (.gc [] [false] [] [0, 1, 5, 25] (by kernel_rfl) trivial (by kernel_rfl)) ?_
        have hq := bb_cases hm; clear hm; rcases hq with ⟨h308, hm⟩ | ⟨h308, hm⟩
        · refine .ifT (nt (ieq x301 x306)) (by kernel_rfl) h308 ?_
          refine .then ?_
          refine .reg (F' := (Fr.puts (⟨26, frTr [(0, (Sl.v 1 s292)), (1, (Sl.v 1 s293)), (5, (.int .i64 (Int.ofNat k296))), (25, (.bool (nt (ieq x301 x306))))] .nil⟩ : Fr) [(4, (.bool false))])) (H' := (⟨1, objTr [(.cells tab0 true false [])] 0 .nil, true⟩ : AHeap)) (by kernel_rfl) ?_
          refine .ghs (⟨26, frTr [(4, (.bool false))] .nil⟩ : Fr) (⟨1, objTr [(.cells tab0 true false [])] 0 .nil, true⟩ : AHeap) (.gc [] [false] [] [4] (by kernel_rfl) trivial (by kernel_rfl)) ?_
          refine .ret ?_
          exact fin_ret (.bool false) (by kernel_rfl) (by kernel_rfl) hm
        · refine .ifF (nt (ieq x301 x306)) (by kernel_rfl) h308 ?_
          refine .skip ?_
          refine .ghs (⟨26, frTr [(0, (Sl.v 1 s292)), (1, (Sl.v 1 s293)), (5, (.int .i64 (Int.ofNat k296)))] .nil⟩ : Fr) (⟨1, objTr [(.cells tab0 true false [])] 0 .nil, true⟩ : AHeap) (.gc [] [false] [] [0, 1, 5] (by kernel_rfl) trivial (by kernel_rfl)) ?_
          refine .reg (F' := (Fr.puts (⟨26, frTr [(0, (Sl.v 1 s292)), (1, (Sl.v 1 s293)), (5, (.int .i64 (Int.ofNat k296)))] .nil⟩ : Fr) [(15, (.int .i64 (Int.ofNat k296))), (16, (.int .i64 (wrapF .i64 (Int.add (Int.ofNat k296) (1 : Int))))), (5, (.int .i64 (wrapF .i64 (Int.add (Int.ofNat k296) (1 : Int)))))])) (H' := (⟨1, objTr [(.cells tab0 true false [])] 0 .nil, true⟩ : AHeap)) (by kernel_rfl) ?_
          exact ⟨(s292, s293, (wrapF .i64 (Int.add (Int.ofNat k296) (1 : Int)))), hm, (.gc [] [false] [] [0, 1, 5] (by kernel_rfl) trivial (by kernel_rfl))⟩
      · refine .ifF (ilt z294 (Int.ofNat (Sl.n s292))) (by kernel_rfl) h295 ?_
        refine .exit ?_
        exact ⟨(), hm, (.gc [] [false] [] [] (by kernel_rfl) trivial (by kernel_rfl))⟩
/-- spadille/table.Check -/
def o9_0 : List ROp := [
  ⟨(some 1), .box 24 (.tmp 0), 0, none, []⟩,
  ⟨(some 2), .assign (.const (.int .i64 0)), 29, none, []⟩]
def c9_0 : RC := .reg [] o9_0
def o9_1 : List ROp := [
  ⟨(some 6), .fieldAddr 24 (.tmp 1) 0, 0, none, []⟩,
  ⟨(some 7), .load 3 (.tmp 6), 3, none, []⟩,
  ⟨(some 8), .call ⟨.value (.func 31), #[(.const (.int .i64 1)), (.tmp 7), (.const (.int .i64 7))], #[3, 3, 3]⟩, 4, none, []⟩,
  ⟨(some 9), .unOp .not 4 (.tmp 8), 4, none, []⟩,
  ⟨(some 5), .assign (.tmp 9), 4, none, []⟩]
def c9_1 : RC := .reg [] o9_1
def o9_2 : List ROp := [
  ⟨(some 2), .assign (.const (.int .i64 1)), 29, none, []⟩]
def c9_2 : RC := .reg [] o9_2
def c9_3 : RC := .seq c9_2 .ret
def o9_4 : List ROp := [
  ⟨(some 11), .fieldAddr 24 (.tmp 1) 1, 0, none, []⟩,
  ⟨(some 12), .load 22 (.tmp 11), 22, none, []⟩,
  ⟨(some 13), .call ⟨.builtin .len, #[(.tmp 12)], #[22]⟩, 3, none, []⟩,
  ⟨(some 14), .binOp .gtr 3 (.tmp 13) (.const (.int .i64 24)) 3, 4, none, []⟩,
  ⟨(some 10), .assign (.tmp 14), 4, none, []⟩]
def c9_4 : RC := .reg [] o9_4
def o9_5 : List ROp := [
  ⟨(some 2), .assign (.const (.int .i64 3)), 29, none, []⟩]
def c9_5 : RC := .reg [] o9_5
def c9_6 : RC := .seq c9_5 .ret
def c9_7 : RC := .cond (.tmp 10) c9_6 .skip
def c9_8 : RC := .seq c9_4 c9_7
def c9_9 : RC := .cond (.tmp 5) c9_3 c9_8
def c9_10 : RC := .seq c9_1 c9_9
def c9_11 : RC := .block 0 c9_10
def o9_12 : List ROp := [
  ⟨(some 15), .fieldAddr 24 (.tmp 1) 1, 0, none, []⟩,
  ⟨(some 16), .load 22 (.tmp 15), 22, none, []⟩,
  ⟨(some 17), .call ⟨.builtin .len, #[(.tmp 16)], #[22]⟩, 3, none, []⟩,
  ⟨(some 18), .move (.const (.int .i64 0)), 3, none, []⟩]
def c9_12 : RC := .reg [] o9_12
def o9_13 : List ROp := [
  ⟨(some 19), .binOp .lss 3 (.tmp 18) (.tmp 17) 3, 0, none, []⟩]
def c9_13 : RC := .reg [] o9_13
def c9_14 : RC := .cond (.tmp 19) .skip (.exit 1)
def o9_15 : List ROp := [
  ⟨(some 20), .indexAddr 22 (.tmp 16) (.tmp 18), 0, none, []⟩,
  ⟨(some 21), .load 55 (.tmp 20), 55, none, []⟩,
  ⟨(some 4), .alloc 55, 0, none, []⟩,
  ⟨none, .store 55 (.tmp 4) (.tmp 21), 0, none, []⟩]
def c9_15 : RC := .reg [] o9_15
def o9_16 : List ROp := [
  ⟨(some 23), .indexAddr 55 (.tmp 4) (.const (.int .i64 0)), 0, none, []⟩,
  ⟨(some 24), .load 3 (.tmp 23), 3, none, []⟩,
  ⟨(some 25), .indexAddr 55 (.tmp 4) (.const (.int .i64 1)), 0, none, []⟩,
  ⟨(some 26), .load 3 (.tmp 25), 3, none, []⟩,
  ⟨(some 27), .call ⟨.builtin .min, #[(.tmp 24), (.tmp 26)], #[3, 3]⟩, 3, none, []⟩,
  ⟨(some 28), .binOp .lss 3 (.tmp 27) (.const (.int .i64 0)) 3, 4, none, []⟩,
  ⟨(some 29), .move (.tmp 28), 4, none, []⟩,
  ⟨(some 30), .indexAddr 55 (.tmp 4) (.const (.int .i64 0)), 0, (some ((some 29), false)), []⟩,
  ⟨(some 31), .load 3 (.tmp 30), 3, (some ((some 29), false)), []⟩,
  ⟨(some 32), .indexAddr 55 (.tmp 4) (.const (.int .i64 1)), 0, (some ((some 29), false)), []⟩,
  ⟨(some 33), .load 3 (.tmp 32), 3, (some ((some 29), false)), []⟩,
  ⟨(some 34), .call ⟨.builtin .max, #[(.tmp 31), (.tmp 33)], #[3, 3]⟩, 3, (some ((some 29), false)), []⟩,
  ⟨(some 35), .fieldAddr 24 (.tmp 1) 0, 0, (some ((some 29), false)), []⟩,
  ⟨(some 36), .load 3 (.tmp 35), 3, (some ((some 29), false)), []⟩,
  ⟨(some 37), .binOp .geq 3 (.tmp 34) (.tmp 36) 3, 4, (some ((some 29), false)), []⟩,
  ⟨(some 38), .pick (.tmp 29) (.const (.bool true)) (.tmp 37), 4, none, []⟩,
  ⟨(some 22), .assign (.tmp 38), 4, none, []⟩]
def c9_16 : RC := .reg [] o9_16
def o9_17 : List ROp := [
  ⟨(some 2), .assign (.const (.int .i64 2)), 29, none, []⟩]
def c9_17 : RC := .reg [] o9_17
def c9_18 : RC := .seq c9_17 .ret
def o9_19 : List ROp := [
  ⟨(some 40), .indexAddr 55 (.tmp 4) (.const (.int .i64 0)), 0, none, []⟩,
  ⟨(some 41), .load 3 (.tmp 40), 3, none, []⟩,
  ⟨(some 42), .indexAddr 55 (.tmp 4) (.const (.int .i64 1)), 0, none, []⟩,
  ⟨(some 43), .load 3 (.tmp 42), 3, none, []⟩,
  ⟨(some 44), .binOp .geq 3 (.tmp 41) (.tmp 43) 3, 4, none, []⟩,
  ⟨(some 39), .assign (.tmp 44), 4, none, []⟩]
def c9_19 : RC := .reg [] o9_19
def o9_20 : List ROp := [
  ⟨(some 2), .assign (.const (.int .i64 7)), 29, none, []⟩]
def c9_20 : RC := .reg [] o9_20
def c9_21 : RC := .seq c9_20 .ret
def c9_22 : RC := .cond (.tmp 39) c9_21 .skip
def c9_23 : RC := .seq c9_19 c9_22
def c9_24 : RC := .cond (.tmp 22) c9_18 c9_23
def c9_25 : RC := .seq c9_16 c9_24
def c9_26 : RC := .block 3 c9_25
def c9_27 : RC := .seq c9_15 c9_26
def c9_28 : RC := .block 2 c9_27
def o9_29 : List ROp := [
  ⟨(some 45), .binOp .add 3 (.tmp 18) (.const (.int .i64 1)) 3, 3, none, []⟩,
  ⟨(some 18), .move (.tmp 45), 3, none, []⟩]
def c9_29 : RC := .reg [] o9_29
def c9_30 : RC := .seq c9_28 c9_29
def c9_31 : RC := .seq c9_14 c9_30
def c9_32 : RC := .seq c9_13 c9_31
def c9_33 : RC := .loop c9_32
def c9_34 : RC := .block 1 c9_33
def c9_35 : RC := .seq c9_12 c9_34
def o9_36 : List ROp := [
  ⟨(some 2), .assign (.const (.int .i64 0)), 29, none, []⟩]
def c9_36 : RC := .reg [] o9_36
def c9_37 : RC := .seq c9_36 .ret
def c9_38 : RC := .seq c9_35 c9_37
def c9_39 : RC := .seq c9_11 c9_38
def c9_40 : RC := .seq c9_0 c9_39
def m9_0 (pu : PureF) (n : Nat) : Option Value :=
  (some (.int .i64 (0 : Int)))
def m9_2 (pu : PureF) (n : Nat) (ih0 : Sl → Int → Int → Int → Sl → Option Value) (s372 : Sl) (z373 : Int) (z374 : Int) (b375 : Bool) (z376 : Int) (s377 : Sl) (z378 : Int) (z379 : Int) : Option Value :=
  (bb b375 (some (.int .i64 (2 : Int))) (bb (nt (ilt z378 z379)) (some (.int .i64 (7 : Int))) (ih0 s372 z373 (wrapF .i64 (Int.add z374 (1 : Int))) z376 s377)))
def b9_1 (pu : PureF) (n : Nat) (ih0 : Sl → Int → Int → Int → Sl → Option Value) (s353 : Sl) (z354 : Int) (z355 : Int) (z356 : Int) (s357 : Sl) : Option Value :=
  (bb (ilt z355 z354) (oo (toN z355) none fun k359 => (bb (an (Nat.blt k359 (Sl.n s353)) true) (bb (Nat.ble ((k359 * 2) + 2) (len (Sl.cs s353))) (oo (nthL (Sl.cs s353) (k359 * 2)) none fun v363 => (oo (toI .i64 v363) none fun x365 => (oo (nthL (Sl.cs s353) ((k359 * 2) + 1)) none fun v367 => (oo (toI .i64 v367) none fun x369 => (bb (ilt (bb (ilt x369 x365) x369 x365) (0 : Int)) (m9_2 pu n ih0 s353 z354 (Int.ofNat k359) true z356 s357 x365 x369) (m9_2 pu n ih0 s353 z354 (Int.ofNat k359) (nt (ilt (bb (ilt x365 x369) x369 x365) z356)) z356 s357 x365 x369)))))) none) none)) (m9_0 pu n))
def l9_1 (pu : PureF) (n : Nat) (w : Nat) : Sl → Int → Int → Int → Sl → Option Value :=
  Nat.rec (motive := fun _ => Sl → Int → Int → Int → Sl → Option Value) (fun _ _ _ _ _ => none) (fun _ ih0 => b9_1 pu n ih0) w
def m9_ (pu : PureF) (n : Nat) (x313 : Int) (s315 : Sl) : Option Value :=
  (oo (pu 31 [(.int .i64 (1 : Int)), (.int .i64 x313), (.int .i64 (7 : Int))]) none fun v317 => (oo (vBool v317) none fun b319 => (bb (nt b319) (some (.int .i64 (1 : Int))) (bb (ilt (24 : Int) (Int.ofNat (Sl.n s315))) (some (.int .i64 (3 : Int))) (l9_1 pu n n s315 (Int.ofNat (Sl.n s315)) (0 : Int) x313 s315)))))
def m9 (pu : PureF) (n : Nat) (args : List Value) : Option Value :=
  (ll args none fun a0 args => (ll args (oo (vAgg a0) none fun l309 => (ll l309 none fun v311 l309 => (ll l309 none fun v312 l309 => (ll l309 (oo (toI .i64 v311) none fun x313 => (oo (toSl 2 v312) none fun s315 => (m9_ pu n x313 s315))) fun _ _ => none)))) fun _ _ => none))
theorem r9 {call : CallF} (pu : PureF) (n : Nat) (hcall : call = callP tabs isP pu inl) {args : List Value} {v : Value} (hm : m9 pu n args = some v) (_ : ∀ x ∈ args, closed2 x = true) : args.length ≤ 46 ∧ Run tt call 1 c9_40 (Fr.made 46 args) (pureHeap tabs) (Fin tt 1 [.tmp 2] v) := by
  subst hcall
  unfold m9 at hm
  have hq := ll_uncons hm; clear hm; obtain ⟨a0, args_0, rfl, hm⟩ := hq
  have hq := ll_end hm; clear hm; obtain ⟨rfl, hm⟩ := hq
  have hq := oo_inv hm; clear hm; obtain ⟨l309, h310, hm⟩ := hq
  obtain rfl := vAgg_some h310
  have hq := ll_uncons hm; clear hm; obtain ⟨v311, l309_0, rfl, hm⟩ := hq
  have hq := ll_uncons hm; clear hm; obtain ⟨v312, l309_1, rfl, hm⟩ := hq
  have hq := ll_end hm; clear hm; obtain ⟨rfl, hm⟩ := hq
  have hq := oo_inv hm; clear hm; obtain ⟨x313, h314, hm⟩ := hq
  obtain rfl := toI_some h314
  have hq := oo_inv hm; clear hm; obtain ⟨s315, h316, hm⟩ := hq
  obtain rfl := toSl_some h316
  unfold m9_ at hm
  refine ⟨by simp, ?_⟩
  refine .same (F' := (⟨46, frTr [(0, (.agg ⟨[(.int .i64 x313), (Sl.v 2 s315)]⟩))] .nil⟩ : Fr)) (H' := (⟨1, objTr [(.cells tab0 true false [])] 0 .nil, true⟩ : AHeap)) (by kernel_rfl) (by kernel_rfl) ?_
  refine .then ?_
  refine .reg (F' := (Fr.puts (⟨46, frTr [(0, (.agg ⟨[(.int .i64 x313), (Sl.v 2 s315)]⟩))] .nil⟩ : Fr) [(1, (.pointer (some ⟨1, 0, none⟩))), (2, (.int .i64 (0 : Int)))])) (H' := (⟨2, objTr [(.cells tab0 true false []), (.cells [(.int .i64 x313), (Sl.v 2 s315)] false false [])] 0 .nil, true⟩ : AHeap)) (by kernel_rfl) ?_
  refine .ghs (⟨46, frTr [(1, (.pointer (some ⟨1, 0, none⟩)))] .nil⟩ : Fr) (⟨2, objTr [(.cells tab0 true false []), (.cells [(.int .i64 x313), (Sl.v 2 s315)] false false [])] 0 .nil, true⟩ : AHeap) (.gc [] [false] [.tmp 1 false] [1] (by kernel_rfl) trivial (by kernel_rfl)) ?_
  refine .then ?_
  refine .block ?_
  refine .then ?_
  have hq := oo_inv hm; clear hm; obtain ⟨v317, h318, hm⟩ := hq
  have hq := oo_inv hm; clear hm; obtain ⟨b319, h320, hm⟩ := hq
  obtain rfl := vBool_some h320
  refine .reg (F' := (Fr.puts (⟨46, frTr [(1, (.pointer (some ⟨1, 0, none⟩)))] .nil⟩ : Fr) [(6, (.pointer (some ⟨1, 0, none⟩))), (7, (.int .i64 x313)), (8, (.bool b319)), (9, (.bool (nt b319))), (5, (.bool (nt b319)))])) (H' := (⟨2, objTr [(.cells tab0 true false []), (.cells [(.int .i64 x313), (Sl.v 2 s315)] false false [])] 0 .nil, true⟩ : AHeap)) (evOps_cut 2 (by kernel_rfl) (evOps_data ((oo (pu 31 [(.int .i64 (1 : Int)), (.int .i64 x313), (.int .i64 (7 : Int))]) none fun v => some (v, (⟨2, objTr [(.cells tab0 true false []), (.cells [(.int .i64 x313), (Sl.v 2 s315)] false false [])] 0 .nil, true⟩ : AHeap)))) (by kernel_rfl) (call_eq h318) (okAt_of (by kernel_rfl) (by kernel_rfl)) (by kernel_rfl))) ?_
  refine .ghs (⟨46, frTr [(1, (.pointer (some ⟨1, 0, none⟩))), (5, (.bool (nt b319)))] .nil⟩ : Fr) (⟨2, objTr [(.cells tab0 true false []), (.cells [(.int .i64 x313), (Sl.v 2 s315)] false false [])] 0 .nil, true⟩ : AHeap) (.gc [] [false] [.tmp 1 false] [1, 5] (by kernel_rfl) trivial (by kernel_rfl)) ?_
  have hq := bb_cases hm; clear hm; rcases hq with ⟨h321, hm⟩ | ⟨h321, hm⟩
  · refine .ifT (nt b319) (by kernel_rfl) h321 ?_
    refine .then ?_
    refine .reg (F' := (Fr.puts (⟨46, frTr [(1, (.pointer (some ⟨1, 0, none⟩))), (5, (.bool (nt b319)))] .nil⟩ : Fr) [(2, (.int .i64 (1 : Int)))])) (H' := (⟨2, objTr [(.cells tab0 true false []), (.cells [(.int .i64 x313), (Sl.v 2 s315)] false false [])] 0 .nil, true⟩ : AHeap)) (by kernel_rfl) ?_
    refine .ghs (⟨46, frTr [(2, (.int .i64 (1 : Int)))] .nil⟩ : Fr) (⟨1, objTr [(.cells tab0 true false [])] 0 .nil, true⟩ : AHeap) (.gc [] [false] [] [2] (by kernel_rfl) trivial (by kernel_rfl)) ?_
    refine .ret ?_
    exact fin_ret (.int .i64 (1 : Int)) (by kernel_rfl) (by kernel_rfl) hm
  · refine .ifF (nt b319) (by kernel_rfl) h321 ?_
    refine .then ?_
    refine .reg (F' := (Fr.puts (⟨46, frTr [(1, (.pointer (some ⟨1, 0, none⟩))), (5, (.bool (nt b319)))] .nil⟩ : Fr) [(11, (.pointer (some ⟨1, 1, none⟩))), (12, (Sl.v 2 s315)), (13, (.int .i64 (Int.ofNat (Sl.n s315)))), (14, (.bool (ilt (24 : Int) (Int.ofNat (Sl.n s315))))), (10, (.bool (ilt (24 : Int) (Int.ofNat (Sl.n s315)))))])) (H' := (⟨2, objTr [(.cells tab0 true false []), (.cells [(.int .i64 x313), (Sl.v 2 s315)] false false [])] 0 .nil, true⟩ : AHeap)) (by kernel_rfl) ?_
    refine .ghs (⟨46, frTr [(1, (.pointer (some ⟨1, 0, none⟩))), (10, (.bool (ilt (24 : Int) (Int.ofNat (Sl.n s315)))))] .nil⟩ : Fr) (⟨2, objTr [(.cells tab0 true false []), (.cells [(.int .i64 x313), (Sl.v 2 s315)] false false [])] 0 .nil, true⟩ : AHeap) (.gc [] [false] [.tmp 1 false] [1, 10] (by kernel_rfl) trivial (by kernel_rfl)) ?_
    have hq := bb_cases hm; clear hm; rcases hq with ⟨h322, hm⟩ | ⟨h322, hm⟩
    · refine .ifT (ilt (24 : Int) (Int.ofNat (Sl.n s315))) (by kernel_rfl) h322 ?_
      refine .then ?_
      refine .reg (F' := (Fr.puts (⟨46, frTr [(1, (.pointer (some ⟨1, 0, none⟩))), (10, (.bool (ilt (24 : Int) (Int.ofNat (Sl.n s315)))))] .nil⟩ : Fr) [(2, (.int .i64 (3 : Int)))])) (H' := (⟨2, objTr [(.cells tab0 true false []), (.cells [(.int .i64 x313), (Sl.v 2 s315)] false false [])] 0 .nil, true⟩ : AHeap)) (by kernel_rfl) ?_
      refine .ghs (⟨46, frTr [(2, (.int .i64 (3 : Int)))] .nil⟩ : Fr) (⟨1, objTr [(.cells tab0 true false [])] 0 .nil, true⟩ : AHeap) (.gc [] [false] [] [2] (by kernel_rfl) trivial (by kernel_rfl)) ?_
      refine .ret ?_
      exact fin_ret (.int .i64 (3 : Int)) (by kernel_rfl) (by kernel_rfl) hm
    · refine .ifF (ilt (24 : Int) (Int.ofNat (Sl.n s315))) (by kernel_rfl) h322 ?_
      refine .skip ?_
      refine .ghs (⟨46, frTr [(1, (.pointer (some ⟨1, 0, none⟩)))] .nil⟩ : Fr) (⟨2, objTr [(.cells tab0 true false []), (.cells [(.int .i64 x313), (Sl.v 2 s315)] false false [])] 0 .nil, true⟩ : AHeap) (.gc [] [false] [.tmp 1 false] [1] (by kernel_rfl) trivial (by kernel_rfl)) ?_
      refine .join (v := v) (fun y : Unit => ((⟨46, frTr [] .nil⟩ : Fr), (⟨1, objTr [(.cells tab0 true false [])] 0 .nil, true⟩ : AHeap))) (fun y => m9_0 pu n) ?_ ?_
      · rintro _ hm
        unfold m9_0 at hm
        refine .then ?_
        refine .reg (F' := (Fr.puts (⟨46, frTr [] .nil⟩ : Fr) [(2, (.int .i64 (0 : Int)))])) (H' := (⟨1, objTr [(.cells tab0 true false [])] 0 .nil, true⟩ : AHeap)) (by kernel_rfl) ?_
        refine .ghs (⟨46, frTr [(2, (.int .i64 (0 : Int)))] .nil⟩ : Fr) (⟨1, objTr [(.cells tab0 true false [])] 0 .nil, true⟩ : AHeap) (.gc [] [false] [] [2] (by kernel_rfl) trivial (by kernel_rfl)) ?_
        refine .ret ?_
        exact fin_ret (.int .i64 (0 : Int)) (by kernel_rfl) (by kernel_rfl) hm
      · skip
        refine .then ?_
        refine .reg (F' := (Fr.puts (⟨46, frTr [(1, (.pointer (some ⟨1, 0, none⟩)))] .nil⟩ : Fr) [(15, (.pointer (some ⟨1, 1, none⟩))), (16, (Sl.v 2 s315)), (17, (.int .i64 (Int.ofNat (Sl.n s315)))), (18, (.int .i64 (0 : Int)))])) (H' := (⟨2, objTr [(.cells tab0 true false []), (.cells [(.int .i64 x313), (Sl.v 2 s315)] false false [])] 0 .nil, true⟩ : AHeap)) (by kernel_rfl) ?_
        refine .ghs (⟨46, frTr [(1, (.pointer (some ⟨1, 0, none⟩))), (16, (Sl.v 2 s315)), (17, (.int .i64 (Int.ofNat (Sl.n s315)))), (18, (.int .i64 (0 : Int)))] .nil⟩ : Fr) (⟨2, objTr [(.cells tab0 true false []), (.cells [(.int .i64 x313), (Sl.v 2 s315)] false false [])] 0 .nil, true⟩ : AHeap) (.gc [] [false] [.tmp 1 false] [1, 16, 17, 18] (by kernel_rfl) trivial (by kernel_rfl)) ?_
        refine .block ?_
        refine .loopM (v := v) (fun y : Sl × Int × Int × Int × Sl => ((⟨46, frTr [(1, (.pointer (some ⟨1, 0, none⟩))), (16, (Sl.v 2 y.1)), (17, (.int .i64 y.2.1)), (18, (.int .i64 y.2.2.1))] .nil⟩ : Fr), (⟨2, objTr [(.cells tab0 true false []), (.cells [(.int .i64 y.2.2.2.1), (Sl.v 2 y.2.2.2.2)] false false [])] 0 .nil, true⟩ : AHeap))) (fun w y => l9_1 pu n w y.1 y.2.1 y.2.2.1 y.2.2.2.1 y.2.2.2.2) n ⟨(s315, (Int.ofNat (Sl.n s315)), (0 : Int), x313, s315), hm, (.gc [] [false] [.tmp 1 false] [1, 16, 17, 18] (by kernel_rfl) trivial (by kernel_rfl))⟩ (fun _ => rfl) ?_
        rintro w0 ⟨s353, z354, z355, z356, s357⟩ hm
        refine .then ?_
        refine .reg (F' := (Fr.puts (⟨46, frTr [(1, (.pointer (some ⟨1, 0, none⟩))), (16, (Sl.v 2 s353)), (17, (.int .i64 z354)), (18, (.int .i64 z355))] .nil⟩ : Fr) [(19, (.bool (ilt z355 z354)))])) (H' := (⟨2, objTr [(.cells tab0 true false []), (.cells [(.int .i64 z356), (Sl.v 2 s357)] false false [])] 0 .nil, true⟩ : AHeap)) (by kernel_rfl) ?_
        refine .ghs (⟨46, frTr [(1, (.pointer (some ⟨1, 0, none⟩))), (16, (Sl.v 2 s353)), (17, (.int .i64 z354)), (18, (.int .i64 z355)), (19, (.bool (ilt z355 z354)))] .nil⟩ : Fr) (⟨2, objTr [(.cells tab0 true false []), (.cells [(.int .i64 z356), (Sl.v 2 s357)] false false [])] 0 .nil, true⟩ : AHeap) (.gc [] [false] [.tmp 1 false] [1, 16, 17, 18, 19] (by kernel_rfl) trivial (by kernel_rfl)) ?_
        refine .then ?_
        have hq := bb_cases hm; clear hm; rcases hq with ⟨h358, hm⟩ | ⟨h358, hm⟩
        · refine .ifT (ilt z355 z354) (by kernel_rfl) h358 ?_
          refine .skip ?_
          refine .ghs (⟨46, frTr [(1, (.pointer (some ⟨1, 0, none⟩))), (16, (Sl.v 2 s353)), (17, (.int .i64 z354)), (18, (.int .i64 z355))] .nil⟩ : Fr) (⟨2, objTr [(.cells tab0 true false []), (.cells [(.int .i64 z356), (Sl.v 2 s357)] false false [])] 0 .nil, true⟩ : AHeap) (.gc [] [false] [.tmp 1 false] [1, 16, 17, 18] (by kernel_rfl) trivial (by kernel_rfl)) ?_
          refine .then ?_
          refine .block ?_
          refine .then ?_
          have hq := oo_inv hm; clear hm; obtain ⟨k359, h360, hm⟩ := hq
          obtain rfl := toN_some h360
          have hq := bb_inv hm; clear hm; obtain ⟨h361, hm⟩ := hq
          have hq := bb_inv hm; clear hm; obtain ⟨h362, hm⟩ := hq
          have hq := oo_inv hm; clear hm; obtain ⟨v363, h364, hm⟩ := hq
          have hq := oo_inv hm; clear hm; obtain ⟨x365, h366, hm⟩ := hq
          obtain rfl := toI_some h366
          have hq := oo_inv hm; clear hm; obtain ⟨v367, h368, hm⟩ := hq
          have hq := oo_inv hm; clear hm; obtain ⟨x369, h370, hm⟩ := hq
          obtain rfl := toI_some h370
          refine .reg (F' := (Fr.puts (⟨46, frTr [(1, (.pointer (some ⟨1, 0, none⟩))), (16, (Sl.v 2 s353)), (17, (.int .i64 z354)), (18, (.int .i64 (Int.ofNat k359)))] .nil⟩ : Fr) [(20, (fpV (k359 * 2) (Sl.cs s353))), (21, (.agg ⟨[(.int .i64 x365), (.int .i64 x369)]⟩)), (4, (.pointer (some ⟨2, 0, none⟩)))])) (H' := (⟨3, objTr [(.cells tab0 true false []), (.cells [(.int .i64 z356), (Sl.v 2 s357)] false false []), (.cells [(.int .i64 x365), (.int .i64 x369)] false false [])] 0 .nil, true⟩ : AHeap)) (evOps_data (keep (⟨2, objTr [(.cells tab0 true false []), (.cells [(.int .i64 z356), (Sl.v 2 s357)] false false [])] 0 .nil, true⟩ : AHeap) (bb (an (Nat.blt k359 (Sl.n s353)) true) (some (fpV (k359 * 2) (Sl.cs s353))) none)) (by kernel_rfl) (keep_bb h361) (okAt_of (by kernel_rfl) (by kernel_rfl)) (evOps_data (keep (⟨2, objTr [(.cells tab0 true false []), (.cells [(.int .i64 z356), (Sl.v 2 s357)] false false [])] 0 .nil, true⟩ : AHeap) (bb (Nat.ble ((k359 * 2) + 2) (len (Sl.cs s353))) (some (.agg ⟨takeL 2 (dropL (k359 * 2) (Sl.cs s353))⟩)) none)) (by kernel_rfl) (keep_agg h362 (takeL_cons h364 (takeL_cons h368 rfl))) (okAt_of (by kernel_rfl) (by kernel_rfl)) (by kernel_rfl))) ?_
          refine .ghs (⟨46, frTr [(1, (.pointer (some ⟨1, 0, none⟩))), (4, (.pointer (some ⟨2, 0, none⟩))), (16, (Sl.v 2 s353)), (17, (.int .i64 z354)), (18, (.int .i64 (Int.ofNat k359)))] .nil⟩ : Fr) (⟨3, objTr [(.cells tab0 true false []), (.cells [(.int .i64 z356), (Sl.v 2 s357)] false false []), (.cells [(.int .i64 x365), (.int .i64 x369)] false false [])] 0 .nil, true⟩ : AHeap) (.gc [] [false] [.tmp 1 false, .tmp 4 false] [1, 4, 16, 17, 18] (by kernel_rfl) trivial (by kernel_rfl)) ?_
          refine .block ?_
          refine .join (v := v) (fun y : Sl × Int × Int × Bool × Int × Sl × Int × Int => ((⟨46, frTr [(1, (.pointer (some ⟨1, 0, none⟩))), (4, (.pointer (some ⟨2, 0, none⟩))), (16, (Sl.v 2 y.1)), (17, (.int .i64 y.2.1)), (18, (.int .i64 y.2.2.1)), (22, (.bool y.2.2.2.1))] .nil⟩ : Fr), (⟨3, objTr [(.cells tab0 true false []), (.cells [(.int .i64 y.2.2.2.2.1), (Sl.v 2 y.2.2.2.2.2.1)] false false []), (.cells [(.int .i64 y.2.2.2.2.2.2.1), (.int .i64 y.2.2.2.2.2.2.2)] false false [])] 0 .nil, true⟩ : AHeap))) (fun y => m9_2 pu n (l9_1 pu n w0) y.1 y.2.1 y.2.2.1 y.2.2.2.1 y.2.2.2.2.1 y.2.2.2.2.2.1 y.2.2.2.2.2.2.1 y.2.2.2.2.2.2.2) ?_ ?_
          · rintro ⟨s372, z373, z374, b375, z376, s377, z378, z379⟩ hm
            unfold m9_2 at hm
            have hq := bb_cases hm; clear hm; rcases hq with ⟨h380, hm⟩ | ⟨h380, hm⟩
            · refine .ifT b375 (by kernel_rfl) h380 ?_
              refine .then ?_
              refine .reg (F' := (Fr.puts (⟨46, frTr [(1, (.pointer (some ⟨1, 0, none⟩))), (4, (.pointer (some ⟨2, 0, none⟩))), (16, (Sl.v 2 s372)), (17, (.int .i64 z373)), (18, (.int .i64 z374)), (22, (.bool b375))] .nil⟩ : Fr) [(2, (.int .i64 (2 : Int)))])) (H' := (⟨3, objTr [(.cells tab0 true false []), (.cells [(.int .i64 z376), (Sl.v 2 s377)] false false []), (.cells [(.int .i64 z378), (.int .i64 z379)] false false [])] 0 .nil, true⟩ : AHeap)) (by kernel_rfl) ?_
              refine .ghs (⟨46, frTr [(2, (.int .i64 (2 : Int)))] .nil⟩ : Fr) (⟨1, objTr [(.cells tab0 true false [])] 0 .nil, true⟩ : AHeap) (.gc [] [false] [] [2] (by kernel_rfl) trivial (by kernel_rfl)) ?_
              refine .ret ?_
              exact fin_ret (.int .i64 (2 : Int)) (by kernel_rfl) (by kernel_rfl) hm
            · refine .ifF b375 (by kernel_rfl) h380 ?_
              refine .then ?_
              refine .reg (F' := (Fr.puts (⟨46, frTr [(1, (.pointer (some ⟨1, 0, none⟩))), (4, (.pointer (some ⟨2, 0, none⟩))), (16, (Sl.v 2 s372)), (17, (.int .i64 z373)), (18, (.int .i64 z374)), (22, (.bool b375))] .nil⟩ : Fr) [(40, (.pointer (some ⟨2, 0, none⟩))), (41, (.int .i64 z378)), (42, (.pointer (some ⟨2, 1, none⟩))), (43, (.int .i64 z379)), (44, (.bool (nt (ilt z378 z379)))), (39, (.bool (nt (ilt z378 z379))))])) (H' := (⟨3, objTr [(.cells tab0 true false []), (.cells [(.int .i64 z376), (Sl.v 2 s377)] false false []), (.cells [(.int .i64 z378), (.int .i64 z379)] false false [])] 0 .nil, true⟩ : AHeap)) (by kernel_rfl) ?_
              refine .ghs (⟨46, frTr [(1, (.pointer (some ⟨1, 0, none⟩))), (16, (Sl.v 2 s372)), (17, (.int .i64 z373)), (18, (.int .i64 z374)), (39, (.bool (nt (ilt z378 z379))))] .nil⟩ : Fr) (⟨2, objTr [(.cells tab0 true false []), (.cells [(.int .i64 z376), (Sl.v 2 s377)] false false [])] 0 .nil, true⟩ : AHeap) (.gc [] [false] [.tmp 1 false] [1, 16, 17, 18, 39] (by kernel_rfl) trivial (by kernel_rfl)) ?_
              have hq := bb_cases hm; clear hm; rcases hq with ⟨h381, hm⟩ | ⟨h381, hm⟩
              · refine .ifT (nt (ilt z378 z379)) (by kernel_rfl) h381 ?_
                refine .then ?_
                refine .reg (F' := (Fr.puts (⟨46, frTr [(1, (.pointer (some ⟨1, 0, none⟩))), (16, (Sl.v 2 s372)), (17, (.int .i64 z373)), (18, (.int .i64 z374)), (39, (.bool (nt (ilt z378 z379))))] .nil⟩ : Fr) [(2, (.int .i64 (7 : Int)))])) (H' := (⟨2, objTr [(.cells tab0 true false []), (.cells [(.int .i64 z376), (Sl.v 2 s377)] false false [])] 0 .nil, true⟩ : AHeap)) (by kernel_rfl) ?_
                refine .ghs (⟨46, frTr [(2, (.int .i64 (7 : Int)))] .nil⟩ : Fr) (⟨1, objTr [(.cells tab0 true false [])] 0 .nil, true⟩ : AHeap) (.gc [] [false] [] [2] (by kernel_rfl) trivial (by kernel_rfl)) ?_
                refine .ret ?_
                exact fin_ret (.int .i64 (7 : Int)) (by kernel_rfl) (by kernel_rfl) hm
              · refine .ifF (nt (ilt z378 z379)) (by kernel_rfl) h381 ?_
                refine .skip ?_
                refine .ghs (⟨46, frTr [(1, (.pointer (some ⟨1, 0, none⟩))), (16, (Sl.v 2 s372)), (17, (.int .i64 z373)), (18, (.int .i64 z374))] .nil⟩ : Fr) (⟨2, objTr [(.cells tab0 true false []), (.cells [(.int .i64 z376), (Sl.v 2 s377)] false false [])] 0 .nil, true⟩ : AHeap) (.gc [] [false] [.tmp 1 false] [1, 16, 17, 18] (by kernel_rfl) trivial (by kernel_rfl)) ?_
                refine .reg (F' := (Fr.puts (⟨46, frTr [(1, (.pointer (some ⟨1, 0, none⟩))), (16, (Sl.v 2 s372)), (17, (.int .i64 z373)), (18, (.int .i64 z374))] .nil⟩ : Fr) [(45, (.int .i64 (wrapF .i64 (Int.add z374 (1 : Int))))), (18, (.int .i64 (wrapF .i64 (Int.add z374 (1 : Int)))))])) (H' := (⟨2, objTr [(.cells tab0 true false []), (.cells [(.int .i64 z376), (Sl.v 2 s377)] false false [])] 0 .nil, true⟩ : AHeap)) (by kernel_rfl) ?_
                exact ⟨(s372, z373, (wrapF .i64 (Int.add z374 (1 : Int))), z376, s377), hm, (.gc [] [false] [.tmp 1 false] [1, 16, 17, 18] (by kernel_rfl) trivial (by kernel_rfl))⟩
          · skip
            have hq := bb_cases hm; clear hm; rcases hq with ⟨h382, hm⟩ | ⟨h382, hm⟩
            · skip
              refine .reg (F' := (Fr.puts (⟨46, frTr [(1, (.pointer (some ⟨1, 0, none⟩))), (4, (.pointer (some ⟨2, 0, none⟩))), (16, (Sl.v 2 s353)), (17, (.int .i64 z354)), (18, (.int .i64 (Int.ofNat k359)))] .nil⟩ : Fr) [(23, (.pointer (some ⟨2, 0, none⟩))), (24, (.int .i64 x365)), (25, (.pointer (some ⟨2, 1, none⟩))), (26, (.int .i64 x369)), (27, (.int .i64 (bb (ilt x369 x365) x369 x365))), (28, (.bool true)), (29, (.bool true)), (30, (.tuple ⟨[]⟩)), (31, (.tuple ⟨[]⟩)), (32, (.tuple ⟨[]⟩)), (33, (.tuple ⟨[]⟩)), (34, (.tuple ⟨[]⟩)), (35, (.tuple ⟨[]⟩)), (36, (.tuple ⟨[]⟩)), (37, (.tuple ⟨[]⟩)), (38, (.bool true)), (22, (.bool true))])) (H' := (⟨3, objTr [(.cells tab0 true false []), (.cells [(.int .i64 z356), (Sl.v 2 s357)] false false []), (.cells [(.int .i64 x365), (.int .i64 x369)] false false [])] 0 .nil, true⟩ : AHeap)) (evOps_cut 5 (by kernel_rfl) (evOps_data (some ((.bool (ilt (bb (ilt x369 x365) x369 x365) (0 : Int))), (⟨3, objTr [(.cells tab0 true false []), (.cells [(.int .i64 z356), (Sl.v 2 s357)] false false []), (.cells [(.int .i64 x365), (.int .i64 x369)] false false [])] 0 .nil, true⟩ : AHeap))) (by kernel_rfl) (show _ = some ((.bool true), _) from (by rw [h382])) (okAt_of (by kernel_rfl) (by kernel_rfl)) (by kernel_rfl))) ?_
              exact ⟨(s353, z354, (Int.ofNat k359), true, z356, s357, x365, x369), hm, (.gc [] [false] [.tmp 1 false, .tmp 4 false] [1, 4, 16, 17, 18, 22] (by kernel_rfl) trivial (by kernel_rfl))⟩
            · skip
              refine .reg (F' := (Fr.puts (⟨46, frTr [(1, (.pointer (some ⟨1, 0, none⟩))), (4, (.pointer (some ⟨2, 0, none⟩))), (16, (Sl.v 2 s353)), (17, (.int .i64 z354)), (18, (.int .i64 (Int.ofNat k359)))] .nil⟩ : Fr) [(23, (.pointer (some ⟨2, 0, none⟩))), (24, (.int .i64 x365)), (25, (.pointer (some ⟨2, 1, none⟩))), (26, (.int .i64 x369)), (27, (.int .i64 (bb (ilt x369 x365) x369 x365))), (28, (.bool false)), (29, (.bool false)), (30, (.pointer (some ⟨2, 0, none⟩))), (31, (.int .i64 x365)), (32, (.pointer (some ⟨2, 1, none⟩))), (33, (.int .i64 x369)), (34, (.int .i64 (bb (ilt x365 x369) x369 x365))), (35, (.pointer (some ⟨1, 0, none⟩))), (36, (.int .i64 z356)), (37, (.bool (nt (ilt (bb (ilt x365 x369) x369 x365) z356)))), (38, (.bool (nt (ilt (bb (ilt x365 x369) x369 x365) z356)))), (22, (.bool (nt (ilt (bb (ilt x365 x369) x369 x365) z356))))])) (H' := (⟨3, objTr [(.cells tab0 true false []), (.cells [(.int .i64 z356), (Sl.v 2 s357)] false false []), (.cells [(.int .i64 x365), (.int .i64 x369)] false false [])] 0 .nil, true⟩ : AHeap)) (evOps_cut 5 (by kernel_rfl) (evOps_data (some ((.bool (ilt (bb (ilt x369 x365) x369 x365) (0 : Int))), (⟨3, objTr [(.cells tab0 true false []), (.cells [(.int .i64 z356), (Sl.v 2 s357)] false false []), (.cells [(.int .i64 x365), (.int .i64 x369)] false false [])] 0 .nil, true⟩ : AHeap))) (by kernel_rfl) (show _ = some ((.bool false), _) from (by rw [h382])) (okAt_of (by kernel_rfl) (by kernel_rfl)) (by kernel_rfl))) ?_
              exact ⟨(s353, z354, (Int.ofNat k359), (nt (ilt (bb (ilt x365 x369) x369 x365) z356)), z356, s357, x365, x369), hm, (.gc [] [false] [.tmp 1 false, .tmp 4 false] [1, 4, 16, 17, 18, 22] (by kernel_rfl) trivial (by kernel_rfl))⟩
        · refine .ifF (ilt z355 z354) (by kernel_rfl) h358 ?_
          refine .exit ?_
          exact ⟨(), hm, (.gc [] [false] [] [] (by kernel_rfl) trivial (by kernel_rfl))⟩
/-- spadille/spadilleref07.Check -/
def o10_0 : List ROp := [
  ⟨(some 1), .box 28 (.tmp 0), 0, none, []⟩,
  ⟨(some 2), .assign (.const (.int .i64 0)), 29, none, []⟩]
def c10_0 : RC := .reg [] o10_0
def o10_1 : List ROp := [
  ⟨(some 5), .fieldAddr 28 (.tmp 1) 0, 0, none, []⟩,
  ⟨(some 6), .load 3 (.tmp 5), 3, none, []⟩,
  ⟨(some 7), .call ⟨.value (.func 32), #[(.tmp 6), (.const (.int .i64 1)), (.const (.int .i64 7))], #[3, 3, 3]⟩, 4, none, []⟩,
  ⟨(some 8), .unOp .not 4 (.tmp 7), 4, none, []⟩]
def c10_1 : RC := .reg [] o10_1
def o10_2 : List ROp := [
  ⟨(some 2), .assign (.const (.int .i64 1)), 29, none, []⟩]
def c10_2 : RC := .reg [] o10_2
def c10_3 : RC := .seq c10_2 .ret
def c10_4 : RC := .cond (.tmp 8) c10_3 .skip
def c10_5 : RC := .seq c10_1 c10_4
def o10_6 : List ROp := [
  ⟨(some 9), .fieldAddr 28 (.tmp 1) 1, 0, none, []⟩,
  ⟨(some 10), .load 22 (.tmp 9), 22, none, []⟩,
  ⟨(some 11), .call ⟨.builtin .len, #[(.tmp 10)], #[22]⟩, 3, none, []⟩,
  ⟨(some 12), .binOp .gtr 3 (.tmp 11) (.const (.int .i64 24)) 3, 4, none, []⟩]
def c10_6 : RC := .reg [] o10_6
def o10_7 : List ROp := [
  ⟨(some 2), .assign (.const (.int .i64 3)), 29, none, []⟩]
def c10_7 : RC := .reg [] o10_7
def c10_8 : RC := .seq c10_7 .ret
def c10_9 : RC := .cond (.tmp 12) c10_8 .skip
def c10_10 : RC := .seq c10_6 c10_9
def o10_11 : List ROp := [
  ⟨(some 3), .assign (.const (.int .i64 0)), 3, none, []⟩]
def c10_11 : RC := .reg [] o10_11
def o10_12 : List ROp := [
  ⟨(some 13), .move (.tmp 3), 3, none, []⟩,
  ⟨(some 14), .fieldAddr 28 (.tmp 1) 1, 0, none, []⟩,
  ⟨(some 15), .load 22 (.tmp 14), 22, none, []⟩,
  ⟨(some 16), .call ⟨.builtin .len, #[(.tmp 15)], #[22]⟩, 3, none, []⟩,
  ⟨(some 17), .binOp .lss 3 (.tmp 13) (.tmp 16) 3, 4, none, []⟩]
def c10_12 : RC := .reg [] o10_12
def c10_13 : RC := .cond (.tmp 17) .skip (.exit 0)
def c10_14 : RC := .seq c10_12 c10_13
def o10_15 : List ROp := [
  ⟨(some 20), .fieldAddr 28 (.tmp 1) 1, 0, none, []⟩,
  ⟨(some 21), .load 22 (.tmp 20), 22, none, []⟩,
  ⟨(some 22), .move (.tmp 3), 3, none, []⟩,
  ⟨(some 23), .indexAddr 22 (.tmp 21) (.tmp 22), 0, none, []⟩,
  ⟨(some 24), .load 55 (.tmp 23), 55, none, []⟩,
  ⟨(some 4), .alloc 55, 0, none, []⟩,
  ⟨none, .store 55 (.tmp 4) (.tmp 24), 0, none, []⟩]
def c10_15 : RC := .reg [] o10_15
def o10_16 : List ROp := [
  ⟨(some 25), .indexAddr 55 (.tmp 4) (.const (.int .i64 0)), 0, none, []⟩,
  ⟨(some 26), .load 3 (.tmp 25), 3, none, []⟩,
  ⟨(some 27), .fieldAddr 28 (.tmp 1) 0, 0, none, []⟩,
  ⟨(some 28), .load 3 (.tmp 27), 3, none, []⟩,
  ⟨(some 29), .binOp .sub 3 (.tmp 28) (.const (.int .i64 1)) 3, 3, none, []⟩,
  ⟨(some 30), .call ⟨.value (.func 32), #[(.tmp 26), (.const (.int .i64 0)), (.tmp 29)], #[3, 3, 3]⟩, 4, none, []⟩,
  ⟨(some 31), .unOp .not 4 (.tmp 30), 4, none, []⟩,
  ⟨(some 32), .move (.tmp 31), 4, none, []⟩,
  ⟨(some 33), .indexAddr 55 (.tmp 4) (.const (.int .i64 1)), 0, (some ((some 32), false)), []⟩,
  ⟨(some 34), .load 3 (.tmp 33), 3, (some ((some 32), false)), []⟩,
  ⟨(some 35), .fieldAddr 28 (.tmp 1) 0, 0, (some ((some 32), false)), []⟩,
  ⟨(some 36), .load 3 (.tmp 35), 3, (some ((some 32), false)), []⟩,
  ⟨(some 37), .binOp .sub 3 (.tmp 36) (.const (.int .i64 1)) 3, 3, (some ((some 32), false)), []⟩,
  ⟨(some 38), .call ⟨.value (.func 32), #[(.tmp 34), (.const (.int .i64 0)), (.tmp 37)], #[3, 3, 3]⟩, 4, (some ((some 32), false)), []⟩,
  ⟨(some 39), .unOp .not 4 (.tmp 38), 4, (some ((some 32), false)), []⟩,
  ⟨(some 40), .pick (.tmp 32) (.const (.bool true)) (.tmp 39), 4, none, []⟩]
def c10_16 : RC := .reg [] o10_16
def o10_17 : List ROp := [
  ⟨(some 2), .assign (.const (.int .i64 2)), 29, none, []⟩]
def c10_17 : RC := .reg [] o10_17
def c10_18 : RC := .seq c10_17 .ret
def c10_19 : RC := .cond (.tmp 40) c10_18 .skip
def c10_20 : RC := .seq c10_16 c10_19
def o10_21 : List ROp := [
  ⟨(some 41), .indexAddr 55 (.tmp 4) (.const (.int .i64 0)), 0, none, []⟩,
  ⟨(some 42), .load 3 (.tmp 41), 3, none, []⟩,
  ⟨(some 43), .indexAddr 55 (.tmp 4) (.const (.int .i64 1)), 0, none, []⟩,
  ⟨(some 44), .load 3 (.tmp 43), 3, none, []⟩,
  ⟨(some 45), .binOp .geq 3 (.tmp 42) (.tmp 44) 3, 4, none, []⟩]
def c10_21 : RC := .reg [] o10_21
def o10_22 : List ROp := [
  ⟨(some 2), .assign (.const (.int .i64 7)), 29, none, []⟩]
def c10_22 : RC := .reg [] o10_22
def c10_23 : RC := .seq c10_22 .ret
def c10_24 : RC := .cond (.tmp 45) c10_23 .skip
def c10_25 : RC := .seq c10_21 c10_24
def c10_26 : RC := .seq c10_20 c10_25
def c10_27 : RC := .seq c10_15 c10_26
def c10_28 : RC := .block 1 c10_27
def o10_29 : List ROp := [
  ⟨(some 18), .move (.tmp 3), 3, none, []⟩,
  ⟨(some 19), .binOp .add 3 (.tmp 18) (.const (.int .i64 1)) 3, 3, none, []⟩,
  ⟨(some 3), .assign (.tmp 19), 3, none, []⟩]
def c10_29 : RC := .reg [] o10_29
def c10_30 : RC := .seq c10_28 c10_29
def c10_31 : RC := .seq c10_14 c10_30
def c10_32 : RC := .loop c10_31
def c10_33 : RC := .block 0 c10_32
def c10_34 : RC := .seq c10_11 c10_33
def o10_35 : List ROp := [
  ⟨(some 2), .assign (.const (.int .i64 0)), 29, none, []⟩]
def c10_35 : RC := .reg [] o10_35
def c10_36 : RC := .seq c10_35 .ret
def c10_37 : RC := .seq c10_34 c10_36
def c10_38 : RC := .seq c10_10 c10_37
def c10_39 : RC := .seq c10_5 c10_38
def c10_40 : RC := .seq c10_0 c10_39
def m10_0 (pu : PureF) (n : Nat) : Option Value :=
  (some (.int .i64 (0 : Int)))
def m10_2 (pu : PureF) (n : Nat) (ih0 : Int → Int → Sl → Option Value) (z464 : Int) (b465 : Bool) (z466 : Int) (s467 : Sl) (z468 : Int) (z469 : Int) : Option Value :=
  (bb b465 (some (.int .i64 (2 : Int))) (bb (nt (ilt z468 z469)) (some (.int .i64 (7 : Int))) (ih0 (wrapF .i64 (Int.add z464 (1 : Int))) z466 s467)))
def b10_1 (pu : PureF) (n : Nat) (ih0 : Int → Int → Sl → Option Value) (z439 : Int) (z440 : Int) (s441 : Sl) : Option Value :=
  (bb (ilt z439 (Int.ofNat (Sl.n s441))) (oo (toN z439) none fun k443 => (bb (an (Nat.blt k443 (Sl.n s441)) true) (bb (Nat.ble ((k443 * 2) + 2) (len (Sl.cs s441))) (oo (nthL (Sl.cs s441) (k443 * 2)) none fun v447 => (oo (toI .i64 v447) none fun x449 => (oo (nthL (Sl.cs s441) ((k443 * 2) + 1)) none fun v451 => (oo (toI .i64 v451) none fun x453 => (oo (pu 32 [(.int .i64 x449), (.int .i64 (0 : Int)), (.int .i64 (wrapF .i64 (Int.sub z440 (1 : Int))))]) none fun v472 => (oo (vBool v472) none fun b474 => (bb (nt b474) (m10_2 pu n ih0 (Int.ofNat k443) true z440 s441 x449 x453) (oo (pu 32 [(.int .i64 x453), (.int .i64 (0 : Int)), (.int .i64 (wrapF .i64 (Int.sub z440 (1 : Int))))]) none fun v477 => (oo (vBool v477) none fun b479 => (m10_2 pu n ih0 (Int.ofNat k443) (nt b479) z440 s441 x449 x453)))))))))) none) none)) (m10_0 pu n))
def l10_1 (pu : PureF) (n : Nat) (w : Nat) : Int → Int → Sl → Option Value :=
  Nat.rec (motive := fun _ => Int → Int → Sl → Option Value) (fun _ _ _ => none) (fun _ ih0 => b10_1 pu n ih0) w
def m10_ (pu : PureF) (n : Nat) (x387 : Int) (s389 : Sl) : Option Value :=
  (oo (pu 32 [(.int .i64 x387), (.int .i64 (1 : Int)), (.int .i64 (7 : Int))]) none fun v391 => (oo (vBool v391) none fun b393 => (bb (nt b393) (some (.int .i64 (1 : Int))) (bb (ilt (24 : Int) (Int.ofNat (Sl.n s389))) (some (.int .i64 (3 : Int))) (l10_1 pu n n (0 : Int) x387 s389)))))
def m10 (pu : PureF) (n : Nat) (args : List Value) : Option Value :=
  (ll args none fun a0 args => (ll args (oo (vAgg a0) none fun l383 => (ll l383 none fun v385 l383 => (ll l383 none fun v386 l383 => (ll l383 (oo (toI .i64 v385) none fun x387 => (oo (toSl 2 v386) none fun s389 => (m10_ pu n x387 s389))) fun _ _ => none)))) fun _ _ => none))
theorem r10 {call : CallF} (pu : PureF) (n : Nat) (hcall : call = callP tabs isP pu inl) {args : List Value} {v : Value} (hm : m10 pu n args = some v) (_ : ∀ x ∈ args, closed2 x = true) : args.length ≤ 46 ∧ Run tt call 1 c10_40 (Fr.made 46 args) (pureHeap tabs) (Fin tt 1 [.tmp 2] v) := by
  subst hcall
  unfold m10 at hm
  have hq := ll_uncons hm; clear hm; obtain ⟨a0, args_0, rfl, hm⟩ := hq
  have hq := ll_end hm; clear hm; obtain ⟨rfl, hm⟩ := hq
  have hq := oo_inv hm; clear hm; obtain ⟨l383, h384, hm⟩ := hq
  obtain rfl := vAgg_some h384
  have hq := ll_uncons hm; clear hm; obtain ⟨v385, l383_0, rfl, hm⟩ := hq
  have hq := ll_uncons hm; clear hm; obtain ⟨v386, l383_1, rfl, hm⟩ := hq
  have hq := ll_end hm; clear hm; obtain ⟨rfl, hm⟩ := hq
  have hq := oo_inv hm; clear hm; obtain ⟨x387, h388, hm⟩ := hq
  obtain rfl := toI_some h388
  have hq := oo_inv hm; clear hm; obtain ⟨s389, h390, hm⟩ := hq
  obtain rfl := toSl_some h390
  unfold m10_ at hm
  refine ⟨by simp, ?_⟩
  refine .same (F' := (⟨46, frTr [(0, (.agg ⟨[(.int .i64 x387), (Sl.v 2 s389)]⟩))] .nil⟩ : Fr)) (H' := (⟨1, objTr [(.cells tab0 true false [])] 0 .nil, true⟩ : AHeap)) (by kernel_rfl) (by kernel_rfl) ?_
  refine .then ?_
  refine .reg (F' := (Fr.puts (⟨46, frTr [(0, (.agg ⟨[(.int .i64 x387), (Sl.v 2 s389)]⟩))] .nil⟩ : Fr) [(1, (.pointer (some ⟨1, 0, none⟩))), (2, (.int .i64 (0 : Int)))])) (H' := (⟨2, objTr [(.cells tab0 true false []), (.cells [(.int .i64 x387), (Sl.v 2 s389)] false false [])] 0 .nil, true⟩ : AHeap)) (by kernel_rfl) ?_
  refine .ghs (⟨46, frTr [(1, (.pointer (some ⟨1, 0, none⟩)))] .nil⟩ : Fr) (⟨2, objTr [(.cells tab0 true false []), (.cells [(.int .i64 x387), (Sl.v 2 s389)] false false [])] 0 .nil, true⟩ : AHeap) (.gc [] [false] [.tmp 1 false] [1] (by kernel_rfl) trivial (by kernel_rfl)) ?_
  refine .then ?_
  refine .then ?_
  have hq := oo_inv hm; clear hm; obtain ⟨v391, h392, hm⟩ := hq
  have hq := oo_inv hm; clear hm; obtain ⟨b393, h394, hm⟩ := hq
  obtain rfl := vBool_some h394
  refine .reg (F' := (Fr.puts (⟨46, frTr [(1, (.pointer (some ⟨1, 0, none⟩)))] .nil⟩ : Fr) [(5, (.pointer (some ⟨1, 0, none⟩))), (6, (.int .i64 x387)), (7, (.bool b393)), (8, (.bool (nt b393)))])) (H' := (⟨2, objTr [(.cells tab0 true false []), (.cells [(.int .i64 x387), (Sl.v 2 s389)] false false [])] 0 .nil, true⟩ : AHeap)) (evOps_cut 2 (by kernel_rfl) (evOps_data ((oo (pu 32 [(.int .i64 x387), (.int .i64 (1 : Int)), (.int .i64 (7 : Int))]) none fun v => some (v, (⟨2, objTr [(.cells tab0 true false []), (.cells [(.int .i64 x387), (Sl.v 2 s389)] false false [])] 0 .nil, true⟩ : AHeap)))) (by kernel_rfl) (call_eq h392) (okAt_of (by kernel_rfl) (by kernel_rfl)) (by kernel_rfl))) ?_
  refine .ghs (⟨46, frTr [(1, (.pointer (some ⟨1, 0, none⟩))), (8, (.bool (nt b393)))] .nil⟩ : Fr) (⟨2, objTr [(.cells tab0 true false []), (.cells [(.int .i64 x387), (Sl.v 2 s389)] false false [])] 0 .nil, true⟩ : AHeap) (.gc [] [false] [.tmp 1 false] [1, 8] (by kernel_rfl) trivial (by kernel_rfl)) ?_
  have hq := bb_cases hm; clear hm; rcases hq with ⟨h395, hm⟩ | ⟨h395, hm⟩
  · refine .ifT (nt b393) (by kernel_rfl) h395 ?_
    refine .then ?_
    refine .reg (F' := (Fr.puts (⟨46, frTr [(1, (.pointer (some ⟨1, 0, none⟩))), (8, (.bool (nt b393)))] .nil⟩ : Fr) [(2, (.int .i64 (1 : Int)))])) (H' := (⟨2, objTr [(.cells tab0 true false []), (.cells [(.int .i64 x387), (Sl.v 2 s389)] false false [])] 0 .nil, true⟩ : AHeap)) (by kernel_rfl) ?_
    refine .ghs (⟨46, frTr [(2, (.int .i64 (1 : Int)))] .nil⟩ : Fr) (⟨1, objTr [(.cells tab0 true false [])] 0 .nil, true⟩ : AHeap) (.gc [] [false] [] [2] (by kernel_rfl) trivial (by kernel_rfl)) ?_
    refine .ret ?_
    exact fin_ret (.int .i64 (1 : Int)) (by kernel_rfl) (by kernel_rfl) hm
  · refine .ifF (nt b393) (by kernel_rfl) h395 ?_
    refine .skip ?_
    refine .ghs (⟨46, frTr [(1, (.pointer (some ⟨1, 0, none⟩)))] .nil⟩ : Fr) (⟨2, objTr [(.cells tab0 true false []), (.cells [(.int .i64 x387), (Sl.v 2 s389)] false false [])] 0 .nil, true⟩ : AHeap) (.gc [] [false] [.tmp 1 false] [1] (by kernel_rfl) trivial (by kernel_rfl)) ?_
    refine .then ?_
    refine .then ?_
    refine .reg (F' := (Fr.puts (⟨46, frTr [(1, (.pointer (some ⟨1, 0, none⟩)))] .nil⟩ : Fr) [(9, (.pointer (some ⟨1, 1, none⟩))), (10, (Sl.v 2 s389)), (11, (.int .i64 (Int.ofNat (Sl.n s389)))), (12, (.bool (ilt (24 : Int) (Int.ofNat (Sl.n s389)))))])) (H' := (⟨2, objTr [(.cells tab0 true false []), (.cells [(.int .i64 x387), (Sl.v 2 s389)] false false [])] 0 .nil, true⟩ : AHeap)) (by kernel_rfl) ?_
    refine .ghs (⟨46, frTr [(1, (.pointer (some ⟨1, 0, none⟩))), (12, (.bool (ilt (24 : Int) (Int.ofNat (Sl.n s389)))))] .nil⟩ : Fr) (⟨2, objTr [(.cells tab0 true false []), (.cells [(.int .i64 x387), (Sl.v 2 s389)] false false [])] 0 .nil, true⟩ : AHeap) (.gc [] [false] [.tmp 1 false] [1, 12] (by kernel_rfl) trivial (by kernel_rfl)) ?_
    have hq := bb_cases hm; clear hm; rcases hq with ⟨h396, hm⟩ | ⟨h396, hm⟩
    · refine .ifT (ilt (24 : Int) (Int.ofNat (Sl.n s389))) (by kernel_rfl) h396 ?_
      refine .then ?_
      refine .reg (F' := (Fr.puts (⟨46, frTr [(1, (.pointer (some ⟨1, 0, none⟩))), (12, (.bool (ilt (24 : Int) (Int.ofNat (Sl.n s389)))))] .nil⟩ : Fr) [(2, (.int .i64 (3 : Int)))])) (H' := (⟨2, objTr [(.cells tab0 true false []), (.cells [(.int .i64 x387), (Sl.v 2 s389)] false false [])] 0 .nil, true⟩ : AHeap)) (by kernel_rfl) ?_
      refine .ghs (⟨46, frTr [(2, (.int .i64 (3 : Int)))] .nil⟩ : Fr) (⟨1, objTr [(.cells tab0 true false [])] 0 .nil, true⟩ : AHeap) (.gc [] [false] [] [2] (by kernel_rfl) trivial (by kernel_rfl)) ?_
      refine .ret ?_
      exact fin_ret (.int .i64 (3 : Int)) (by kernel_rfl) (by kernel_rfl) hm
    · refine .ifF (ilt (24 : Int) (Int.ofNat (Sl.n s389))) (by kernel_rfl) h396 ?_
      refine .skip ?_
      refine .ghs (⟨46, frTr [(1, (.pointer (some ⟨1, 0, none⟩)))] .nil⟩ : Fr) (⟨2, objTr [(.cells tab0 true false []), (.cells [(.int .i64 x387), (Sl.v 2 s389)] false false [])] 0 .nil, true⟩ : AHeap) (.gc [] [false] [.tmp 1 false] [1] (by kernel_rfl) trivial (by kernel_rfl)) ?_
      refine .join (v := v) (fun y : Unit => ((⟨46, frTr [] .nil⟩ : Fr), (⟨1, objTr [(.cells tab0 true false [])] 0 .nil, true⟩ : AHeap))) (fun y => m10_0 pu n) ?_ ?_
      · rintro _ hm
        unfold m10_0 at hm
        refine .then ?_
        refine .reg (F' := (Fr.puts (⟨46, frTr [] .nil⟩ : Fr) [(2, (.int .i64 (0 : Int)))])) (H' := (⟨1, objTr [(.cells tab0 true false [])] 0 .nil, true⟩ : AHeap)) (by kernel_rfl) ?_
        refine .ghs (⟨46, frTr [(2, (.int .i64 (0 : Int)))] .nil⟩ : Fr) (⟨1, objTr [(.cells tab0 true false [])] 0 .nil, true⟩ : AHeap) (.gc [] [false] [] [2] (by kernel_rfl) trivial (by kernel_rfl)) ?_
        refine .ret ?_
        exact fin_ret (.int .i64 (0 : Int)) (by kernel_rfl) (by kernel_rfl) hm
      · skip
        refine .then ?_
        refine .reg (F' := (Fr.puts (⟨46, frTr [(1, (.pointer (some ⟨1, 0, none⟩)))] .nil⟩ : Fr) [(3, (.int .i64 (0 : Int)))])) (H' := (⟨2, objTr [(.cells tab0 true false []), (.cells [(.int .i64 x387), (Sl.v 2 s389)] false false [])] 0 .nil, true⟩ : AHeap)) (by kernel_rfl) ?_
        refine .ghs (⟨46, frTr [(1, (.pointer (some ⟨1, 0, none⟩))), (3, (.int .i64 (0 : Int)))] .nil⟩ : Fr) (⟨2, objTr [(.cells tab0 true false []), (.cells [(.int .i64 x387), (Sl.v 2 s389)] false false [])] 0 .nil, true⟩ : AHeap) (.gc [] [false] [.tmp 1 false] [1, 3] (by kernel_rfl) trivial (by kernel_rfl)) ?_
        refine .block ?_
        refine .loopM (v := v) (fun y : Int × Int × Sl => ((⟨46, frTr [(1, (.pointer (some ⟨1, 0, none⟩))), (3, (.int .i64 y.1))] .nil⟩ : Fr), (⟨2, objTr [(.cells tab0 true false []), (.cells [(.int .i64 y.2.1), (Sl.v 2 y.2.2)] false false [])] 0 .nil, true⟩ : AHeap))) (fun w y => l10_1 pu n w y.1 y.2.1 y.2.2) n ⟨((0 : Int), x387, s389), hm, (.gc [] [false] [.tmp 1 false] [1, 3] (by kernel_rfl) trivial (by kernel_rfl))⟩ (fun _ => rfl) ?_
        rintro w0 ⟨z439, z440, s441⟩ hm
        refine .then ?_
        refine .then ?_
        refine .reg (F' := (Fr.puts (⟨46, frTr [(1, (.pointer (some ⟨1, 0, none⟩))), (3, (.int .i64 z439))] .nil⟩ : Fr) [(13, (.int .i64 z439)), (14, (.pointer (some ⟨1, 1, none⟩))), (15, (Sl.v 2 s441)), (16, (.int .i64 (Int.ofNat (Sl.n s441)))), (17, (.bool (ilt z439 (Int.ofNat (Sl.n s441)))))])) (H' := (⟨2, objTr [(.cells tab0 true false []), (.cells [(.int .i64 z440), (Sl.v 2 s441)] false false [])] 0 .nil, true⟩ : AHeap)) (by kernel_rfl) ?_
        refine .ghs (⟨46, frTr [(1, (.pointer (some ⟨1, 0, none⟩))), (3, (.int .i64 z439)), (17, (.bool (ilt z439 (Int.ofNat (Sl.n s441)))))] .nil⟩ : Fr) (⟨2, objTr [(.cells tab0 true false []), (.cells [(.int .i64 z440), (Sl.v 2 s441)] false false [])] 0 .nil, true⟩ : AHeap) (.gc [] [false] [.tmp 1 false] [1, 3, 17] (by kernel_rfl) trivial (by kernel_rfl)) ?_
        have hq := bb_cases hm; clear hm; rcases hq with ⟨h442, hm⟩ | ⟨h442, hm⟩
        · refine .ifT (ilt z439 (Int.ofNat (Sl.n s441))) (by kernel_rfl) h442 ?_
          refine .skip ?_
          refine .ghs (⟨46, frTr [(1, (.pointer (some ⟨1, 0, none⟩))), (3, (.int .i64 z439))] .nil⟩ : Fr) (⟨2, objTr [(.cells tab0 true false []), (.cells [(.int .i64 z440), (Sl.v 2 s441)] false false [])] 0 .nil, true⟩ : AHeap) (.gc [] [false] [.tmp 1 false] [1, 3] (by kernel_rfl) trivial (by kernel_rfl)) ?_
          refine .then ?_
          refine .block ?_
          refine .then ?_
          have hq := oo_inv hm; clear hm; obtain ⟨k443, h444, hm⟩ := hq
          obtain rfl := toN_some h444
          have hq := bb_inv hm; clear hm; obtain ⟨h445, hm⟩ := hq
          have hq := bb_inv hm; clear hm; obtain ⟨h446, hm⟩ := hq
          have hq := oo_inv hm; clear hm; obtain ⟨v447, h448, hm⟩ := hq
          have hq := oo_inv hm; clear hm; obtain ⟨x449, h450, hm⟩ := hq
          obtain rfl := toI_some h450
          have hq := oo_inv hm; clear hm; obtain ⟨v451, h452, hm⟩ := hq
          have hq := oo_inv hm; clear hm; obtain ⟨x453, h454, hm⟩ := hq
          obtain rfl := toI_some h454
          refine .reg (F' := (Fr.puts (⟨46, frTr [(1, (.pointer (some ⟨1, 0, none⟩))), (3, (.int .i64 (Int.ofNat k443)))] .nil⟩ : Fr) [(20, (.pointer (some ⟨1, 1, none⟩))), (21, (Sl.v 2 s441)), (22, (.int .i64 (Int.ofNat k443))), (23, (fpV (k443 * 2) (Sl.cs s441))), (24, (.agg ⟨[(.int .i64 x449), (.int .i64 x453)]⟩)), (4, (.pointer (some ⟨2, 0, none⟩)))])) (H' := (⟨3, objTr [(.cells tab0 true false []), (.cells [(.int .i64 z440), (Sl.v 2 s441)] false false []), (.cells [(.int .i64 x449), (.int .i64 x453)] false false [])] 0 .nil, true⟩ : AHeap)) (evOps_cut 3 (by kernel_rfl) (evOps_data (keep (⟨2, objTr [(.cells tab0 true false []), (.cells [(.int .i64 z440), (Sl.v 2 s441)] false false [])] 0 .nil, true⟩ : AHeap) (bb (an (Nat.blt k443 (Sl.n s441)) true) (some (fpV (k443 * 2) (Sl.cs s441))) none)) (by kernel_rfl) (keep_bb h445) (okAt_of (by kernel_rfl) (by kernel_rfl)) (evOps_data (keep (⟨2, objTr [(.cells tab0 true false []), (.cells [(.int .i64 z440), (Sl.v 2 s441)] false false [])] 0 .nil, true⟩ : AHeap) (bb (Nat.ble ((k443 * 2) + 2) (len (Sl.cs s441))) (some (.agg ⟨takeL 2 (dropL (k443 * 2) (Sl.cs s441))⟩)) none)) (by kernel_rfl) (keep_agg h446 (takeL_cons h448 (takeL_cons h452 rfl))) (okAt_of (by kernel_rfl) (by kernel_rfl)) (by kernel_rfl)))) ?_
          refine .ghs (⟨46, frTr [(1, (.pointer (some ⟨1, 0, none⟩))), (3, (.int .i64 (Int.ofNat k443))), (4, (.pointer (some ⟨2, 0, none⟩)))] .nil⟩ : Fr) (⟨3, objTr [(.cells tab0 true false []), (.cells [(.int .i64 z440), (Sl.v 2 s441)] false false []), (.cells [(.int .i64 x449), (.int .i64 x453)] false false [])] 0 .nil, true⟩ : AHeap) (.gc [] [false] [.tmp 1 false, .tmp 4 false] [1, 3, 4] (by kernel_rfl) trivial (by kernel_rfl)) ?_
          refine .then ?_
          refine .join (v := v) (fun y : Int × Bool × Int × Sl × Int × Int => ((⟨46, frTr [(1, (.pointer (some ⟨1, 0, none⟩))), (3, (.int .i64 y.1)), (4, (.pointer (some ⟨2, 0, none⟩))), (40, (.bool y.2.1))] .nil⟩ : Fr), (⟨3, objTr [(.cells tab0 true false []), (.cells [(.int .i64 y.2.2.1), (Sl.v 2 y.2.2.2.1)] false false []), (.cells [(.int .i64 y.2.2.2.2.1), (.int .i64 y.2.2.2.2.2)] false false [])] 0 .nil, true⟩ : AHeap))) (fun y => m10_2 pu n (l10_1 pu n w0) y.1 y.2.1 y.2.2.1 y.2.2.2.1 y.2.2.2.2.1 y.2.2.2.2.2) ?_ ?_
          · rintro ⟨z464, b465, z466, s467, z468, z469⟩ hm
            unfold m10_2 at hm
            have hq := bb_cases hm; clear hm; rcases hq with ⟨h470, hm⟩ | ⟨h470, hm⟩
            · refine .ifT b465 (by kernel_rfl) h470 ?_
              refine .then ?_
              refine .reg (F' := (Fr.puts (⟨46, frTr [(1, (.pointer (some ⟨1, 0, none⟩))), (3, (.int .i64 z464)), (4, (.pointer (some ⟨2, 0, none⟩))), (40, (.bool b465))] .nil⟩ : Fr) [(2, (.int .i64 (2 : Int)))])) (H' := (⟨3, objTr [(.cells tab0 true false []), (.cells [(.int .i64 z466), (Sl.v 2 s467)] false false []), (.cells [(.int .i64 z468), (.int .i64 z469)] false false [])] 0 .nil, true⟩ : AHeap)) (by kernel_rfl) ?_
              refine .ghs (⟨46, frTr [(2, (.int .i64 (2 : Int)))] .nil⟩ : Fr) (⟨1, objTr [(.cells tab0 true false [])] 0 .nil, true⟩ : AHeap) (.gc [] [false] [] [2] (by kernel_rfl) trivial (by kernel_rfl)) ?_
              refine .ret ?_
              exact fin_ret (.int .i64 (2 : Int)) (by kernel_rfl) (by kernel_rfl) hm
            · refine .ifF b465 (by kernel_rfl) h470 ?_
              refine .skip ?_
              refine .ghs (⟨46, frTr [(1, (.pointer (some ⟨1, 0, none⟩))), (3, (.int .i64 z464)), (4, (.pointer (some ⟨2, 0, none⟩)))] .nil⟩ : Fr) (⟨3, objTr [(.cells tab0 true false []), (.cells [(.int .i64 z466), (Sl.v 2 s467)] false false []), (.cells [(.int .i64 z468), (.int .i64 z469)] false false [])] 0 .nil, true⟩ : AHeap) (.gc [] [false] [.tmp 1 false, .tmp 4 false] [1, 3, 4] (by kernel_rfl) trivial (by kernel_rfl)) ?_
              refine .then ?_
              refine .reg (F' := (Fr.puts (⟨46, frTr [(1, (.pointer (some ⟨1, 0, none⟩))), (3, (.int .i64 z464)), (4, (.pointer (some ⟨2, 0, none⟩)))] .nil⟩ : Fr) [(41, (.pointer (some ⟨2, 0, none⟩))), (42, (.int .i64 z468)), (43, (.pointer (some ⟨2, 1, none⟩))), (44, (.int .i64 z469)), (45, (.bool (nt (ilt z468 z469))))])) (H' := (⟨3, objTr [(.cells tab0 true false []), (.cells [(.int .i64 z466), (Sl.v 2 s467)] false false []), (.cells [(.int .i64 z468), (.int .i64 z469)] false false [])] 0 .nil, true⟩ : AHeap)) (by kernel_rfl) ?_
              refine .ghs (⟨46, frTr [(1, (.pointer (some ⟨1, 0, none⟩))), (3, (.int .i64 z464)), (45, (.bool (nt (ilt z468 z469))))] .nil⟩ : Fr) (⟨2, objTr [(.cells tab0 true false []), (.cells [(.int .i64 z466), (Sl.v 2 s467)] false false [])] 0 .nil, true⟩ : AHeap) (.gc [] [false] [.tmp 1 false] [1, 3, 45] (by kernel_rfl) trivial (by kernel_rfl)) ?_
              have hq := bb_cases hm; clear hm; rcases hq with ⟨h471, hm⟩ | ⟨h471, hm⟩
              · refine .ifT (nt (ilt z468 z469)) (by kernel_rfl) h471 ?_
                refine .then ?_
                refine .reg (F' := (Fr.puts (⟨46, frTr [(1, (.pointer (some ⟨1, 0, none⟩))), (3, (.int .i64 z464)), (45, (.bool (nt (ilt z468 z469))))] .nil⟩ : Fr) [(2, (.int .i64 (7 : Int)))])) (H' := (⟨2, objTr [(.cells tab0 true false []), (.cells [(.int .i64 z466), (Sl.v 2 s467)] false false [])] 0 .nil, true⟩ : AHeap)) (by kernel_rfl) ?_
                refine .ghs (⟨46, frTr [(2, (.int .i64 (7 : Int)))] .nil⟩ : Fr) (⟨1, objTr [(.cells tab0 true false [])] 0 .nil, true⟩ : AHeap) (.gc [] [false] [] [2] (by kernel_rfl) trivial (by kernel_rfl)) ?_
                refine .ret ?_
                exact fin_ret (.int .i64 (7 : Int)) (by kernel_rfl) (by kernel_rfl) hm
              · refine .ifF (nt (ilt z468 z469)) (by kernel_rfl) h471 ?_
                refine .skip ?_
                refine .ghs (⟨46, frTr [(1, (.pointer (some ⟨1, 0, none⟩))), (3, (.int .i64 z464))] .nil⟩ : Fr) (⟨2, objTr [(.cells tab0 true false []), (.cells [(.int .i64 z466), (Sl.v 2 s467)] false false [])] 0 .nil, true⟩ : AHeap) (.gc [] [false] [.tmp 1 false] [1, 3] (by kernel_rfl) trivial (by kernel_rfl)) ?_
                refine .reg (F' := (Fr.puts (⟨46, frTr [(1, (.pointer (some ⟨1, 0, none⟩))), (3, (.int .i64 z464))] .nil⟩ : Fr) [(18, (.int .i64 z464)), (19, (.int .i64 (wrapF .i64 (Int.add z464 (1 : Int))))), (3, (.int .i64 (wrapF .i64 (Int.add z464 (1 : Int)))))])) (H' := (⟨2, objTr [(.cells tab0 true false []), (.cells [(.int .i64 z466), (Sl.v 2 s467)] false false [])] 0 .nil, true⟩ : AHeap)) (by kernel_rfl) ?_
                exact ⟨((wrapF .i64 (Int.add z464 (1 : Int))), z466, s467), hm, (.gc [] [false] [.tmp 1 false] [1, 3] (by kernel_rfl) trivial (by kernel_rfl))⟩
          · skip
            have hq := oo_inv hm; clear hm; obtain ⟨v472, h473, hm⟩ := hq
            have hq := oo_inv hm; clear hm; obtain ⟨b474, h475, hm⟩ := hq
            obtain rfl := vBool_some h475
            have hq := bb_cases hm; clear hm; rcases hq with ⟨h476, hm⟩ | ⟨h476, hm⟩
            · skip
              refine .reg (F' := (Fr.puts (⟨46, frTr [(1, (.pointer (some ⟨1, 0, none⟩))), (3, (.int .i64 (Int.ofNat k443))), (4, (.pointer (some ⟨2, 0, none⟩)))] .nil⟩ : Fr) [(25, (.pointer (some ⟨2, 0, none⟩))), (26, (.int .i64 x449)), (27, (.pointer (some ⟨1, 0, none⟩))), (28, (.int .i64 z440)), (29, (.int .i64 (wrapF .i64 (Int.sub z440 (1 : Int))))), (30, (.bool b474)), (31, (.bool true)), (32, (.bool true)), (33, (.tuple ⟨[]⟩)), (34, (.tuple ⟨[]⟩)), (35, (.tuple ⟨[]⟩)), (36, (.tuple ⟨[]⟩)), (37, (.tuple ⟨[]⟩)), (38, (.tuple ⟨[]⟩)), (39, (.tuple ⟨[]⟩)), (40, (.bool true))])) (H' := (⟨3, objTr [(.cells tab0 true false []), (.cells [(.int .i64 z440), (Sl.v 2 s441)] false false []), (.cells [(.int .i64 x449), (.int .i64 x453)] false false [])] 0 .nil, true⟩ : AHeap)) (evOps_cut 5 (by kernel_rfl) (evOps_data ((oo (pu 32 [(.int .i64 x449), (.int .i64 (0 : Int)), (.int .i64 (wrapF .i64 (Int.sub z440 (1 : Int))))]) none fun v => some (v, (⟨3, objTr [(.cells tab0 true false []), (.cells [(.int .i64 z440), (Sl.v 2 s441)] false false []), (.cells [(.int .i64 x449), (.int .i64 x453)] false false [])] 0 .nil, true⟩ : AHeap)))) (by kernel_rfl) (call_eq h473) (okAt_of (by kernel_rfl) (by kernel_rfl)) (evOps_data (some ((.bool (nt b474)), (⟨3, objTr [(.cells tab0 true false []), (.cells [(.int .i64 z440), (Sl.v 2 s441)] false false []), (.cells [(.int .i64 x449), (.int .i64 x453)] false false [])] 0 .nil, true⟩ : AHeap))) (by kernel_rfl) (show _ = some ((.bool true), _) from (by rw [h476])) (okAt_of (by kernel_rfl) (by kernel_rfl)) (by kernel_rfl)))) ?_
              exact ⟨((Int.ofNat k443), true, z440, s441, x449, x453), hm, (.gc [] [false] [.tmp 1 false, .tmp 4 false] [1, 3, 4, 40] (by kernel_rfl) trivial (by kernel_rfl))⟩
            · skip
              have hq := oo_inv hm; clear hm; obtain ⟨v477, h478, hm⟩ := hq
              have hq := oo_inv hm; clear hm; obtain ⟨b479, h480, hm⟩ := hq
              obtain rfl := vBool_some h480
              refine .reg (F' := (Fr.puts (⟨46, frTr [(1, (.pointer (some ⟨1, 0, none⟩))), (3, (.int .i64 (Int.ofNat k443))), (4, (.pointer (some ⟨2, 0, none⟩)))] .nil⟩ : Fr) [(25, (.pointer (some ⟨2, 0, none⟩))), (26, (.int .i64 x449)), (27, (.pointer (some ⟨1, 0, none⟩))), (28, (.int .i64 z440)), (29, (.int .i64 (wrapF .i64 (Int.sub z440 (1 : Int))))), (30, (.bool b474)), (31, (.bool false)), (32, (.bool false)), (33, (.pointer (some ⟨2, 1, none⟩))), (34, (.int .i64 x453)), (35, (.pointer (some ⟨1, 0, none⟩))), (36, (.int .i64 z440)), (37, (.int .i64 (wrapF .i64 (Int.sub z440 (1 : Int))))), (38, (.bool b479)), (39, (.bool (nt b479))), (40, (.bool (nt b479)))])) (H' := (⟨3, objTr [(.cells tab0 true false []), (.cells [(.int .i64 z440), (Sl.v 2 s441)] false false []), (.cells [(.int .i64 x449), (.int .i64 x453)] false false [])] 0 .nil, true⟩ : AHeap)) (evOps_cut 5 (by kernel_rfl) (evOps_data ((oo (pu 32 [(.int .i64 x449), (.int .i64 (0 : Int)), (.int .i64 (wrapF .i64 (Int.sub z440 (1 : Int))))]) none fun v => some (v, (⟨3, objTr [(.cells tab0 true false []), (.cells [(.int .i64 z440), (Sl.v 2 s441)] false false []), (.cells [(.int .i64 x449), (.int .i64 x453)] false false [])] 0 .nil, true⟩ : AHeap)))) (by kernel_rfl) (call_eq h473) (okAt_of (by kernel_rfl) (by kernel_rfl)) (evOps_data (some ((.bool (nt b474)), (⟨3, objTr [(.cells tab0 true false []), (.cells [(.int .i64 z440), (Sl.v 2 s441)] false false []), (.cells [(.int .i64 x449), (.int .i64 x453)] false false [])] 0 .nil, true⟩ : AHeap))) (by kernel_rfl) (show _ = some ((.bool false), _) from (by rw [h476])) (okAt_of (by kernel_rfl) (by kernel_rfl)) (evOps_cut 6 (by kernel_rfl) (evOps_data ((oo (pu 32 [(.int .i64 x453), (.int .i64 (0 : Int)), (.int .i64 (wrapF .i64 (Int.sub z440 (1 : Int))))]) none fun v => some (v, (⟨3, objTr [(.cells tab0 true false []), (.cells [(.int .i64 z440), (Sl.v 2 s441)] false false []), (.cells [(.int .i64 x449), (.int .i64 x453)] false false [])] 0 .nil, true⟩ : AHeap)))) (by kernel_rfl) (call_eq h478) (okAt_of (by kernel_rfl) (by kernel_rfl)) (by kernel_rfl)))))) ?_
              exact ⟨((Int.ofNat k443), (nt b479), z440, s441, x449, x453), hm, (.gc [] [false] [.tmp 1 false, .tmp 4 false] [1, 3, 4, 40] (by kernel_rfl) trivial (by kernel_rfl))⟩
        · refine .ifF (ilt z439 (Int.ofNat (Sl.n s441))) (by kernel_rfl) h442 ?_
          refine .exit ?_
          exact ⟨(), hm, (.gc [] [false] [] [] (by kernel_rfl) trivial (by kernel_rfl))⟩
end
end Go.TabRM
