/- Models of the program's functions, and the proofs that runs give them: MADE BY PROGRAM (wip/tools/dec.py). -/
import Derived.Test.YtalnfeacnnmchaaDoorTabRMod1x
import Derived.Test.YtalnfeacnnmchaaDoorTabRMod2
import Derived.Test.YtalnfeacnnmchaaDoorTabRMod3
import Derived.Test.YtalnfeacnnmchaaDoorProg
import Derived.Test.YtalnfeacnnmchaaDoorSpPlainx
import Derived.Test.YtalnfeacnnmchaaDoorTabRCode

set_option maxRecDepth 100000
set_option linter.unusedVariables false
namespace Go.TabRM
open Go.Sp Go.TabR
noncomputable section
/-- spadille/table.between -/
def o31_0 : List ROp := [
  ⟨(some 6), .assign (.const (.bool false)), 4, none, []⟩]
def c31_0 : RC := .reg [] o31_0
def o31_1 : List ROp := [
  ⟨(some 7), .move (.tmp 0), 3, none, []⟩,
  ⟨(some 8), .move (.tmp 1), 3, none, []⟩,
  ⟨(some 9), .binOp .leq 3 (.tmp 7) (.tmp 8) 3, 4, none, []⟩,
  ⟨(some 10), .move (.tmp 9), 4, none, []⟩,
  ⟨(some 11), .move (.tmp 1), 3, (some ((some 10), true)), []⟩,
  ⟨(some 12), .move (.tmp 2), 3, (some ((some 10), true)), []⟩,
  ⟨(some 13), .binOp .leq 3 (.tmp 11) (.tmp 12) 3, 4, (some ((some 10), true)), []⟩,
  ⟨(some 14), .pick (.tmp 10) (.tmp 13) (.const (.bool false)), 4, none, []⟩,
  ⟨(some 6), .assign (.tmp 14), 4, none, []⟩]
def c31_1 : RC := .reg [] o31_1
def c31_2 : RC := .seq c31_1 .ret
def c31_3 : RC := .seq c31_0 c31_2
def m31_0 (pu : PureF) (n : Nat) (b44477 : Bool) : Option Value :=
  (some (.bool b44477))
def m31_ (pu : PureF) (n : Nat) (x44470 : Int) (x44472 : Int) (x44474 : Int) : Option Value :=
  (bb (nt (ilt x44472 x44470)) (m31_0 pu n (nt (ilt x44474 x44472))) (m31_0 pu n false))
def m31 (pu : PureF) (n : Nat) (args : List Value) : Option Value :=
  (ll args none fun a0 args => (ll args none fun a1 args => (ll args none fun a2 args => (ll args (oo (toI .i64 a0) none fun x44470 => (oo (toI .i64 a1) none fun x44472 => (oo (toI .i64 a2) none fun x44474 => (m31_ pu n x44470 x44472 x44474)))) fun _ _ => none))))
theorem r31 {call : CallF} (pu : PureF) (n : Nat) (hcall : call = callP tabs isP pu inl) {args : List Value} {v : Value} (hm : m31 pu n args = some v) (_ : ∀ x ∈ args, closed2 x = true) : args.length ≤ 15 ∧ Run tt call 1 c31_3 (Fr.made 15 args) (pureHeap tabs) (Fin tt 1 [.tmp 6] v) := by
  subst hcall
  unfold m31 at hm
  have hq := ll_uncons hm; clear hm; obtain ⟨a0, args_0, rfl, hm⟩ := hq
  have hq := ll_uncons hm; clear hm; obtain ⟨a1, args_1, rfl, hm⟩ := hq
  have hq := ll_uncons hm; clear hm; obtain ⟨a2, args_2, rfl, hm⟩ := hq
  have hq := ll_end hm; clear hm; obtain ⟨rfl, hm⟩ := hq
  have hq := oo_inv hm; clear hm; obtain ⟨x44470, h44471, hm⟩ := hq
  obtain rfl := toI_some h44471
  have hq := oo_inv hm; clear hm; obtain ⟨x44472, h44473, hm⟩ := hq
  obtain rfl := toI_some h44473
  have hq := oo_inv hm; clear hm; obtain ⟨x44474, h44475, hm⟩ := hq
  obtain rfl := toI_some h44475
  unfold m31_ at hm
  refine ⟨by simp, ?_⟩
  refine .same (F' := (⟨15, frTr [(0, (.int .i64 x44470)), (1, (.int .i64 x44472)), (2, (.int .i64 x44474))] .nil⟩ : Fr)) (H' := (⟨1, objTr [(.cells tab0 true false [])] 0 .nil, true⟩ : AHeap)) (by kernel_rfl) (by kernel_rfl) ?_
  refine .then ?_
  refine .reg (F' := (Fr.puts (⟨15, frTr [(0, (.int .i64 x44470)), (1, (.int .i64 x44472)), (2, (.int .i64 x44474))] .nil⟩ : Fr) [(6, (.bool false))])) (H' := (⟨1, objTr [(.cells tab0 true false [])] 0 .nil, true⟩ : AHeap)) (by kernel_rfl) ?_
  refine .ghs (⟨15, frTr [(0, (.int .i64 x44470)), (1, (.int .i64 x44472)), (2, (.int .i64 x44474))] .nil⟩ : Fr) (⟨1, objTr [(.cells tab0 true false [])] 0 .nil, true⟩ : AHeap) (.gc [] [false] [] [0, 1, 2] (by kernel_rfl) trivial (by kernel_rfl)) ?_
  refine .join (v := v) (fun y : Bool => ((⟨15, frTr [(6, (.bool y))] .nil⟩ : Fr), (⟨1, objTr [(.cells tab0 true false [])] 0 .nil, true⟩ : AHeap))) (fun y => m31_0 pu n y) ?_ ?_
  · rintro b44477 hm
    unfold m31_0 at hm
    refine .ret ?_
    exact fin_ret (.bool b44477) (by kernel_rfl) (by kernel_rfl) hm
  · skip
    have hq := bb_cases hm; clear hm; rcases hq with ⟨h44478, hm⟩ | ⟨h44478, hm⟩
    · skip
      refine .reg (F' := (Fr.puts (⟨15, frTr [(0, (.int .i64 x44470)), (1, (.int .i64 x44472)), (2, (.int .i64 x44474))] .nil⟩ : Fr) [(7, (.int .i64 x44470)), (8, (.int .i64 x44472)), (9, (.bool true)), (10, (.bool true)), (11, (.int .i64 x44472)), (12, (.int .i64 x44474)), (13, (.bool (nt (ilt x44474 x44472)))), (14, (.bool (nt (ilt x44474 x44472)))), (6, (.bool (nt (ilt x44474 x44472))))])) (H' := (⟨1, objTr [(.cells tab0 true false [])] 0 .nil, true⟩ : AHeap)) (evOps_cut 2 (by kernel_rfl) (evOps_data (some ((.bool (nt (ilt x44472 x44470))), (⟨1, objTr [(.cells tab0 true false [])] 0 .nil, true⟩ : AHeap))) (by kernel_rfl) (show _ = some ((.bool true), _) from (by rw [h44478])) (okAt_of (by kernel_rfl) (by kernel_rfl)) (by kernel_rfl))) ?_
      exact ⟨(nt (ilt x44474 x44472)), hm, (.gc [] [false] [] [6] (by kernel_rfl) trivial (by kernel_rfl))⟩
    · skip
      refine .reg (F' := (Fr.puts (⟨15, frTr [(0, (.int .i64 x44470)), (1, (.int .i64 x44472)), (2, (.int .i64 x44474))] .nil⟩ : Fr) [(7, (.int .i64 x44470)), (8, (.int .i64 x44472)), (9, (.bool false)), (10, (.bool false)), (11, (.tuple ⟨[]⟩)), (12, (.tuple ⟨[]⟩)), (13, (.tuple ⟨[]⟩)), (14, (.bool false)), (6, (.bool false))])) (H' := (⟨1, objTr [(.cells tab0 true false [])] 0 .nil, true⟩ : AHeap)) (evOps_cut 2 (by kernel_rfl) (evOps_data (some ((.bool (nt (ilt x44472 x44470))), (⟨1, objTr [(.cells tab0 true false [])] 0 .nil, true⟩ : AHeap))) (by kernel_rfl) (show _ = some ((.bool false), _) from (by rw [h44478])) (okAt_of (by kernel_rfl) (by kernel_rfl)) (by kernel_rfl))) ?_
      exact ⟨false, hm, (.gc [] [false] [] [6] (by kernel_rfl) trivial (by kernel_rfl))⟩
/-- spadille/spadilleref07.in -/
def o32_0 : List ROp := [
  ⟨(some 6), .assign (.const (.bool false)), 4, none, []⟩]
def c32_0 : RC := .reg [] o32_0
def o32_1 : List ROp := [
  ⟨(some 7), .move (.tmp 0), 3, none, []⟩,
  ⟨(some 8), .move (.tmp 1), 3, none, []⟩,
  ⟨(some 9), .binOp .geq 3 (.tmp 7) (.tmp 8) 3, 4, none, []⟩,
  ⟨(some 10), .move (.tmp 9), 4, none, []⟩,
  ⟨(some 11), .move (.tmp 0), 3, (some ((some 10), true)), []⟩,
  ⟨(some 12), .move (.tmp 2), 3, (some ((some 10), true)), []⟩,
  ⟨(some 13), .binOp .leq 3 (.tmp 11) (.tmp 12) 3, 4, (some ((some 10), true)), []⟩,
  ⟨(some 14), .pick (.tmp 10) (.tmp 13) (.const (.bool false)), 4, none, []⟩,
  ⟨(some 6), .assign (.tmp 14), 4, none, []⟩]
def c32_1 : RC := .reg [] o32_1
def c32_2 : RC := .seq c32_1 .ret
def c32_3 : RC := .seq c32_0 c32_2
def m32_0 (pu : PureF) (n : Nat) (b44486 : Bool) : Option Value :=
  (some (.bool b44486))
def m32_ (pu : PureF) (n : Nat) (x44479 : Int) (x44481 : Int) (x44483 : Int) : Option Value :=
  (bb (nt (ilt x44479 x44481)) (m32_0 pu n (nt (ilt x44483 x44479))) (m32_0 pu n false))
def m32 (pu : PureF) (n : Nat) (args : List Value) : Option Value :=
  (ll args none fun a0 args => (ll args none fun a1 args => (ll args none fun a2 args => (ll args (oo (toI .i64 a0) none fun x44479 => (oo (toI .i64 a1) none fun x44481 => (oo (toI .i64 a2) none fun x44483 => (m32_ pu n x44479 x44481 x44483)))) fun _ _ => none))))
theorem r32 {call : CallF} (pu : PureF) (n : Nat) (hcall : call = callP tabs isP pu inl) {args : List Value} {v : Value} (hm : m32 pu n args = some v) (_ : ∀ x ∈ args, closed2 x = true) : args.length ≤ 15 ∧ Run tt call 1 c32_3 (Fr.made 15 args) (pureHeap tabs) (Fin tt 1 [.tmp 6] v) := by
  subst hcall
  unfold m32 at hm
  have hq := ll_uncons hm; clear hm; obtain ⟨a0, args_0, rfl, hm⟩ := hq
  have hq := ll_uncons hm; clear hm; obtain ⟨a1, args_1, rfl, hm⟩ := hq
  have hq := ll_uncons hm; clear hm; obtain ⟨a2, args_2, rfl, hm⟩ := hq
  have hq := ll_end hm; clear hm; obtain ⟨rfl, hm⟩ := hq
  have hq := oo_inv hm; clear hm; obtain ⟨x44479, h44480, hm⟩ := hq
  obtain rfl := toI_some h44480
  have hq := oo_inv hm; clear hm; obtain ⟨x44481, h44482, hm⟩ := hq
  obtain rfl := toI_some h44482
  have hq := oo_inv hm; clear hm; obtain ⟨x44483, h44484, hm⟩ := hq
  obtain rfl := toI_some h44484
  unfold m32_ at hm
  refine ⟨by simp, ?_⟩
  refine .same (F' := (⟨15, frTr [(0, (.int .i64 x44479)), (1, (.int .i64 x44481)), (2, (.int .i64 x44483))] .nil⟩ : Fr)) (H' := (⟨1, objTr [(.cells tab0 true false [])] 0 .nil, true⟩ : AHeap)) (by kernel_rfl) (by kernel_rfl) ?_
  refine .then ?_
  refine .reg (F' := (Fr.puts (⟨15, frTr [(0, (.int .i64 x44479)), (1, (.int .i64 x44481)), (2, (.int .i64 x44483))] .nil⟩ : Fr) [(6, (.bool false))])) (H' := (⟨1, objTr [(.cells tab0 true false [])] 0 .nil, true⟩ : AHeap)) (by kernel_rfl) ?_
  refine .ghs (⟨15, frTr [(0, (.int .i64 x44479)), (1, (.int .i64 x44481)), (2, (.int .i64 x44483))] .nil⟩ : Fr) (⟨1, objTr [(.cells tab0 true false [])] 0 .nil, true⟩ : AHeap) (.gc [] [false] [] [0, 1, 2] (by kernel_rfl) trivial (by kernel_rfl)) ?_
  refine .join (v := v) (fun y : Bool => ((⟨15, frTr [(6, (.bool y))] .nil⟩ : Fr), (⟨1, objTr [(.cells tab0 true false [])] 0 .nil, true⟩ : AHeap))) (fun y => m32_0 pu n y) ?_ ?_
  · rintro b44486 hm
    unfold m32_0 at hm
    refine .ret ?_
    exact fin_ret (.bool b44486) (by kernel_rfl) (by kernel_rfl) hm
  · skip
    have hq := bb_cases hm; clear hm; rcases hq with ⟨h44487, hm⟩ | ⟨h44487, hm⟩
    · skip
      refine .reg (F' := (Fr.puts (⟨15, frTr [(0, (.int .i64 x44479)), (1, (.int .i64 x44481)), (2, (.int .i64 x44483))] .nil⟩ : Fr) [(7, (.int .i64 x44479)), (8, (.int .i64 x44481)), (9, (.bool true)), (10, (.bool true)), (11, (.int .i64 x44479)), (12, (.int .i64 x44483)), (13, (.bool (nt (ilt x44483 x44479)))), (14, (.bool (nt (ilt x44483 x44479)))), (6, (.bool (nt (ilt x44483 x44479))))])) (H' := (⟨1, objTr [(.cells tab0 true false [])] 0 .nil, true⟩ : AHeap)) (evOps_cut 2 (by kernel_rfl) (evOps_data (some ((.bool (nt (ilt x44479 x44481))), (⟨1, objTr [(.cells tab0 true false [])] 0 .nil, true⟩ : AHeap))) (by kernel_rfl) (show _ = some ((.bool true), _) from (by rw [h44487])) (okAt_of (by kernel_rfl) (by kernel_rfl)) (by kernel_rfl))) ?_
      exact ⟨(nt (ilt x44483 x44479)), hm, (.gc [] [false] [] [6] (by kernel_rfl) trivial (by kernel_rfl))⟩
    · skip
      refine .reg (F' := (Fr.puts (⟨15, frTr [(0, (.int .i64 x44479)), (1, (.int .i64 x44481)), (2, (.int .i64 x44483))] .nil⟩ : Fr) [(7, (.int .i64 x44479)), (8, (.int .i64 x44481)), (9, (.bool false)), (10, (.bool false)), (11, (.tuple ⟨[]⟩)), (12, (.tuple ⟨[]⟩)), (13, (.tuple ⟨[]⟩)), (14, (.bool false)), (6, (.bool false))])) (H' := (⟨1, objTr [(.cells tab0 true false [])] 0 .nil, true⟩ : AHeap)) (evOps_cut 2 (by kernel_rfl) (evOps_data (some ((.bool (nt (ilt x44479 x44481))), (⟨1, objTr [(.cells tab0 true false [])] 0 .nil, true⟩ : AHeap))) (by kernel_rfl) (show _ = some ((.bool false), _) from (by rw [h44487])) (okAt_of (by kernel_rfl) (by kernel_rfl)) (by kernel_rfl))) ?_
      exact ⟨false, hm, (.gc [] [false] [] [6] (by kernel_rfl) trivial (by kernel_rfl))⟩
/-- slices.IsSorted[[]int,int] -/
def o33_0 : List ROp := [
  ⟨(some 2), .assign (.const (.bool false)), 4, none, []⟩]
def c33_0 : RC := .reg [] o33_0
def o33_1 : List ROp := [
  ⟨(some 4), .move (.tmp 0), 25, none, []⟩,
  ⟨(some 5), .call ⟨.builtin .len, #[(.tmp 4)], #[25]⟩, 3, none, []⟩,
  ⟨(some 6), .binOp .sub 3 (.tmp 5) (.const (.int .i64 1)) 3, 3, none, []⟩,
  ⟨(some 3), .assign (.tmp 6), 3, none, []⟩]
def c33_1 : RC := .reg [] o33_1
def o33_2 : List ROp := [
  ⟨(some 7), .move (.tmp 3), 3, none, []⟩,
  ⟨(some 8), .binOp .gtr 3 (.tmp 7) (.const (.int .i64 0)) 3, 4, none, []⟩]
def c33_2 : RC := .reg [] o33_2
def c33_3 : RC := .cond (.tmp 8) .skip (.exit 0)
def c33_4 : RC := .seq c33_2 c33_3
def o33_5 : List ROp := [
  ⟨(some 11), .move (.tmp 0), 25, none, []⟩,
  ⟨(some 12), .move (.tmp 3), 3, none, []⟩,
  ⟨(some 13), .indexAddr 25 (.tmp 11) (.tmp 12), 0, none, []⟩,
  ⟨(some 14), .load 3 (.tmp 13), 3, none, []⟩,
  ⟨(some 15), .move (.tmp 0), 25, none, []⟩,
  ⟨(some 16), .move (.tmp 3), 3, none, []⟩,
  ⟨(some 17), .binOp .sub 3 (.tmp 16) (.const (.int .i64 1)) 3, 3, none, []⟩,
  ⟨(some 18), .indexAddr 25 (.tmp 15) (.tmp 17), 0, none, []⟩,
  ⟨(some 19), .load 3 (.tmp 18), 3, none, []⟩,
  ⟨(some 20), .call ⟨.value (.func 46), #[(.tmp 14), (.tmp 19)], #[3, 3]⟩, 4, none, []⟩]
def c33_5 : RC := .reg [0, 1, 2, 3, 4, 5, 6, 7, 8, 9] o33_5
def o33_6 : List ROp := [
  ⟨(some 2), .assign (.const (.bool false)), 4, none, []⟩]
def c33_6 : RC := .reg [] o33_6
def c33_7 : RC := .seq c33_6 .ret
def c33_8 : RC := .cond (.tmp 20) c33_7 .skip
def c33_9 : RC := .seq c33_5 c33_8
def c33_10 : RC := .block 1 c33_9
def o33_11 : List ROp := [
  ⟨(some 9), .move (.tmp 3), 3, none, []⟩,
  ⟨(some 10), .binOp .sub 3 (.tmp 9) (.const (.int .i64 1)) 3, 3, none, []⟩,
  ⟨(some 3), .assign (.tmp 10), 3, none, []⟩]
def c33_11 : RC := .reg [] o33_11
def c33_12 : RC := .seq c33_10 c33_11
def c33_13 : RC := .seq c33_4 c33_12
def c33_14 : RC := .loop c33_13
def c33_15 : RC := .block 0 c33_14
def c33_16 : RC := .seq c33_1 c33_15
def o33_17 : List ROp := [
  ⟨(some 2), .assign (.const (.bool true)), 4, none, []⟩]
def c33_17 : RC := .reg [] o33_17
def c33_18 : RC := .seq c33_17 .ret
def c33_19 : RC := .seq c33_16 c33_18
def c33_20 : RC := .seq c33_0 c33_19
def m33_0 (pu : PureF) (n : Nat) : Option Value :=
  (some (.bool true))
def b33_1 (pu : PureF) (n : Nat) (ih0 : Sl → Int → Option Value) (s44512 : Sl) (z44513 : Int) : Option Value :=
  (bb (ilt (0 : Int) z44513) (oo (toN z44513) none fun k44515 => (bb (an (Nat.blt k44515 (Sl.n s44512)) true) (oo (nthL (Sl.cs s44512) (k44515 * 1)) none fun v44518 => (oo (toI .i64 v44518) none fun x44520 => (oo (toN (wrapF .i64 (Int.sub (Int.ofNat k44515) (1 : Int)))) none fun k44522 => (bb (an (Nat.blt k44522 (Sl.n s44512)) true) (oo (nthL (Sl.cs s44512) (k44522 * 1)) none fun v44525 => (oo (toI .i64 v44525) none fun x44527 => (oo (pu 46 [(.int .i64 x44520), (.int .i64 x44527)]) none fun v44529 => (oo (vBool v44529) none fun b44531 => (bb b44531 (some (.bool false)) (ih0 s44512 (wrapF .i64 (Int.sub (Int.ofNat k44515) (1 : Int))))))))) none)))) none)) (m33_0 pu n))
def l33_1 (pu : PureF) (n : Nat) (w : Nat) : Sl → Int → Option Value :=
  Nat.rec (motive := fun _ => Sl → Int → Option Value) (fun _ _ => none) (fun _ ih0 => b33_1 pu n ih0) w
def m33_ (pu : PureF) (n : Nat) (s44488 : Sl) : Option Value :=
  (l33_1 pu n n s44488 (wrapF .i64 (Int.sub (Int.ofNat (Sl.n s44488)) (1 : Int))))
def m33 (pu : PureF) (n : Nat) (args : List Value) : Option Value :=
  (ll args none fun a0 args => (ll args (oo (toSl 1 a0) none fun s44488 => (m33_ pu n s44488)) fun _ _ => none))
theorem r33 {call : CallF} (pu : PureF) (n : Nat) (hcall : call = callP tabs isP pu inl) {args : List Value} {v : Value} (hm : m33 pu n args = some v) (_ : ∀ x ∈ args, closed2 x = true) : args.length ≤ 21 ∧ Run tt call 1 c33_20 (Fr.made 21 args) (pureHeap tabs) (Fin tt 1 [.tmp 2] v) := by
  subst hcall
  unfold m33 at hm
  have hq := ll_uncons hm; clear hm; obtain ⟨a0, args_0, rfl, hm⟩ := hq
  have hq := ll_end hm; clear hm; obtain ⟨rfl, hm⟩ := hq
  have hq := oo_inv hm; clear hm; obtain ⟨s44488, h44489, hm⟩ := hq
  obtain rfl := toSl_some h44489
  unfold m33_ at hm
  refine ⟨by simp, ?_⟩
  refine .same (F' := (⟨21, frTr [(0, (Sl.v 1 s44488))] .nil⟩ : Fr)) (H' := (⟨1, objTr [(.cells tab0 true false [])] 0 .nil, true⟩ : AHeap)) (by kernel_rfl) (by kernel_rfl) ?_
  refine .then ?_
  refine .reg (F' := (Fr.puts (⟨21, frTr [(0, (Sl.v 1 s44488))] .nil⟩ : Fr) [(2, (.bool false))])) (H' := (⟨1, objTr [(.cells tab0 true false [])] 0 .nil, true⟩ : AHeap)) (by kernel_rfl) ?_
  refine .ghs (⟨21, frTr [(0, (Sl.v 1 s44488))] .nil⟩ : Fr) (⟨1, objTr [(.cells tab0 true false [])] 0 .nil, true⟩ : AHeap) (.gc [] [false] [] [0] (by kernel_rfl) trivial (by kernel_rfl)) ?_
  refine .join (v := v) (fun y : Unit => ((⟨21, frTr [] .nil⟩ : Fr), (⟨1, objTr [(.cells tab0 true false [])] 0 .nil, true⟩ : AHeap))) (fun y => m33_0 pu n) ?_ ?_
  · rintro _ hm
    unfold m33_0 at hm
    refine .then ?_
    refine .reg (F' := (Fr.puts (⟨21, frTr [] .nil⟩ : Fr) [(2, (.bool true))])) (H' := (⟨1, objTr [(.cells tab0 true false [])] 0 .nil, true⟩ : AHeap)) (by kernel_rfl) ?_
    refine .ghs (⟨21, frTr [(2, (.bool true))] .nil⟩ : Fr) (⟨1, objTr [(.cells tab0 true false [])] 0 .nil, true⟩ : AHeap) (.gc [] [false] [] [2] (by kernel_rfl) trivial (by kernel_rfl)) ?_
    refine .ret ?_
    exact fin_ret (.bool true) (by kernel_rfl) (by kernel_rfl) hm
  · skip
    refine .then ?_
    refine .reg (F' := (Fr.puts (⟨21, frTr [(0, (Sl.v 1 s44488))] .nil⟩ : Fr) [(4, (Sl.v 1 s44488)), (5, (.int .i64 (Int.ofNat (Sl.n s44488)))), (6, (.int .i64 (wrapF .i64 (Int.sub (Int.ofNat (Sl.n s44488)) (1 : Int))))), (3, (.int .i64 (wrapF .i64 (Int.sub (Int.ofNat (Sl.n s44488)) (1 : Int)))))])) (H' := (⟨1, objTr [(.cells tab0 true false [])] 0 .nil, true⟩ : AHeap)) (by kernel_rfl) ?_
    refine .ghs (⟨21, frTr [(0, (Sl.v 1 s44488)), (3, (.int .i64 (wrapF .i64 (Int.sub (Int.ofNat (Sl.n s44488)) (1 : Int)))))] .nil⟩ : Fr) (⟨1, objTr [(.cells tab0 true false [])] 0 .nil, true⟩ : AHeap) (.gc [] [false] [] [0, 3] (by kernel_rfl) trivial (by kernel_rfl)) ?_
    refine .block ?_
    refine .loopM (v := v) (fun y : Sl × Int => ((⟨21, frTr [(0, (Sl.v 1 y.1)), (3, (.int .i64 y.2))] .nil⟩ : Fr), (⟨1, objTr [(.cells tab0 true false [])] 0 .nil, true⟩ : AHeap))) (fun w y => l33_1 pu n w y.1 y.2) n ⟨(s44488, (wrapF .i64 (Int.sub (Int.ofNat (Sl.n s44488)) (1 : Int)))), hm, (.gc [] [false] [] [0, 3] (by kernel_rfl) trivial (by kernel_rfl))⟩ (fun _ => rfl) ?_
    rintro w0 ⟨s44512, z44513⟩ hm
    refine .then ?_
    refine .then ?_
    refine .reg (F' := (Fr.puts (⟨21, frTr [(0, (Sl.v 1 s44512)), (3, (.int .i64 z44513))] .nil⟩ : Fr) [(7, (.int .i64 z44513)), (8, (.bool (ilt (0 : Int) z44513)))])) (H' := (⟨1, objTr [(.cells tab0 true false [])] 0 .nil, true⟩ : AHeap)) (by kernel_rfl) ?_
    refine .ghs (⟨21, frTr [(0, (Sl.v 1 s44512)), (3, (.int .i64 z44513)), (8, (.bool (ilt (0 : Int) z44513)))] .nil⟩ : Fr) (⟨1, objTr [(.cells tab0 true false [])] 0 .nil, true⟩ : AHeap) (.gc [] [false] [] [0, 3, 8] (by kernel_rfl) trivial (by kernel_rfl)) ?_
    have hq := bb_cases hm; clear hm; rcases hq with ⟨h44514, hm⟩ | ⟨h44514, hm⟩
    · refine .ifT (ilt (0 : Int) z44513) (by kernel_rfl) h44514 ?_
      refine .skip ?_
      refine .ghs (⟨21, frTr [(0, (Sl.v 1 s44512)), (3, (.int .i64 z44513))] .nil⟩ : Fr) (⟨1, objTr [(.cells tab0 true false [])] 0 .nil, true⟩ : AHeap) (.gc [] [false] [] [0, 3] (by kernel_rfl) trivial (by kernel_rfl)) ?_
      refine .then ?_
      refine .block ?_
      refine .then ?_
      have hq := oo_inv hm; clear hm; obtain ⟨k44515, h44516, hm⟩ := hq
      obtain rfl := toN_some h44516
      have hq := bb_inv hm; clear hm; obtain ⟨h44517, hm⟩ := hq
      have hq := oo_inv hm; clear hm; obtain ⟨v44518, h44519, hm⟩ := hq
      have hq := oo_inv hm; clear hm; obtain ⟨x44520, h44521, hm⟩ := hq
      obtain rfl := toI_some h44521
      have hq := oo_inv hm; clear hm; obtain ⟨k44522, h44523, hm⟩ := hq
      have hq := bb_inv hm; clear hm; obtain ⟨h44524, hm⟩ := hq
      have hq := oo_inv hm; clear hm; obtain ⟨v44525, h44526, hm⟩ := hq
      have hq := oo_inv hm; clear hm; obtain ⟨x44527, h44528, hm⟩ := hq
      obtain rfl := toI_some h44528
      have hq := oo_inv hm; clear hm; obtain ⟨v44529, h44530, hm⟩ := hq
      have hq := oo_inv hm; clear hm; obtain ⟨b44531, h44532, hm⟩ := hq
      obtain rfl := vBool_some h44532
      refine .reg (F' := (Fr.puts (⟨21, frTr [(0, (Sl.v 1 s44512)), (3, (.int .i64 (Int.ofNat k44515)))] .nil⟩ : Fr) [(11, (Sl.v 1 s44512)), (12, (.int .i64 (Int.ofNat k44515))), (13, (fpV (k44515 * 1) (Sl.cs s44512))), (14, (.int .i64 x44520)), (15, (Sl.v 1 s44512)), (16, (.int .i64 (Int.ofNat k44515))), (17, (.int .i64 (Int.ofNat k44522))), (18, (fpV (k44522 * 1) (Sl.cs s44512))), (19, (.int .i64 x44527)), (20, (.bool b44531))])) (H' := (⟨1, objTr [(.cells tab0 true false [])] 0 .nil, true⟩ : AHeap)) (evOps_cut 2 (by kernel_rfl) (evOps_data (keep (⟨1, objTr [(.cells tab0 true false [])] 0 .nil, true⟩ : AHeap) (bb (an (Nat.blt k44515 (Sl.n s44512)) true) (some (fpV (k44515 * 1) (Sl.cs s44512))) none)) (by kernel_rfl) (keep_bb h44517) (okAt_of (by kernel_rfl) (by kernel_rfl)) (evOps_data (keep (⟨1, objTr [(.cells tab0 true false [])] 0 .nil, true⟩ : AHeap) (nthL (Sl.cs s44512) (k44515 * 1))) (by kernel_rfl) (keep_eq h44519) (okAt_of (by kernel_rfl) (by kernel_rfl)) (evOps_cut 2 (by kernel_rfl) (evOps_data (some ((.int .i64 (wrapF .i64 (Int.sub (Int.ofNat k44515) (1 : Int)))), (⟨1, objTr [(.cells tab0 true false [])] 0 .nil, true⟩ : AHeap))) (by kernel_rfl) (show _ = some ((.int .i64 (Int.ofNat k44522)), _) from (by rw [toN_some h44523])) (okAt_of (by kernel_rfl) (by kernel_rfl)) (evOps_data (keep (⟨1, objTr [(.cells tab0 true false [])] 0 .nil, true⟩ : AHeap) (bb (an (Nat.blt k44522 (Sl.n s44512)) true) (some (fpV (k44522 * 1) (Sl.cs s44512))) none)) (by kernel_rfl) (keep_bb h44524) (okAt_of (by kernel_rfl) (by kernel_rfl)) (evOps_data (keep (⟨1, objTr [(.cells tab0 true false [])] 0 .nil, true⟩ : AHeap) (nthL (Sl.cs s44512) (k44522 * 1))) (by kernel_rfl) (keep_eq h44526) (okAt_of (by kernel_rfl) (by kernel_rfl)) (evOps_data ((oo (pu 46 [(.int .i64 x44520), (.int .i64 x44527)]) none fun v => some (v, (⟨1, objTr [(.cells tab0 true false [])] 0 .nil, true⟩ : AHeap)))) (by kernel_rfl) (call_eq h44530) (okAt_of (by kernel_rfl) (by kernel_rfl)) (by kernel_rfl))))))))) ?_
      refine .ghs (⟨21, frTr [(0, (Sl.v 1 s44512)), (3, (.int .i64 (Int.ofNat k44515))), (20, (.bool b44531))] .nil⟩ : Fr) (⟨1, objTr [(.cells tab0 true false [])] 0 .nil, true⟩ : AHeap) (.gc [] [false] [] [0, 3, 20] (by kernel_rfl) trivial (by kernel_rfl)) ?_
      have hq := bb_cases hm; clear hm; rcases hq with ⟨h44533, hm⟩ | ⟨h44533, hm⟩
      · refine .ifT b44531 (by kernel_rfl) h44533 ?_
        refine .then ?_
        refine .reg (F' := (Fr.puts (⟨21, frTr [(0, (Sl.v 1 s44512)), (3, (.int .i64 (Int.ofNat k44515))), (20, (.bool b44531))] .nil⟩ : Fr) [(2, (.bool false))])) (H' := (⟨1, objTr [(.cells tab0 true false [])] 0 .nil, true⟩ : AHeap)) (by kernel_rfl) ?_
        refine .ghs (⟨21, frTr [(2, (.bool false))] .nil⟩ : Fr) (⟨1, objTr [(.cells tab0 true false [])] 0 .nil, true⟩ : AHeap) (.gc [] [false] [] [2] (by kernel_rfl) trivial (by kernel_rfl)) ?_
        refine .ret ?_
        exact fin_ret (.bool false) (by kernel_rfl) (by kernel_rfl) hm
      · refine .ifF b44531 (by kernel_rfl) h44533 ?_
        refine .skip ?_
        refine .ghs (⟨21, frTr [(0, (Sl.v 1 s44512)), (3, (.int .i64 (Int.ofNat k44515)))] .nil⟩ : Fr) (⟨1, objTr [(.cells tab0 true false [])] 0 .nil, true⟩ : AHeap) (.gc [] [false] [] [0, 3] (by kernel_rfl) trivial (by kernel_rfl)) ?_
        refine .reg (F' := (Fr.puts (⟨21, frTr [(0, (Sl.v 1 s44512)), (3, (.int .i64 (Int.ofNat k44515)))] .nil⟩ : Fr) [(9, (.int .i64 (Int.ofNat k44515))), (10, (.int .i64 (wrapF .i64 (Int.sub (Int.ofNat k44515) (1 : Int))))), (3, (.int .i64 (wrapF .i64 (Int.sub (Int.ofNat k44515) (1 : Int)))))])) (H' := (⟨1, objTr [(.cells tab0 true false [])] 0 .nil, true⟩ : AHeap)) (by kernel_rfl) ?_
        exact ⟨(s44512, (wrapF .i64 (Int.sub (Int.ofNat k44515) (1 : Int)))), hm, (.gc [] [false] [] [0, 3] (by kernel_rfl) trivial (by kernel_rfl))⟩
    · refine .ifF (ilt (0 : Int) z44513) (by kernel_rfl) h44514 ?_
      refine .exit ?_
      exact ⟨(), hm, (.gc [] [false] [] [] (by kernel_rfl) trivial (by kernel_rfl))⟩
/-- spadille/spadilleref07.sorted -/
def o34_0 : List ROp := [
  ⟨(some 2), .assign (.const (.bool false)), 4, none, []⟩]
def c34_0 : RC := .reg [] o34_0
def o34_1 : List ROp := [
  ⟨(some 3), .assign (.const (.int .i64 1)), 3, none, []⟩]
def c34_1 : RC := .reg [] o34_1
def o34_2 : List ROp := [
  ⟨(some 4), .move (.tmp 3), 3, none, []⟩,
  ⟨(some 5), .move (.tmp 0), 25, none, []⟩,
  ⟨(some 6), .call ⟨.builtin .len, #[(.tmp 5)], #[25]⟩, 3, none, []⟩,
  ⟨(some 7), .binOp .lss 3 (.tmp 4) (.tmp 6) 3, 4, none, []⟩]
def c34_2 : RC := .reg [] o34_2
def c34_3 : RC := .cond (.tmp 7) .skip (.exit 0)
def c34_4 : RC := .seq c34_2 c34_3
def o34_5 : List ROp := [
  ⟨(some 10), .move (.tmp 0), 25, none, []⟩,
  ⟨(some 11), .move (.tmp 3), 3, none, []⟩,
  ⟨(some 12), .indexAddr 25 (.tmp 10) (.tmp 11), 0, none, []⟩,
  ⟨(some 13), .load 3 (.tmp 12), 3, none, []⟩,
  ⟨(some 14), .move (.tmp 0), 25, none, []⟩,
  ⟨(some 15), .move (.tmp 3), 3, none, []⟩,
  ⟨(some 16), .binOp .sub 3 (.tmp 15) (.const (.int .i64 1)) 3, 3, none, []⟩,
  ⟨(some 17), .indexAddr 25 (.tmp 14) (.tmp 16), 0, none, []⟩,
  ⟨(some 18), .load 3 (.tmp 17), 3, none, []⟩,
  ⟨(some 19), .binOp .lss 3 (.tmp 13) (.tmp 18) 3, 4, none, []⟩]
def c34_5 : RC := .reg [0, 1, 2, 3, 4, 5, 6, 7, 8, 9] o34_5
def o34_6 : List ROp := [
  ⟨(some 2), .assign (.const (.bool false)), 4, none, []⟩]
def c34_6 : RC := .reg [] o34_6
def c34_7 : RC := .seq c34_6 .ret
def c34_8 : RC := .cond (.tmp 19) c34_7 .skip
def c34_9 : RC := .seq c34_5 c34_8
def c34_10 : RC := .block 1 c34_9
def o34_11 : List ROp := [
  ⟨(some 8), .move (.tmp 3), 3, none, []⟩,
  ⟨(some 9), .binOp .add 3 (.tmp 8) (.const (.int .i64 1)) 3, 3, none, []⟩,
  ⟨(some 3), .assign (.tmp 9), 3, none, []⟩]
def c34_11 : RC := .reg [] o34_11
def c34_12 : RC := .seq c34_10 c34_11
def c34_13 : RC := .seq c34_4 c34_12
def c34_14 : RC := .loop c34_13
def c34_15 : RC := .block 0 c34_14
def c34_16 : RC := .seq c34_1 c34_15
def o34_17 : List ROp := [
  ⟨(some 2), .assign (.const (.bool true)), 4, none, []⟩]
def c34_17 : RC := .reg [] o34_17
def c34_18 : RC := .seq c34_17 .ret
def c34_19 : RC := .seq c34_16 c34_18
def c34_20 : RC := .seq c34_0 c34_19
def m34_0 (pu : PureF) (n : Nat) : Option Value :=
  (some (.bool true))
def b34_1 (pu : PureF) (n : Nat) (ih0 : Sl → Int → Option Value) (s44554 : Sl) (z44555 : Int) : Option Value :=
  (bb (ilt z44555 (Int.ofNat (Sl.n s44554))) (oo (toN z44555) none fun k44557 => (bb (an (Nat.blt k44557 (Sl.n s44554)) true) (oo (nthL (Sl.cs s44554) (k44557 * 1)) none fun v44560 => (oo (toI .i64 v44560) none fun x44562 => (oo (toN (wrapF .i64 (Int.sub (Int.ofNat k44557) (1 : Int)))) none fun k44564 => (bb (an (Nat.blt k44564 (Sl.n s44554)) true) (oo (nthL (Sl.cs s44554) (k44564 * 1)) none fun v44567 => (oo (toI .i64 v44567) none fun x44569 => (bb (ilt x44562 x44569) (some (.bool false)) (ih0 s44554 (wrapF .i64 (Int.add (Int.ofNat k44557) (1 : Int))))))) none)))) none)) (m34_0 pu n))
def l34_1 (pu : PureF) (n : Nat) (w : Nat) : Sl → Int → Option Value :=
  Nat.rec (motive := fun _ => Sl → Int → Option Value) (fun _ _ => none) (fun _ ih0 => b34_1 pu n ih0) w
def m34_ (pu : PureF) (n : Nat) (s44534 : Sl) : Option Value :=
  (l34_1 pu n n s44534 (1 : Int))
def m34 (pu : PureF) (n : Nat) (args : List Value) : Option Value :=
  (ll args none fun a0 args => (ll args (oo (toSl 1 a0) none fun s44534 => (m34_ pu n s44534)) fun _ _ => none))
theorem r34 {call : CallF} (pu : PureF) (n : Nat) (hcall : call = callP tabs isP pu inl) {args : List Value} {v : Value} (hm : m34 pu n args = some v) (_ : ∀ x ∈ args, closed2 x = true) : args.length ≤ 20 ∧ Run tt call 1 c34_20 (Fr.made 20 args) (pureHeap tabs) (Fin tt 1 [.tmp 2] v) := by
  subst hcall
  unfold m34 at hm
  have hq := ll_uncons hm; clear hm; obtain ⟨a0, args_0, rfl, hm⟩ := hq
  have hq := ll_end hm; clear hm; obtain ⟨rfl, hm⟩ := hq
  have hq := oo_inv hm; clear hm; obtain ⟨s44534, h44535, hm⟩ := hq
  obtain rfl := toSl_some h44535
  unfold m34_ at hm
  refine ⟨by simp, ?_⟩
  refine .same (F' := (⟨20, frTr [(0, (Sl.v 1 s44534))] .nil⟩ : Fr)) (H' := (⟨1, objTr [(.cells tab0 true false [])] 0 .nil, true⟩ : AHeap)) (by kernel_rfl) (by kernel_rfl) ?_
  refine .then ?_
  refine .reg (F' := (Fr.puts (⟨20, frTr [(0, (Sl.v 1 s44534))] .nil⟩ : Fr) [(2, (.bool false))])) (H' := (⟨1, objTr [(.cells tab0 true false [])] 0 .nil, true⟩ : AHeap)) (by kernel_rfl) ?_
  refine .ghs (⟨20, frTr [(0, (Sl.v 1 s44534))] .nil⟩ : Fr) (⟨1, objTr [(.cells tab0 true false [])] 0 .nil, true⟩ : AHeap) (.gc [] [false] [] [0] (by kernel_rfl) trivial (by kernel_rfl)) ?_
  refine .join (v := v) (fun y : Unit => ((⟨20, frTr [] .nil⟩ : Fr), (⟨1, objTr [(.cells tab0 true false [])] 0 .nil, true⟩ : AHeap))) (fun y => m34_0 pu n) ?_ ?_
  · rintro _ hm
    unfold m34_0 at hm
    refine .then ?_
    refine .reg (F' := (Fr.puts (⟨20, frTr [] .nil⟩ : Fr) [(2, (.bool true))])) (H' := (⟨1, objTr [(.cells tab0 true false [])] 0 .nil, true⟩ : AHeap)) (by kernel_rfl) ?_
    refine .ghs (⟨20, frTr [(2, (.bool true))] .nil⟩ : Fr) (⟨1, objTr [(.cells tab0 true false [])] 0 .nil, true⟩ : AHeap) (.gc [] [false] [] [2] (by kernel_rfl) trivial (by kernel_rfl)) ?_
    refine .ret ?_
    exact fin_ret (.bool true) (by kernel_rfl) (by kernel_rfl) hm
  · skip
    refine .then ?_
    refine .reg (F' := (Fr.puts (⟨20, frTr [(0, (Sl.v 1 s44534))] .nil⟩ : Fr) [(3, (.int .i64 (1 : Int)))])) (H' := (⟨1, objTr [(.cells tab0 true false [])] 0 .nil, true⟩ : AHeap)) (by kernel_rfl) ?_
    refine .ghs (⟨20, frTr [(0, (Sl.v 1 s44534)), (3, (.int .i64 (1 : Int)))] .nil⟩ : Fr) (⟨1, objTr [(.cells tab0 true false [])] 0 .nil, true⟩ : AHeap) (.gc [] [false] [] [0, 3] (by kernel_rfl) trivial (by kernel_rfl)) ?_
    refine .block ?_
    refine .loopM (v := v) (fun y : Sl × Int => ((⟨20, frTr [(0, (Sl.v 1 y.1)), (3, (.int .i64 y.2))] .nil⟩ : Fr), (⟨1, objTr [(.cells tab0 true false [])] 0 .nil, true⟩ : AHeap))) (fun w y => l34_1 pu n w y.1 y.2) n ⟨(s44534, (1 : Int)), hm, (.gc [] [false] [] [0, 3] (by kernel_rfl) trivial (by kernel_rfl))⟩ (fun _ => rfl) ?_
    rintro w0 ⟨s44554, z44555⟩ hm
    refine .then ?_
    refine .then ?_
    refine .reg (F' := (Fr.puts (⟨20, frTr [(0, (Sl.v 1 s44554)), (3, (.int .i64 z44555))] .nil⟩ : Fr) [(4, (.int .i64 z44555)), (5, (Sl.v 1 s44554)), (6, (.int .i64 (Int.ofNat (Sl.n s44554)))), (7, (.bool (ilt z44555 (Int.ofNat (Sl.n s44554)))))])) (H' := (⟨1, objTr [(.cells tab0 true false [])] 0 .nil, true⟩ : AHeap)) (by kernel_rfl) ?_
    refine .ghs (⟨20, frTr [(0, (Sl.v 1 s44554)), (3, (.int .i64 z44555)), (7, (.bool (ilt z44555 (Int.ofNat (Sl.n s44554)))))] .nil⟩ : Fr) (⟨1, objTr [(.cells tab0 true false [])] 0 .nil, true⟩ : AHeap) (.gc [] [false] [] [0, 3, 7] (by kernel_rfl) trivial (by kernel_rfl)) ?_
    have hq := bb_cases hm; clear hm; rcases hq with ⟨h44556, hm⟩ | ⟨h44556, hm⟩
    · refine .ifT (ilt z44555 (Int.ofNat (Sl.n s44554))) (by kernel_rfl) h44556 ?_
      refine .skip ?_
      refine .ghs (⟨20, frTr [(0, (Sl.v 1 s44554)), (3, (.int .i64 z44555))] .nil⟩ : Fr) (⟨1, objTr [(.cells tab0 true false [])] 0 .nil, true⟩ : AHeap) (.gc [] [false] [] [0, 3] (by kernel_rfl) trivial (by kernel_rfl)) ?_
      refine .then ?_
      refine .block ?_
      refine .then ?_
      have hq := oo_inv hm; clear hm; obtain ⟨k44557, h44558, hm⟩ := hq
      obtain rfl := toN_some h44558
      have hq := bb_inv hm; clear hm; obtain ⟨h44559, hm⟩ := hq
      have hq := oo_inv hm; clear hm; obtain ⟨v44560, h44561, hm⟩ := hq
      have hq := oo_inv hm; clear hm; obtain ⟨x44562, h44563, hm⟩ := hq
      obtain rfl := toI_some h44563
      have hq := oo_inv hm; clear hm; obtain ⟨k44564, h44565, hm⟩ := hq
      have hq := bb_inv hm; clear hm; obtain ⟨h44566, hm⟩ := hq
      have hq := oo_inv hm; clear hm; obtain ⟨v44567, h44568, hm⟩ := hq
      have hq := oo_inv hm; clear hm; obtain ⟨x44569, h44570, hm⟩ := hq
      obtain rfl := toI_some h44570
      refine .reg (F' := (Fr.puts (⟨20, frTr [(0, (Sl.v 1 s44554)), (3, (.int .i64 (Int.ofNat k44557)))] .nil⟩ : Fr) [(10, (Sl.v 1 s44554)), (11, (.int .i64 (Int.ofNat k44557))), (12, (fpV (k44557 * 1) (Sl.cs s44554))), (13, (.int .i64 x44562)), (14, (Sl.v 1 s44554)), (15, (.int .i64 (Int.ofNat k44557))), (16, (.int .i64 (Int.ofNat k44564))), (17, (fpV (k44564 * 1) (Sl.cs s44554))), (18, (.int .i64 x44569)), (19, (.bool (ilt x44562 x44569)))])) (H' := (⟨1, objTr [(.cells tab0 true false [])] 0 .nil, true⟩ : AHeap)) (evOps_cut 2 (by kernel_rfl) (evOps_data (keep (⟨1, objTr [(.cells tab0 true false [])] 0 .nil, true⟩ : AHeap) (bb (an (Nat.blt k44557 (Sl.n s44554)) true) (some (fpV (k44557 * 1) (Sl.cs s44554))) none)) (by kernel_rfl) (keep_bb h44559) (okAt_of (by kernel_rfl) (by kernel_rfl)) (evOps_data (keep (⟨1, objTr [(.cells tab0 true false [])] 0 .nil, true⟩ : AHeap) (nthL (Sl.cs s44554) (k44557 * 1))) (by kernel_rfl) (keep_eq h44561) (okAt_of (by kernel_rfl) (by kernel_rfl)) (evOps_cut 2 (by kernel_rfl) (evOps_data (some ((.int .i64 (wrapF .i64 (Int.sub (Int.ofNat k44557) (1 : Int)))), (⟨1, objTr [(.cells tab0 true false [])] 0 .nil, true⟩ : AHeap))) (by kernel_rfl) (show _ = some ((.int .i64 (Int.ofNat k44564)), _) from (by rw [toN_some h44565])) (okAt_of (by kernel_rfl) (by kernel_rfl)) (evOps_data (keep (⟨1, objTr [(.cells tab0 true false [])] 0 .nil, true⟩ : AHeap) (bb (an (Nat.blt k44564 (Sl.n s44554)) true) (some (fpV (k44564 * 1) (Sl.cs s44554))) none)) (by kernel_rfl) (keep_bb h44566) (okAt_of (by kernel_rfl) (by kernel_rfl)) (evOps_data (keep (⟨1, objTr [(.cells tab0 true false [])] 0 .nil, true⟩ : AHeap) (nthL (Sl.cs s44554) (k44564 * 1))) (by kernel_rfl) (keep_eq h44568) (okAt_of (by kernel_rfl) (by kernel_rfl)) (by kernel_rfl)))))))) ?_
      refine .ghs (⟨20, frTr [(0, (Sl.v 1 s44554)), (3, (.int .i64 (Int.ofNat k44557))), (19, (.bool (ilt x44562 x44569)))] .nil⟩ : Fr) (⟨1, objTr [(.cells tab0 true false [])] 0 .nil, true⟩ : AHeap) (.gc [] [false] [] [0, 3, 19] (by kernel_rfl) trivial (by kernel_rfl)) ?_
      have hq := bb_cases hm; clear hm; rcases hq with ⟨h44571, hm⟩ | ⟨h44571, hm⟩
      · refine .ifT (ilt x44562 x44569) (by kernel_rfl) h44571 ?_
        refine .then ?_
        refine .reg (F' := (Fr.puts (⟨20, frTr [(0, (Sl.v 1 s44554)), (3, (.int .i64 (Int.ofNat k44557))), (19, (.bool (ilt x44562 x44569)))] .nil⟩ : Fr) [(2, (.bool false))])) (H' := (⟨1, objTr [(.cells tab0 true false [])] 0 .nil, true⟩ : AHeap)) (by kernel_rfl) ?_
        refine .ghs (⟨20, frTr [(2, (.bool false))] .nil⟩ : Fr) (⟨1, objTr [(.cells tab0 true false [])] 0 .nil, true⟩ : AHeap) (.gc [] [false] [] [2] (by kernel_rfl) trivial (by kernel_rfl)) ?_
        refine .ret ?_
        exact fin_ret (.bool false) (by kernel_rfl) (by kernel_rfl) hm
      · refine .ifF (ilt x44562 x44569) (by kernel_rfl) h44571 ?_
        refine .skip ?_
        refine .ghs (⟨20, frTr [(0, (Sl.v 1 s44554)), (3, (.int .i64 (Int.ofNat k44557)))] .nil⟩ : Fr) (⟨1, objTr [(.cells tab0 true false [])] 0 .nil, true⟩ : AHeap) (.gc [] [false] [] [0, 3] (by kernel_rfl) trivial (by kernel_rfl)) ?_
        refine .reg (F' := (Fr.puts (⟨20, frTr [(0, (Sl.v 1 s44554)), (3, (.int .i64 (Int.ofNat k44557)))] .nil⟩ : Fr) [(8, (.int .i64 (Int.ofNat k44557))), (9, (.int .i64 (wrapF .i64 (Int.add (Int.ofNat k44557) (1 : Int))))), (3, (.int .i64 (wrapF .i64 (Int.add (Int.ofNat k44557) (1 : Int)))))])) (H' := (⟨1, objTr [(.cells tab0 true false [])] 0 .nil, true⟩ : AHeap)) (by kernel_rfl) ?_
        exact ⟨(s44554, (wrapF .i64 (Int.add (Int.ofNat k44557) (1 : Int)))), hm, (.gc [] [false] [] [0, 3] (by kernel_rfl) trivial (by kernel_rfl))⟩
    · refine .ifF (ilt z44555 (Int.ofNat (Sl.n s44554))) (by kernel_rfl) h44556 ?_
      refine .exit ?_
      exact ⟨(), hm, (.gc [] [false] [] [] (by kernel_rfl) trivial (by kernel_rfl))⟩
/-- cmp.Less[int] -/
def o46_0 : List ROp := [
  ⟨(some 4), .assign (.const (.bool false)), 4, none, []⟩]
def c46_0 : RC := .reg [] o46_0
def o46_1 : List ROp := [
  ⟨(some 5), .move (.tmp 0), 3, none, []⟩,
  ⟨(some 6), .call ⟨.value (.func 52), #[(.tmp 5)], #[3]⟩, 4, none, []⟩,
  ⟨(some 7), .move (.tmp 6), 4, none, []⟩,
  ⟨(some 8), .move (.tmp 1), 3, (some ((some 7), true)), []⟩,
  ⟨(some 9), .call ⟨.value (.func 52), #[(.tmp 8)], #[3]⟩, 4, (some ((some 7), true)), []⟩,
  ⟨(some 10), .unOp .not 4 (.tmp 9), 4, (some ((some 7), true)), []⟩,
  ⟨(some 11), .pick (.tmp 7) (.tmp 10) (.const (.bool false)), 4, none, []⟩,
  ⟨(some 12), .move (.tmp 11), 4, none, []⟩,
  ⟨(some 13), .move (.tmp 0), 3, (some ((some 12), false)), []⟩,
  ⟨(some 14), .move (.tmp 1), 3, (some ((some 12), false)), []⟩,
  ⟨(some 15), .binOp .lss 3 (.tmp 13) (.tmp 14) 3, 4, (some ((some 12), false)), []⟩,
  ⟨(some 16), .pick (.tmp 12) (.const (.bool true)) (.tmp 15), 4, none, []⟩,
  ⟨(some 4), .assign (.tmp 16), 4, none, []⟩]
def c46_1 : RC := .reg [] o46_1
def c46_2 : RC := .seq c46_1 .ret
def c46_3 : RC := .seq c46_0 c46_2
def m46_0 (pu : PureF) (n : Nat) (b44586 : Bool) : Option Value :=
  (some (.bool b44586))
def m46_ (pu : PureF) (n : Nat) (x44572 : Int) (x44574 : Int) : Option Value :=
  (oo (pu 52 [(.int .i64 x44572)]) none fun v44587 => (oo (vBool v44587) none fun b44589 => (bb b44589 (oo (pu 52 [(.int .i64 x44574)]) none fun v44592 => (oo (vBool v44592) none fun b44594 => (bb (nt b44594) (m46_0 pu n true) (m46_0 pu n (ilt x44572 x44574))))) (m46_0 pu n (ilt x44572 x44574)))))
def m46 (pu : PureF) (n : Nat) (args : List Value) : Option Value :=
  (ll args none fun a0 args => (ll args none fun a1 args => (ll args (oo (toI .i64 a0) none fun x44572 => (oo (toI .i64 a1) none fun x44574 => (m46_ pu n x44572 x44574))) fun _ _ => none)))
theorem r46 {call : CallF} (pu : PureF) (n : Nat) (hcall : call = callP tabs isP pu inl) {args : List Value} {v : Value} (hm : m46 pu n args = some v) (_ : ∀ x ∈ args, closed2 x = true) : args.length ≤ 17 ∧ Run tt call 1 c46_3 (Fr.made 17 args) (pureHeap tabs) (Fin tt 1 [.tmp 4] v) := by
  subst hcall
  unfold m46 at hm
  have hq := ll_uncons hm; clear hm; obtain ⟨a0, args_0, rfl, hm⟩ := hq
  have hq := ll_uncons hm; clear hm; obtain ⟨a1, args_1, rfl, hm⟩ := hq
  have hq := ll_end hm; clear hm; obtain ⟨rfl, hm⟩ := hq
  have hq := oo_inv hm; clear hm; obtain ⟨x44572, h44573, hm⟩ := hq
  obtain rfl := toI_some h44573
  have hq := oo_inv hm; clear hm; obtain ⟨x44574, h44575, hm⟩ := hq
  obtain rfl := toI_some h44575
  unfold m46_ at hm
  refine ⟨by simp, ?_⟩
  refine .same (F' := (⟨17, frTr [(0, (.int .i64 x44572)), (1, (.int .i64 x44574))] .nil⟩ : Fr)) (H' := (⟨1, objTr [(.cells tab0 true false [])] 0 .nil, true⟩ : AHeap)) (by kernel_rfl) (by kernel_rfl) ?_
  refine .then ?_
  refine .reg (F' := (Fr.puts (⟨17, frTr [(0, (.int .i64 x44572)), (1, (.int .i64 x44574))] .nil⟩ : Fr) [(4, (.bool false))])) (H' := (⟨1, objTr [(.cells tab0 true false [])] 0 .nil, true⟩ : AHeap)) (by kernel_rfl) ?_
  refine .ghs (⟨17, frTr [(0, (.int .i64 x44572)), (1, (.int .i64 x44574))] .nil⟩ : Fr) (⟨1, objTr [(.cells tab0 true false [])] 0 .nil, true⟩ : AHeap) (.gc [] [false] [] [0, 1] (by kernel_rfl) trivial (by kernel_rfl)) ?_
  refine .join (v := v) (fun y : Bool => ((⟨17, frTr [(4, (.bool y))] .nil⟩ : Fr), (⟨1, objTr [(.cells tab0 true false [])] 0 .nil, true⟩ : AHeap))) (fun y => m46_0 pu n y) ?_ ?_
  · rintro b44586 hm
    unfold m46_0 at hm
    refine .ret ?_
    exact fin_ret (.bool b44586) (by kernel_rfl) (by kernel_rfl) hm
  · skip
    have hq := oo_inv hm; clear hm; obtain ⟨v44587, h44588, hm⟩ := hq
    have hq := oo_inv hm; clear hm; obtain ⟨b44589, h44590, hm⟩ := hq
    obtain rfl := vBool_some h44590
    have hq := bb_cases hm; clear hm; rcases hq with ⟨h44591, hm⟩ | ⟨h44591, hm⟩
    · skip
      have hq := oo_inv hm; clear hm; obtain ⟨v44592, h44593, hm⟩ := hq
      have hq := oo_inv hm; clear hm; obtain ⟨b44594, h44595, hm⟩ := hq
      obtain rfl := vBool_some h44595
      have hq := bb_cases hm; clear hm; rcases hq with ⟨h44596, hm⟩ | ⟨h44596, hm⟩
      · skip
        refine .reg (F' := (Fr.puts (⟨17, frTr [(0, (.int .i64 x44572)), (1, (.int .i64 x44574))] .nil⟩ : Fr) [(5, (.int .i64 x44572)), (6, (.bool true)), (7, (.bool true)), (8, (.int .i64 x44574)), (9, (.bool b44594)), (10, (.bool true)), (11, (.bool true)), (12, (.bool true)), (13, (.tuple ⟨[]⟩)), (14, (.tuple ⟨[]⟩)), (15, (.tuple ⟨[]⟩)), (16, (.bool true)), (4, (.bool true))])) (H' := (⟨1, objTr [(.cells tab0 true false [])] 0 .nil, true⟩ : AHeap)) (evOps_cut 1 (by kernel_rfl) (evOps_data ((oo (pu 52 [(.int .i64 x44572)]) none fun v => some (v, (⟨1, objTr [(.cells tab0 true false [])] 0 .nil, true⟩ : AHeap)))) (by kernel_rfl) (show _ = some ((.bool true), _) from (by have hz : (oo (pu 52 [(.int .i64 x44572)]) none fun v => some (v, (⟨1, objTr [(.cells tab0 true false [])] 0 .nil, true⟩ : AHeap))) = some ((.bool b44589), (⟨1, objTr [(.cells tab0 true false [])] 0 .nil, true⟩ : AHeap)) := (call_eq h44588); rw [h44591] at hz; exact hz)) (okAt_of (by kernel_rfl) (by kernel_rfl)) (evOps_cut 2 (by kernel_rfl) (evOps_data ((oo (pu 52 [(.int .i64 x44574)]) none fun v => some (v, (⟨1, objTr [(.cells tab0 true false [])] 0 .nil, true⟩ : AHeap)))) (by kernel_rfl) (call_eq h44593) (okAt_of (by kernel_rfl) (by kernel_rfl)) (evOps_data (some ((.bool (nt b44594)), (⟨1, objTr [(.cells tab0 true false [])] 0 .nil, true⟩ : AHeap))) (by kernel_rfl) (show _ = some ((.bool true), _) from (by rw [h44596])) (okAt_of (by kernel_rfl) (by kernel_rfl)) (by kernel_rfl)))))) ?_
        exact ⟨true, hm, (.gc [] [false] [] [4] (by kernel_rfl) trivial (by kernel_rfl))⟩
      · skip
        refine .reg (F' := (Fr.puts (⟨17, frTr [(0, (.int .i64 x44572)), (1, (.int .i64 x44574))] .nil⟩ : Fr) [(5, (.int .i64 x44572)), (6, (.bool true)), (7, (.bool true)), (8, (.int .i64 x44574)), (9, (.bool b44594)), (10, (.bool false)), (11, (.bool false)), (12, (.bool false)), (13, (.int .i64 x44572)), (14, (.int .i64 x44574)), (15, (.bool (ilt x44572 x44574))), (16, (.bool (ilt x44572 x44574))), (4, (.bool (ilt x44572 x44574)))])) (H' := (⟨1, objTr [(.cells tab0 true false [])] 0 .nil, true⟩ : AHeap)) (evOps_cut 1 (by kernel_rfl) (evOps_data ((oo (pu 52 [(.int .i64 x44572)]) none fun v => some (v, (⟨1, objTr [(.cells tab0 true false [])] 0 .nil, true⟩ : AHeap)))) (by kernel_rfl) (show _ = some ((.bool true), _) from (by have hz : (oo (pu 52 [(.int .i64 x44572)]) none fun v => some (v, (⟨1, objTr [(.cells tab0 true false [])] 0 .nil, true⟩ : AHeap))) = some ((.bool b44589), (⟨1, objTr [(.cells tab0 true false [])] 0 .nil, true⟩ : AHeap)) := (call_eq h44588); rw [h44591] at hz; exact hz)) (okAt_of (by kernel_rfl) (by kernel_rfl)) (evOps_cut 2 (by kernel_rfl) (evOps_data ((oo (pu 52 [(.int .i64 x44574)]) none fun v => some (v, (⟨1, objTr [(.cells tab0 true false [])] 0 .nil, true⟩ : AHeap)))) (by kernel_rfl) (call_eq h44593) (okAt_of (by kernel_rfl) (by kernel_rfl)) (evOps_data (some ((.bool (nt b44594)), (⟨1, objTr [(.cells tab0 true false [])] 0 .nil, true⟩ : AHeap))) (by kernel_rfl) (show _ = some ((.bool false), _) from (by rw [h44596])) (okAt_of (by kernel_rfl) (by kernel_rfl)) (by kernel_rfl)))))) ?_
        exact ⟨(ilt x44572 x44574), hm, (.gc [] [false] [] [4] (by kernel_rfl) trivial (by kernel_rfl))⟩
    · skip
      refine .reg (F' := (Fr.puts (⟨17, frTr [(0, (.int .i64 x44572)), (1, (.int .i64 x44574))] .nil⟩ : Fr) [(5, (.int .i64 x44572)), (6, (.bool false)), (7, (.bool false)), (8, (.tuple ⟨[]⟩)), (9, (.tuple ⟨[]⟩)), (10, (.tuple ⟨[]⟩)), (11, (.bool false)), (12, (.bool false)), (13, (.int .i64 x44572)), (14, (.int .i64 x44574)), (15, (.bool (ilt x44572 x44574))), (16, (.bool (ilt x44572 x44574))), (4, (.bool (ilt x44572 x44574)))])) (H' := (⟨1, objTr [(.cells tab0 true false [])] 0 .nil, true⟩ : AHeap)) (evOps_cut 1 (by kernel_rfl) (evOps_data ((oo (pu 52 [(.int .i64 x44572)]) none fun v => some (v, (⟨1, objTr [(.cells tab0 true false [])] 0 .nil, true⟩ : AHeap)))) (by kernel_rfl) (show _ = some ((.bool false), _) from (by have hz : (oo (pu 52 [(.int .i64 x44572)]) none fun v => some (v, (⟨1, objTr [(.cells tab0 true false [])] 0 .nil, true⟩ : AHeap))) = some ((.bool b44589), (⟨1, objTr [(.cells tab0 true false [])] 0 .nil, true⟩ : AHeap)) := (call_eq h44588); rw [h44591] at hz; exact hz)) (okAt_of (by kernel_rfl) (by kernel_rfl)) (by kernel_rfl))) ?_
      exact ⟨(ilt x44572 x44574), hm, (.gc [] [false] [] [4] (by kernel_rfl) trivial (by kernel_rfl))⟩
/-- cmp.isNaN[int] -/
def o52_0 : List ROp := [
  ⟨(some 2), .assign (.const (.bool false)), 4, none, []⟩]
def c52_0 : RC := .reg [] o52_0
def o52_1 : List ROp := [
  ⟨(some 3), .move (.tmp 0), 3, none, []⟩,
  ⟨(some 4), .move (.tmp 0), 3, none, []⟩,
  ⟨(some 5), .binOp .neq 3 (.tmp 3) (.tmp 4) 3, 4, none, []⟩,
  ⟨(some 2), .assign (.tmp 5), 4, none, []⟩]
def c52_1 : RC := .reg [] o52_1
def c52_2 : RC := .seq c52_1 .ret
def c52_3 : RC := .seq c52_0 c52_2

def m52_ (pu : PureF) (n : Nat) (x44597 : Int) : Option Value :=
  (some (.bool (nt (ieq x44597 x44597))))
def m52 (pu : PureF) (n : Nat) (args : List Value) : Option Value :=
  (ll args none fun a0 args => (ll args (oo (toI .i64 a0) none fun x44597 => (m52_ pu n x44597)) fun _ _ => none))
theorem r52 {call : CallF} (pu : PureF) (n : Nat) (hcall : call = callP tabs isP pu inl) {args : List Value} {v : Value} (hm : m52 pu n args = some v) (_ : ∀ x ∈ args, closed2 x = true) : args.length ≤ 6 ∧ Run tt call 1 c52_3 (Fr.made 6 args) (pureHeap tabs) (Fin tt 1 [.tmp 2] v) := by
  subst hcall
  unfold m52 at hm
  have hq := ll_uncons hm; clear hm; obtain ⟨a0, args_0, rfl, hm⟩ := hq
  have hq := ll_end hm; clear hm; obtain ⟨rfl, hm⟩ := hq
  have hq := oo_inv hm; clear hm; obtain ⟨x44597, h44598, hm⟩ := hq
  obtain rfl := toI_some h44598
  unfold m52_ at hm
  refine ⟨by simp, ?_⟩
  refine .same (F' := (⟨6, frTr [(0, (.int .i64 x44597))] .nil⟩ : Fr)) (H' := (⟨1, objTr [(.cells tab0 true false [])] 0 .nil, true⟩ : AHeap)) (by kernel_rfl) (by kernel_rfl) ?_
  refine .then ?_
  refine .reg (F' := (Fr.puts (⟨6, frTr [(0, (.int .i64 x44597))] .nil⟩ : Fr) [(2, (.bool false))])) (H' := (⟨1, objTr [(.cells tab0 true false [])] 0 .nil, true⟩ : AHeap)) (by kernel_rfl) ?_
  refine .ghs (⟨6, frTr [(0, (.int .i64 x44597))] .nil⟩ : Fr) (⟨1, objTr [(.cells tab0 true false [])] 0 .nil, true⟩ : AHeap) (.gc [] [false] [] [0] (by kernel_rfl) trivial (by kernel_rfl)) ?_
  refine .then ?_
  refine .reg (F' := (Fr.puts (⟨6, frTr [(0, (.int .i64 x44597))] .nil⟩ : Fr) [(3, (.int .i64 x44597)), (4, (.int .i64 x44597)), (5, (.bool (nt (ieq x44597 x44597)))), (2, (.bool (nt (ieq x44597 x44597))))])) (H' := (⟨1, objTr [(.cells tab0 true false [])] 0 .nil, true⟩ : AHeap)) (by kernel_rfl) ?_
  refine .ghs (⟨6, frTr [(2, (.bool (nt (ieq x44597 x44597))))] .nil⟩ : Fr) (⟨1, objTr [(.cells tab0 true false [])] 0 .nil, true⟩ : AHeap) (.gc [] [false] [] [2] (by kernel_rfl) trivial (by kernel_rfl)) ?_
  refine .ret ?_
  exact fin_ret (.bool (nt (ieq x44597 x44597))) (by kernel_rfl) (by kernel_rfl) hm
end
end Go.TabRM
/- The models, by fuel: MADE BY PROGRAM (wip/tools/mods.py). -/
set_option maxRecDepth 100000
namespace Go.TabRM
open Go.Sp Go.TabR
noncomputable section
def L : Nat := 100
def disp (pu : PureF) : PureF := fun g args =>
  bb (Nat.beq g 3) (m3 pu L args) (bb (Nat.beq g 4) (m4 pu L args) (bb (Nat.beq g 6) (m6 pu L args) (bb (Nat.beq g 7) (m7 pu L args) (bb (Nat.beq g 8) (m8 pu L args) (bb (Nat.beq g 9) (m9 pu L args) (bb (Nat.beq g 10) (m10 pu L args) (bb (Nat.beq g 11) (m11 pu L args) (bb (Nat.beq g 12) (m12 pu L args) (bb (Nat.beq g 30) (m30 pu L args) (bb (Nat.beq g 31) (m31 pu L args) (bb (Nat.beq g 32) (m32 pu L args) (bb (Nat.beq g 33) (m33 pu L args) (bb (Nat.beq g 34) (m34 pu L args) (bb (Nat.beq g 46) (m46 pu L args) (bb (Nat.beq g 52) (m52 pu L args) (bb (Nat.beq g 5) (ll args (some (.bool true)) fun _ _ => none) (none)))))))))))))))))
def puN : Nat → PureF := fun n => Nat.rec (motive := fun _ => PureF) (fun _ _ => none) (fun _ ih => disp ih) n
end
end Go.TabRM
/- The slim code is the program's. MADE BY PROGRAM (wip/sp/gen2.lean). -/
set_option maxRecDepth 100000
namespace Go.Proofs.YtalnfeacnnmchaaDoor.TabR
open Go Go.Sp Go.TabR
theorem b3 : (match Tryd.f3.body with | some c => rcOf c c3 | none => none) = some c3 := by kernel_rfl
theorem p3 : (match Tryd.f3.body with | some c => codeB [0] c | none => false) = true := by kernel_rfl
theorem fok3 : FnOk Tryd.prog [0] 3 ⟨54, c3, [.tmp 4]⟩ := FnOk.by Tryd.func3 b3 p3 Tryd.ntmps3 (by rw [Tryd.results3]) (by kernel_rfl)
theorem b4 : (match Tryd.f4.body with | some c => rcOf c c4 | none => none) = some c4 := by kernel_rfl
theorem p4 : (match Tryd.f4.body with | some c => codeB [0] c | none => false) = true := by kernel_rfl
theorem fok4 : FnOk Tryd.prog [0] 4 ⟨14, c4, [.tmp 4]⟩ := FnOk.by Tryd.func4 b4 p4 Tryd.ntmps4 (by rw [Tryd.results4]) (by kernel_rfl)
theorem b5 : (match Tryd.f5.body with | some c => rcOf c c5 | none => none) = some c5 := by kernel_rfl
theorem p5 : (match Tryd.f5.body with | some c => codeB [0] c | none => false) = true := by kernel_rfl
theorem fok5 : FnOk Tryd.prog [0] 5 ⟨235, c5, [.tmp 0]⟩ := FnOk.by Tryd.func5 b5 p5 Tryd.ntmps5 (by rw [Tryd.results5]) (by kernel_rfl)
theorem b6 : (match Tryd.f6.body with | some c => rcOf c c6 | none => none) = some c6 := by kernel_rfl
theorem p6 : (match Tryd.f6.body with | some c => codeB [0] c | none => false) = true := by kernel_rfl
theorem fok6 : FnOk Tryd.prog [0] 6 ⟨63, c6, [.tmp 4, .tmp 5]⟩ := FnOk.by Tryd.func6 b6 p6 Tryd.ntmps6 (by rw [Tryd.results6]) (by kernel_rfl)
theorem b7 : (match Tryd.f7.body with | some c => rcOf c c7 | none => none) = some c7 := by kernel_rfl
theorem p7 : (match Tryd.f7.body with | some c => codeB [0] c | none => false) = true := by kernel_rfl
theorem fok7 : FnOk Tryd.prog [0] 7 ⟨24, c7, [.tmp 4, .tmp 5]⟩ := FnOk.by Tryd.func7 b7 p7 Tryd.ntmps7 (by rw [Tryd.results7]) (by kernel_rfl)
theorem b8 : (match Tryd.f8.body with | some c => rcOf c c8 | none => none) = some c8 := by kernel_rfl
theorem p8 : (match Tryd.f8.body with | some c => codeB [0] c | none => false) = true := by kernel_rfl
theorem fok8 : FnOk Tryd.prog [0] 8 ⟨26, c8, [.tmp 4]⟩ := FnOk.by Tryd.func8 b8 p8 Tryd.ntmps8 (by rw [Tryd.results8]) (by kernel_rfl)
theorem b9 : (match Tryd.f9.body with | some c => rcOf c c9 | none => none) = some c9 := by kernel_rfl
theorem p9 : (match Tryd.f9.body with | some c => codeB [0] c | none => false) = true := by kernel_rfl
theorem fok9 : FnOk Tryd.prog [0] 9 ⟨46, c9, [.tmp 2]⟩ := FnOk.by Tryd.func9 b9 p9 Tryd.ntmps9 (by rw [Tryd.results9]) (by kernel_rfl)
theorem b10 : (match Tryd.f10.body with | some c => rcOf c c10 | none => none) = some c10 := by kernel_rfl
theorem p10 : (match Tryd.f10.body with | some c => codeB [0] c | none => false) = true := by kernel_rfl
theorem fok10 : FnOk Tryd.prog [0] 10 ⟨46, c10, [.tmp 2]⟩ := FnOk.by Tryd.func10 b10 p10 Tryd.ntmps10 (by rw [Tryd.results10]) (by kernel_rfl)
theorem b11 : (match Tryd.f11.body with | some c => rcOf c c11 | none => none) = some c11 := by kernel_rfl
theorem p11 : (match Tryd.f11.body with | some c => codeB [0] c | none => false) = true := by kernel_rfl
theorem fok11 : FnOk Tryd.prog [0] 11 ⟨20, c11, [.tmp 4]⟩ := FnOk.by Tryd.func11 b11 p11 Tryd.ntmps11 (by rw [Tryd.results11]) (by kernel_rfl)
theorem b12 : (match Tryd.f12.body with | some c => rcOf c c12 | none => none) = some c12 := by kernel_rfl
theorem p12 : (match Tryd.f12.body with | some c => codeB [0] c | none => false) = true := by kernel_rfl
theorem fok12 : FnOk Tryd.prog [0] 12 ⟨20, c12, [.tmp 4]⟩ := FnOk.by Tryd.func12 b12 p12 Tryd.ntmps12 (by rw [Tryd.results12]) (by kernel_rfl)
theorem b13 : (match Tryd.f13.body with | some c => rcOf c c13 | none => none) = some c13 := by kernel_rfl
theorem p13 : (match Tryd.f13.body with | some c => codeB [0] c | none => false) = true := by kernel_rfl
theorem fok13 : FnOk Tryd.prog [0] 13 ⟨3, c13, [.cell 0 24]⟩ := FnOk.by Tryd.func13 b13 p13 Tryd.ntmps13 (by rw [Tryd.results13]) (by kernel_rfl)
theorem b14 : (match Tryd.f14.body with | some c => rcOf c c14 | none => none) = some c14 := by kernel_rfl
theorem p14 : (match Tryd.f14.body with | some c => codeB [0] c | none => false) = true := by kernel_rfl
theorem fok14 : FnOk Tryd.prog [0] 14 ⟨4, c14, [.tmp 2]⟩ := FnOk.by Tryd.func14 b14 p14 Tryd.ntmps14 (by rw [Tryd.results14]) (by kernel_rfl)
theorem b15 : (match Tryd.f15.body with | some c => rcOf c c15 | none => none) = some c15 := by kernel_rfl
theorem p15 : (match Tryd.f15.body with | some c => codeB [0] c | none => false) = true := by kernel_rfl
theorem fok15 : FnOk Tryd.prog [0] 15 ⟨19, c15, [.tmp 2, .tmp 3]⟩ := FnOk.by Tryd.func15 b15 p15 Tryd.ntmps15 (by rw [Tryd.results15]) (by kernel_rfl)
theorem b16 : (match Tryd.f16.body with | some c => rcOf c c16 | none => none) = some c16 := by kernel_rfl
theorem p16 : (match Tryd.f16.body with | some c => codeB [0] c | none => false) = true := by kernel_rfl
theorem fok16 : FnOk Tryd.prog [0] 16 ⟨3, c16, [.cell 0 24]⟩ := FnOk.by Tryd.func16 b16 p16 Tryd.ntmps16 (by rw [Tryd.results16]) (by kernel_rfl)
theorem b17 : (match Tryd.f17.body with | some c => rcOf c c17 | none => none) = some c17 := by kernel_rfl
theorem p17 : (match Tryd.f17.body with | some c => codeB [0] c | none => false) = true := by kernel_rfl
theorem fok17 : FnOk Tryd.prog [0] 17 ⟨25, c17, [.tmp 2, .tmp 3]⟩ := FnOk.by Tryd.func17 b17 p17 Tryd.ntmps17 (by rw [Tryd.results17]) (by kernel_rfl)
theorem b18 : (match Tryd.f18.body with | some c => rcOf c c18 | none => none) = some c18 := by kernel_rfl
theorem p18 : (match Tryd.f18.body with | some c => codeB [0] c | none => false) = true := by kernel_rfl
theorem fok18 : FnOk Tryd.prog [0] 18 ⟨40, c18, [.tmp 2, .tmp 3]⟩ := FnOk.by Tryd.func18 b18 p18 Tryd.ntmps18 (by rw [Tryd.results18]) (by kernel_rfl)
theorem b19 : (match Tryd.f19.body with | some c => rcOf c c19 | none => none) = some c19 := by kernel_rfl
theorem p19 : (match Tryd.f19.body with | some c => codeB [0] c | none => false) = true := by kernel_rfl
theorem fok19 : FnOk Tryd.prog [0] 19 ⟨39, c19, [.tmp 2, .tmp 3]⟩ := FnOk.by Tryd.func19 b19 p19 Tryd.ntmps19 (by rw [Tryd.results19]) (by kernel_rfl)
theorem b20 : (match Tryd.f20.body with | some c => rcOf c c20 | none => none) = some c20 := by kernel_rfl
theorem p20 : (match Tryd.f20.body with | some c => codeB [0] c | none => false) = true := by kernel_rfl
theorem fok20 : FnOk Tryd.prog [0] 20 ⟨53, c20, [.tmp 2, .tmp 3]⟩ := FnOk.by Tryd.func20 b20 p20 Tryd.ntmps20 (by rw [Tryd.results20]) (by kernel_rfl)
theorem b21 : (match Tryd.f21.body with | some c => rcOf c c21 | none => none) = some c21 := by kernel_rfl
theorem p21 : (match Tryd.f21.body with | some c => codeB [0] c | none => false) = true := by kernel_rfl
theorem fok21 : FnOk Tryd.prog [0] 21 ⟨61, c21, [.tmp 2, .tmp 3]⟩ := FnOk.by Tryd.func21 b21 p21 Tryd.ntmps21 (by rw [Tryd.results21]) (by kernel_rfl)
theorem b22 : (match Tryd.f22.body with | some c => rcOf c c22 | none => none) = some c22 := by kernel_rfl
theorem p22 : (match Tryd.f22.body with | some c => codeB [0] c | none => false) = true := by kernel_rfl
theorem fok22 : FnOk Tryd.prog [0] 22 ⟨61, c22, [.tmp 4, .tmp 5, .tmp 6]⟩ := FnOk.by Tryd.func22 b22 p22 Tryd.ntmps22 (by rw [Tryd.results22]) (by kernel_rfl)
theorem b23 : (match Tryd.f23.body with | some c => rcOf c c23 | none => none) = some c23 := by kernel_rfl
theorem p23 : (match Tryd.f23.body with | some c => codeB [0] c | none => false) = true := by kernel_rfl
theorem fok23 : FnOk Tryd.prog [0] 23 ⟨63, c23, [.tmp 4, .tmp 5]⟩ := FnOk.by Tryd.func23 b23 p23 Tryd.ntmps23 (by rw [Tryd.results23]) (by kernel_rfl)
theorem b24 : (match Tryd.f24.body with | some c => rcOf c c24 | none => none) = some c24 := by kernel_rfl
theorem p24 : (match Tryd.f24.body with | some c => codeB [0] c | none => false) = true := by kernel_rfl
theorem fok24 : FnOk Tryd.prog [0] 24 ⟨83, c24, [.tmp 2, .tmp 3]⟩ := FnOk.by Tryd.func24 b24 p24 Tryd.ntmps24 (by rw [Tryd.results24]) (by kernel_rfl)
theorem b25 : (match Tryd.f25.body with | some c => rcOf c c25 | none => none) = some c25 := by kernel_rfl
theorem p25 : (match Tryd.f25.body with | some c => codeB [0] c | none => false) = true := by kernel_rfl
theorem fok25 : FnOk Tryd.prog [0] 25 ⟨32, c25, [.cell 4 24]⟩ := FnOk.by Tryd.func25 b25 p25 Tryd.ntmps25 (by rw [Tryd.results25]) (by kernel_rfl)
theorem b26 : (match Tryd.f26.body with | some c => rcOf c c26 | none => none) = some c26 := by kernel_rfl
theorem p26 : (match Tryd.f26.body with | some c => codeB [0] c | none => false) = true := by kernel_rfl
theorem fok26 : FnOk Tryd.prog [0] 26 ⟨27, c26, [.tmp 4]⟩ := FnOk.by Tryd.func26 b26 p26 Tryd.ntmps26 (by rw [Tryd.results26]) (by kernel_rfl)
theorem b27 : (match Tryd.f27.body with | some c => rcOf c c27 | none => none) = some c27 := by kernel_rfl
theorem p27 : (match Tryd.f27.body with | some c => codeB [0] c | none => false) = true := by kernel_rfl
theorem fok27 : FnOk Tryd.prog [0] 27 ⟨4, c27, [.tmp 2]⟩ := FnOk.by Tryd.func27 b27 p27 Tryd.ntmps27 (by rw [Tryd.results27]) (by kernel_rfl)
end Go.Proofs.YtalnfeacnnmchaaDoor.TabR
/- The slim code is the program's. MADE BY PROGRAM (wip/sp/gen2.lean). -/
set_option maxRecDepth 100000
namespace Go.Proofs.YtalnfeacnnmchaaDoor.TabR
open Go Go.Sp Go.TabR
theorem b28 : (match Tryd.f28.body with | some c => rcOf c c28 | none => none) = some c28 := by kernel_rfl
theorem p28 : (match Tryd.f28.body with | some c => codeB [0] c | none => false) = true := by kernel_rfl
theorem fok28 : FnOk Tryd.prog [0] 28 ⟨26, c28, [.tmp 4]⟩ := FnOk.by Tryd.func28 b28 p28 Tryd.ntmps28 (by rw [Tryd.results28]) (by kernel_rfl)
theorem b29 : (match Tryd.f29.body with | some c => rcOf c c29 | none => none) = some c29 := by kernel_rfl
theorem p29 : (match Tryd.f29.body with | some c => codeB [0] c | none => false) = true := by kernel_rfl
theorem fok29 : FnOk Tryd.prog [0] 29 ⟨8, c29, [.tmp 2]⟩ := FnOk.by Tryd.func29 b29 p29 Tryd.ntmps29 (by rw [Tryd.results29]) (by kernel_rfl)
theorem b30 : (match Tryd.f30.body with | some c => rcOf c c30 | none => none) = some c30 := by kernel_rfl
theorem p30 : (match Tryd.f30.body with | some c => codeB [0] c | none => false) = true := by kernel_rfl
theorem fok30 : FnOk Tryd.prog [0] 30 ⟨62, c30, [.tmp 6]⟩ := FnOk.by Tryd.func30 b30 p30 Tryd.ntmps30 (by rw [Tryd.results30]) (by kernel_rfl)
theorem b31 : (match Tryd.f31.body with | some c => rcOf c c31 | none => none) = some c31 := by kernel_rfl
theorem p31 : (match Tryd.f31.body with | some c => codeB [0] c | none => false) = true := by kernel_rfl
theorem fok31 : FnOk Tryd.prog [0] 31 ⟨15, c31, [.tmp 6]⟩ := FnOk.by Tryd.func31 b31 p31 Tryd.ntmps31 (by rw [Tryd.results31]) (by kernel_rfl)
theorem b32 : (match Tryd.f32.body with | some c => rcOf c c32 | none => none) = some c32 := by kernel_rfl
theorem p32 : (match Tryd.f32.body with | some c => codeB [0] c | none => false) = true := by kernel_rfl
theorem fok32 : FnOk Tryd.prog [0] 32 ⟨15, c32, [.tmp 6]⟩ := FnOk.by Tryd.func32 b32 p32 Tryd.ntmps32 (by rw [Tryd.results32]) (by kernel_rfl)
theorem b33 : (match Tryd.f33.body with | some c => rcOf c c33 | none => none) = some c33 := by kernel_rfl
theorem p33 : (match Tryd.f33.body with | some c => codeB [0] c | none => false) = true := by kernel_rfl
theorem fok33 : FnOk Tryd.prog [0] 33 ⟨21, c33, [.tmp 2]⟩ := FnOk.by Tryd.func33 b33 p33 Tryd.ntmps33 (by rw [Tryd.results33]) (by kernel_rfl)
theorem b34 : (match Tryd.f34.body with | some c => rcOf c c34 | none => none) = some c34 := by kernel_rfl
theorem p34 : (match Tryd.f34.body with | some c => codeB [0] c | none => false) = true := by kernel_rfl
theorem fok34 : FnOk Tryd.prog [0] 34 ⟨20, c34, [.tmp 2]⟩ := FnOk.by Tryd.func34 b34 p34 Tryd.ntmps34 (by rw [Tryd.results34]) (by kernel_rfl)
theorem b35 : (match Tryd.f35.body with | some c => rcOf c c35 | none => none) = some c35 := by kernel_rfl
theorem p35 : (match Tryd.f35.body with | some c => codeB [0] c | none => false) = true := by kernel_rfl
theorem fok35 : FnOk Tryd.prog [0] 35 ⟨17, c35, [.cell 2 63, .tmp 3]⟩ := FnOk.by Tryd.func35 b35 p35 Tryd.ntmps35 (by rw [Tryd.results35]) (by kernel_rfl)
theorem b36 : (match Tryd.f36.body with | some c => rcOf c c36 | none => none) = some c36 := by kernel_rfl
theorem p36 : (match Tryd.f36.body with | some c => codeB [0] c | none => false) = true := by kernel_rfl
theorem fok36 : FnOk Tryd.prog [0] 36 ⟨38, c36, [.tmp 4]⟩ := FnOk.by Tryd.func36 b36 p36 Tryd.ntmps36 (by rw [Tryd.results36]) (by kernel_rfl)
theorem b37 : (match Tryd.f37.body with | some c => rcOf c c37 | none => none) = some c37 := by kernel_rfl
theorem p37 : (match Tryd.f37.body with | some c => codeB [0] c | none => false) = true := by kernel_rfl
theorem fok37 : FnOk Tryd.prog [0] 37 ⟨26, c37, [.tmp 4]⟩ := FnOk.by Tryd.func37 b37 p37 Tryd.ntmps37 (by rw [Tryd.results37]) (by kernel_rfl)
theorem b38 : (match Tryd.f38.body with | some c => rcOf c c38 | none => none) = some c38 := by kernel_rfl
theorem p38 : (match Tryd.f38.body with | some c => codeB [0] c | none => false) = true := by kernel_rfl
theorem fok38 : FnOk Tryd.prog [0] 38 ⟨43, c38, [.tmp 4]⟩ := FnOk.by Tryd.func38 b38 p38 Tryd.ntmps38 (by rw [Tryd.results38]) (by kernel_rfl)
theorem b39 : (match Tryd.f39.body with | some c => rcOf c c39 | none => none) = some c39 := by kernel_rfl
theorem p39 : (match Tryd.f39.body with | some c => codeB [0] c | none => false) = true := by kernel_rfl
theorem fok39 : FnOk Tryd.prog [0] 39 ⟨11, c39, []⟩ := FnOk.by Tryd.func39 b39 p39 Tryd.ntmps39 (by rw [Tryd.results39]) (by kernel_rfl)
theorem b40 : (match Tryd.f40.body with | some c => rcOf c c40 | none => none) = some c40 := by kernel_rfl
theorem p40 : (match Tryd.f40.body with | some c => codeB [0] c | none => false) = true := by kernel_rfl
theorem fok40 : FnOk Tryd.prog [0] 40 ⟨61, c40, [.tmp 2]⟩ := FnOk.by Tryd.func40 b40 p40 Tryd.ntmps40 (by rw [Tryd.results40]) (by kernel_rfl)
theorem b41 : (match Tryd.f41.body with | some c => rcOf c c41 | none => none) = some c41 := by kernel_rfl
theorem p41 : (match Tryd.f41.body with | some c => codeB [0] c | none => false) = true := by kernel_rfl
theorem fok41 : FnOk Tryd.prog [0] 41 ⟨38, c41, [.cell 2 63]⟩ := FnOk.by Tryd.func41 b41 p41 Tryd.ntmps41 (by rw [Tryd.results41]) (by kernel_rfl)
theorem b42 : (match Tryd.f42.body with | some c => rcOf c c42 | none => none) = some c42 := by kernel_rfl
theorem p42 : (match Tryd.f42.body with | some c => codeB [0] c | none => false) = true := by kernel_rfl
theorem fok42 : FnOk Tryd.prog [0] 42 ⟨41, c42, [.cell 4 63]⟩ := FnOk.by Tryd.func42 b42 p42 Tryd.ntmps42 (by rw [Tryd.results42]) (by kernel_rfl)
theorem b43 : (match Tryd.f43.body with | some c => rcOf c c43 | none => none) = some c43 := by kernel_rfl
theorem p43 : (match Tryd.f43.body with | some c => codeB [0] c | none => false) = true := by kernel_rfl
theorem fok43 : FnOk Tryd.prog [0] 43 ⟨21, c43, [.cell 4 63]⟩ := FnOk.by Tryd.func43 b43 p43 Tryd.ntmps43 (by rw [Tryd.results43]) (by kernel_rfl)
theorem b44 : (match Tryd.f44.body with | some c => rcOf c c44 | none => none) = some c44 := by kernel_rfl
theorem p44 : (match Tryd.f44.body with | some c => codeB [0] c | none => false) = true := by kernel_rfl
theorem fok44 : FnOk Tryd.prog [0] 44 ⟨8, c44, [.tmp 2]⟩ := FnOk.by Tryd.func44 b44 p44 Tryd.ntmps44 (by rw [Tryd.results44]) (by kernel_rfl)
theorem b45 : (match Tryd.f45.body with | some c => rcOf c c45 | none => none) = some c45 := by kernel_rfl
theorem p45 : (match Tryd.f45.body with | some c => codeB [0] c | none => false) = true := by kernel_rfl
theorem fok45 : FnOk Tryd.prog [0] 45 ⟨9, c45, [.tmp 2]⟩ := FnOk.by Tryd.func45 b45 p45 Tryd.ntmps45 (by rw [Tryd.results45]) (by kernel_rfl)
theorem b46 : (match Tryd.f46.body with | some c => rcOf c c46 | none => none) = some c46 := by kernel_rfl
theorem p46 : (match Tryd.f46.body with | some c => codeB [0] c | none => false) = true := by kernel_rfl
theorem fok46 : FnOk Tryd.prog [0] 46 ⟨17, c46, [.tmp 4]⟩ := FnOk.by Tryd.func46 b46 p46 Tryd.ntmps46 (by rw [Tryd.results46]) (by kernel_rfl)
theorem b47 : (match Tryd.f47.body with | some c => rcOf c c47 | none => none) = some c47 := by kernel_rfl
theorem p47 : (match Tryd.f47.body with | some c => codeB [0] c | none => false) = true := by kernel_rfl
theorem fok47 : FnOk Tryd.prog [0] 47 ⟨14, c47, [.tmp 2]⟩ := FnOk.by Tryd.func47 b47 p47 Tryd.ntmps47 (by rw [Tryd.results47]) (by kernel_rfl)
theorem b48 : (match Tryd.f48.body with | some c => rcOf c c48 | none => none) = some c48 := by kernel_rfl
theorem p48 : (match Tryd.f48.body with | some c => codeB [0] c | none => false) = true := by kernel_rfl
theorem fok48 : FnOk Tryd.prog [0] 48 ⟨134, c48, []⟩ := FnOk.by Tryd.func48 b48 p48 Tryd.ntmps48 (by rw [Tryd.results48]) (by kernel_rfl)
theorem b49 : (match Tryd.f49.body with | some c => rcOf c c49 | none => none) = some c49 := by kernel_rfl
theorem p49 : (match Tryd.f49.body with | some c => codeB [0] c | none => false) = true := by kernel_rfl
theorem fok49 : FnOk Tryd.prog [0] 49 ⟨8, c49, [.tmp 2]⟩ := FnOk.by Tryd.func49 b49 p49 Tryd.ntmps49 (by rw [Tryd.results49]) (by kernel_rfl)
theorem b50 : (match Tryd.f50.body with | some c => rcOf c c50 | none => none) = some c50 := by kernel_rfl
theorem p50 : (match Tryd.f50.body with | some c => codeB [0] c | none => false) = true := by kernel_rfl
theorem fok50 : FnOk Tryd.prog [0] 50 ⟨21, c50, [.tmp 2]⟩ := FnOk.by Tryd.func50 b50 p50 Tryd.ntmps50 (by rw [Tryd.results50]) (by kernel_rfl)
theorem b51 : (match Tryd.f51.body with | some c => rcOf c c51 | none => none) = some c51 := by kernel_rfl
theorem p51 : (match Tryd.f51.body with | some c => codeB [0] c | none => false) = true := by kernel_rfl
theorem fok51 : FnOk Tryd.prog [0] 51 ⟨35, c51, [.tmp 2]⟩ := FnOk.by Tryd.func51 b51 p51 Tryd.ntmps51 (by rw [Tryd.results51]) (by kernel_rfl)
theorem b52 : (match Tryd.f52.body with | some c => rcOf c c52 | none => none) = some c52 := by kernel_rfl
theorem p52 : (match Tryd.f52.body with | some c => codeB [0] c | none => false) = true := by kernel_rfl
theorem fok52 : FnOk Tryd.prog [0] 52 ⟨6, c52, [.tmp 2]⟩ := FnOk.by Tryd.func52 b52 p52 Tryd.ntmps52 (by rw [Tryd.results52]) (by kernel_rfl)
end Go.Proofs.YtalnfeacnnmchaaDoor.TabR
/- The slim code is the program's. MADE BY PROGRAM (wip/sp/gen2.lean). -/
set_option maxRecDepth 100000
namespace Go.Proofs.YtalnfeacnnmchaaDoor.TabR
open Go Go.Sp Go.TabR
theorem b53 : (match Tryd.f53.body with | some c => rcOf c c53 | none => none) = some c53 := by kernel_rfl
theorem p53 : (match Tryd.f53.body with | some c => codeB [0] c | none => false) = true := by kernel_rfl
theorem fok53 : FnOk Tryd.prog [0] 53 ⟨49, c53, []⟩ := FnOk.by Tryd.func53 b53 p53 Tryd.ntmps53 (by rw [Tryd.results53]) (by kernel_rfl)
theorem b54 : (match Tryd.f54.body with | some c => rcOf c c54 | none => none) = some c54 := by kernel_rfl
theorem p54 : (match Tryd.f54.body with | some c => codeB [0] c | none => false) = true := by kernel_rfl
theorem fok54 : FnOk Tryd.prog [0] 54 ⟨56, c54, []⟩ := FnOk.by Tryd.func54 b54 p54 Tryd.ntmps54 (by rw [Tryd.results54]) (by kernel_rfl)
theorem b55 : (match Tryd.f55.body with | some c => rcOf c c55 | none => none) = some c55 := by kernel_rfl
theorem p55 : (match Tryd.f55.body with | some c => codeB [0] c | none => false) = true := by kernel_rfl
theorem fok55 : FnOk Tryd.prog [0] 55 ⟨65, c55, []⟩ := FnOk.by Tryd.func55 b55 p55 Tryd.ntmps55 (by rw [Tryd.results55]) (by kernel_rfl)
theorem b56 : (match Tryd.f56.body with | some c => rcOf c c56 | none => none) = some c56 := by kernel_rfl
theorem p56 : (match Tryd.f56.body with | some c => codeB [0] c | none => false) = true := by kernel_rfl
theorem fok56 : FnOk Tryd.prog [0] 56 ⟨57, c56, [.tmp 6, .tmp 7]⟩ := FnOk.by Tryd.func56 b56 p56 Tryd.ntmps56 (by rw [Tryd.results56]) (by kernel_rfl)
theorem b57 : (match Tryd.f57.body with | some c => rcOf c c57 | none => none) = some c57 := by kernel_rfl
theorem p57 : (match Tryd.f57.body with | some c => codeB [0] c | none => false) = true := by kernel_rfl
theorem fok57 : FnOk Tryd.prog [0] 57 ⟨32, c57, []⟩ := FnOk.by Tryd.func57 b57 p57 Tryd.ntmps57 (by rw [Tryd.results57]) (by kernel_rfl)
theorem b58 : (match Tryd.f58.body with | some c => rcOf c c58 | none => none) = some c58 := by kernel_rfl
theorem p58 : (match Tryd.f58.body with | some c => codeB [0] c | none => false) = true := by kernel_rfl
theorem fok58 : FnOk Tryd.prog [0] 58 ⟨133, c58, [.tmp 6]⟩ := FnOk.by Tryd.func58 b58 p58 Tryd.ntmps58 (by rw [Tryd.results58]) (by kernel_rfl)
theorem b59 : (match Tryd.f59.body with | some c => rcOf c c59 | none => none) = some c59 := by kernel_rfl
theorem p59 : (match Tryd.f59.body with | some c => codeB [0] c | none => false) = true := by kernel_rfl
theorem fok59 : FnOk Tryd.prog [0] 59 ⟨84, c59, [.tmp 8]⟩ := FnOk.by Tryd.func59 b59 p59 Tryd.ntmps59 (by rw [Tryd.results59]) (by kernel_rfl)
theorem b60 : (match Tryd.f60.body with | some c => rcOf c c60 | none => none) = some c60 := by kernel_rfl
theorem p60 : (match Tryd.f60.body with | some c => codeB [0] c | none => false) = true := by kernel_rfl
theorem fok60 : FnOk Tryd.prog [0] 60 ⟨168, c60, [.tmp 8, .tmp 9]⟩ := FnOk.by Tryd.func60 b60 p60 Tryd.ntmps60 (by rw [Tryd.results60]) (by kernel_rfl)
theorem b61 : (match Tryd.f61.body with | some c => rcOf c c61 | none => none) = some c61 := by kernel_rfl
theorem p61 : (match Tryd.f61.body with | some c => codeB [0] c | none => false) = true := by kernel_rfl
theorem fok61 : FnOk Tryd.prog [0] 61 ⟨19, c61, [.tmp 2]⟩ := FnOk.by Tryd.func61 b61 p61 Tryd.ntmps61 (by rw [Tryd.results61]) (by kernel_rfl)
theorem b62 : (match Tryd.f62.body with | some c => rcOf c c62 | none => none) = some c62 := by kernel_rfl
theorem p62 : (match Tryd.f62.body with | some c => codeB [0] c | none => false) = true := by kernel_rfl
theorem fok62 : FnOk Tryd.prog [0] 62 ⟨25, c62, [.tmp 2]⟩ := FnOk.by Tryd.func62 b62 p62 Tryd.ntmps62 (by rw [Tryd.results62]) (by kernel_rfl)
theorem b63 : (match Tryd.f63.body with | some c => rcOf c c63 | none => none) = some c63 := by kernel_rfl
theorem p63 : (match Tryd.f63.body with | some c => codeB [0] c | none => false) = true := by kernel_rfl
theorem fok63 : FnOk Tryd.prog [0] 63 ⟨76, c63, []⟩ := FnOk.by Tryd.func63 b63 p63 Tryd.ntmps63 (by rw [Tryd.results63]) (by kernel_rfl)
theorem b64 : (match Tryd.f64.body with | some c => rcOf c c64 | none => none) = some c64 := by kernel_rfl
theorem p64 : (match Tryd.f64.body with | some c => codeB [0] c | none => false) = true := by kernel_rfl
theorem fok64 : FnOk Tryd.prog [0] 64 ⟨7, c64, [.tmp 2]⟩ := FnOk.by Tryd.func64 b64 p64 Tryd.ntmps64 (by rw [Tryd.results64]) (by kernel_rfl)
theorem b65 : (match Tryd.f65.body with | some c => rcOf c c65 | none => none) = some c65 := by kernel_rfl
theorem p65 : (match Tryd.f65.body with | some c => codeB [0] c | none => false) = true := by kernel_rfl
theorem fok65 : FnOk Tryd.prog [0] 65 ⟨33, c65, [.tmp 2]⟩ := FnOk.by Tryd.func65 b65 p65 Tryd.ntmps65 (by rw [Tryd.results65]) (by kernel_rfl)
theorem b66 : (match Tryd.f66.body with | some c => rcOf c c66 | none => none) = some c66 := by kernel_rfl
theorem p66 : (match Tryd.f66.body with | some c => codeB [0] c | none => false) = true := by kernel_rfl
theorem fok66 : FnOk Tryd.prog [0] 66 ⟨15, c66, [.tmp 6]⟩ := FnOk.by Tryd.func66 b66 p66 Tryd.ntmps66 (by rw [Tryd.results66]) (by kernel_rfl)
theorem b67 : (match Tryd.f67.body with | some c => rcOf c c67 | none => none) = some c67 := by kernel_rfl
theorem p67 : (match Tryd.f67.body with | some c => codeB [0] c | none => false) = true := by kernel_rfl
theorem fok67 : FnOk Tryd.prog [0] 67 ⟨36, c67, [.tmp 10]⟩ := FnOk.by Tryd.func67 b67 p67 Tryd.ntmps67 (by rw [Tryd.results67]) (by kernel_rfl)
theorem b68 : (match Tryd.f68.body with | some c => rcOf c c68 | none => none) = some c68 := by kernel_rfl
theorem p68 : (match Tryd.f68.body with | some c => codeB [0] c | none => false) = true := by kernel_rfl
theorem fok68 : FnOk Tryd.prog [0] 68 ⟨28, c68, [.tmp 8, .tmp 9]⟩ := FnOk.by Tryd.func68 b68 p68 Tryd.ntmps68 (by rw [Tryd.results68]) (by kernel_rfl)
end Go.Proofs.YtalnfeacnnmchaaDoor.TabR
/- All the slim code is the program's, and the types are. MADE BY PROGRAM (wip/sp/gen2.lean). -/
set_option maxRecDepth 100000
namespace Go.Proofs.YtalnfeacnnmchaaDoor.TabR
open Go Go.Sp Go.TabR
theorem tok3 : TyOk Tryd.prog 3 ti3 := TyOk.by Tryd.underlying3 (inf := Tryd.t3) (by kernel_rfl) (by kernel_rfl) (by kernel_rfl) (by kernel_rfl) (by kernel_rfl) (fun h => by cases h)
theorem tok4 : TyOk Tryd.prog 4 ti4 := TyOk.by Tryd.underlying4 (inf := Tryd.t4) (by kernel_rfl) (by kernel_rfl) (by kernel_rfl) (by kernel_rfl) (by kernel_rfl) (fun h => by cases h)
theorem tok5 : TyOk Tryd.prog 5 ti5 := TyOk.by Tryd.underlying5 (inf := Tryd.t5) (by kernel_rfl) (by kernel_rfl) (by kernel_rfl) (by kernel_rfl) (by kernel_rfl) (fun h => by cases h)
theorem tok9 : TyOk Tryd.prog 9 ti9 := TyOk.by Tryd.underlying9 (inf := Tryd.t9) (by kernel_rfl) (by kernel_rfl) (by kernel_rfl) (by kernel_rfl) (by kernel_rfl) (fun h => by cases h)
theorem tok22 : TyOk Tryd.prog 22 ti22 := TyOk.by Tryd.underlying22 (inf := Tryd.t22) (by kernel_rfl) (by kernel_rfl) (by kernel_rfl) (by kernel_rfl) (by kernel_rfl) (fun h => by cases h)
theorem tok24 : TyOk Tryd.prog 24 ti24 := TyOk.by Tryd.underlying24 (inf := Tryd.t24) (by kernel_rfl) (by kernel_rfl) (by kernel_rfl) (by kernel_rfl) (by kernel_rfl) (fun h => by cases h)
theorem tok25 : TyOk Tryd.prog 25 ti25 := TyOk.by Tryd.underlying25 (inf := Tryd.t25) (by kernel_rfl) (by kernel_rfl) (by kernel_rfl) (by kernel_rfl) (by kernel_rfl) (fun h => by cases h)
theorem tok28 : TyOk Tryd.prog 28 ti28 := TyOk.by Tryd.underlying28 (inf := Tryd.t28) (by kernel_rfl) (by kernel_rfl) (by kernel_rfl) (by kernel_rfl) (by kernel_rfl) (fun h => by cases h)
theorem tok29 : TyOk Tryd.prog 29 ti29 := TyOk.by Tryd.underlying29 (inf := Tryd.t29) (by kernel_rfl) (by kernel_rfl) (by kernel_rfl) (by kernel_rfl) (by kernel_rfl) (fun h => by cases h)
theorem tok43 : TyOk Tryd.prog 43 ti43 := TyOk.by Tryd.underlying43 (inf := Tryd.t43) (by kernel_rfl) (by kernel_rfl) (by kernel_rfl) (by kernel_rfl) (by kernel_rfl) (fun h => by cases h)
theorem tok55 : TyOk Tryd.prog 55 ti55 := TyOk.by Tryd.underlying55 (inf := Tryd.t55) (by kernel_rfl) (by kernel_rfl) (by kernel_rfl) (by kernel_rfl) (by kernel_rfl) (fun _ => ⟨_, rfl, Fl.ok (d := 8) (⟨by kernel_rfl, .inr (.inr (.inr (.inl ⟨2, 3, [(.int .i64 0)], Tryd.underlying55, ⟨by kernel_rfl, .inl ⟨⟨_, Tryd.underlying3⟩, _, _, rfl⟩⟩, by kernel_rfl⟩)))⟩) (by decide) ⟨_, Tryd.underlying55, rfl⟩ (by kernel_rfl)⟩)
theorem tok60 : TyOk Tryd.prog 60 ti60 := TyOk.by Tryd.underlying60 (inf := Tryd.t60) (by kernel_rfl) (by kernel_rfl) (by kernel_rfl) (by kernel_rfl) (by kernel_rfl) (fun h => by cases h)
theorem tok61 : TyOk Tryd.prog 61 ti61 := TyOk.by Tryd.underlying61 (inf := Tryd.t61) (by kernel_rfl) (by kernel_rfl) (by kernel_rfl) (by kernel_rfl) (by kernel_rfl) (fun _ => ⟨_, rfl, Fl.ok (d := 8) (⟨by kernel_rfl, .inr (.inr (.inr (.inl ⟨2, 60, [(.int .u64 0)], Tryd.underlying61, ⟨by kernel_rfl, .inl ⟨⟨_, Tryd.underlying60⟩, _, _, rfl⟩⟩, by kernel_rfl⟩)))⟩) (by decide) ⟨_, Tryd.underlying61, rfl⟩ (by kernel_rfl)⟩)
theorem tok63 : TyOk Tryd.prog 63 ti63 := TyOk.by Tryd.underlying63 (inf := Tryd.t63) (by kernel_rfl) (by kernel_rfl) (by kernel_rfl) (by kernel_rfl) (by kernel_rfl) (fun _ => ⟨_, rfl, Fl.ok (d := 8) (⟨by kernel_rfl, .inr (.inr (.inr (.inl ⟨7, 61, [(.int .u64 0), (.int .u64 0)], Tryd.underlying63, ⟨by kernel_rfl, .inr (.inr (.inr (.inl ⟨2, 60, [(.int .u64 0)], Tryd.underlying61, ⟨by kernel_rfl, .inl ⟨⟨_, Tryd.underlying60⟩, _, _, rfl⟩⟩, by kernel_rfl⟩)))⟩, by kernel_rfl⟩)))⟩) (by decide) ⟨_, Tryd.underlying63, rfl⟩ (by kernel_rfl)⟩)
theorem tok73 : TyOk Tryd.prog 73 ti73 := TyOk.by Tryd.underlying73 (inf := Tryd.t73) (by kernel_rfl) (by kernel_rfl) (by kernel_rfl) (by kernel_rfl) (by kernel_rfl) (fun _ => ⟨_, rfl, Fl.ok (d := 8) (⟨by kernel_rfl, .inr (.inr (.inr (.inl ⟨7, 3, [(.int .i64 0)], Tryd.underlying73, ⟨by kernel_rfl, .inl ⟨⟨_, Tryd.underlying3⟩, _, _, rfl⟩⟩, by kernel_rfl⟩)))⟩) (by decide) ⟨_, Tryd.underlying73, rfl⟩ (by kernel_rfl)⟩)
theorem tok75 : TyOk Tryd.prog 75 ti75 := TyOk.by Tryd.underlying75 (inf := Tryd.t75) (by kernel_rfl) (by kernel_rfl) (by kernel_rfl) (by kernel_rfl) (by kernel_rfl) (fun h => by cases h)
theorem tok76 : TyOk Tryd.prog 76 ti76 := TyOk.by Tryd.underlying76 (inf := Tryd.t76) (by kernel_rfl) (by kernel_rfl) (by kernel_rfl) (by kernel_rfl) (by kernel_rfl) (fun h => by cases h)
theorem tok78 : TyOk Tryd.prog 78 ti78 := TyOk.by Tryd.underlying78 (inf := Tryd.t78) (by kernel_rfl) (by kernel_rfl) (by kernel_rfl) (by kernel_rfl) (by kernel_rfl) (fun h => by cases h)
theorem tok79 : TyOk Tryd.prog 79 ti79 := TyOk.by Tryd.underlying79 (inf := Tryd.t79) (by kernel_rfl) (by kernel_rfl) (by kernel_rfl) (by kernel_rfl) (by kernel_rfl) (fun h => by cases h)
theorem tok85 : TyOk Tryd.prog 85 ti85 := TyOk.by Tryd.underlying85 (inf := Tryd.t85) (by kernel_rfl) (by kernel_rfl) (by kernel_rfl) (by kernel_rfl) (by kernel_rfl) (fun h => by cases h)
theorem tok87 : TyOk Tryd.prog 87 ti87 := TyOk.by Tryd.underlying87 (inf := Tryd.t87) (by kernel_rfl) (by kernel_rfl) (by kernel_rfl) (by kernel_rfl) (by kernel_rfl) (fun _ => ⟨_, rfl, Fl.ok (d := 8) (⟨by kernel_rfl, .inr (.inr (.inr (.inl ⟨64, 5, [(.int .u8 0)], Tryd.underlying87, ⟨by kernel_rfl, .inl ⟨⟨_, Tryd.underlying5⟩, _, _, rfl⟩⟩, by kernel_rfl⟩)))⟩) (by decide) ⟨_, Tryd.underlying87, rfl⟩ (by kernel_rfl)⟩)
theorem tok89 : TyOk Tryd.prog 89 ti89 := TyOk.by Tryd.underlying89 (inf := Tryd.t89) (by kernel_rfl) (by kernel_rfl) (by kernel_rfl) (by kernel_rfl) (by kernel_rfl) (fun h => by cases h)
theorem tok96 : TyOk Tryd.prog 96 ti96 := TyOk.by Tryd.underlying96 (inf := Tryd.t96) (by kernel_rfl) (by kernel_rfl) (by kernel_rfl) (by kernel_rfl) (by kernel_rfl) (fun h => by cases h)
theorem tok100 : TyOk Tryd.prog 100 ti100 := TyOk.by Tryd.underlying100 (inf := Tryd.t100) (by kernel_rfl) (by kernel_rfl) (by kernel_rfl) (by kernel_rfl) (by kernel_rfl) (fun h => by cases h)
theorem ttOk : TOk Tryd.prog tt := TOk.of_all (t := ttTr) ⟨trivial, ⟨trivial, ⟨tok3, ⟨trivial, ⟨trivial, ⟨trivial, ⟨tok63, trivial, trivial⟩, trivial⟩, ⟨trivial, ⟨tok79, trivial, trivial⟩, trivial⟩⟩, ⟨trivial, trivial, ⟨tok55, ⟨tok87, trivial, trivial⟩, trivial⟩⟩⟩, ⟨trivial, trivial, ⟨trivial, ⟨tok43, ⟨tok75, trivial, trivial⟩, trivial⟩, trivial⟩⟩⟩, ⟨tok5, ⟨tok9, trivial, ⟨tok25, ⟨trivial, ⟨tok73, trivial, trivial⟩, trivial⟩, ⟨trivial, ⟨tok89, trivial, trivial⟩, trivial⟩⟩⟩, ⟨trivial, ⟨trivial, trivial, ⟨trivial, ⟨tok85, trivial, trivial⟩, trivial⟩⟩, ⟨tok29, trivial, ⟨tok61, trivial, trivial⟩⟩⟩⟩⟩, ⟨trivial, ⟨tok4, ⟨trivial, ⟨trivial, ⟨trivial, trivial, ⟨tok96, trivial, trivial⟩⟩, trivial⟩, ⟨tok24, trivial, trivial⟩⟩, ⟨trivial, ⟨trivial, ⟨trivial, trivial, ⟨tok100, trivial, trivial⟩⟩, trivial⟩, ⟨tok28, ⟨trivial, ⟨tok76, trivial, trivial⟩, trivial⟩, ⟨tok60, trivial, trivial⟩⟩⟩⟩, ⟨trivial, trivial, ⟨trivial, ⟨tok22, trivial, trivial⟩, ⟨trivial, ⟨trivial, ⟨tok78, trivial, trivial⟩, trivial⟩, trivial⟩⟩⟩⟩⟩
theorem fnAll : fnTr.All (FnOk Tryd.prog [0]) := ⟨trivial, ⟨trivial, ⟨fok3, ⟨fok7, ⟨fok15, ⟨fok31, ⟨fok63, trivial, trivial⟩, trivial⟩, ⟨fok47, trivial, trivial⟩⟩, ⟨fok23, ⟨fok39, trivial, trivial⟩, ⟨fok55, trivial, trivial⟩⟩⟩, ⟨fok11, ⟨fok19, ⟨fok35, ⟨fok67, trivial, trivial⟩, trivial⟩, ⟨fok51, trivial, trivial⟩⟩, ⟨fok27, ⟨fok43, trivial, trivial⟩, ⟨fok59, trivial, trivial⟩⟩⟩⟩, ⟨fok5, ⟨fok9, ⟨fok17, ⟨fok33, ⟨fok65, trivial, trivial⟩, trivial⟩, ⟨fok49, trivial, trivial⟩⟩, ⟨fok25, ⟨fok41, trivial, trivial⟩, ⟨fok57, trivial, trivial⟩⟩⟩, ⟨fok13, ⟨fok21, ⟨fok37, trivial, trivial⟩, ⟨fok53, trivial, trivial⟩⟩, ⟨fok29, ⟨fok45, trivial, trivial⟩, ⟨fok61, trivial, trivial⟩⟩⟩⟩⟩, ⟨trivial, ⟨fok4, ⟨fok8, ⟨fok16, ⟨fok32, ⟨fok64, trivial, trivial⟩, trivial⟩, ⟨fok48, trivial, trivial⟩⟩, ⟨fok24, ⟨fok40, trivial, trivial⟩, ⟨fok56, trivial, trivial⟩⟩⟩, ⟨fok12, ⟨fok20, ⟨fok36, ⟨fok68, trivial, trivial⟩, trivial⟩, ⟨fok52, trivial, trivial⟩⟩, ⟨fok28, ⟨fok44, trivial, trivial⟩, ⟨fok60, trivial, trivial⟩⟩⟩⟩, ⟨fok6, ⟨fok10, ⟨fok18, ⟨fok34, ⟨fok66, trivial, trivial⟩, trivial⟩, ⟨fok50, trivial, trivial⟩⟩, ⟨fok26, ⟨fok42, trivial, trivial⟩, ⟨fok58, trivial, trivial⟩⟩⟩, ⟨fok14, ⟨fok22, ⟨fok38, trivial, trivial⟩, ⟨fok54, trivial, trivial⟩⟩, ⟨fok30, ⟨fok46, trivial, trivial⟩, ⟨fok62, trivial, trivial⟩⟩⟩⟩⟩⟩
theorem fnsOk (f : FuncId) (r : RFn) (h : fns f = some r) : FnOk Tryd.prog [0] f r := fnAll.get h
end Go.Proofs.YtalnfeacnnmchaaDoor.TabR
/- All promises, by fuel: MADE BY PROGRAM (wip/tools/mods.py). -/
set_option maxRecDepth 100000
namespace Go.Proofs.YtalnfeacnnmchaaDoor.TabR
open Go Go.Sp Go.TabRM Go.TabR
noncomputable section
theorem fk3 : FnOk Tryd.prog (List.range tabs.length) 3 ⟨54, c3_15, [.tmp 4]⟩ := by
  have h : c3 = c3_15 := by kernel_rfl
  rw [← h]; exact fok3
theorem fk4 : FnOk Tryd.prog (List.range tabs.length) 4 ⟨14, c4_3, [.tmp 4]⟩ := by
  have h : c4 = c4_3 := by kernel_rfl
  rw [← h]; exact fok4
theorem fk6 : FnOk Tryd.prog (List.range tabs.length) 6 ⟨63, c6_34, [.tmp 4, .tmp 5]⟩ := by
  have h : c6 = c6_34 := by kernel_rfl
  rw [← h]; exact fok6
theorem fk7 : FnOk Tryd.prog (List.range tabs.length) 7 ⟨24, c7_16, [.tmp 4, .tmp 5]⟩ := by
  have h : c7 = c7_16 := by kernel_rfl
  rw [← h]; exact fok7
theorem fk8 : FnOk Tryd.prog (List.range tabs.length) 8 ⟨26, c8_26, [.tmp 4]⟩ := by
  have h : c8 = c8_26 := by kernel_rfl
  rw [← h]; exact fok8
theorem fk9 : FnOk Tryd.prog (List.range tabs.length) 9 ⟨46, c9_40, [.tmp 2]⟩ := by
  have h : c9 = c9_40 := by kernel_rfl
  rw [← h]; exact fok9
theorem fk10 : FnOk Tryd.prog (List.range tabs.length) 10 ⟨46, c10_40, [.tmp 2]⟩ := by
  have h : c10 = c10_40 := by kernel_rfl
  rw [← h]; exact fok10
theorem fk11 : FnOk Tryd.prog (List.range tabs.length) 11 ⟨20, c11_11, [.tmp 4]⟩ := by
  have h : c11 = c11_11 := by kernel_rfl
  rw [← h]; exact fok11
theorem fk12 : FnOk Tryd.prog (List.range tabs.length) 12 ⟨20, c12_10, [.tmp 4]⟩ := by
  have h : c12 = c12_10 := by kernel_rfl
  rw [← h]; exact fok12
theorem fk30 : FnOk Tryd.prog (List.range tabs.length) 30 ⟨62, c30_23, [.tmp 6]⟩ := by
  have h : c30 = c30_23 := by kernel_rfl
  rw [← h]; exact fok30
theorem fk31 : FnOk Tryd.prog (List.range tabs.length) 31 ⟨15, c31_3, [.tmp 6]⟩ := by
  have h : c31 = c31_3 := by kernel_rfl
  rw [← h]; exact fok31
theorem fk32 : FnOk Tryd.prog (List.range tabs.length) 32 ⟨15, c32_3, [.tmp 6]⟩ := by
  have h : c32 = c32_3 := by kernel_rfl
  rw [← h]; exact fok32
theorem fk33 : FnOk Tryd.prog (List.range tabs.length) 33 ⟨21, c33_20, [.tmp 2]⟩ := by
  have h : c33 = c33_20 := by kernel_rfl
  rw [← h]; exact fok33
theorem fk34 : FnOk Tryd.prog (List.range tabs.length) 34 ⟨20, c34_20, [.tmp 2]⟩ := by
  have h : c34 = c34_20 := by kernel_rfl
  rw [← h]; exact fok34
theorem fk46 : FnOk Tryd.prog (List.range tabs.length) 46 ⟨17, c46_3, [.tmp 4]⟩ := by
  have h : c46 = c46_3 := by kernel_rfl
  rw [← h]; exact fok46
theorem fk52 : FnOk Tryd.prog (List.range tabs.length) 52 ⟨6, c52_3, [.tmp 2]⟩ := by
  have h : c52 = c52_3 := by kernel_rfl
  rw [← h]; exact fok52
theorem inl_ok (hm : Tryd.prog.follows .mixedOrders = true) : CallOk Tryd.prog (List.range tabs.length) inl := fun g args H v H' h => by
  obtain ⟨h1, h2⟩ := bb_inv (show bb (Nat.beq g 29) (cloneF 1 8 args H) none = some (v, H') from h)
  obtain rfl := Nat.eq_of_beq_eq_true h1
  exact clone_ok ttOk fnsOk hm h2
theorem disp_ok (hm : Tryd.prog.follows .mixedOrders = true) (hw : PureOk Tryd.prog tabs 5 (fun args => ll args (some (.bool true)) fun _ _ => none)) {pu : PureF} (hpu : ∀ g, isP g = true → PureOk Tryd.prog tabs g (pu g)) : ∀ g, isP g = true → PureOk Tryd.prog tabs g (disp pu g) := fun g hg => by
  have hcall := callP_ok (P := Tryd.prog) (tabs := tabs) (by intro t ht; simp [tabs] at ht; subst ht; intro h; cases h) (by intro t ht x hx; simp [tabs] at ht; subst ht; simp [tab0] at hx; rcases hx with rfl | rfl | rfl | rfl | rfl | rfl | rfl | rfl | rfl | rfl | rfl | rfl | rfl | rfl | rfl | rfl | rfl | rfl | rfl | rfl | rfl | rfl | rfl | rfl | rfl | rfl | rfl | rfl | rfl | rfl | rfl | rfl | rfl | rfl | rfl | rfl | rfl | rfl | rfl | rfl | rfl | rfl | rfl | rfl | rfl | rfl | rfl | rfl | rfl | rfl | rfl | rfl | rfl | rfl | rfl | rfl | rfl | rfl | rfl | rfl | rfl | rfl | rfl | rfl <;> rfl) (inl_ok hm) hpu
  have hg : g ∈ plist := memN_iff.1 hg
  simp only [plist, List.mem_cons, List.not_mem_nil, or_false] at hg
  rcases hg with rfl | rfl | rfl | rfl | rfl | rfl | rfl | rfl | rfl | rfl | rfl | rfl | rfl | rfl | rfl | rfl | rfl
  · exact pureOk_of_run (tabs := tabs) (f := m3 pu L) ttOk hm hcall fk3 fun args v h hc => r3 pu L rfl h hc
  · exact pureOk_of_run (tabs := tabs) (f := m4 pu L) ttOk hm hcall fk4 fun args v h hc => r4 pu L rfl h hc
  · exact hw
  · exact pureOk_of_run (tabs := tabs) (f := m6 pu L) ttOk hm hcall fk6 fun args v h hc => r6 pu L rfl h hc
  · exact pureOk_of_run (tabs := tabs) (f := m7 pu L) ttOk hm hcall fk7 fun args v h hc => r7 pu L rfl h hc
  · exact pureOk_of_run (tabs := tabs) (f := m8 pu L) ttOk hm hcall fk8 fun args v h hc => r8 pu L rfl h hc
  · exact pureOk_of_run (tabs := tabs) (f := m9 pu L) ttOk hm hcall fk9 fun args v h hc => r9 pu L rfl h hc
  · exact pureOk_of_run (tabs := tabs) (f := m10 pu L) ttOk hm hcall fk10 fun args v h hc => r10 pu L rfl h hc
  · exact pureOk_of_run (tabs := tabs) (f := m11 pu L) ttOk hm hcall fk11 fun args v h hc => r11 pu L rfl h hc
  · exact pureOk_of_run (tabs := tabs) (f := m12 pu L) ttOk hm hcall fk12 fun args v h hc => r12 pu L rfl h hc
  · exact pureOk_of_run (tabs := tabs) (f := m30 pu L) ttOk hm hcall fk30 fun args v h hc => r30 pu L rfl h hc
  · exact pureOk_of_run (tabs := tabs) (f := m31 pu L) ttOk hm hcall fk31 fun args v h hc => r31 pu L rfl h hc
  · exact pureOk_of_run (tabs := tabs) (f := m32 pu L) ttOk hm hcall fk32 fun args v h hc => r32 pu L rfl h hc
  · exact pureOk_of_run (tabs := tabs) (f := m33 pu L) ttOk hm hcall fk33 fun args v h hc => r33 pu L rfl h hc
  · exact pureOk_of_run (tabs := tabs) (f := m34 pu L) ttOk hm hcall fk34 fun args v h hc => r34 pu L rfl h hc
  · exact pureOk_of_run (tabs := tabs) (f := m46 pu L) ttOk hm hcall fk46 fun args v h hc => r46 pu L rfl h hc
  · exact pureOk_of_run (tabs := tabs) (f := m52 pu L) ttOk hm hcall fk52 fun args v h hc => r52 pu L rfl h hc
theorem pu_ok (hm : Tryd.prog.follows .mixedOrders = true) (hw : PureOk Tryd.prog tabs 5 (fun args => ll args (some (.bool true)) fun _ _ => none)) : ∀ n g, isP g = true → PureOk Tryd.prog tabs g (puN n g) := fun n => by
  induction n with
  | zero =>
    intro g hg
    have hg : g ∈ plist := memN_iff.1 hg
    simp only [plist, List.mem_cons, List.not_mem_nil, or_false] at hg
    rcases hg with rfl | rfl | rfl | rfl | rfl | rfl | rfl | rfl | rfl | rfl | rfl | rfl | rfl | rfl | rfl | rfl | rfl
    · exact ⟨enter_ok fk3, fun args v h => by cases h⟩
    · exact ⟨enter_ok fk4, fun args v h => by cases h⟩
    · exact ⟨hw.1, fun args v h => by cases h⟩
    · exact ⟨enter_ok fk6, fun args v h => by cases h⟩
    · exact ⟨enter_ok fk7, fun args v h => by cases h⟩
    · exact ⟨enter_ok fk8, fun args v h => by cases h⟩
    · exact ⟨enter_ok fk9, fun args v h => by cases h⟩
    · exact ⟨enter_ok fk10, fun args v h => by cases h⟩
    · exact ⟨enter_ok fk11, fun args v h => by cases h⟩
    · exact ⟨enter_ok fk12, fun args v h => by cases h⟩
    · exact ⟨enter_ok fk30, fun args v h => by cases h⟩
    · exact ⟨enter_ok fk31, fun args v h => by cases h⟩
    · exact ⟨enter_ok fk32, fun args v h => by cases h⟩
    · exact ⟨enter_ok fk33, fun args v h => by cases h⟩
    · exact ⟨enter_ok fk34, fun args v h => by cases h⟩
    · exact ⟨enter_ok fk46, fun args v h => by cases h⟩
    · exact ⟨enter_ok fk52, fun args v h => by cases h⟩
  | succ n ih => exact disp_ok hm hw ih
end
end Go.Proofs.YtalnfeacnnmchaaDoor.TabR
