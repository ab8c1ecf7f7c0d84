/- Models of the program's functions, and the proofs that runs give them: MADE BY PROGRAM (wip/tools/dec.py). -/
import Derived.Test.YtgplhblofefkjaaDoorMendNMod1x

set_option maxRecDepth 100000
set_option linter.unusedVariables false
namespace Go.MendNM
open Go.Sp Go.MendN
noncomputable section
/-- spadille/mend.Most -/
def o31_0 : List ROp := [
  ⟨(some 4), .assign (.const (.int .i64 0)), 3, none, []⟩,
  ⟨(some 5), .assign (.const (.int .i64 0)), 28, none, []⟩]
def c31_0 : RC := .reg [] o31_0
def o31_1 : List ROp := [
  ⟨(some 6), .move (.tmp 0), 3, none, []⟩,
  ⟨(some 7), .call ⟨.value (.func 60), #[(.const (.int .i64 1)), (.tmp 6), (.const (.int .i64 10))], #[3, 3, 3]⟩, 4, none, []⟩,
  ⟨(some 8), .unOp .not 4 (.tmp 7), 4, none, []⟩,
  ⟨(some 9), .move (.tmp 8), 4, none, []⟩,
  ⟨(some 10), .move (.tmp 1), 3, (some ((some 9), false)), []⟩,
  ⟨(some 11), .call ⟨.value (.func 60), #[(.const (.int .i64 1)), (.tmp 10), (.const (.int .i64 5))], #[3, 3, 3]⟩, 4, (some ((some 9), false)), []⟩,
  ⟨(some 12), .unOp .not 4 (.tmp 11), 4, (some ((some 9), false)), []⟩,
  ⟨(some 13), .pick (.tmp 9) (.const (.bool true)) (.tmp 12), 4, none, []⟩]
def c31_1 : RC := .reg [] o31_1
def o31_2 : List ROp := [
  ⟨(some 4), .assign (.const (.int .i64 0)), 3, none, []⟩,
  ⟨(some 5), .assign (.const (.int .i64 1)), 28, none, []⟩]
def c31_2 : RC := .reg [] o31_2
def c31_3 : RC := .seq c31_2 .ret
def c31_4 : RC := .cond (.tmp 13) c31_3 .skip
def c31_5 : RC := .seq c31_1 c31_4
def o31_6 : List ROp := [
  ⟨(some 14), .move (.tmp 0), 3, none, []⟩,
  ⟨(some 15), .move (.tmp 0), 3, none, []⟩,
  ⟨(some 16), .move (.tmp 1), 3, none, []⟩,
  ⟨(some 17), .binOp .add 3 (.tmp 15) (.tmp 16) 3, 3, none, []⟩,
  ⟨(some 18), .binOp .sub 3 (.tmp 17) (.const (.int .i64 1)) 3, 3, none, []⟩,
  ⟨(some 19), .move (.tmp 1), 3, none, []⟩,
  ⟨(some 20), .binOp .quo 3 (.tmp 18) (.tmp 19) 3, 3, none, []⟩,
  ⟨(some 21), .binOp .sub 3 (.tmp 14) (.tmp 20) 3, 3, none, []⟩,
  ⟨(some 4), .assign (.tmp 21), 3, none, []⟩,
  ⟨(some 5), .assign (.const (.int .i64 0)), 28, none, []⟩]
def c31_6 : RC := .reg [] o31_6
def c31_7 : RC := .seq c31_6 .ret
def c31_8 : RC := .seq c31_5 c31_7
def c31_9 : RC := .seq c31_0 c31_8
def m31_0 (pu : PureF) (n : Nat) (z632 : Int) (z633 : Int) (b634 : Bool) : Option Value :=
  (bb b634 (some (.tuple ⟨[(.int .i64 (0 : Int)), (.int .i64 (1 : Int))]⟩)) (bb (nt (ieq z633 (0 : Int))) (some (.tuple ⟨[(.int .i64 (wrapF .i64 (Int.sub z632 (wrapF .i64 (Int.tdiv (wrapF .i64 (Int.sub (wrapF .i64 (Int.add z632 z633)) (1 : Int))) z633))))), (.int .i64 (0 : Int))]⟩)) none))
def m31_ (pu : PureF) (n : Nat) (x619 : Int) (x621 : Int) : Option Value :=
  (oo (pu 60 [(.int .i64 (1 : Int)), (.int .i64 x619), (.int .i64 (10 : Int))]) none fun v637 => (oo (vBool v637) none fun b639 => (bb (nt b639) (m31_0 pu n x619 x621 true) (oo (pu 60 [(.int .i64 (1 : Int)), (.int .i64 x621), (.int .i64 (5 : Int))]) none fun v642 => (oo (vBool v642) none fun b644 => (m31_0 pu n x619 x621 (nt b644)))))))
def m31 (pu : PureF) (n : Nat) (args : List Value) : Option Value :=
  (ll args none fun a0 args => (ll args none fun a1 args => (ll args (oo (toI .i64 a0) none fun x619 => (oo (toI .i64 a1) none fun x621 => (m31_ pu n x619 x621))) fun _ _ => none)))
theorem r31 {call : CallF} (pu : PureF) (n : Nat) (hcall : call = callP tabs isP pu inl) {args : List Value} {v : Value} (hm : m31 pu n args = some v) (_ : ∀ x ∈ args, closed2 x = true) : args.length ≤ 22 ∧ Run tt call 1 c31_9 (Fr.made 22 args) (pureHeap tabs) (Fin tt 1 [.tmp 4, .tmp 5] v) := by
  subst hcall
  unfold m31 at hm
  have hq := ll_uncons hm; clear hm; obtain ⟨a0, args_0, rfl, hm⟩ := hq
  have hq := ll_uncons hm; clear hm; obtain ⟨a1, args_1, rfl, hm⟩ := hq
  have hq := ll_end hm; clear hm; obtain ⟨rfl, hm⟩ := hq
  have hq := oo_inv hm; clear hm; obtain ⟨x619, h620, hm⟩ := hq
  obtain rfl := toI_some h620
  have hq := oo_inv hm; clear hm; obtain ⟨x621, h622, hm⟩ := hq
  obtain rfl := toI_some h622
  unfold m31_ at hm
  refine ⟨by simp, ?_⟩
  refine .same (F' := (⟨22, frTr [(0, (.int .i64 x619)), (1, (.int .i64 x621))] .nil⟩ : Fr)) (H' := (⟨1, objTr [(.cells tab0 true false [])] 0 .nil, true⟩ : AHeap)) (by kernel_rfl) (by kernel_rfl) ?_
  refine .then ?_
  refine .reg (F' := (Fr.puts (⟨22, frTr [(0, (.int .i64 x619)), (1, (.int .i64 x621))] .nil⟩ : Fr) [(4, (.int .i64 (0 : Int))), (5, (.int .i64 (0 : Int)))])) (H' := (⟨1, objTr [(.cells tab0 true false [])] 0 .nil, true⟩ : AHeap)) (by kernel_rfl) ?_
  refine .ghs (⟨22, frTr [(0, (.int .i64 x619)), (1, (.int .i64 x621))] .nil⟩ : Fr) (⟨1, objTr [(.cells tab0 true false [])] 0 .nil, true⟩ : AHeap) (.gc [] [false] [] [0, 1] (by kernel_rfl) trivial (by kernel_rfl)) ?_
  refine .then ?_
  refine .join (v := v) (fun y : Int × Int × Bool => ((⟨22, frTr [(0, (.int .i64 y.1)), (1, (.int .i64 y.2.1)), (13, (.bool y.2.2))] .nil⟩ : Fr), (⟨1, objTr [(.cells tab0 true false [])] 0 .nil, true⟩ : AHeap))) (fun y => m31_0 pu n y.1 y.2.1 y.2.2) ?_ ?_
  · rintro ⟨z632, z633, b634⟩ hm
    unfold m31_0 at hm
    have hq := bb_cases hm; clear hm; rcases hq with ⟨h635, hm⟩ | ⟨h635, hm⟩
    · refine .ifT b634 (by kernel_rfl) h635 ?_
      refine .then ?_
      refine .reg (F' := (Fr.puts (⟨22, frTr [(0, (.int .i64 z632)), (1, (.int .i64 z633)), (13, (.bool b634))] .nil⟩ : Fr) [(4, (.int .i64 (0 : Int))), (5, (.int .i64 (1 : Int)))])) (H' := (⟨1, objTr [(.cells tab0 true false [])] 0 .nil, true⟩ : AHeap)) (by kernel_rfl) ?_
      refine .ghs (⟨22, frTr [(4, (.int .i64 (0 : Int))), (5, (.int .i64 (1 : Int)))] .nil⟩ : Fr) (⟨1, objTr [(.cells tab0 true false [])] 0 .nil, true⟩ : AHeap) (.gc [] [false] [] [4, 5] (by kernel_rfl) trivial (by kernel_rfl)) ?_
      refine .ret ?_
      exact fin_ret (.tuple ⟨[(.int .i64 (0 : Int)), (.int .i64 (1 : Int))]⟩) (by kernel_rfl) (by kernel_rfl) hm
    · refine .ifF b634 (by kernel_rfl) h635 ?_
      refine .skip ?_
      refine .ghs (⟨22, frTr [(0, (.int .i64 z632)), (1, (.int .i64 z633))] .nil⟩ : Fr) (⟨1, objTr [(.cells tab0 true false [])] 0 .nil, true⟩ : AHeap) (.gc [] [false] [] [0, 1] (by kernel_rfl) trivial (by kernel_rfl)) ?_
      refine .then ?_
      have hq := bb_inv hm; clear hm; obtain ⟨h636, hm⟩ := hq
      refine .reg (F' := (Fr.puts (⟨22, frTr [(0, (.int .i64 z632)), (1, (.int .i64 z633))] .nil⟩ : Fr) [(14, (.int .i64 z632)), (15, (.int .i64 z632)), (16, (.int .i64 z633)), (17, (.int .i64 (wrapF .i64 (Int.add z632 z633)))), (18, (.int .i64 (wrapF .i64 (Int.sub (wrapF .i64 (Int.add z632 z633)) (1 : Int))))), (19, (.int .i64 z633)), (20, (.int .i64 (wrapF .i64 (Int.tdiv (wrapF .i64 (Int.sub (wrapF .i64 (Int.add z632 z633)) (1 : Int))) z633)))), (21, (.int .i64 (wrapF .i64 (Int.sub z632 (wrapF .i64 (Int.tdiv (wrapF .i64 (Int.sub (wrapF .i64 (Int.add z632 z633)) (1 : Int))) z633)))))), (4, (.int .i64 (wrapF .i64 (Int.sub z632 (wrapF .i64 (Int.tdiv (wrapF .i64 (Int.sub (wrapF .i64 (Int.add z632 z633)) (1 : Int))) z633)))))), (5, (.int .i64 (0 : Int)))])) (H' := (⟨1, objTr [(.cells tab0 true false [])] 0 .nil, true⟩ : AHeap)) (evOps_cut 6 (by kernel_rfl) (evOps_data (keep (⟨1, objTr [(.cells tab0 true false [])] 0 .nil, true⟩ : AHeap) (bb (ieq z633 (0 : Int)) none (some (.int .i64 (wrapF .i64 (Int.tdiv (wrapF .i64 (Int.sub (wrapF .i64 (Int.add z632 z633)) (1 : Int))) z633)))))) (by kernel_rfl) (keep_nb h636) (okAt_of (by kernel_rfl) (by kernel_rfl)) (by kernel_rfl))) ?_
      refine .ghs (⟨22, frTr [(4, (.int .i64 (wrapF .i64 (Int.sub z632 (wrapF .i64 (Int.tdiv (wrapF .i64 (Int.sub (wrapF .i64 (Int.add z632 z633)) (1 : Int))) z633)))))), (5, (.int .i64 (0 : Int)))] .nil⟩ : Fr) (⟨1, objTr [(.cells tab0 true false [])] 0 .nil, true⟩ : AHeap) (.gc [] [false] [] [4, 5] (by kernel_rfl) trivial (by kernel_rfl)) ?_
      refine .ret ?_
      exact fin_ret (.tuple ⟨[(.int .i64 (wrapF .i64 (Int.sub z632 (wrapF .i64 (Int.tdiv (wrapF .i64 (Int.sub (wrapF .i64 (Int.add z632 z633)) (1 : Int))) z633))))), (.int .i64 (0 : Int))]⟩) (by kernel_rfl) (by kernel_rfl) hm
  · skip
    have hq := oo_inv hm; clear hm; obtain ⟨v637, h638, hm⟩ := hq
    have hq := oo_inv hm; clear hm; obtain ⟨b639, h640, hm⟩ := hq
    obtain rfl := vBool_some h640
    have hq := bb_cases hm; clear hm; rcases hq with ⟨h641, hm⟩ | ⟨h641, hm⟩
    · skip
      refine .reg (F' := (Fr.puts (⟨22, frTr [(0, (.int .i64 x619)), (1, (.int .i64 x621))] .nil⟩ : Fr) [(6, (.int .i64 x619)), (7, (.bool b639)), (8, (.bool true)), (9, (.bool true)), (10, (.tuple ⟨[]⟩)), (11, (.tuple ⟨[]⟩)), (12, (.tuple ⟨[]⟩)), (13, (.bool true))])) (H' := (⟨1, objTr [(.cells tab0 true false [])] 0 .nil, true⟩ : AHeap)) (evOps_cut 1 (by kernel_rfl) (evOps_data ((oo (pu 60 [(.int .i64 (1 : Int)), (.int .i64 x619), (.int .i64 (10 : Int))]) none fun v => some (v, (⟨1, objTr [(.cells tab0 true false [])] 0 .nil, true⟩ : AHeap)))) (by kernel_rfl) (call_eq h638) (okAt_of (by kernel_rfl) (by kernel_rfl)) (evOps_data (some ((.bool (nt b639)), (⟨1, objTr [(.cells tab0 true false [])] 0 .nil, true⟩ : AHeap))) (by kernel_rfl) (show _ = some ((.bool true), _) from (by rw [h641])) (okAt_of (by kernel_rfl) (by kernel_rfl)) (by kernel_rfl)))) ?_
      exact ⟨(x619, x621, true), hm, (.gc [] [false] [] [0, 1, 13] (by kernel_rfl) trivial (by kernel_rfl))⟩
    · skip
      have hq := oo_inv hm; clear hm; obtain ⟨v642, h643, hm⟩ := hq
      have hq := oo_inv hm; clear hm; obtain ⟨b644, h645, hm⟩ := hq
      obtain rfl := vBool_some h645
      refine .reg (F' := (Fr.puts (⟨22, frTr [(0, (.int .i64 x619)), (1, (.int .i64 x621))] .nil⟩ : Fr) [(6, (.int .i64 x619)), (7, (.bool b639)), (8, (.bool false)), (9, (.bool false)), (10, (.int .i64 x621)), (11, (.bool b644)), (12, (.bool (nt b644))), (13, (.bool (nt b644)))])) (H' := (⟨1, objTr [(.cells tab0 true false [])] 0 .nil, true⟩ : AHeap)) (evOps_cut 1 (by kernel_rfl) (evOps_data ((oo (pu 60 [(.int .i64 (1 : Int)), (.int .i64 x619), (.int .i64 (10 : Int))]) none fun v => some (v, (⟨1, objTr [(.cells tab0 true false [])] 0 .nil, true⟩ : AHeap)))) (by kernel_rfl) (call_eq h638) (okAt_of (by kernel_rfl) (by kernel_rfl)) (evOps_data (some ((.bool (nt b639)), (⟨1, objTr [(.cells tab0 true false [])] 0 .nil, true⟩ : AHeap))) (by kernel_rfl) (show _ = some ((.bool false), _) from (by rw [h641])) (okAt_of (by kernel_rfl) (by kernel_rfl)) (evOps_cut 2 (by kernel_rfl) (evOps_data ((oo (pu 60 [(.int .i64 (1 : Int)), (.int .i64 x621), (.int .i64 (5 : Int))]) none fun v => some (v, (⟨1, objTr [(.cells tab0 true false [])] 0 .nil, true⟩ : AHeap)))) (by kernel_rfl) (call_eq h643) (okAt_of (by kernel_rfl) (by kernel_rfl)) (by kernel_rfl)))))) ?_
      exact ⟨(x619, x621, (nt b644)), hm, (.gc [] [false] [] [0, 1, 13] (by kernel_rfl) trivial (by kernel_rfl))⟩
/-- spadille/spadilleref09.Most -/
def o32_0 : List ROp := [
  ⟨(some 4), .assign (.const (.int .i64 0)), 3, none, []⟩,
  ⟨(some 5), .assign (.const (.int .i64 0)), 28, none, []⟩]
def c32_0 : RC := .reg [] o32_0
def o32_1 : List ROp := [
  ⟨(some 7), .move (.tmp 0), 3, none, []⟩,
  ⟨(some 8), .call ⟨.value (.func 61), #[(.tmp 7), (.const (.int .i64 1)), (.const (.int .i64 10))], #[3, 3, 3]⟩, 4, none, []⟩,
  ⟨(some 9), .unOp .not 4 (.tmp 8), 4, none, []⟩,
  ⟨(some 10), .move (.tmp 9), 4, none, []⟩,
  ⟨(some 11), .move (.tmp 1), 3, (some ((some 10), false)), []⟩,
  ⟨(some 12), .call ⟨.value (.func 61), #[(.tmp 11), (.const (.int .i64 1)), (.const (.int .i64 5))], #[3, 3, 3]⟩, 4, (some ((some 10), false)), []⟩,
  ⟨(some 13), .unOp .not 4 (.tmp 12), 4, (some ((some 10), false)), []⟩,
  ⟨(some 14), .pick (.tmp 10) (.const (.bool true)) (.tmp 13), 4, none, []⟩]
def c32_1 : RC := .reg [] o32_1
def o32_2 : List ROp := [
  ⟨(some 4), .assign (.const (.int .i64 0)), 3, none, []⟩,
  ⟨(some 5), .assign (.const (.int .i64 1)), 28, none, []⟩]
def c32_2 : RC := .reg [] o32_2
def c32_3 : RC := .seq c32_2 .ret
def c32_4 : RC := .cond (.tmp 14) c32_3 .skip
def c32_5 : RC := .seq c32_1 c32_4
def o32_6 : List ROp := [
  ⟨(some 6), .assign (.const (.int .i64 0)), 3, none, []⟩]
def c32_6 : RC := .reg [] o32_6
def o32_7 : List ROp := [
  ⟨(some 15), .move (.tmp 6), 3, none, []⟩,
  ⟨(some 16), .move (.tmp 1), 3, none, []⟩,
  ⟨(some 17), .binOp .mul 3 (.tmp 15) (.tmp 16) 3, 3, none, []⟩,
  ⟨(some 18), .move (.tmp 0), 3, none, []⟩,
  ⟨(some 19), .binOp .lss 3 (.tmp 17) (.tmp 18) 3, 4, none, []⟩]
def c32_7 : RC := .reg [] o32_7
def c32_8 : RC := .cond (.tmp 19) .skip (.exit 0)
def c32_9 : RC := .seq c32_7 c32_8
def o32_10 : List ROp := [
  ⟨(some 20), .move (.tmp 6), 3, none, []⟩,
  ⟨(some 21), .binOp .add 3 (.tmp 20) (.const (.int .i64 1)) 3, 3, none, []⟩,
  ⟨(some 6), .assign (.tmp 21), 3, none, []⟩]
def c32_10 : RC := .reg [] o32_10
def c32_11 : RC := .block 1 c32_10
def c32_12 : RC := .seq c32_9 c32_11
def c32_13 : RC := .loop c32_12
def c32_14 : RC := .block 0 c32_13
def o32_15 : List ROp := [
  ⟨(some 22), .move (.tmp 0), 3, none, []⟩,
  ⟨(some 23), .move (.tmp 6), 3, none, []⟩,
  ⟨(some 24), .binOp .sub 3 (.tmp 22) (.tmp 23) 3, 3, none, []⟩,
  ⟨(some 4), .assign (.tmp 24), 3, none, []⟩,
  ⟨(some 5), .assign (.const (.int .i64 0)), 28, none, []⟩]
def c32_15 : RC := .reg [] o32_15
def c32_16 : RC := .seq c32_15 .ret
def c32_17 : RC := .seq c32_14 c32_16
def c32_18 : RC := .seq c32_6 c32_17
def c32_19 : RC := .seq c32_5 c32_18
def c32_20 : RC := .seq c32_0 c32_19
def m32_1 (pu : PureF) (n : Nat) (z667 : Int) (z668 : Int) : Option Value :=
  (some (.tuple ⟨[(.int .i64 (wrapF .i64 (Int.sub z667 z668))), (.int .i64 (0 : Int))]⟩))
def b32_2 (pu : PureF) (n : Nat) (ih0 : Int → Int → Int → Option Value) (z669 : Int) (z670 : Int) (z671 : Int) : Option Value :=
  (bb (ilt (wrapF .i64 (Int.mul z671 z670)) z669) (ih0 z669 z670 (wrapF .i64 (Int.add z671 (1 : Int)))) (m32_1 pu n z669 z671))
def l32_2 (pu : PureF) (n : Nat) (w : Nat) : Int → Int → Int → Option Value :=
  Nat.rec (motive := fun _ => Int → Int → Int → Option Value) (fun _ _ _ => none) (fun _ ih0 => b32_2 pu n ih0) w
def m32_0 (pu : PureF) (n : Nat) (z659 : Int) (z660 : Int) (b661 : Bool) : Option Value :=
  (bb b661 (some (.tuple ⟨[(.int .i64 (0 : Int)), (.int .i64 (1 : Int))]⟩)) (l32_2 pu n n z659 z660 (0 : Int)))
def m32_ (pu : PureF) (n : Nat) (x646 : Int) (x648 : Int) : Option Value :=
  (oo (pu 61 [(.int .i64 x646), (.int .i64 (1 : Int)), (.int .i64 (10 : Int))]) none fun v673 => (oo (vBool v673) none fun b675 => (bb (nt b675) (m32_0 pu n x646 x648 true) (oo (pu 61 [(.int .i64 x648), (.int .i64 (1 : Int)), (.int .i64 (5 : Int))]) none fun v678 => (oo (vBool v678) none fun b680 => (m32_0 pu n x646 x648 (nt b680)))))))
def m32 (pu : PureF) (n : Nat) (args : List Value) : Option Value :=
  (ll args none fun a0 args => (ll args none fun a1 args => (ll args (oo (toI .i64 a0) none fun x646 => (oo (toI .i64 a1) none fun x648 => (m32_ pu n x646 x648))) fun _ _ => none)))
theorem r32 {call : CallF} (pu : PureF) (n : Nat) (hcall : call = callP tabs isP pu inl) {args : List Value} {v : Value} (hm : m32 pu n args = some v) (_ : ∀ x ∈ args, closed2 x = true) : args.length ≤ 25 ∧ Run tt call 1 c32_20 (Fr.made 25 args) (pureHeap tabs) (Fin tt 1 [.tmp 4, .tmp 5] v) := by
  subst hcall
  unfold m32 at hm
  have hq := ll_uncons hm; clear hm; obtain ⟨a0, args_0, rfl, hm⟩ := hq
  have hq := ll_uncons hm; clear hm; obtain ⟨a1, args_1, rfl, hm⟩ := hq
  have hq := ll_end hm; clear hm; obtain ⟨rfl, hm⟩ := hq
  have hq := oo_inv hm; clear hm; obtain ⟨x646, h647, hm⟩ := hq
  obtain rfl := toI_some h647
  have hq := oo_inv hm; clear hm; obtain ⟨x648, h649, hm⟩ := hq
  obtain rfl := toI_some h649
  unfold m32_ at hm
  refine ⟨by simp, ?_⟩
  refine .same (F' := (⟨25, frTr [(0, (.int .i64 x646)), (1, (.int .i64 x648))] .nil⟩ : Fr)) (H' := (⟨1, objTr [(.cells tab0 true false [])] 0 .nil, true⟩ : AHeap)) (by kernel_rfl) (by kernel_rfl) ?_
  refine .then ?_
  refine .reg (F' := (Fr.puts (⟨25, frTr [(0, (.int .i64 x646)), (1, (.int .i64 x648))] .nil⟩ : Fr) [(4, (.int .i64 (0 : Int))), (5, (.int .i64 (0 : Int)))])) (H' := (⟨1, objTr [(.cells tab0 true false [])] 0 .nil, true⟩ : AHeap)) (by kernel_rfl) ?_
  refine .ghs (⟨25, frTr [(0, (.int .i64 x646)), (1, (.int .i64 x648))] .nil⟩ : Fr) (⟨1, objTr [(.cells tab0 true false [])] 0 .nil, true⟩ : AHeap) (.gc [] [false] [] [0, 1] (by kernel_rfl) trivial (by kernel_rfl)) ?_
  refine .then ?_
  refine .join (v := v) (fun y : Int × Int × Bool => ((⟨25, frTr [(0, (.int .i64 y.1)), (1, (.int .i64 y.2.1)), (14, (.bool y.2.2))] .nil⟩ : Fr), (⟨1, objTr [(.cells tab0 true false [])] 0 .nil, true⟩ : AHeap))) (fun y => m32_0 pu n y.1 y.2.1 y.2.2) ?_ ?_
  · rintro ⟨z659, z660, b661⟩ hm
    unfold m32_0 at hm
    have hq := bb_cases hm; clear hm; rcases hq with ⟨h662, hm⟩ | ⟨h662, hm⟩
    · refine .ifT b661 (by kernel_rfl) h662 ?_
      refine .then ?_
      refine .reg (F' := (Fr.puts (⟨25, frTr [(0, (.int .i64 z659)), (1, (.int .i64 z660)), (14, (.bool b661))] .nil⟩ : Fr) [(4, (.int .i64 (0 : Int))), (5, (.int .i64 (1 : Int)))])) (H' := (⟨1, objTr [(.cells tab0 true false [])] 0 .nil, true⟩ : AHeap)) (by kernel_rfl) ?_
      refine .ghs (⟨25, frTr [(4, (.int .i64 (0 : Int))), (5, (.int .i64 (1 : Int)))] .nil⟩ : Fr) (⟨1, objTr [(.cells tab0 true false [])] 0 .nil, true⟩ : AHeap) (.gc [] [false] [] [4, 5] (by kernel_rfl) trivial (by kernel_rfl)) ?_
      refine .ret ?_
      exact fin_ret (.tuple ⟨[(.int .i64 (0 : Int)), (.int .i64 (1 : Int))]⟩) (by kernel_rfl) (by kernel_rfl) hm
    · refine .ifF b661 (by kernel_rfl) h662 ?_
      refine .skip ?_
      refine .ghs (⟨25, frTr [(0, (.int .i64 z659)), (1, (.int .i64 z660))] .nil⟩ : Fr) (⟨1, objTr [(.cells tab0 true false [])] 0 .nil, true⟩ : AHeap) (.gc [] [false] [] [0, 1] (by kernel_rfl) trivial (by kernel_rfl)) ?_
      refine .then ?_
      refine .reg (F' := (Fr.puts (⟨25, frTr [(0, (.int .i64 z659)), (1, (.int .i64 z660))] .nil⟩ : Fr) [(6, (.int .i64 (0 : Int)))])) (H' := (⟨1, objTr [(.cells tab0 true false [])] 0 .nil, true⟩ : AHeap)) (by kernel_rfl) ?_
      refine .ghs (⟨25, frTr [(0, (.int .i64 z659)), (1, (.int .i64 z660)), (6, (.int .i64 (0 : Int)))] .nil⟩ : Fr) (⟨1, objTr [(.cells tab0 true false [])] 0 .nil, true⟩ : AHeap) (.gc [] [false] [] [0, 1, 6] (by kernel_rfl) trivial (by kernel_rfl)) ?_
      refine .join (v := v) (fun y : Int × Int => ((⟨25, frTr [(0, (.int .i64 y.1)), (6, (.int .i64 y.2))] .nil⟩ : Fr), (⟨1, objTr [(.cells tab0 true false [])] 0 .nil, true⟩ : AHeap))) (fun y => m32_1 pu n y.1 y.2) ?_ ?_
      · rintro ⟨z667, z668⟩ hm
        unfold m32_1 at hm
        refine .then ?_
        refine .reg (F' := (Fr.puts (⟨25, frTr [(0, (.int .i64 z667)), (6, (.int .i64 z668))] .nil⟩ : Fr) [(22, (.int .i64 z667)), (23, (.int .i64 z668)), (24, (.int .i64 (wrapF .i64 (Int.sub z667 z668)))), (4, (.int .i64 (wrapF .i64 (Int.sub z667 z668)))), (5, (.int .i64 (0 : Int)))])) (H' := (⟨1, objTr [(.cells tab0 true false [])] 0 .nil, true⟩ : AHeap)) (by kernel_rfl) ?_
        refine .ghs (⟨25, frTr [(4, (.int .i64 (wrapF .i64 (Int.sub z667 z668)))), (5, (.int .i64 (0 : Int)))] .nil⟩ : Fr) (⟨1, objTr [(.cells tab0 true false [])] 0 .nil, true⟩ : AHeap) (.gc [] [false] [] [4, 5] (by kernel_rfl) trivial (by kernel_rfl)) ?_
        refine .ret ?_
        exact fin_ret (.tuple ⟨[(.int .i64 (wrapF .i64 (Int.sub z667 z668))), (.int .i64 (0 : Int))]⟩) (by kernel_rfl) (by kernel_rfl) hm
      · skip
        refine .block ?_
        refine .loopM (v := v) (fun y : Int × Int × Int => ((⟨25, frTr [(0, (.int .i64 y.1)), (1, (.int .i64 y.2.1)), (6, (.int .i64 y.2.2))] .nil⟩ : Fr), (⟨1, objTr [(.cells tab0 true false [])] 0 .nil, true⟩ : AHeap))) (fun w y => l32_2 pu n w y.1 y.2.1 y.2.2) n ⟨(z659, z660, (0 : Int)), hm, (.gc [] [false] [] [0, 1, 6] (by kernel_rfl) trivial (by kernel_rfl))⟩ (fun _ => rfl) ?_
        rintro w0 ⟨z669, z670, z671⟩ hm
        refine .then ?_
        refine .then ?_
        refine .reg (F' := (Fr.puts (⟨25, frTr [(0, (.int .i64 z669)), (1, (.int .i64 z670)), (6, (.int .i64 z671))] .nil⟩ : Fr) [(15, (.int .i64 z671)), (16, (.int .i64 z670)), (17, (.int .i64 (wrapF .i64 (Int.mul z671 z670)))), (18, (.int .i64 z669)), (19, (.bool (ilt (wrapF .i64 (Int.mul z671 z670)) z669)))])) (H' := (⟨1, objTr [(.cells tab0 true false [])] 0 .nil, true⟩ : AHeap)) (by kernel_rfl) ?_
        refine .ghs (⟨25, frTr [(0, (.int .i64 z669)), (1, (.int .i64 z670)), (6, (.int .i64 z671)), (19, (.bool (ilt (wrapF .i64 (Int.mul z671 z670)) z669)))] .nil⟩ : Fr) (⟨1, objTr [(.cells tab0 true false [])] 0 .nil, true⟩ : AHeap) (.gc [] [false] [] [0, 1, 6, 19] (by kernel_rfl) trivial (by kernel_rfl)) ?_
        have hq := bb_cases hm; clear hm; rcases hq with ⟨h672, hm⟩ | ⟨h672, hm⟩
        · refine .ifT (ilt (wrapF .i64 (Int.mul z671 z670)) z669) (by kernel_rfl) h672 ?_
          refine .skip ?_
          refine .ghs (⟨25, frTr [(0, (.int .i64 z669)), (1, (.int .i64 z670)), (6, (.int .i64 z671))] .nil⟩ : Fr) (⟨1, objTr [(.cells tab0 true false [])] 0 .nil, true⟩ : AHeap) (.gc [] [false] [] [0, 1, 6] (by kernel_rfl) trivial (by kernel_rfl)) ?_
          refine .block ?_
          refine .reg (F' := (Fr.puts (⟨25, frTr [(0, (.int .i64 z669)), (1, (.int .i64 z670)), (6, (.int .i64 z671))] .nil⟩ : Fr) [(20, (.int .i64 z671)), (21, (.int .i64 (wrapF .i64 (Int.add z671 (1 : Int))))), (6, (.int .i64 (wrapF .i64 (Int.add z671 (1 : Int)))))])) (H' := (⟨1, objTr [(.cells tab0 true false [])] 0 .nil, true⟩ : AHeap)) (by kernel_rfl) ?_
          exact ⟨(z669, z670, (wrapF .i64 (Int.add z671 (1 : Int)))), hm, (.gc [] [false] [] [0, 1, 6] (by kernel_rfl) trivial (by kernel_rfl))⟩
        · refine .ifF (ilt (wrapF .i64 (Int.mul z671 z670)) z669) (by kernel_rfl) h672 ?_
          refine .exit ?_
          exact ⟨(z669, z671), hm, (.gc [] [false] [] [0, 6] (by kernel_rfl) trivial (by kernel_rfl))⟩
  · skip
    have hq := oo_inv hm; clear hm; obtain ⟨v673, h674, hm⟩ := hq
    have hq := oo_inv hm; clear hm; obtain ⟨b675, h676, hm⟩ := hq
    obtain rfl := vBool_some h676
    have hq := bb_cases hm; clear hm; rcases hq with ⟨h677, hm⟩ | ⟨h677, hm⟩
    · skip
      refine .reg (F' := (Fr.puts (⟨25, frTr [(0, (.int .i64 x646)), (1, (.int .i64 x648))] .nil⟩ : Fr) [(7, (.int .i64 x646)), (8, (.bool b675)), (9, (.bool true)), (10, (.bool true)), (11, (.tuple ⟨[]⟩)), (12, (.tuple ⟨[]⟩)), (13, (.tuple ⟨[]⟩)), (14, (.bool true))])) (H' := (⟨1, objTr [(.cells tab0 true false [])] 0 .nil, true⟩ : AHeap)) (evOps_cut 1 (by kernel_rfl) (evOps_data ((oo (pu 61 [(.int .i64 x646), (.int .i64 (1 : Int)), (.int .i64 (10 : Int))]) none fun v => some (v, (⟨1, objTr [(.cells tab0 true false [])] 0 .nil, true⟩ : AHeap)))) (by kernel_rfl) (call_eq h674) (okAt_of (by kernel_rfl) (by kernel_rfl)) (evOps_data (some ((.bool (nt b675)), (⟨1, objTr [(.cells tab0 true false [])] 0 .nil, true⟩ : AHeap))) (by kernel_rfl) (show _ = some ((.bool true), _) from (by rw [h677])) (okAt_of (by kernel_rfl) (by kernel_rfl)) (by kernel_rfl)))) ?_
      exact ⟨(x646, x648, true), hm, (.gc [] [false] [] [0, 1, 14] (by kernel_rfl) trivial (by kernel_rfl))⟩
    · skip
      have hq := oo_inv hm; clear hm; obtain ⟨v678, h679, hm⟩ := hq
      have hq := oo_inv hm; clear hm; obtain ⟨b680, h681, hm⟩ := hq
      obtain rfl := vBool_some h681
      refine .reg (F' := (Fr.puts (⟨25, frTr [(0, (.int .i64 x646)), (1, (.int .i64 x648))] .nil⟩ : Fr) [(7, (.int .i64 x646)), (8, (.bool b675)), (9, (.bool false)), (10, (.bool false)), (11, (.int .i64 x648)), (12, (.bool b680)), (13, (.bool (nt b680))), (14, (.bool (nt b680)))])) (H' := (⟨1, objTr [(.cells tab0 true false [])] 0 .nil, true⟩ : AHeap)) (evOps_cut 1 (by kernel_rfl) (evOps_data ((oo (pu 61 [(.int .i64 x646), (.int .i64 (1 : Int)), (.int .i64 (10 : Int))]) none fun v => some (v, (⟨1, objTr [(.cells tab0 true false [])] 0 .nil, true⟩ : AHeap)))) (by kernel_rfl) (call_eq h674) (okAt_of (by kernel_rfl) (by kernel_rfl)) (evOps_data (some ((.bool (nt b675)), (⟨1, objTr [(.cells tab0 true false [])] 0 .nil, true⟩ : AHeap))) (by kernel_rfl) (show _ = some ((.bool false), _) from (by rw [h677])) (okAt_of (by kernel_rfl) (by kernel_rfl)) (evOps_cut 2 (by kernel_rfl) (evOps_data ((oo (pu 61 [(.int .i64 x648), (.int .i64 (1 : Int)), (.int .i64 (5 : Int))]) none fun v => some (v, (⟨1, objTr [(.cells tab0 true false [])] 0 .nil, true⟩ : AHeap)))) (by kernel_rfl) (call_eq h679) (okAt_of (by kernel_rfl) (by kernel_rfl)) (by kernel_rfl)))))) ?_
      exact ⟨(x646, x648, (nt b680)), hm, (.gc [] [false] [] [0, 1, 14] (by kernel_rfl) trivial (by kernel_rfl))⟩
/-- spadille/mend.Sources -/
def o33_0 : List ROp := [
  ⟨(some 1), .box 24 (.tmp 0), 0, none, []⟩,
  ⟨(some 2), .assign (.const (.slice none 0 0)), 22, none, []⟩,
  ⟨(some 3), .assign (.const (.int .i64 0)), 28, none, []⟩]
def c33_0 : RC := .reg [] o33_0
def o33_1 : List ROp := [
  ⟨(some 5), .load 24 (.tmp 1), 24, none, []⟩,
  ⟨(some 6), .call ⟨.value (.func 21), #[(.tmp 5)], #[24]⟩, 28, none, []⟩,
  ⟨(some 4), .assign (.tmp 6), 28, none, []⟩]
def c33_1 : RC := .reg [] o33_1
def o33_2 : List ROp := [
  ⟨(some 7), .move (.tmp 4), 28, none, []⟩,
  ⟨(some 8), .binOp .neq 28 (.tmp 7) (.const (.int .i64 0)) 28, 4, none, []⟩]
def c33_2 : RC := .reg [] o33_2
def o33_3 : List ROp := [
  ⟨(some 9), .move (.tmp 4), 28, none, []⟩,
  ⟨(some 2), .assign (.const (.slice none 0 0)), 22, none, []⟩,
  ⟨(some 3), .assign (.tmp 9), 28, none, []⟩]
def c33_3 : RC := .reg [] o33_3
def c33_4 : RC := .seq c33_3 .ret
def c33_5 : RC := .cond (.tmp 8) c33_4 .skip
def c33_6 : RC := .seq c33_2 c33_5
def c33_7 : RC := .seq c33_1 c33_6
def o33_8 : List ROp := [
  ⟨(some 10), .load 24 (.tmp 1), 24, none, []⟩,
  ⟨(some 11), .call ⟨.value (.func 69), #[(.tmp 10)], #[24]⟩, 22, none, []⟩,
  ⟨(some 2), .assign (.tmp 11), 22, none, []⟩,
  ⟨(some 3), .assign (.const (.int .i64 0)), 28, none, []⟩]
def c33_8 : RC := .reg [] o33_8
def c33_9 : RC := .seq c33_8 .ret
def c33_10 : RC := .seq c33_7 c33_9
def c33_11 : RC := .seq c33_0 c33_10

def m33_ (pu : PureF) (n : Nat) (x687 : Int) (s689 : Sl) (s691 : Sl) : Option Value :=
  (oo (pu 21 [(.agg ⟨[(.int .i64 x687), (Sl.v 1 s689), (Sl.v 1 s691)]⟩)]) none fun v693 => (oo (toI .i64 v693) none fun x695 => (bb (nt (ieq x695 (0 : Int))) (some (.tuple ⟨[(Sl.v 1 (Sl.mk 0 2 [])), (.int .i64 x695)]⟩)) (oo (pu 69 [(.agg ⟨[(.int .i64 x687), (Sl.v 1 s689), (Sl.v 1 s691)]⟩)]) none fun v698 => (oo (toSl 1 v698) none fun s700 => (some (.tuple ⟨[(Sl.v 1 s700), (.int .i64 (0 : Int))]⟩)))))))
def m33 (pu : PureF) (n : Nat) (args : List Value) : Option Value :=
  (ll args none fun a0 args => (ll args (oo (vAgg a0) none fun l682 => (ll l682 none fun v684 l682 => (ll l682 none fun v685 l682 => (ll l682 none fun v686 l682 => (ll l682 (oo (toI .i64 v684) none fun x687 => (oo (toSl 1 v685) none fun s689 => (oo (toSl 1 v686) none fun s691 => (m33_ pu n x687 s689 s691)))) fun _ _ => none))))) fun _ _ => none))
theorem r33 {call : CallF} (pu : PureF) (n : Nat) (hcall : call = callP tabs isP pu inl) {args : List Value} {v : Value} (hm : m33 pu n args = some v) (_ : ∀ x ∈ args, closed2 x = true) : args.length ≤ 12 ∧ Run tt call 1 c33_11 (Fr.made 12 args) (pureHeap tabs) (Fin tt 1 [.tmp 2, .tmp 3] v) := by
  subst hcall
  unfold m33 at hm
  have hq := ll_uncons hm; clear hm; obtain ⟨a0, args_0, rfl, hm⟩ := hq
  have hq := ll_end hm; clear hm; obtain ⟨rfl, hm⟩ := hq
  have hq := oo_inv hm; clear hm; obtain ⟨l682, h683, hm⟩ := hq
  obtain rfl := vAgg_some h683
  have hq := ll_uncons hm; clear hm; obtain ⟨v684, l682_0, rfl, hm⟩ := hq
  have hq := ll_uncons hm; clear hm; obtain ⟨v685, l682_1, rfl, hm⟩ := hq
  have hq := ll_uncons hm; clear hm; obtain ⟨v686, l682_2, rfl, hm⟩ := hq
  have hq := ll_end hm; clear hm; obtain ⟨rfl, hm⟩ := hq
  have hq := oo_inv hm; clear hm; obtain ⟨x687, h688, hm⟩ := hq
  obtain rfl := toI_some h688
  have hq := oo_inv hm; clear hm; obtain ⟨s689, h690, hm⟩ := hq
  obtain rfl := toSl_some h690
  have hq := oo_inv hm; clear hm; obtain ⟨s691, h692, hm⟩ := hq
  obtain rfl := toSl_some h692
  unfold m33_ at hm
  refine ⟨by simp, ?_⟩
  refine .same (F' := (⟨12, frTr [(0, (.agg ⟨[(.int .i64 x687), (Sl.v 1 s689), (Sl.v 1 s691)]⟩))] .nil⟩ : Fr)) (H' := (⟨1, objTr [(.cells tab0 true false [])] 0 .nil, true⟩ : AHeap)) (by kernel_rfl) (by kernel_rfl) ?_
  refine .then ?_
  refine .reg (F' := (Fr.puts (⟨12, frTr [(0, (.agg ⟨[(.int .i64 x687), (Sl.v 1 s689), (Sl.v 1 s691)]⟩))] .nil⟩ : Fr) [(1, (.pointer (some ⟨1, 0, none⟩))), (2, (.slice none 0 0)), (3, (.int .i64 (0 : Int)))])) (H' := (⟨2, objTr [(.cells tab0 true false []), (.cells [(.int .i64 x687), (Sl.v 1 s689), (Sl.v 1 s691)] false false [])] 0 .nil, true⟩ : AHeap)) (by kernel_rfl) ?_
  refine .ghs (⟨12, frTr [(1, (.pointer (some ⟨1, 0, none⟩)))] .nil⟩ : Fr) (⟨2, objTr [(.cells tab0 true false []), (.cells [(.int .i64 x687), (Sl.v 1 s689), (Sl.v 1 s691)] false false [])] 0 .nil, true⟩ : AHeap) (.gc [] [false] [.tmp 1 false] [1] (by kernel_rfl) trivial (by kernel_rfl)) ?_
  refine .then ?_
  refine .then ?_
  have hq := oo_inv hm; clear hm; obtain ⟨v693, h694, hm⟩ := hq
  have hq := oo_inv hm; clear hm; obtain ⟨x695, h696, hm⟩ := hq
  obtain rfl := toI_some h696
  refine .reg (F' := (Fr.puts (⟨12, frTr [(1, (.pointer (some ⟨1, 0, none⟩)))] .nil⟩ : Fr) [(5, (.agg ⟨[(.int .i64 x687), (Sl.v 1 s689), (Sl.v 1 s691)]⟩)), (6, (.int .i64 x695)), (4, (.int .i64 x695))])) (H' := (⟨2, objTr [(.cells tab0 true false []), (.cells [(.int .i64 x687), (Sl.v 1 s689), (Sl.v 1 s691)] false false [])] 0 .nil, true⟩ : AHeap)) (evOps_cut 1 (by kernel_rfl) (evOps_data ((oo (pu 21 [(.agg ⟨[(.int .i64 x687), (Sl.v 1 s689), (Sl.v 1 s691)]⟩)]) none fun v => some (v, (⟨2, objTr [(.cells tab0 true false []), (.cells [(.int .i64 x687), (Sl.v 1 s689), (Sl.v 1 s691)] false false [])] 0 .nil, true⟩ : AHeap)))) (by kernel_rfl) (call_eq h694) (okAt_of (by kernel_rfl) (by kernel_rfl)) (by kernel_rfl))) ?_
  refine .ghs (⟨12, frTr [(1, (.pointer (some ⟨1, 0, none⟩))), (4, (.int .i64 x695))] .nil⟩ : Fr) (⟨2, objTr [(.cells tab0 true false []), (.cells [(.int .i64 x687), (Sl.v 1 s689), (Sl.v 1 s691)] false false [])] 0 .nil, true⟩ : AHeap) (.gc [] [false] [.tmp 1 false] [1, 4] (by kernel_rfl) trivial (by kernel_rfl)) ?_
  refine .then ?_
  refine .reg (F' := (Fr.puts (⟨12, frTr [(1, (.pointer (some ⟨1, 0, none⟩))), (4, (.int .i64 x695))] .nil⟩ : Fr) [(7, (.int .i64 x695)), (8, (.bool (nt (ieq x695 (0 : Int)))))])) (H' := (⟨2, objTr [(.cells tab0 true false []), (.cells [(.int .i64 x687), (Sl.v 1 s689), (Sl.v 1 s691)] false false [])] 0 .nil, true⟩ : AHeap)) (by kernel_rfl) ?_
  refine .ghs (⟨12, frTr [(1, (.pointer (some ⟨1, 0, none⟩))), (4, (.int .i64 x695)), (8, (.bool (nt (ieq x695 (0 : Int)))))] .nil⟩ : Fr) (⟨2, objTr [(.cells tab0 true false []), (.cells [(.int .i64 x687), (Sl.v 1 s689), (Sl.v 1 s691)] false false [])] 0 .nil, true⟩ : AHeap) (.gc [] [false] [.tmp 1 false] [1, 4, 8] (by kernel_rfl) trivial (by kernel_rfl)) ?_
  have hq := bb_cases hm; clear hm; rcases hq with ⟨h697, hm⟩ | ⟨h697, hm⟩
  · refine .ifT (nt (ieq x695 (0 : Int))) (by kernel_rfl) h697 ?_
    refine .then ?_
    refine .reg (F' := (Fr.puts (⟨12, frTr [(1, (.pointer (some ⟨1, 0, none⟩))), (4, (.int .i64 x695)), (8, (.bool (nt (ieq x695 (0 : Int)))))] .nil⟩ : Fr) [(9, (.int .i64 x695)), (2, (.slice none 0 0)), (3, (.int .i64 x695))])) (H' := (⟨2, objTr [(.cells tab0 true false []), (.cells [(.int .i64 x687), (Sl.v 1 s689), (Sl.v 1 s691)] false false [])] 0 .nil, true⟩ : AHeap)) (by kernel_rfl) ?_
    refine .ghs (⟨12, frTr [(2, (.slice none 0 0)), (3, (.int .i64 x695))] .nil⟩ : Fr) (⟨1, objTr [(.cells tab0 true false [])] 0 .nil, true⟩ : AHeap) (.gc [] [false] [] [2, 3] (by kernel_rfl) trivial (by kernel_rfl)) ?_
    refine .ghs (Fr.puts (⟨12, frTr [(2, (.slice none 0 0)), (3, (.int .i64 x695))] .nil⟩ : Fr) [(2, (Sl.v 1 (Sl.mk 0 2 [])))]) (⟨1, objTr [(.cells tab0 true false [])] 0 .nil, true⟩ : AHeap) (.freeze 1 2 1 (by kernel_rfl) (by kernel_rfl) (GhS.id _ _)) ?_
    refine .ret ?_
    exact fin_ret (.tuple ⟨[(Sl.v 1 (Sl.mk 0 2 [])), (.int .i64 x695)]⟩) (by kernel_rfl) (by kernel_rfl) hm
  · refine .ifF (nt (ieq x695 (0 : Int))) (by kernel_rfl) h697 ?_
    refine .skip ?_
    refine .ghs (⟨12, frTr [(1, (.pointer (some ⟨1, 0, none⟩)))] .nil⟩ : Fr) (⟨2, objTr [(.cells tab0 true false []), (.cells [(.int .i64 x687), (Sl.v 1 s689), (Sl.v 1 s691)] false false [])] 0 .nil, true⟩ : AHeap) (.gc [] [false] [.tmp 1 false] [1] (by kernel_rfl) trivial (by kernel_rfl)) ?_
    refine .then ?_
    have hq := oo_inv hm; clear hm; obtain ⟨v698, h699, hm⟩ := hq
    have hq := oo_inv hm; clear hm; obtain ⟨s700, h701, hm⟩ := hq
    obtain rfl := toSl_some h701
    refine .reg (F' := (Fr.puts (⟨12, frTr [(1, (.pointer (some ⟨1, 0, none⟩)))] .nil⟩ : Fr) [(10, (.agg ⟨[(.int .i64 x687), (Sl.v 1 s689), (Sl.v 1 s691)]⟩)), (11, (Sl.v 1 s700)), (2, (Sl.v 1 s700)), (3, (.int .i64 (0 : Int)))])) (H' := (⟨2, objTr [(.cells tab0 true false []), (.cells [(.int .i64 x687), (Sl.v 1 s689), (Sl.v 1 s691)] false false [])] 0 .nil, true⟩ : AHeap)) (evOps_cut 1 (by kernel_rfl) (evOps_data ((oo (pu 69 [(.agg ⟨[(.int .i64 x687), (Sl.v 1 s689), (Sl.v 1 s691)]⟩)]) none fun v => some (v, (⟨2, objTr [(.cells tab0 true false []), (.cells [(.int .i64 x687), (Sl.v 1 s689), (Sl.v 1 s691)] false false [])] 0 .nil, true⟩ : AHeap)))) (by kernel_rfl) (call_eq h699) (okAt_of (by kernel_rfl) (by kernel_rfl)) (by kernel_rfl))) ?_
    refine .ghs (⟨12, frTr [(2, (Sl.v 1 s700)), (3, (.int .i64 (0 : Int)))] .nil⟩ : Fr) (⟨1, objTr [(.cells tab0 true false [])] 0 .nil, true⟩ : AHeap) (.gc [] [false] [] [2, 3] (by kernel_rfl) trivial (by kernel_rfl)) ?_
    refine .ret ?_
    exact fin_ret (.tuple ⟨[(Sl.v 1 s700), (.int .i64 (0 : Int))]⟩) (by kernel_rfl) (by kernel_rfl) hm
/-- spadille/spadilleref09.Sources -/
def o34_0 : List ROp := [
  ⟨(some 1), .box 27 (.tmp 0), 0, none, []⟩,
  ⟨(some 2), .assign (.const (.slice none 0 0)), 22, none, []⟩,
  ⟨(some 3), .assign (.const (.int .i64 0)), 28, none, []⟩]
def c34_0 : RC := .reg [] o34_0
def o34_1 : List ROp := [
  ⟨(some 7), .load 27 (.tmp 1), 27, none, []⟩,
  ⟨(some 8), .call ⟨.value (.func 22), #[(.tmp 7)], #[27]⟩, 28, none, []⟩,
  ⟨(some 4), .assign (.tmp 8), 28, none, []⟩]
def c34_1 : RC := .reg [] o34_1
def o34_2 : List ROp := [
  ⟨(some 9), .move (.tmp 4), 28, none, []⟩,
  ⟨(some 10), .binOp .neq 28 (.tmp 9) (.const (.int .i64 0)) 28, 4, none, []⟩]
def c34_2 : RC := .reg [] o34_2
def o34_3 : List ROp := [
  ⟨(some 11), .move (.tmp 4), 28, none, []⟩,
  ⟨(some 2), .assign (.const (.slice none 0 0)), 22, none, []⟩,
  ⟨(some 3), .assign (.tmp 11), 28, none, []⟩]
def c34_3 : RC := .reg [] o34_3
def c34_4 : RC := .seq c34_3 .ret
def c34_5 : RC := .cond (.tmp 10) c34_4 .skip
def c34_6 : RC := .seq c34_2 c34_5
def o34_7 : List ROp := [
  ⟨(some 5), .assign (.const (.slice none 0 0)), 22, none, []⟩]
def c34_7 : RC := .reg [] o34_7
def o34_8 : List ROp := [
  ⟨(some 6), .assign (.const (.int .i64 0)), 3, none, []⟩]
def c34_8 : RC := .reg [] o34_8
def o34_9 : List ROp := [
  ⟨(some 12), .move (.tmp 6), 3, none, []⟩,
  ⟨(some 13), .fieldAddr 27 (.tmp 1) 1, 0, none, []⟩,
  ⟨(some 14), .load 22 (.tmp 13), 22, none, []⟩,
  ⟨(some 15), .call ⟨.builtin .len, #[(.tmp 14)], #[22]⟩, 3, none, []⟩,
  ⟨(some 16), .binOp .lss 3 (.tmp 12) (.tmp 15) 3, 4, none, []⟩]
def c34_9 : RC := .reg [] o34_9
def c34_10 : RC := .cond (.tmp 16) .skip (.exit 0)
def c34_11 : RC := .seq c34_9 c34_10
def o34_12 : List ROp := [
  ⟨(some 19), .move (.tmp 5), 22, none, []⟩,
  ⟨(some 20), .load 27 (.tmp 1), 27, none, []⟩,
  ⟨(some 21), .move (.tmp 6), 3, none, []⟩,
  ⟨(some 22), .call ⟨.value (.func 70), #[(.tmp 20), (.tmp 21)], #[27, 3]⟩, 3, none, []⟩,
  ⟨(some 23), .buildSlice 22 1 #[(0, (.tmp 22))], 22, none, []⟩,
  ⟨(some 24), .call ⟨.builtin .append, #[(.tmp 19), (.tmp 23)], #[22, 22]⟩, 22, none, []⟩,
  ⟨(some 5), .assign (.tmp 24), 22, none, []⟩]
def c34_12 : RC := .reg [] o34_12
def c34_13 : RC := .block 1 c34_12
def o34_14 : List ROp := [
  ⟨(some 17), .move (.tmp 6), 3, none, []⟩,
  ⟨(some 18), .binOp .add 3 (.tmp 17) (.const (.int .i64 1)) 3, 3, none, []⟩,
  ⟨(some 6), .assign (.tmp 18), 3, none, []⟩]
def c34_14 : RC := .reg [] o34_14
def c34_15 : RC := .seq c34_13 c34_14
def c34_16 : RC := .seq c34_11 c34_15
def c34_17 : RC := .loop c34_16
def c34_18 : RC := .block 0 c34_17
def c34_19 : RC := .seq c34_8 c34_18
def o34_20 : List ROp := [
  ⟨(some 25), .move (.tmp 5), 22, none, []⟩,
  ⟨(some 2), .assign (.tmp 25), 22, none, []⟩,
  ⟨(some 3), .assign (.const (.int .i64 0)), 28, none, []⟩]
def c34_20 : RC := .reg [] o34_20
def c34_21 : RC := .seq c34_20 .ret
def c34_22 : RC := .seq c34_19 c34_21
def c34_23 : RC := .seq c34_7 c34_22
def c34_24 : RC := .seq c34_6 c34_23
def c34_25 : RC := .seq c34_1 c34_24
def c34_26 : RC := .seq c34_0 c34_25
def m34_0 (pu : PureF) (n : Nat) (n733 : Nat) (c734 : Nat) (q735 : List Value) : Option Value :=
  (bb (allL closed1 q735) (bb (an (Nat.ble (0 + n733 * 1) (len q735)) (allL closed1 (takeL (n733 * 1) (dropL 0 q735)))) (some (.tuple ⟨[(Sl.v 1 (Sl.mk n733 0 (takeL (n733 * 1) (dropL 0 q735)))), (.int .i64 (0 : Int))]⟩)) none) none)
def b34_1 (pu : PureF) (n : Nat) (ih0 : Nat → Nat → Int → Int → Sl → Sl → List Value → Option Value) (n738 : Nat) (c739 : Nat) (z740 : Int) (z741 : Int) (s742 : Sl) (s743 : Sl) (q744 : List Value) : Option Value :=
  (bb (allL closed1 q744) (bb (ilt z740 (Int.ofNat (Sl.n s742))) (oo (pu 70 [(.agg ⟨[(.int .i64 z741), (Sl.v 1 s742), (Sl.v 1 s743)]⟩), (.int .i64 z740)]) none fun v747 => (oo (toI .i64 v747) none fun x749 => (bb (growC 1 8 n738 c739 1 q744) (bb (allL closed1 (appL (dropL 0 q744) [(.int .i64 x749)])) (ih0 (n738 + 1) (2 * (n738 + 1) + bb false 1 0) (wrapF .i64 (Int.add z740 (1 : Int))) z741 s742 s743 (appL (dropL 0 q744) [(.int .i64 x749)])) none) none))) (m34_0 pu n n738 c739 q744)) none)
def l34_1 (pu : PureF) (n : Nat) (w : Nat) : Nat → Nat → Int → Int → Sl → Sl → List Value → Option Value :=
  Nat.rec (motive := fun _ => Nat → Nat → Int → Int → Sl → Sl → List Value → Option Value) (fun _ _ _ _ _ _ _ => none) (fun _ ih0 => b34_1 pu n ih0) w
def m34_ (pu : PureF) (n : Nat) (x707 : Int) (s709 : Sl) (s711 : Sl) : Option Value :=
  (oo (pu 22 [(.agg ⟨[(.int .i64 x707), (Sl.v 1 s709), (Sl.v 1 s711)]⟩)]) none fun v713 => (oo (toI .i64 v713) none fun x715 => (bb (nt (ieq x715 (0 : Int))) (some (.tuple ⟨[(Sl.v 1 (Sl.mk 0 2 [])), (.int .i64 x715)]⟩)) (l34_1 pu n n 0 0 (0 : Int) x707 s709 s711 ([] : List Value)))))
def m34 (pu : PureF) (n : Nat) (args : List Value) : Option Value :=
  (ll args none fun a0 args => (ll args (oo (vAgg a0) none fun l702 => (ll l702 none fun v704 l702 => (ll l702 none fun v705 l702 => (ll l702 none fun v706 l702 => (ll l702 (oo (toI .i64 v704) none fun x707 => (oo (toSl 1 v705) none fun s709 => (oo (toSl 1 v706) none fun s711 => (m34_ pu n x707 s709 s711)))) fun _ _ => none))))) fun _ _ => none))
theorem r34 {call : CallF} (pu : PureF) (n : Nat) (hcall : call = callP tabs isP pu inl) {args : List Value} {v : Value} (hm : m34 pu n args = some v) (_ : ∀ x ∈ args, closed2 x = true) : args.length ≤ 26 ∧ Run tt call 1 c34_26 (Fr.made 26 args) (pureHeap tabs) (Fin tt 1 [.tmp 2, .tmp 3] v) := by
  subst hcall
  unfold m34 at hm
  have hq := ll_uncons hm; clear hm; obtain ⟨a0, args_0, rfl, hm⟩ := hq
  have hq := ll_end hm; clear hm; obtain ⟨rfl, hm⟩ := hq
  have hq := oo_inv hm; clear hm; obtain ⟨l702, h703, hm⟩ := hq
  obtain rfl := vAgg_some h703
  have hq := ll_uncons hm; clear hm; obtain ⟨v704, l702_0, rfl, hm⟩ := hq
  have hq := ll_uncons hm; clear hm; obtain ⟨v705, l702_1, rfl, hm⟩ := hq
  have hq := ll_uncons hm; clear hm; obtain ⟨v706, l702_2, rfl, hm⟩ := hq
  have hq := ll_end hm; clear hm; obtain ⟨rfl, hm⟩ := hq
  have hq := oo_inv hm; clear hm; obtain ⟨x707, h708, hm⟩ := hq
  obtain rfl := toI_some h708
  have hq := oo_inv hm; clear hm; obtain ⟨s709, h710, hm⟩ := hq
  obtain rfl := toSl_some h710
  have hq := oo_inv hm; clear hm; obtain ⟨s711, h712, hm⟩ := hq
  obtain rfl := toSl_some h712
  unfold m34_ at hm
  refine ⟨by simp, ?_⟩
  refine .same (F' := (⟨26, frTr [(0, (.agg ⟨[(.int .i64 x707), (Sl.v 1 s709), (Sl.v 1 s711)]⟩))] .nil⟩ : Fr)) (H' := (⟨1, objTr [(.cells tab0 true false [])] 0 .nil, true⟩ : AHeap)) (by kernel_rfl) (by kernel_rfl) ?_
  refine .then ?_
  refine .reg (F' := (Fr.puts (⟨26, frTr [(0, (.agg ⟨[(.int .i64 x707), (Sl.v 1 s709), (Sl.v 1 s711)]⟩))] .nil⟩ : Fr) [(1, (.pointer (some ⟨1, 0, none⟩))), (2, (.slice none 0 0)), (3, (.int .i64 (0 : Int)))])) (H' := (⟨2, objTr [(.cells tab0 true false []), (.cells [(.int .i64 x707), (Sl.v 1 s709), (Sl.v 1 s711)] false false [])] 0 .nil, true⟩ : AHeap)) (by kernel_rfl) ?_
  refine .ghs (⟨26, frTr [(1, (.pointer (some ⟨1, 0, none⟩)))] .nil⟩ : Fr) (⟨2, objTr [(.cells tab0 true false []), (.cells [(.int .i64 x707), (Sl.v 1 s709), (Sl.v 1 s711)] false false [])] 0 .nil, true⟩ : AHeap) (.gc [] [false] [.tmp 1 false] [1] (by kernel_rfl) trivial (by kernel_rfl)) ?_
  refine .then ?_
  have hq := oo_inv hm; clear hm; obtain ⟨v713, h714, hm⟩ := hq
  have hq := oo_inv hm; clear hm; obtain ⟨x715, h716, hm⟩ := hq
  obtain rfl := toI_some h716
  refine .reg (F' := (Fr.puts (⟨26, frTr [(1, (.pointer (some ⟨1, 0, none⟩)))] .nil⟩ : Fr) [(7, (.agg ⟨[(.int .i64 x707), (Sl.v 1 s709), (Sl.v 1 s711)]⟩)), (8, (.int .i64 x715)), (4, (.int .i64 x715))])) (H' := (⟨2, objTr [(.cells tab0 true false []), (.cells [(.int .i64 x707), (Sl.v 1 s709), (Sl.v 1 s711)] false false [])] 0 .nil, true⟩ : AHeap)) (evOps_cut 1 (by kernel_rfl) (evOps_data ((oo (pu 22 [(.agg ⟨[(.int .i64 x707), (Sl.v 1 s709), (Sl.v 1 s711)]⟩)]) none fun v => some (v, (⟨2, objTr [(.cells tab0 true false []), (.cells [(.int .i64 x707), (Sl.v 1 s709), (Sl.v 1 s711)] false false [])] 0 .nil, true⟩ : AHeap)))) (by kernel_rfl) (call_eq h714) (okAt_of (by kernel_rfl) (by kernel_rfl)) (by kernel_rfl))) ?_
  refine .ghs (⟨26, frTr [(1, (.pointer (some ⟨1, 0, none⟩))), (4, (.int .i64 x715))] .nil⟩ : Fr) (⟨2, objTr [(.cells tab0 true false []), (.cells [(.int .i64 x707), (Sl.v 1 s709), (Sl.v 1 s711)] false false [])] 0 .nil, true⟩ : AHeap) (.gc [] [false] [.tmp 1 false] [1, 4] (by kernel_rfl) trivial (by kernel_rfl)) ?_
  refine .then ?_
  refine .then ?_
  refine .reg (F' := (Fr.puts (⟨26, frTr [(1, (.pointer (some ⟨1, 0, none⟩))), (4, (.int .i64 x715))] .nil⟩ : Fr) [(9, (.int .i64 x715)), (10, (.bool (nt (ieq x715 (0 : Int)))))])) (H' := (⟨2, objTr [(.cells tab0 true false []), (.cells [(.int .i64 x707), (Sl.v 1 s709), (Sl.v 1 s711)] false false [])] 0 .nil, true⟩ : AHeap)) (by kernel_rfl) ?_
  refine .ghs (⟨26, frTr [(1, (.pointer (some ⟨1, 0, none⟩))), (4, (.int .i64 x715)), (10, (.bool (nt (ieq x715 (0 : Int)))))] .nil⟩ : Fr) (⟨2, objTr [(.cells tab0 true false []), (.cells [(.int .i64 x707), (Sl.v 1 s709), (Sl.v 1 s711)] false false [])] 0 .nil, true⟩ : AHeap) (.gc [] [false] [.tmp 1 false] [1, 4, 10] (by kernel_rfl) trivial (by kernel_rfl)) ?_
  have hq := bb_cases hm; clear hm; rcases hq with ⟨h717, hm⟩ | ⟨h717, hm⟩
  · refine .ifT (nt (ieq x715 (0 : Int))) (by kernel_rfl) h717 ?_
    refine .then ?_
    refine .reg (F' := (Fr.puts (⟨26, frTr [(1, (.pointer (some ⟨1, 0, none⟩))), (4, (.int .i64 x715)), (10, (.bool (nt (ieq x715 (0 : Int)))))] .nil⟩ : Fr) [(11, (.int .i64 x715)), (2, (.slice none 0 0)), (3, (.int .i64 x715))])) (H' := (⟨2, objTr [(.cells tab0 true false []), (.cells [(.int .i64 x707), (Sl.v 1 s709), (Sl.v 1 s711)] false false [])] 0 .nil, true⟩ : AHeap)) (by kernel_rfl) ?_
    refine .ghs (⟨26, frTr [(2, (.slice none 0 0)), (3, (.int .i64 x715))] .nil⟩ : Fr) (⟨1, objTr [(.cells tab0 true false [])] 0 .nil, true⟩ : AHeap) (.gc [] [false] [] [2, 3] (by kernel_rfl) trivial (by kernel_rfl)) ?_
    refine .ghs (Fr.puts (⟨26, frTr [(2, (.slice none 0 0)), (3, (.int .i64 x715))] .nil⟩ : Fr) [(2, (Sl.v 1 (Sl.mk 0 2 [])))]) (⟨1, objTr [(.cells tab0 true false [])] 0 .nil, true⟩ : AHeap) (.freeze 1 2 1 (by kernel_rfl) (by kernel_rfl) (GhS.id _ _)) ?_
    refine .ret ?_
    exact fin_ret (.tuple ⟨[(Sl.v 1 (Sl.mk 0 2 [])), (.int .i64 x715)]⟩) (by kernel_rfl) (by kernel_rfl) hm
  · refine .ifF (nt (ieq x715 (0 : Int))) (by kernel_rfl) h717 ?_
    refine .skip ?_
    refine .ghs (⟨26, frTr [(1, (.pointer (some ⟨1, 0, none⟩)))] .nil⟩ : Fr) (⟨2, objTr [(.cells tab0 true false []), (.cells [(.int .i64 x707), (Sl.v 1 s709), (Sl.v 1 s711)] false false [])] 0 .nil, true⟩ : AHeap) (.gc [] [false] [.tmp 1 false] [1] (by kernel_rfl) trivial (by kernel_rfl)) ?_
    refine .then ?_
    refine .reg (F' := (Fr.puts (⟨26, frTr [(1, (.pointer (some ⟨1, 0, none⟩)))] .nil⟩ : Fr) [(5, (.slice none 0 0))])) (H' := (⟨2, objTr [(.cells tab0 true false []), (.cells [(.int .i64 x707), (Sl.v 1 s709), (Sl.v 1 s711)] false false [])] 0 .nil, true⟩ : AHeap)) (by kernel_rfl) ?_
    refine .ghs (⟨26, frTr [(1, (.pointer (some ⟨1, 0, none⟩))), (5, (.slice none 0 0))] .nil⟩ : Fr) (⟨2, objTr [(.cells tab0 true false []), (.cells [(.int .i64 x707), (Sl.v 1 s709), (Sl.v 1 s711)] false false [])] 0 .nil, true⟩ : AHeap) (.gc [] [false] [.tmp 1 false] [1, 5] (by kernel_rfl) trivial (by kernel_rfl)) ?_
    refine .join (v := v) (fun y : Nat × Nat × List Value => ((⟨26, frTr [(5, (.slice (some ⟨1, 0, some 1⟩) y.1 y.2.1))] .nil⟩ : Fr), (⟨2, objTr [(.cells tab0 true false []), (.cells y.2.2 false false [])] 0 .nil, true⟩ : AHeap))) (fun y => m34_0 pu n y.1 y.2.1 y.2.2) ?_ ?_
    · rintro ⟨n733, c734, q735⟩ hm
      unfold m34_0 at hm
      refine .then ?_
      refine .reg (F' := (Fr.puts (⟨26, frTr [(5, (.slice (some ⟨1, 0, some 1⟩) n733 c734))] .nil⟩ : Fr) [(25, (.slice (some ⟨1, 0, some 1⟩) n733 c734)), (2, (.slice (some ⟨1, 0, some 1⟩) n733 c734)), (3, (.int .i64 (0 : Int)))])) (H' := (⟨2, objTr [(.cells tab0 true false []), (.cells q735 false false [])] 0 .nil, true⟩ : AHeap)) (by kernel_rfl) ?_
      have hq := bb_inv hm; clear hm; obtain ⟨h736, hm⟩ := hq
      refine .ghs (⟨26, frTr [(2, (.slice (some ⟨1, 0, some 1⟩) n733 c734)), (3, (.int .i64 (0 : Int)))] .nil⟩ : Fr) (⟨2, objTr [(.cells tab0 true false []), (.cells q735 false false [])] 0 .nil, true⟩ : AHeap) (.gc [1] [false] [.tmp 2 false] [2, 3] (by kernel_rfl) ⟨trE (by kernel_rfl) h736, trivial⟩ (by kernel_rfl)) ?_
      have hq := bb_inv hm; clear hm; obtain ⟨h737, hm⟩ := hq
      refine .ghs (Fr.puts (⟨26, frTr [(2, (.slice (some ⟨1, 0, some 1⟩) n733 c734)), (3, (.int .i64 (0 : Int)))] .nil⟩ : Fr) [(2, (Sl.v 1 (Sl.mk n733 0 (takeL (n733 * 1) (dropL 0 q735)))))]) (⟨2, objTr [(.cells tab0 true false []), .dead] 0 .nil, true⟩ : AHeap) (.freezeC 1 2 1 (an (Nat.ble (0 + n733 * 1) (len q735)) (allL closed1 (takeL (n733 * 1) (dropL 0 q735)))) (F1 := (Fr.puts (⟨26, frTr [(2, (.slice (some ⟨1, 0, some 1⟩) n733 c734)), (3, (.int .i64 (0 : Int)))] .nil⟩ : Fr) [(2, (Sl.v 1 (Sl.mk n733 0 (takeL (n733 * 1) (dropL 0 q735)))))])) (H1 := (⟨2, objTr [(.cells tab0 true false []), .dead] 0 .nil, true⟩ : AHeap)) (by kernel_rfl) (by kernel_rfl) h737 (GhS.id _ _)) ?_
      refine .ret ?_
      exact fin_ret (.tuple ⟨[(Sl.v 1 (Sl.mk n733 0 (takeL (n733 * 1) (dropL 0 q735)))), (.int .i64 (0 : Int))]⟩) (by kernel_rfl) (by kernel_rfl) hm
    · skip
      refine .then ?_
      refine .reg (F' := (Fr.puts (⟨26, frTr [(1, (.pointer (some ⟨1, 0, none⟩))), (5, (.slice none 0 0))] .nil⟩ : Fr) [(6, (.int .i64 (0 : Int)))])) (H' := (⟨2, objTr [(.cells tab0 true false []), (.cells [(.int .i64 x707), (Sl.v 1 s709), (Sl.v 1 s711)] false false [])] 0 .nil, true⟩ : AHeap)) (by kernel_rfl) ?_
      refine .ghs (⟨26, frTr [(1, (.pointer (some ⟨1, 0, none⟩))), (5, (.slice none 0 0)), (6, (.int .i64 (0 : Int)))] .nil⟩ : Fr) (⟨2, objTr [(.cells tab0 true false []), (.cells [(.int .i64 x707), (Sl.v 1 s709), (Sl.v 1 s711)] false false [])] 0 .nil, true⟩ : AHeap) (.gc [] [false] [.tmp 1 false] [1, 5, 6] (by kernel_rfl) trivial (by kernel_rfl)) ?_
      refine .block ?_
      refine .loopM (v := v) (fun y : Nat × Nat × Int × Int × Sl × Sl × List Value => ((⟨26, frTr [(1, (.pointer (some ⟨1, 0, none⟩))), (5, (.slice (some ⟨2, 0, some 1⟩) y.1 y.2.1)), (6, (.int .i64 y.2.2.1))] .nil⟩ : Fr), (⟨3, objTr [(.cells tab0 true false []), (.cells [(.int .i64 y.2.2.2.1), (Sl.v 1 y.2.2.2.2.1), (Sl.v 1 y.2.2.2.2.2.1)] false false []), (.cells y.2.2.2.2.2.2 false false [])] 0 .nil, true⟩ : AHeap))) (fun w y => l34_1 pu n w y.1 y.2.1 y.2.2.1 y.2.2.2.1 y.2.2.2.2.1 y.2.2.2.2.2.1 y.2.2.2.2.2.2) n ⟨(0, 0, (0 : Int), x707, s709, s711, ([] : List Value)), hm, (.thaw 5 1 (by kernel_rfl) (.gc [] [false] [.tmp 1 false, .tmp 5 false] [1, 5, 6] (by kernel_rfl) trivial (by kernel_rfl)))⟩ (fun _ => rfl) ?_
      rintro w0 ⟨n738, c739, z740, z741, s742, s743, q744⟩ hm
      refine .then ?_
      refine .then ?_
      refine .reg (F' := (Fr.puts (⟨26, frTr [(1, (.pointer (some ⟨1, 0, none⟩))), (5, (.slice (some ⟨2, 0, some 1⟩) n738 c739)), (6, (.int .i64 z740))] .nil⟩ : Fr) [(12, (.int .i64 z740)), (13, (.pointer (some ⟨1, 1, none⟩))), (14, (Sl.v 1 s742)), (15, (.int .i64 (Int.ofNat (Sl.n s742)))), (16, (.bool (ilt z740 (Int.ofNat (Sl.n s742)))))])) (H' := (⟨3, objTr [(.cells tab0 true false []), (.cells [(.int .i64 z741), (Sl.v 1 s742), (Sl.v 1 s743)] false false []), (.cells q744 false false [])] 0 .nil, true⟩ : AHeap)) (by kernel_rfl) ?_
      have hq := bb_inv hm; clear hm; obtain ⟨h745, hm⟩ := hq
      refine .ghs (⟨26, frTr [(1, (.pointer (some ⟨1, 0, none⟩))), (5, (.slice (some ⟨2, 0, some 1⟩) n738 c739)), (6, (.int .i64 z740)), (16, (.bool (ilt z740 (Int.ofNat (Sl.n s742)))))] .nil⟩ : Fr) (⟨3, objTr [(.cells tab0 true false []), (.cells [(.int .i64 z741), (Sl.v 1 s742), (Sl.v 1 s743)] false false []), (.cells q744 false false [])] 0 .nil, true⟩ : AHeap) (.gc [2] [false] [.tmp 1 false, .tmp 5 false] [1, 5, 6, 16] (by kernel_rfl) ⟨trE (by kernel_rfl) h745, trivial⟩ (by kernel_rfl)) ?_
      have hq := bb_cases hm; clear hm; rcases hq with ⟨h746, hm⟩ | ⟨h746, hm⟩
      · refine .ifT (ilt z740 (Int.ofNat (Sl.n s742))) (by kernel_rfl) h746 ?_
        refine .skip ?_
        refine .ghs (⟨26, frTr [(1, (.pointer (some ⟨1, 0, none⟩))), (5, (.slice (some ⟨2, 0, some 1⟩) n738 c739)), (6, (.int .i64 z740))] .nil⟩ : Fr) (⟨3, objTr [(.cells tab0 true false []), (.cells [(.int .i64 z741), (Sl.v 1 s742), (Sl.v 1 s743)] false false []), (.cells q744 false false [])] 0 .nil, true⟩ : AHeap) (.gc [2] [false] [.tmp 1 false, .tmp 5 false] [1, 5, 6] (by kernel_rfl) ⟨trE (by kernel_rfl) h745, trivial⟩ (by kernel_rfl)) ?_
        refine .then ?_
        refine .block ?_
        have hq := oo_inv hm; clear hm; obtain ⟨v747, h748, hm⟩ := hq
        have hq := oo_inv hm; clear hm; obtain ⟨x749, h750, hm⟩ := hq
        obtain rfl := toI_some h750
        have hq := bb_inv hm; clear hm; obtain ⟨h751, hm⟩ := hq
        refine .reg (F' := (Fr.puts (⟨26, frTr [(1, (.pointer (some ⟨1, 0, none⟩))), (5, (.slice (some ⟨2, 0, some 1⟩) n738 c739)), (6, (.int .i64 z740))] .nil⟩ : Fr) [(19, (.slice (some ⟨2, 0, some 1⟩) n738 c739)), (20, (.agg ⟨[(.int .i64 z741), (Sl.v 1 s742), (Sl.v 1 s743)]⟩)), (21, (.int .i64 z740)), (22, (.int .i64 x749)), (23, (.slice (some ⟨3, 0, some 1⟩) 1 3)), (24, (.slice (some ⟨4, 0, some 1⟩) (n738 + 1) (2 * (n738 + 1) + bb false 1 0))), (5, (.slice (some ⟨4, 0, some 1⟩) (n738 + 1) (2 * (n738 + 1) + bb false 1 0)))])) (H' := (⟨5, objTr [(.cells tab0 true false []), (.cells [(.int .i64 z741), (Sl.v 1 s742), (Sl.v 1 s743)] false false []), (.cells q744 false true []), (.cells [(.int .i64 x749)] false false []), (.cells (appL (dropL 0 q744) [(.int .i64 x749)]) false false [2])] 0 .nil, true⟩ : AHeap)) (evOps_cut 3 (by kernel_rfl) (evOps_data ((oo (pu 70 [(.agg ⟨[(.int .i64 z741), (Sl.v 1 s742), (Sl.v 1 s743)]⟩), (.int .i64 z740)]) none fun v => some (v, (⟨3, objTr [(.cells tab0 true false []), (.cells [(.int .i64 z741), (Sl.v 1 s742), (Sl.v 1 s743)] false false []), (.cells q744 false false [])] 0 .nil, true⟩ : AHeap)))) (by kernel_rfl) (call_eq h748) (okAt_of (by kernel_rfl) (by kernel_rfl)) (evOps_cut 1 (by kernel_rfl) (evOps_data (growD 1 8 n738 c739 1 2 q744 [(.int .i64 x749)] [] (⟨4, objTr [(.cells tab0 true false []), (.cells [(.int .i64 z741), (Sl.v 1 s742), (Sl.v 1 s743)] false false []), (.cells q744 false false []), (.cells [(.int .i64 x749)] false false [])] 0 .nil, true⟩ : AHeap)) (by kernel_rfl) (growD_eq h751) (okAt_of (by kernel_rfl) (by kernel_rfl)) (by kernel_rfl))))) ?_
        have hq := bb_inv hm; clear hm; obtain ⟨h752, hm⟩ := hq
        refine .ghs (⟨26, frTr [(1, (.pointer (some ⟨1, 0, none⟩))), (5, (.slice (some ⟨2, 0, some 1⟩) (n738 + 1) (2 * (n738 + 1) + bb false 1 0))), (6, (.int .i64 z740))] .nil⟩ : Fr) (⟨3, objTr [(.cells tab0 true false []), (.cells [(.int .i64 z741), (Sl.v 1 s742), (Sl.v 1 s743)] false false []), (.cells (appL (dropL 0 q744) [(.int .i64 x749)]) false false [])] 0 .nil, true⟩ : AHeap) (.gc [4] [false] [.tmp 1 false, .tmp 5 false] [1, 5, 6] (by kernel_rfl) ⟨trE (by kernel_rfl) h752, trivial⟩ (by kernel_rfl)) ?_
        refine .reg (F' := (Fr.puts (⟨26, frTr [(1, (.pointer (some ⟨1, 0, none⟩))), (5, (.slice (some ⟨2, 0, some 1⟩) (n738 + 1) (2 * (n738 + 1) + bb false 1 0))), (6, (.int .i64 z740))] .nil⟩ : Fr) [(17, (.int .i64 z740)), (18, (.int .i64 (wrapF .i64 (Int.add z740 (1 : Int))))), (6, (.int .i64 (wrapF .i64 (Int.add z740 (1 : Int)))))])) (H' := (⟨3, objTr [(.cells tab0 true false []), (.cells [(.int .i64 z741), (Sl.v 1 s742), (Sl.v 1 s743)] false false []), (.cells (appL (dropL 0 q744) [(.int .i64 x749)]) false false [])] 0 .nil, true⟩ : AHeap)) (by kernel_rfl) ?_
        exact ⟨((n738 + 1), (2 * (n738 + 1) + bb false 1 0), (wrapF .i64 (Int.add z740 (1 : Int))), z741, s742, s743, (appL (dropL 0 q744) [(.int .i64 x749)])), hm, (.gc [2] [false] [.tmp 1 false, .tmp 5 false] [1, 5, 6] (by kernel_rfl) ⟨trE (by kernel_rfl) h752, trivial⟩ (by kernel_rfl))⟩
      · refine .ifF (ilt z740 (Int.ofNat (Sl.n s742))) (by kernel_rfl) h746 ?_
        refine .exit ?_
        exact ⟨(n738, c739, q744), hm, (.gc [2] [false] [.tmp 5 false] [5] (by kernel_rfl) ⟨trE (by kernel_rfl) h745, trivial⟩ (by kernel_rfl))⟩
/-- spadille/mend.Near -/
def o35_0 : List ROp := [
  ⟨(some 1), .box 24 (.tmp 0), 0, none, []⟩,
  ⟨(some 2), .assign (.const (.int .i64 0)), 3, none, []⟩,
  ⟨(some 3), .assign (.const (.int .i64 0)), 28, none, []⟩]
def c35_0 : RC := .reg [] o35_0
def o35_1 : List ROp := [
  ⟨(some 12), .load 24 (.tmp 1), 24, none, []⟩,
  ⟨(some 13), .call ⟨.value (.func 21), #[(.tmp 12)], #[24]⟩, 28, none, []⟩,
  ⟨(some 4), .assign (.tmp 13), 28, none, []⟩]
def c35_1 : RC := .reg [] o35_1
def o35_2 : List ROp := [
  ⟨(some 14), .move (.tmp 4), 28, none, []⟩,
  ⟨(some 15), .binOp .neq 28 (.tmp 14) (.const (.int .i64 0)) 28, 4, none, []⟩]
def c35_2 : RC := .reg [] o35_2
def o35_3 : List ROp := [
  ⟨(some 16), .move (.tmp 4), 28, none, []⟩,
  ⟨(some 2), .assign (.const (.int .i64 0)), 3, none, []⟩,
  ⟨(some 3), .assign (.tmp 16), 28, none, []⟩]
def c35_3 : RC := .reg [] o35_3
def c35_4 : RC := .seq c35_3 .ret
def c35_5 : RC := .cond (.tmp 15) c35_4 .skip
def c35_6 : RC := .seq c35_2 c35_5
def c35_7 : RC := .seq c35_1 c35_6
def o35_8 : List ROp := [
  ⟨(some 5), .assign (.func 69), 96, none, []⟩]
def c35_8 : RC := .reg [] o35_8
def o35_9 : List ROp := [
  ⟨(some 17), .move (.tmp 5), 96, none, []⟩,
  ⟨(some 18), .load 24 (.tmp 1), 24, none, []⟩,
  ⟨(some 19), .call ⟨.value (.tmp 17), #[(.tmp 18)], #[24]⟩, 22, none, []⟩,
  ⟨(some 6), .assign (.tmp 19), 22, none, []⟩]
def c35_9 : RC := .reg [] o35_9
def o35_10 : List ROp := [
  ⟨(some 7), .assign (.const (.int .i64 0)), 3, none, []⟩]
def c35_10 : RC := .reg [] o35_10
def o35_11 : List ROp := [
  ⟨(some 20), .move (.tmp 6), 22, none, []⟩,
  ⟨(some 21), .call ⟨.builtin .len, #[(.tmp 20)], #[22]⟩, 3, none, []⟩,
  ⟨(some 22), .move (.const (.int .i64 0)), 3, none, []⟩]
def c35_11 : RC := .reg [] o35_11
def o35_12 : List ROp := [
  ⟨(some 23), .binOp .lss 3 (.tmp 22) (.tmp 21) 3, 0, none, []⟩]
def c35_12 : RC := .reg [] o35_12
def c35_13 : RC := .cond (.tmp 23) .skip (.exit 0)
def o35_14 : List ROp := [
  ⟨(some 24), .move (.tmp 22), 3, none, []⟩,
  ⟨(some 25), .indexAddr 22 (.tmp 20) (.tmp 22), 0, none, []⟩,
  ⟨(some 26), .load 3 (.tmp 25), 3, none, []⟩,
  ⟨(some 8), .assign (.tmp 24), 3, none, []⟩,
  ⟨(some 9), .assign (.tmp 26), 3, none, []⟩]
def c35_14 : RC := .reg [] o35_14
def o35_15 : List ROp := [
  ⟨(some 27), .move (.tmp 6), 22, none, []⟩,
  ⟨(some 28), .move (.tmp 8), 3, none, []⟩,
  ⟨(some 29), .binOp .add 3 (.tmp 28) (.const (.int .i64 1)) 3, 3, none, []⟩,
  ⟨(some 30), .slice 22 (.tmp 27) (some (.tmp 29)) none none, 22, none, []⟩,
  ⟨(some 31), .call ⟨.builtin .len, #[(.tmp 30)], #[22]⟩, 3, none, []⟩,
  ⟨(some 32), .move (.const (.int .i64 0)), 3, none, []⟩]
def c35_15 : RC := .reg [] o35_15
def o35_16 : List ROp := [
  ⟨(some 33), .binOp .lss 3 (.tmp 32) (.tmp 31) 3, 0, none, []⟩]
def c35_16 : RC := .reg [] o35_16
def c35_17 : RC := .cond (.tmp 33) .skip (.exit 2)
def o35_18 : List ROp := [
  ⟨(some 34), .indexAddr 22 (.tmp 30) (.tmp 32), 0, none, []⟩,
  ⟨(some 35), .load 3 (.tmp 34), 3, none, []⟩,
  ⟨(some 11), .assign (.tmp 35), 3, none, []⟩]
def c35_18 : RC := .reg [] o35_18
def o35_19 : List ROp := [
  ⟨(some 36), .move (.tmp 9), 3, none, []⟩,
  ⟨(some 37), .move (.tmp 11), 3, none, []⟩,
  ⟨(some 38), .binOp .gtr 3 (.tmp 36) (.tmp 37) 3, 4, none, []⟩]
def c35_19 : RC := .reg [] o35_19
def o35_20 : List ROp := [
  ⟨(some 39), .move (.tmp 7), 3, none, []⟩,
  ⟨(some 40), .binOp .add 3 (.tmp 39) (.const (.int .i64 1)) 3, 3, none, []⟩,
  ⟨(some 7), .assign (.tmp 40), 3, none, []⟩]
def c35_20 : RC := .reg [] o35_20
def c35_21 : RC := .cond (.tmp 38) c35_20 .skip
def c35_22 : RC := .seq c35_19 c35_21
def c35_23 : RC := .seq c35_18 c35_22
def c35_24 : RC := .block 3 c35_23
def o35_25 : List ROp := [
  ⟨(some 41), .binOp .add 3 (.tmp 32) (.const (.int .i64 1)) 3, 3, none, []⟩,
  ⟨(some 32), .move (.tmp 41), 3, none, []⟩]
def c35_25 : RC := .reg [] o35_25
def c35_26 : RC := .seq c35_24 c35_25
def c35_27 : RC := .seq c35_17 c35_26
def c35_28 : RC := .seq c35_16 c35_27
def c35_29 : RC := .loop c35_28
def c35_30 : RC := .block 2 c35_29
def c35_31 : RC := .seq c35_15 c35_30
def c35_32 : RC := .seq c35_14 c35_31
def c35_33 : RC := .block 1 c35_32
def o35_34 : List ROp := [
  ⟨(some 42), .binOp .add 3 (.tmp 22) (.const (.int .i64 1)) 3, 3, none, []⟩,
  ⟨(some 22), .move (.tmp 42), 3, none, []⟩]
def c35_34 : RC := .reg [] o35_34
def c35_35 : RC := .seq c35_33 c35_34
def c35_36 : RC := .seq c35_13 c35_35
def c35_37 : RC := .seq c35_12 c35_36
def c35_38 : RC := .loop c35_37
def c35_39 : RC := .block 0 c35_38
def c35_40 : RC := .seq c35_11 c35_39
def o35_41 : List ROp := [
  ⟨(some 43), .move (.tmp 7), 3, none, []⟩,
  ⟨(some 2), .assign (.tmp 43), 3, none, []⟩,
  ⟨(some 3), .assign (.const (.int .i64 0)), 28, none, []⟩]
def c35_41 : RC := .reg [] o35_41
def c35_42 : RC := .seq c35_41 .ret
def c35_43 : RC := .seq c35_40 c35_42
def c35_44 : RC := .seq c35_10 c35_43
def c35_45 : RC := .seq c35_9 c35_44
def c35_46 : RC := .seq c35_8 c35_45
def c35_47 : RC := .seq c35_7 c35_46
def c35_48 : RC := .seq c35_0 c35_47
def m35_0 (pu : PureF) (n : Nat) (z876 : Int) : Option Value :=
  (some (.tuple ⟨[(.int .i64 z876), (.int .i64 (0 : Int))]⟩))
def m35_2 (pu : PureF) (n : Nat) (ih0 : Sl → Int → Sl → Int → Int → Option Value) (s929 : Sl) (z930 : Int) (s931 : Sl) (z932 : Int) (z933 : Int) : Option Value :=
  (ih0 s929 z930 s931 z932 (wrapF .i64 (Int.add z933 (1 : Int))))
def m35_4 (pu : PureF) (n : Nat) (ih0 : Sl → Int → Sl → Int → Int → Option Value) (ih1 : Sl → Int → Int → Sl → Int → Int → Sl → Int → Int → Option Value) (s963 : Sl) (z964 : Int) (z965 : Int) (s966 : Sl) (z967 : Int) (z968 : Int) (s969 : Sl) (z970 : Int) (z971 : Int) : Option Value :=
  (ih1 s963 z964 z965 s966 z967 z968 s969 z970 (wrapF .i64 (Int.add z971 (1 : Int))))
def b35_3 (pu : PureF) (n : Nat) (ih0 : Sl → Int → Sl → Int → Int → Option Value) (ih1 : Sl → Int → Int → Sl → Int → Int → Sl → Int → Int → Option Value) (s945 : Sl) (z946 : Int) (z947 : Int) (s948 : Sl) (z949 : Int) (z950 : Int) (s951 : Sl) (z952 : Int) (z953 : Int) : Option Value :=
  (bb (ilt z953 z952) (oo (toN z953) none fun k972 => (bb (an (Nat.blt k972 (Sl.n s951)) true) (oo (nthL (Sl.cs s951) (k972 * 1)) none fun v975 => (oo (toI .i64 v975) none fun x977 => (bb (ilt x977 z947) (m35_4 pu n ih0 ih1 s945 (wrapF .i64 (Int.add z946 (1 : Int))) z947 s948 z949 z950 s951 z952 (Int.ofNat k972)) (m35_4 pu n ih0 ih1 s945 z946 z947 s948 z949 z950 s951 z952 (Int.ofNat k972))))) none)) (m35_2 pu n ih0 s945 z946 s948 z949 z950))
def l35_3 (pu : PureF) (n : Nat) (ih0 : Sl → Int → Sl → Int → Int → Option Value) (w : Nat) : Sl → Int → Int → Sl → Int → Int → Sl → Int → Int → Option Value :=
  Nat.rec (motive := fun _ => Sl → Int → Int → Sl → Int → Int → Sl → Int → Int → Option Value) (fun _ _ _ _ _ _ _ _ _ => none) (fun _ ih1 => b35_3 pu n ih0 ih1) w
def b35_1 (pu : PureF) (n : Nat) (ih0 : Sl → Int → Sl → Int → Int → Option Value) (s877 : Sl) (z878 : Int) (s879 : Sl) (z880 : Int) (z881 : Int) : Option Value :=
  (bb (ilt z881 z880) (oo (toN z881) none fun k934 => (bb (an (Nat.blt k934 (Sl.n s879)) true) (oo (nthL (Sl.cs s879) (k934 * 1)) none fun v937 => (oo (toI .i64 v937) none fun x939 => (oo (toN (wrapF .i64 (Int.add (Int.ofNat k934) (1 : Int)))) none fun k941 => (bb (nt (Nat.beq (Sl.fl s877) 2)) (bb (Nat.ble k941 (Sl.n s877)) (l35_3 pu n ih0 n s877 z878 x939 s879 z880 (Int.ofNat k934) (Sl.mk ((Sl.n s877) - k941) (bb (an (Nat.beq (Sl.n s877) (Sl.n s877)) (orr false (Nat.beq (Sl.fl s877) 1))) 1 0) (takeL (((Sl.n s877) - k941) * 1) (dropL (k941 * 1) (Sl.cs s877)))) (Int.ofNat (Sl.n (Sl.mk ((Sl.n s877) - k941) (bb (an (Nat.beq (Sl.n s877) (Sl.n s877)) (orr false (Nat.beq (Sl.fl s877) 1))) 1 0) (takeL (((Sl.n s877) - k941) * 1) (dropL (k941 * 1) (Sl.cs s877)))))) (0 : Int)) none) none)))) none)) (m35_0 pu n z878))
def l35_1 (pu : PureF) (n : Nat) (w : Nat) : Sl → Int → Sl → Int → Int → Option Value :=
  Nat.rec (motive := fun _ => Sl → Int → Sl → Int → Int → Option Value) (fun _ _ _ _ _ => none) (fun _ ih0 => b35_1 pu n ih0) w
def m35_ (pu : PureF) (n : Nat) (x758 : Int) (s760 : Sl) (s762 : Sl) : Option Value :=
  (oo (pu 21 [(.agg ⟨[(.int .i64 x758), (Sl.v 1 s760), (Sl.v 1 s762)]⟩)]) none fun v764 => (oo (toI .i64 v764) none fun x766 => (bb (nt (ieq x766 (0 : Int))) (some (.tuple ⟨[(.int .i64 (0 : Int)), (.int .i64 x766)]⟩)) (oo (pu 69 [(.agg ⟨[(.int .i64 x758), (Sl.v 1 s760), (Sl.v 1 s762)]⟩)]) none fun v769 => (oo (toSl 1 v769) none fun s771 => (l35_1 pu n n s771 (0 : Int) s771 (Int.ofNat (Sl.n s771)) (0 : Int)))))))
def m35 (pu : PureF) (n : Nat) (args : List Value) : Option Value :=
  (ll args none fun a0 args => (ll args (oo (vAgg a0) none fun l753 => (ll l753 none fun v755 l753 => (ll l753 none fun v756 l753 => (ll l753 none fun v757 l753 => (ll l753 (oo (toI .i64 v755) none fun x758 => (oo (toSl 1 v756) none fun s760 => (oo (toSl 1 v757) none fun s762 => (m35_ pu n x758 s760 s762)))) fun _ _ => none))))) fun _ _ => none))
theorem r35 {call : CallF} (pu : PureF) (n : Nat) (hcall : call = callP tabs isP pu inl) {args : List Value} {v : Value} (hm : m35 pu n args = some v) (_ : ∀ x ∈ args, closed2 x = true) : args.length ≤ 44 ∧ Run tt call 1 c35_48 (Fr.made 44 args) (pureHeap tabs) (Fin tt 1 [.tmp 2, .tmp 3] v) := by
  subst hcall
  unfold m35 at hm
  have hq := ll_uncons hm; clear hm; obtain ⟨a0, args_0, rfl, hm⟩ := hq
  have hq := ll_end hm; clear hm; obtain ⟨rfl, hm⟩ := hq
  have hq := oo_inv hm; clear hm; obtain ⟨l753, h754, hm⟩ := hq
  obtain rfl := vAgg_some h754
  have hq := ll_uncons hm; clear hm; obtain ⟨v755, l753_0, rfl, hm⟩ := hq
  have hq := ll_uncons hm; clear hm; obtain ⟨v756, l753_1, rfl, hm⟩ := hq
  have hq := ll_uncons hm; clear hm; obtain ⟨v757, l753_2, rfl, hm⟩ := hq
  have hq := ll_end hm; clear hm; obtain ⟨rfl, hm⟩ := hq
  have hq := oo_inv hm; clear hm; obtain ⟨x758, h759, hm⟩ := hq
  obtain rfl := toI_some h759
  have hq := oo_inv hm; clear hm; obtain ⟨s760, h761, hm⟩ := hq
  obtain rfl := toSl_some h761
  have hq := oo_inv hm; clear hm; obtain ⟨s762, h763, hm⟩ := hq
  obtain rfl := toSl_some h763
  unfold m35_ at hm
  refine ⟨by simp, ?_⟩
  refine .same (F' := (⟨44, frTr [(0, (.agg ⟨[(.int .i64 x758), (Sl.v 1 s760), (Sl.v 1 s762)]⟩))] .nil⟩ : Fr)) (H' := (⟨1, objTr [(.cells tab0 true false [])] 0 .nil, true⟩ : AHeap)) (by kernel_rfl) (by kernel_rfl) ?_
  refine .then ?_
  refine .reg (F' := (Fr.puts (⟨44, frTr [(0, (.agg ⟨[(.int .i64 x758), (Sl.v 1 s760), (Sl.v 1 s762)]⟩))] .nil⟩ : Fr) [(1, (.pointer (some ⟨1, 0, none⟩))), (2, (.int .i64 (0 : Int))), (3, (.int .i64 (0 : Int)))])) (H' := (⟨2, objTr [(.cells tab0 true false []), (.cells [(.int .i64 x758), (Sl.v 1 s760), (Sl.v 1 s762)] false false [])] 0 .nil, true⟩ : AHeap)) (by kernel_rfl) ?_
  refine .ghs (⟨44, frTr [(1, (.pointer (some ⟨1, 0, none⟩)))] .nil⟩ : Fr) (⟨2, objTr [(.cells tab0 true false []), (.cells [(.int .i64 x758), (Sl.v 1 s760), (Sl.v 1 s762)] false false [])] 0 .nil, true⟩ : AHeap) (.gc [] [false] [.tmp 1 false] [1] (by kernel_rfl) trivial (by kernel_rfl)) ?_
  refine .then ?_
  refine .then ?_
  have hq := oo_inv hm; clear hm; obtain ⟨v764, h765, hm⟩ := hq
  have hq := oo_inv hm; clear hm; obtain ⟨x766, h767, hm⟩ := hq
  obtain rfl := toI_some h767
  refine .reg (F' := (Fr.puts (⟨44, frTr [(1, (.pointer (some ⟨1, 0, none⟩)))] .nil⟩ : Fr) [(12, (.agg ⟨[(.int .i64 x758), (Sl.v 1 s760), (Sl.v 1 s762)]⟩)), (13, (.int .i64 x766)), (4, (.int .i64 x766))])) (H' := (⟨2, objTr [(.cells tab0 true false []), (.cells [(.int .i64 x758), (Sl.v 1 s760), (Sl.v 1 s762)] false false [])] 0 .nil, true⟩ : AHeap)) (evOps_cut 1 (by kernel_rfl) (evOps_data ((oo (pu 21 [(.agg ⟨[(.int .i64 x758), (Sl.v 1 s760), (Sl.v 1 s762)]⟩)]) none fun v => some (v, (⟨2, objTr [(.cells tab0 true false []), (.cells [(.int .i64 x758), (Sl.v 1 s760), (Sl.v 1 s762)] false false [])] 0 .nil, true⟩ : AHeap)))) (by kernel_rfl) (call_eq h765) (okAt_of (by kernel_rfl) (by kernel_rfl)) (by kernel_rfl))) ?_
  refine .ghs (⟨44, frTr [(1, (.pointer (some ⟨1, 0, none⟩))), (4, (.int .i64 x766))] .nil⟩ : Fr) (⟨2, objTr [(.cells tab0 true false []), (.cells [(.int .i64 x758), (Sl.v 1 s760), (Sl.v 1 s762)] false false [])] 0 .nil, true⟩ : AHeap) (.gc [] [false] [.tmp 1 false] [1, 4] (by kernel_rfl) trivial (by kernel_rfl)) ?_
  refine .then ?_
  refine .reg (F' := (Fr.puts (⟨44, frTr [(1, (.pointer (some ⟨1, 0, none⟩))), (4, (.int .i64 x766))] .nil⟩ : Fr) [(14, (.int .i64 x766)), (15, (.bool (nt (ieq x766 (0 : Int)))))])) (H' := (⟨2, objTr [(.cells tab0 true false []), (.cells [(.int .i64 x758), (Sl.v 1 s760), (Sl.v 1 s762)] false false [])] 0 .nil, true⟩ : AHeap)) (by kernel_rfl) ?_
  refine .ghs (⟨44, frTr [(1, (.pointer (some ⟨1, 0, none⟩))), (4, (.int .i64 x766)), (15, (.bool (nt (ieq x766 (0 : Int)))))] .nil⟩ : Fr) (⟨2, objTr [(.cells tab0 true false []), (.cells [(.int .i64 x758), (Sl.v 1 s760), (Sl.v 1 s762)] false false [])] 0 .nil, true⟩ : AHeap) (.gc [] [false] [.tmp 1 false] [1, 4, 15] (by kernel_rfl) trivial (by kernel_rfl)) ?_
  have hq := bb_cases hm; clear hm; rcases hq with ⟨h768, hm⟩ | ⟨h768, hm⟩
  · refine .ifT (nt (ieq x766 (0 : Int))) (by kernel_rfl) h768 ?_
    refine .then ?_
    refine .reg (F' := (Fr.puts (⟨44, frTr [(1, (.pointer (some ⟨1, 0, none⟩))), (4, (.int .i64 x766)), (15, (.bool (nt (ieq x766 (0 : Int)))))] .nil⟩ : Fr) [(16, (.int .i64 x766)), (2, (.int .i64 (0 : Int))), (3, (.int .i64 x766))])) (H' := (⟨2, objTr [(.cells tab0 true false []), (.cells [(.int .i64 x758), (Sl.v 1 s760), (Sl.v 1 s762)] false false [])] 0 .nil, true⟩ : AHeap)) (by kernel_rfl) ?_
    refine .ghs (⟨44, frTr [(2, (.int .i64 (0 : Int))), (3, (.int .i64 x766))] .nil⟩ : Fr) (⟨1, objTr [(.cells tab0 true false [])] 0 .nil, true⟩ : AHeap) (.gc [] [false] [] [2, 3] (by kernel_rfl) trivial (by kernel_rfl)) ?_
    refine .ret ?_
    exact fin_ret (.tuple ⟨[(.int .i64 (0 : Int)), (.int .i64 x766)]⟩) (by kernel_rfl) (by kernel_rfl) hm
  · refine .ifF (nt (ieq x766 (0 : Int))) (by kernel_rfl) h768 ?_
    refine .skip ?_
    refine .ghs (⟨44, frTr [(1, (.pointer (some ⟨1, 0, none⟩)))] .nil⟩ : Fr) (⟨2, objTr [(.cells tab0 true false []), (.cells [(.int .i64 x758), (Sl.v 1 s760), (Sl.v 1 s762)] false false [])] 0 .nil, true⟩ : AHeap) (.gc [] [false] [.tmp 1 false] [1] (by kernel_rfl) trivial (by kernel_rfl)) ?_
    refine .then ?_
    refine .reg (F' := (Fr.puts (⟨44, frTr [(1, (.pointer (some ⟨1, 0, none⟩)))] .nil⟩ : Fr) [(5, (.func (.func 69) ⟨[]⟩ ⟨[]⟩))])) (H' := (⟨2, objTr [(.cells tab0 true false []), (.cells [(.int .i64 x758), (Sl.v 1 s760), (Sl.v 1 s762)] false false [])] 0 .nil, true⟩ : AHeap)) (by kernel_rfl) ?_
    refine .ghs (⟨44, frTr [(1, (.pointer (some ⟨1, 0, none⟩))), (5, (.func (.func 69) ⟨[]⟩ ⟨[]⟩))] .nil⟩ : Fr) (⟨2, objTr [(.cells tab0 true false []), (.cells [(.int .i64 x758), (Sl.v 1 s760), (Sl.v 1 s762)] false false [])] 0 .nil, true⟩ : AHeap) (.gc [] [false] [.tmp 1 false] [1, 5] (by kernel_rfl) trivial (by kernel_rfl)) ?_
    refine .then ?_
    have hq := oo_inv hm; clear hm; obtain ⟨v769, h770, hm⟩ := hq
    have hq := oo_inv hm; clear hm; obtain ⟨s771, h772, hm⟩ := hq
    obtain rfl := toSl_some h772
    refine .reg (F' := (Fr.puts (⟨44, frTr [(1, (.pointer (some ⟨1, 0, none⟩))), (5, (.func (.func 69) ⟨[]⟩ ⟨[]⟩))] .nil⟩ : Fr) [(17, (.func (.func 69) ⟨[]⟩ ⟨[]⟩)), (18, (.agg ⟨[(.int .i64 x758), (Sl.v 1 s760), (Sl.v 1 s762)]⟩)), (19, (Sl.v 1 s771)), (6, (Sl.v 1 s771))])) (H' := (⟨2, objTr [(.cells tab0 true false []), (.cells [(.int .i64 x758), (Sl.v 1 s760), (Sl.v 1 s762)] false false [])] 0 .nil, true⟩ : AHeap)) (evOps_cut 2 (by kernel_rfl) (evOps_data ((oo (pu 69 [(.agg ⟨[(.int .i64 x758), (Sl.v 1 s760), (Sl.v 1 s762)]⟩)]) none fun v => some (v, (⟨2, objTr [(.cells tab0 true false []), (.cells [(.int .i64 x758), (Sl.v 1 s760), (Sl.v 1 s762)] false false [])] 0 .nil, true⟩ : AHeap)))) (by kernel_rfl) (call_eq h770) (okAt_of (by kernel_rfl) (by kernel_rfl)) (by kernel_rfl))) ?_
    refine .ghs (⟨44, frTr [(6, (Sl.v 1 s771))] .nil⟩ : Fr) (⟨1, objTr [(.cells tab0 true false [])] 0 .nil, true⟩ : AHeap) (.gc [] [false] [] [6] (by kernel_rfl) trivial (by kernel_rfl)) ?_
    refine .then ?_
    refine .reg (F' := (Fr.puts (⟨44, frTr [(6, (Sl.v 1 s771))] .nil⟩ : Fr) [(7, (.int .i64 (0 : Int)))])) (H' := (⟨1, objTr [(.cells tab0 true false [])] 0 .nil, true⟩ : AHeap)) (by kernel_rfl) ?_
    refine .ghs (⟨44, frTr [(6, (Sl.v 1 s771)), (7, (.int .i64 (0 : Int)))] .nil⟩ : Fr) (⟨1, objTr [(.cells tab0 true false [])] 0 .nil, true⟩ : AHeap) (.gc [] [false] [] [6, 7] (by kernel_rfl) trivial (by kernel_rfl)) ?_
    refine .join (v := v) (fun y : Int => ((⟨44, frTr [(7, (.int .i64 y))] .nil⟩ : Fr), (⟨1, objTr [(.cells tab0 true false [])] 0 .nil, true⟩ : AHeap))) (fun y => m35_0 pu n y) ?_ ?_
    · rintro z876 hm
      unfold m35_0 at hm
      refine .then ?_
      refine .reg (F' := (Fr.puts (⟨44, frTr [(7, (.int .i64 z876))] .nil⟩ : Fr) [(43, (.int .i64 z876)), (2, (.int .i64 z876)), (3, (.int .i64 (0 : Int)))])) (H' := (⟨1, objTr [(.cells tab0 true false [])] 0 .nil, true⟩ : AHeap)) (by kernel_rfl) ?_
      refine .ghs (⟨44, frTr [(2, (.int .i64 z876)), (3, (.int .i64 (0 : Int)))] .nil⟩ : Fr) (⟨1, objTr [(.cells tab0 true false [])] 0 .nil, true⟩ : AHeap) (.gc [] [false] [] [2, 3] (by kernel_rfl) trivial (by kernel_rfl)) ?_
      refine .ret ?_
      exact fin_ret (.tuple ⟨[(.int .i64 z876), (.int .i64 (0 : Int))]⟩) (by kernel_rfl) (by kernel_rfl) hm
    · skip
      refine .then ?_
      refine .reg (F' := (Fr.puts (⟨44, frTr [(6, (Sl.v 1 s771)), (7, (.int .i64 (0 : Int)))] .nil⟩ : Fr) [(20, (Sl.v 1 s771)), (21, (.int .i64 (Int.ofNat (Sl.n s771)))), (22, (.int .i64 (0 : Int)))])) (H' := (⟨1, objTr [(.cells tab0 true false [])] 0 .nil, true⟩ : AHeap)) (by kernel_rfl) ?_
      refine .ghs (⟨44, frTr [(6, (Sl.v 1 s771)), (7, (.int .i64 (0 : Int))), (20, (Sl.v 1 s771)), (21, (.int .i64 (Int.ofNat (Sl.n s771)))), (22, (.int .i64 (0 : Int)))] .nil⟩ : Fr) (⟨1, objTr [(.cells tab0 true false [])] 0 .nil, true⟩ : AHeap) (.gc [] [false] [] [6, 7, 20, 21, 22] (by kernel_rfl) trivial (by kernel_rfl)) ?_
      refine .block ?_
      refine .loopM (v := v) (fun y : Sl × Int × Sl × Int × Int => ((⟨44, frTr [(6, (Sl.v 1 y.1)), (7, (.int .i64 y.2.1)), (20, (Sl.v 1 y.2.2.1)), (21, (.int .i64 y.2.2.2.1)), (22, (.int .i64 y.2.2.2.2))] .nil⟩ : Fr), (⟨1, objTr [(.cells tab0 true false [])] 0 .nil, true⟩ : AHeap))) (fun w y => l35_1 pu n w y.1 y.2.1 y.2.2.1 y.2.2.2.1 y.2.2.2.2) n ⟨(s771, (0 : Int), s771, (Int.ofNat (Sl.n s771)), (0 : Int)), hm, (.gc [] [false] [] [6, 7, 20, 21, 22] (by kernel_rfl) trivial (by kernel_rfl))⟩ (fun _ => rfl) ?_
      rintro w0 ⟨s877, z878, s879, z880, z881⟩ hm
      refine .then ?_
      refine .reg (F' := (Fr.puts (⟨44, frTr [(6, (Sl.v 1 s877)), (7, (.int .i64 z878)), (20, (Sl.v 1 s879)), (21, (.int .i64 z880)), (22, (.int .i64 z881))] .nil⟩ : Fr) [(23, (.bool (ilt z881 z880)))])) (H' := (⟨1, objTr [(.cells tab0 true false [])] 0 .nil, true⟩ : AHeap)) (by kernel_rfl) ?_
      refine .ghs (⟨44, frTr [(6, (Sl.v 1 s877)), (7, (.int .i64 z878)), (20, (Sl.v 1 s879)), (21, (.int .i64 z880)), (22, (.int .i64 z881)), (23, (.bool (ilt z881 z880)))] .nil⟩ : Fr) (⟨1, objTr [(.cells tab0 true false [])] 0 .nil, true⟩ : AHeap) (.gc [] [false] [] [6, 7, 20, 21, 22, 23] (by kernel_rfl) trivial (by kernel_rfl)) ?_
      refine .then ?_
      have hq := bb_cases hm; clear hm; rcases hq with ⟨h882, hm⟩ | ⟨h882, hm⟩
      · refine .ifT (ilt z881 z880) (by kernel_rfl) h882 ?_
        refine .skip ?_
        refine .ghs (⟨44, frTr [(6, (Sl.v 1 s877)), (7, (.int .i64 z878)), (20, (Sl.v 1 s879)), (21, (.int .i64 z880)), (22, (.int .i64 z881))] .nil⟩ : Fr) (⟨1, objTr [(.cells tab0 true false [])] 0 .nil, true⟩ : AHeap) (.gc [] [false] [] [6, 7, 20, 21, 22] (by kernel_rfl) trivial (by kernel_rfl)) ?_
        refine .join (v := v) (fun y : Sl × Int × Sl × Int × Int => ((⟨44, frTr [(6, (Sl.v 1 y.1)), (7, (.int .i64 y.2.1)), (20, (Sl.v 1 y.2.2.1)), (21, (.int .i64 y.2.2.2.1)), (22, (.int .i64 y.2.2.2.2))] .nil⟩ : Fr), (⟨1, objTr [(.cells tab0 true false [])] 0 .nil, true⟩ : AHeap))) (fun y => m35_2 pu n (l35_1 pu n w0) y.1 y.2.1 y.2.2.1 y.2.2.2.1 y.2.2.2.2) ?_ ?_
        · rintro ⟨s929, z930, s931, z932, z933⟩ hm
          unfold m35_2 at hm
          refine .reg (F' := (Fr.puts (⟨44, frTr [(6, (Sl.v 1 s929)), (7, (.int .i64 z930)), (20, (Sl.v 1 s931)), (21, (.int .i64 z932)), (22, (.int .i64 z933))] .nil⟩ : Fr) [(42, (.int .i64 (wrapF .i64 (Int.add z933 (1 : Int))))), (22, (.int .i64 (wrapF .i64 (Int.add z933 (1 : Int)))))])) (H' := (⟨1, objTr [(.cells tab0 true false [])] 0 .nil, true⟩ : AHeap)) (by kernel_rfl) ?_
          exact ⟨(s929, z930, s931, z932, (wrapF .i64 (Int.add z933 (1 : Int)))), hm, (.gc [] [false] [] [6, 7, 20, 21, 22] (by kernel_rfl) trivial (by kernel_rfl))⟩
        · skip
          refine .block ?_
          refine .then ?_
          have hq := oo_inv hm; clear hm; obtain ⟨k934, h935, hm⟩ := hq
          obtain rfl := toN_some h935
          have hq := bb_inv hm; clear hm; obtain ⟨h936, hm⟩ := hq
          have hq := oo_inv hm; clear hm; obtain ⟨v937, h938, hm⟩ := hq
          have hq := oo_inv hm; clear hm; obtain ⟨x939, h940, hm⟩ := hq
          obtain rfl := toI_some h940
          refine .reg (F' := (Fr.puts (⟨44, frTr [(6, (Sl.v 1 s877)), (7, (.int .i64 z878)), (20, (Sl.v 1 s879)), (21, (.int .i64 z880)), (22, (.int .i64 (Int.ofNat k934)))] .nil⟩ : Fr) [(24, (.int .i64 (Int.ofNat k934))), (25, (fpV (k934 * 1) (Sl.cs s879))), (26, (.int .i64 x939)), (8, (.int .i64 (Int.ofNat k934))), (9, (.int .i64 x939))])) (H' := (⟨1, objTr [(.cells tab0 true false [])] 0 .nil, true⟩ : AHeap)) (evOps_cut 1 (by kernel_rfl) (evOps_data (keep (⟨1, objTr [(.cells tab0 true false [])] 0 .nil, true⟩ : AHeap) (bb (an (Nat.blt k934 (Sl.n s879)) true) (some (fpV (k934 * 1) (Sl.cs s879))) none)) (by kernel_rfl) (keep_bb h936) (okAt_of (by kernel_rfl) (by kernel_rfl)) (evOps_data (keep (⟨1, objTr [(.cells tab0 true false [])] 0 .nil, true⟩ : AHeap) (nthL (Sl.cs s879) (k934 * 1))) (by kernel_rfl) (keep_eq h938) (okAt_of (by kernel_rfl) (by kernel_rfl)) (by kernel_rfl)))) ?_
          refine .ghs (⟨44, frTr [(6, (Sl.v 1 s877)), (7, (.int .i64 z878)), (8, (.int .i64 (Int.ofNat k934))), (9, (.int .i64 x939)), (20, (Sl.v 1 s879)), (21, (.int .i64 z880)), (22, (.int .i64 (Int.ofNat k934)))] .nil⟩ : Fr) (⟨1, objTr [(.cells tab0 true false [])] 0 .nil, true⟩ : AHeap) (.gc [] [false] [] [6, 7, 8, 9, 20, 21, 22] (by kernel_rfl) trivial (by kernel_rfl)) ?_
          refine .then ?_
          have hq := oo_inv hm; clear hm; obtain ⟨k941, h942, hm⟩ := hq
          have hq := bb_inv hm; clear hm; obtain ⟨h943, hm⟩ := hq
          have hq := bb_inv hm; clear hm; obtain ⟨h944, hm⟩ := hq
          refine .reg (F' := (Fr.puts (⟨44, frTr [(6, (Sl.v 1 s877)), (7, (.int .i64 z878)), (8, (.int .i64 (Int.ofNat k934))), (9, (.int .i64 x939)), (20, (Sl.v 1 s879)), (21, (.int .i64 z880)), (22, (.int .i64 (Int.ofNat k934)))] .nil⟩ : Fr) [(27, (Sl.v 1 s877)), (28, (.int .i64 (Int.ofNat k934))), (29, (.int .i64 (Int.ofNat k941))), (30, (Sl.v 1 (Sl.mk ((Sl.n s877) - k941) (bb (an (Nat.beq (Sl.n s877) (Sl.n s877)) (orr false (Nat.beq (Sl.fl s877) 1))) 1 0) (takeL (((Sl.n s877) - k941) * 1) (dropL (k941 * 1) (Sl.cs s877)))))), (31, (.int .i64 (Int.ofNat (Sl.n (Sl.mk ((Sl.n s877) - k941) (bb (an (Nat.beq (Sl.n s877) (Sl.n s877)) (orr false (Nat.beq (Sl.fl s877) 1))) 1 0) (takeL (((Sl.n s877) - k941) * 1) (dropL (k941 * 1) (Sl.cs s877)))))))), (32, (.int .i64 (0 : Int)))])) (H' := (⟨1, objTr [(.cells tab0 true false [])] 0 .nil, true⟩ : AHeap)) (evOps_cut 2 (by kernel_rfl) (evOps_data (some ((.int .i64 (wrapF .i64 (Int.add (Int.ofNat k934) (1 : Int)))), (⟨1, objTr [(.cells tab0 true false [])] 0 .nil, true⟩ : AHeap))) (by kernel_rfl) (show _ = some ((.int .i64 (Int.ofNat k941)), _) from (by rw [toN_some h942])) (okAt_of (by kernel_rfl) (by kernel_rfl)) (evOps_data (keep (⟨1, objTr [(.cells tab0 true false [])] 0 .nil, true⟩ : AHeap) (asliceFs ti3 ⟨1, (Sl.n s877), (Sl.fl s877), (Sl.cs s877)⟩ (some (.int .i64 (Int.ofNat k941))) none none)) (by kernel_rfl) (asliceFs_eq (c1 := true) (c2 := (Nat.ble k941 (Sl.n s877))) (l := k941) (h := (Sl.n s877)) h943 (by kernel_rfl) (by kernel_rfl) rfl (by kernel_rfl) h944) (okAt_of (by kernel_rfl) (by kernel_rfl)) (by kernel_rfl)))) ?_
          refine .ghs (⟨44, frTr [(6, (Sl.v 1 s877)), (7, (.int .i64 z878)), (9, (.int .i64 x939)), (20, (Sl.v 1 s879)), (21, (.int .i64 z880)), (22, (.int .i64 (Int.ofNat k934))), (30, (Sl.v 1 (Sl.mk ((Sl.n s877) - k941) (bb (an (Nat.beq (Sl.n s877) (Sl.n s877)) (orr false (Nat.beq (Sl.fl s877) 1))) 1 0) (takeL (((Sl.n s877) - k941) * 1) (dropL (k941 * 1) (Sl.cs s877)))))), (31, (.int .i64 (Int.ofNat (Sl.n (Sl.mk ((Sl.n s877) - k941) (bb (an (Nat.beq (Sl.n s877) (Sl.n s877)) (orr false (Nat.beq (Sl.fl s877) 1))) 1 0) (takeL (((Sl.n s877) - k941) * 1) (dropL (k941 * 1) (Sl.cs s877)))))))), (32, (.int .i64 (0 : Int)))] .nil⟩ : Fr) (⟨1, objTr [(.cells tab0 true false [])] 0 .nil, true⟩ : AHeap) (.gc [] [false] [] [6, 7, 9, 20, 21, 22, 30, 31, 32] (by kernel_rfl) trivial (by kernel_rfl)) ?_
          refine .block ?_
          refine .loopM (v := v) (fun y : Sl × Int × Int × Sl × Int × Int × Sl × Int × Int => ((⟨44, frTr [(6, (Sl.v 1 y.1)), (7, (.int .i64 y.2.1)), (9, (.int .i64 y.2.2.1)), (20, (Sl.v 1 y.2.2.2.1)), (21, (.int .i64 y.2.2.2.2.1)), (22, (.int .i64 y.2.2.2.2.2.1)), (30, (Sl.v 1 y.2.2.2.2.2.2.1)), (31, (.int .i64 y.2.2.2.2.2.2.2.1)), (32, (.int .i64 y.2.2.2.2.2.2.2.2))] .nil⟩ : Fr), (⟨1, objTr [(.cells tab0 true false [])] 0 .nil, true⟩ : AHeap))) (fun w y => l35_3 pu n (l35_1 pu n w0) w y.1 y.2.1 y.2.2.1 y.2.2.2.1 y.2.2.2.2.1 y.2.2.2.2.2.1 y.2.2.2.2.2.2.1 y.2.2.2.2.2.2.2.1 y.2.2.2.2.2.2.2.2) n ⟨(s877, z878, x939, s879, z880, (Int.ofNat k934), (Sl.mk ((Sl.n s877) - k941) (bb (an (Nat.beq (Sl.n s877) (Sl.n s877)) (orr false (Nat.beq (Sl.fl s877) 1))) 1 0) (takeL (((Sl.n s877) - k941) * 1) (dropL (k941 * 1) (Sl.cs s877)))), (Int.ofNat (Sl.n (Sl.mk ((Sl.n s877) - k941) (bb (an (Nat.beq (Sl.n s877) (Sl.n s877)) (orr false (Nat.beq (Sl.fl s877) 1))) 1 0) (takeL (((Sl.n s877) - k941) * 1) (dropL (k941 * 1) (Sl.cs s877)))))), (0 : Int)), hm, (.gc [] [false] [] [6, 7, 9, 20, 21, 22, 30, 31, 32] (by kernel_rfl) trivial (by kernel_rfl))⟩ (fun _ => rfl) ?_
          rintro w1 ⟨s945, z946, z947, s948, z949, z950, s951, z952, z953⟩ hm
          refine .then ?_
          refine .reg (F' := (Fr.puts (⟨44, frTr [(6, (Sl.v 1 s945)), (7, (.int .i64 z946)), (9, (.int .i64 z947)), (20, (Sl.v 1 s948)), (21, (.int .i64 z949)), (22, (.int .i64 z950)), (30, (Sl.v 1 s951)), (31, (.int .i64 z952)), (32, (.int .i64 z953))] .nil⟩ : Fr) [(33, (.bool (ilt z953 z952)))])) (H' := (⟨1, objTr [(.cells tab0 true false [])] 0 .nil, true⟩ : AHeap)) (by kernel_rfl) ?_
          refine .ghs (⟨44, frTr [(6, (Sl.v 1 s945)), (7, (.int .i64 z946)), (9, (.int .i64 z947)), (20, (Sl.v 1 s948)), (21, (.int .i64 z949)), (22, (.int .i64 z950)), (30, (Sl.v 1 s951)), (31, (.int .i64 z952)), (32, (.int .i64 z953)), (33, (.bool (ilt z953 z952)))] .nil⟩ : Fr) (⟨1, objTr [(.cells tab0 true false [])] 0 .nil, true⟩ : AHeap) (.gc [] [false] [] [6, 7, 9, 20, 21, 22, 30, 31, 32, 33] (by kernel_rfl) trivial (by kernel_rfl)) ?_
          refine .then ?_
          have hq := bb_cases hm; clear hm; rcases hq with ⟨h954, hm⟩ | ⟨h954, hm⟩
          · refine .ifT (ilt z953 z952) (by kernel_rfl) h954 ?_
            refine .skip ?_
            refine .ghs (⟨44, frTr [(6, (Sl.v 1 s945)), (7, (.int .i64 z946)), (9, (.int .i64 z947)), (20, (Sl.v 1 s948)), (21, (.int .i64 z949)), (22, (.int .i64 z950)), (30, (Sl.v 1 s951)), (31, (.int .i64 z952)), (32, (.int .i64 z953))] .nil⟩ : Fr) (⟨1, objTr [(.cells tab0 true false [])] 0 .nil, true⟩ : AHeap) (.gc [] [false] [] [6, 7, 9, 20, 21, 22, 30, 31, 32] (by kernel_rfl) trivial (by kernel_rfl)) ?_
            refine .join (v := v) (fun y : Sl × Int × Int × Sl × Int × Int × Sl × Int × Int => ((⟨44, frTr [(6, (Sl.v 1 y.1)), (7, (.int .i64 y.2.1)), (9, (.int .i64 y.2.2.1)), (20, (Sl.v 1 y.2.2.2.1)), (21, (.int .i64 y.2.2.2.2.1)), (22, (.int .i64 y.2.2.2.2.2.1)), (30, (Sl.v 1 y.2.2.2.2.2.2.1)), (31, (.int .i64 y.2.2.2.2.2.2.2.1)), (32, (.int .i64 y.2.2.2.2.2.2.2.2))] .nil⟩ : Fr), (⟨1, objTr [(.cells tab0 true false [])] 0 .nil, true⟩ : AHeap))) (fun y => m35_4 pu n (l35_1 pu n w0) (l35_3 pu n (l35_1 pu n w0) w1) y.1 y.2.1 y.2.2.1 y.2.2.2.1 y.2.2.2.2.1 y.2.2.2.2.2.1 y.2.2.2.2.2.2.1 y.2.2.2.2.2.2.2.1 y.2.2.2.2.2.2.2.2) ?_ ?_
            · rintro ⟨s963, z964, z965, s966, z967, z968, s969, z970, z971⟩ hm
              unfold m35_4 at hm
              refine .reg (F' := (Fr.puts (⟨44, frTr [(6, (Sl.v 1 s963)), (7, (.int .i64 z964)), (9, (.int .i64 z965)), (20, (Sl.v 1 s966)), (21, (.int .i64 z967)), (22, (.int .i64 z968)), (30, (Sl.v 1 s969)), (31, (.int .i64 z970)), (32, (.int .i64 z971))] .nil⟩ : Fr) [(41, (.int .i64 (wrapF .i64 (Int.add z971 (1 : Int))))), (32, (.int .i64 (wrapF .i64 (Int.add z971 (1 : Int)))))])) (H' := (⟨1, objTr [(.cells tab0 true false [])] 0 .nil, true⟩ : AHeap)) (by kernel_rfl) ?_
              exact ⟨(s963, z964, z965, s966, z967, z968, s969, z970, (wrapF .i64 (Int.add z971 (1 : Int)))), hm, (.gc [] [false] [] [6, 7, 9, 20, 21, 22, 30, 31, 32] (by kernel_rfl) trivial (by kernel_rfl))⟩
            · skip
              refine .block ?_
              refine .then ?_
              have hq := oo_inv hm; clear hm; obtain ⟨k972, h973, hm⟩ := hq
              obtain rfl := toN_some h973
              have hq := bb_inv hm; clear hm; obtain ⟨h974, hm⟩ := hq
              have hq := oo_inv hm; clear hm; obtain ⟨v975, h976, hm⟩ := hq
              have hq := oo_inv hm; clear hm; obtain ⟨x977, h978, hm⟩ := hq
              obtain rfl := toI_some h978
              refine .reg (F' := (Fr.puts (⟨44, frTr [(6, (Sl.v 1 s945)), (7, (.int .i64 z946)), (9, (.int .i64 z947)), (20, (Sl.v 1 s948)), (21, (.int .i64 z949)), (22, (.int .i64 z950)), (30, (Sl.v 1 s951)), (31, (.int .i64 z952)), (32, (.int .i64 (Int.ofNat k972)))] .nil⟩ : Fr) [(34, (fpV (k972 * 1) (Sl.cs s951))), (35, (.int .i64 x977)), (11, (.int .i64 x977))])) (H' := (⟨1, objTr [(.cells tab0 true false [])] 0 .nil, true⟩ : AHeap)) (evOps_data (keep (⟨1, objTr [(.cells tab0 true false [])] 0 .nil, true⟩ : AHeap) (bb (an (Nat.blt k972 (Sl.n s951)) true) (some (fpV (k972 * 1) (Sl.cs s951))) none)) (by kernel_rfl) (keep_bb h974) (okAt_of (by kernel_rfl) (by kernel_rfl)) (evOps_data (keep (⟨1, objTr [(.cells tab0 true false [])] 0 .nil, true⟩ : AHeap) (nthL (Sl.cs s951) (k972 * 1))) (by kernel_rfl) (keep_eq h976) (okAt_of (by kernel_rfl) (by kernel_rfl)) (by kernel_rfl))) ?_
              refine .ghs (⟨44, frTr [(6, (Sl.v 1 s945)), (7, (.int .i64 z946)), (9, (.int .i64 z947)), (11, (.int .i64 x977)), (20, (Sl.v 1 s948)), (21, (.int .i64 z949)), (22, (.int .i64 z950)), (30, (Sl.v 1 s951)), (31, (.int .i64 z952)), (32, (.int .i64 (Int.ofNat k972)))] .nil⟩ : Fr) (⟨1, objTr [(.cells tab0 true false [])] 0 .nil, true⟩ : AHeap) (.gc [] [false] [] [6, 7, 9, 11, 20, 21, 22, 30, 31, 32] (by kernel_rfl) trivial (by kernel_rfl)) ?_
              refine .then ?_
              refine .reg (F' := (Fr.puts (⟨44, frTr [(6, (Sl.v 1 s945)), (7, (.int .i64 z946)), (9, (.int .i64 z947)), (11, (.int .i64 x977)), (20, (Sl.v 1 s948)), (21, (.int .i64 z949)), (22, (.int .i64 z950)), (30, (Sl.v 1 s951)), (31, (.int .i64 z952)), (32, (.int .i64 (Int.ofNat k972)))] .nil⟩ : Fr) [(36, (.int .i64 z947)), (37, (.int .i64 x977)), (38, (.bool (ilt x977 z947)))])) (H' := (⟨1, objTr [(.cells tab0 true false [])] 0 .nil, true⟩ : AHeap)) (by kernel_rfl) ?_
              refine .ghs (⟨44, frTr [(6, (Sl.v 1 s945)), (7, (.int .i64 z946)), (9, (.int .i64 z947)), (20, (Sl.v 1 s948)), (21, (.int .i64 z949)), (22, (.int .i64 z950)), (30, (Sl.v 1 s951)), (31, (.int .i64 z952)), (32, (.int .i64 (Int.ofNat k972))), (38, (.bool (ilt x977 z947)))] .nil⟩ : Fr) (⟨1, objTr [(.cells tab0 true false [])] 0 .nil, true⟩ : AHeap) (.gc [] [false] [] [6, 7, 9, 20, 21, 22, 30, 31, 32, 38] (by kernel_rfl) trivial (by kernel_rfl)) ?_
              have hq := bb_cases hm; clear hm; rcases hq with ⟨h979, hm⟩ | ⟨h979, hm⟩
              · refine .ifT (ilt x977 z947) (by kernel_rfl) h979 ?_
                refine .reg (F' := (Fr.puts (⟨44, frTr [(6, (Sl.v 1 s945)), (7, (.int .i64 z946)), (9, (.int .i64 z947)), (20, (Sl.v 1 s948)), (21, (.int .i64 z949)), (22, (.int .i64 z950)), (30, (Sl.v 1 s951)), (31, (.int .i64 z952)), (32, (.int .i64 (Int.ofNat k972))), (38, (.bool (ilt x977 z947)))] .nil⟩ : Fr) [(39, (.int .i64 z946)), (40, (.int .i64 (wrapF .i64 (Int.add z946 (1 : Int))))), (7, (.int .i64 (wrapF .i64 (Int.add z946 (1 : Int)))))])) (H' := (⟨1, objTr [(.cells tab0 true false [])] 0 .nil, true⟩ : AHeap)) (by kernel_rfl) ?_
                exact ⟨(s945, (wrapF .i64 (Int.add z946 (1 : Int))), z947, s948, z949, z950, s951, z952, (Int.ofNat k972)), hm, (.gc [] [false] [] [6, 7, 9, 20, 21, 22, 30, 31, 32] (by kernel_rfl) trivial (by kernel_rfl))⟩
              · refine .ifF (ilt x977 z947) (by kernel_rfl) h979 ?_
                refine .skip ?_
                exact ⟨(s945, z946, z947, s948, z949, z950, s951, z952, (Int.ofNat k972)), hm, (.gc [] [false] [] [6, 7, 9, 20, 21, 22, 30, 31, 32] (by kernel_rfl) trivial (by kernel_rfl))⟩
          · refine .ifF (ilt z953 z952) (by kernel_rfl) h954 ?_
            refine .exit ?_
            exact ⟨(s945, z946, s948, z949, z950), hm, (.gc [] [false] [] [6, 7, 20, 21, 22] (by kernel_rfl) trivial (by kernel_rfl))⟩
      · refine .ifF (ilt z881 z880) (by kernel_rfl) h882 ?_
        refine .exit ?_
        exact ⟨z878, hm, (.gc [] [false] [] [7] (by kernel_rfl) trivial (by kernel_rfl))⟩
end
end Go.MendNM
