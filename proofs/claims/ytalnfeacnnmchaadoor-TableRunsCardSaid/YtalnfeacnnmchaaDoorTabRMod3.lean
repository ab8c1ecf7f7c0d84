/- Models of the program's functions, and the proofs that runs give them: MADE BY PROGRAM (wip/tools/dec.py). -/
import Derived.Test.YtalnfeacnnmchaaDoorTabRMod1x

set_option maxRecDepth 100000
set_option linter.unusedVariables false
namespace Go.TabRM
open Go.Sp Go.TabR
noncomputable section
/-- spadille/table.Fails -/
def o11_0 : List ROp := [
  ⟨(some 2), .box 24 (.tmp 0), 0, none, []⟩,
  ⟨(some 4), .assign (.const (.int .i64 0)), 29, none, []⟩]
def c11_0 : RC := .reg [] o11_0
def o11_1 : List ROp := [
  ⟨(some 8), .load 24 (.tmp 2), 24, none, []⟩,
  ⟨(some 9), .move (.tmp 1), 25, none, []⟩,
  ⟨(some 10), .call ⟨.value (.func 6), #[(.tmp 8), (.tmp 9)], #[24, 25]⟩, 30, none, []⟩,
  ⟨(some 7), .move (.tmp 10), 30, none, []⟩,
  ⟨(some 11), .extract (.tmp 7) 0, 25, none, []⟩,
  ⟨(some 12), .extract (.tmp 7) 1, 29, none, []⟩,
  ⟨(some 5), .assign (.tmp 11), 25, none, []⟩,
  ⟨(some 6), .assign (.tmp 12), 29, none, []⟩]
def c11_1 : RC := .reg [] o11_1
def o11_2 : List ROp := [
  ⟨(some 13), .move (.tmp 6), 29, none, []⟩,
  ⟨(some 14), .binOp .eql 29 (.tmp 13) (.const (.int .i64 0)) 29, 4, none, []⟩,
  ⟨(some 15), .move (.tmp 14), 4, none, []⟩,
  ⟨(some 16), .move (.tmp 5), 25, (some ((some 15), true)), []⟩,
  ⟨(some 17), .call ⟨.value (.func 33), #[(.tmp 16)], #[25]⟩, 4, (some ((some 15), true)), []⟩,
  ⟨(some 18), .pick (.tmp 15) (.tmp 17) (.const (.bool false)), 4, none, []⟩]
def c11_2 : RC := .reg [] o11_2
def o11_3 : List ROp := [
  ⟨(some 4), .assign (.const (.int .i64 14)), 29, none, []⟩]
def c11_3 : RC := .reg [] o11_3
def c11_4 : RC := .seq c11_3 .ret
def c11_5 : RC := .cond (.tmp 18) c11_4 .skip
def c11_6 : RC := .seq c11_2 c11_5
def o11_7 : List ROp := [
  ⟨(some 19), .move (.tmp 6), 29, none, []⟩,
  ⟨(some 4), .assign (.tmp 19), 29, none, []⟩]
def c11_7 : RC := .reg [] o11_7
def c11_8 : RC := .seq c11_7 .ret
def c11_9 : RC := .seq c11_6 c11_8
def c11_10 : RC := .seq c11_1 c11_9
def c11_11 : RC := .seq c11_0 c11_10
def m11_0 (pu : PureF) (n : Nat) (z506 : Int) (b507 : Bool) : Option Value :=
  (bb b507 (some (.int .i64 (14 : Int))) (some (.int .i64 z506)))
def m11_ (pu : PureF) (n : Nat) (x485 : Int) (s487 : Sl) (s489 : Sl) : Option Value :=
  (oo (pu 6 [(.agg ⟨[(.int .i64 x485), (Sl.v 2 s487)]⟩), (Sl.v 1 s489)]) none fun v491 => (oo (vTup v491) none fun l493 => (ll l493 none fun v495 l493 => (ll l493 none fun v496 l493 => (ll l493 (oo (toSl 1 v495) none fun s497 => (oo (toI .i64 v496) none fun x499 => (bb (ieq x499 (0 : Int)) (oo (pu 33 [(Sl.v 1 s497)]) none fun v510 => (oo (vBool v510) none fun b512 => (m11_0 pu n x499 b512))) (m11_0 pu n x499 false)))) fun _ _ => none)))))
def m11 (pu : PureF) (n : Nat) (args : List Value) : Option Value :=
  (ll args none fun a0 args => (ll args none fun a1 args => (ll args (oo (vAgg a0) none fun l481 => (ll l481 none fun v483 l481 => (ll l481 none fun v484 l481 => (ll l481 (oo (toI .i64 v483) none fun x485 => (oo (toSl 2 v484) none fun s487 => (oo (toSl 1 a1) none fun s489 => (m11_ pu n x485 s487 s489)))) fun _ _ => none)))) fun _ _ => none)))
theorem r11 {call : CallF} (pu : PureF) (n : Nat) (hcall : call = callP tabs isP pu inl) {args : List Value} {v : Value} (hm : m11 pu n args = some v) (_ : ∀ x ∈ args, closed2 x = true) : args.length ≤ 20 ∧ Run tt call 1 c11_11 (Fr.made 20 args) (pureHeap tabs) (Fin tt 1 [.tmp 4] v) := by
  subst hcall
  unfold m11 at hm
  have hq := ll_uncons hm; clear hm; obtain ⟨a0, args_0, rfl, hm⟩ := hq
  have hq := ll_uncons hm; clear hm; obtain ⟨a1, args_1, rfl, hm⟩ := hq
  have hq := ll_end hm; clear hm; obtain ⟨rfl, hm⟩ := hq
  have hq := oo_inv hm; clear hm; obtain ⟨l481, h482, hm⟩ := hq
  obtain rfl := vAgg_some h482
  have hq := ll_uncons hm; clear hm; obtain ⟨v483, l481_0, rfl, hm⟩ := hq
  have hq := ll_uncons hm; clear hm; obtain ⟨v484, l481_1, rfl, hm⟩ := hq
  have hq := ll_end hm; clear hm; obtain ⟨rfl, hm⟩ := hq
  have hq := oo_inv hm; clear hm; obtain ⟨x485, h486, hm⟩ := hq
  obtain rfl := toI_some h486
  have hq := oo_inv hm; clear hm; obtain ⟨s487, h488, hm⟩ := hq
  obtain rfl := toSl_some h488
  have hq := oo_inv hm; clear hm; obtain ⟨s489, h490, hm⟩ := hq
  obtain rfl := toSl_some h490
  unfold m11_ at hm
  refine ⟨by simp, ?_⟩
  refine .same (F' := (⟨20, frTr [(0, (.agg ⟨[(.int .i64 x485), (Sl.v 2 s487)]⟩)), (1, (Sl.v 1 s489))] .nil⟩ : Fr)) (H' := (⟨1, objTr [(.cells tab0 true false [])] 0 .nil, true⟩ : AHeap)) (by kernel_rfl) (by kernel_rfl) ?_
  refine .then ?_
  refine .reg (F' := (Fr.puts (⟨20, frTr [(0, (.agg ⟨[(.int .i64 x485), (Sl.v 2 s487)]⟩)), (1, (Sl.v 1 s489))] .nil⟩ : Fr) [(2, (.pointer (some ⟨1, 0, none⟩))), (4, (.int .i64 (0 : Int)))])) (H' := (⟨2, objTr [(.cells tab0 true false []), (.cells [(.int .i64 x485), (Sl.v 2 s487)] false false [])] 0 .nil, true⟩ : AHeap)) (by kernel_rfl) ?_
  refine .ghs (⟨20, frTr [(1, (Sl.v 1 s489)), (2, (.pointer (some ⟨1, 0, none⟩)))] .nil⟩ : Fr) (⟨2, objTr [(.cells tab0 true false []), (.cells [(.int .i64 x485), (Sl.v 2 s487)] false false [])] 0 .nil, true⟩ : AHeap) (.gc [] [false] [.tmp 2 false] [1, 2] (by kernel_rfl) trivial (by kernel_rfl)) ?_
  refine .then ?_
  have hq := oo_inv hm; clear hm; obtain ⟨v491, h492, hm⟩ := hq
  have hq := oo_inv hm; clear hm; obtain ⟨l493, h494, hm⟩ := hq
  obtain rfl := vTup_some h494
  have hq := ll_uncons hm; clear hm; obtain ⟨v495, l493_0, rfl, hm⟩ := hq
  have hq := ll_uncons hm; clear hm; obtain ⟨v496, l493_1, rfl, hm⟩ := hq
  have hq := ll_end hm; clear hm; obtain ⟨rfl, hm⟩ := hq
  have hq := oo_inv hm; clear hm; obtain ⟨s497, h498, hm⟩ := hq
  obtain rfl := toSl_some h498
  have hq := oo_inv hm; clear hm; obtain ⟨x499, h500, hm⟩ := hq
  obtain rfl := toI_some h500
  refine .reg (F' := (Fr.puts (⟨20, frTr [(1, (Sl.v 1 s489)), (2, (.pointer (some ⟨1, 0, none⟩)))] .nil⟩ : Fr) [(8, (.agg ⟨[(.int .i64 x485), (Sl.v 2 s487)]⟩)), (9, (Sl.v 1 s489)), (10, (.tuple ⟨[(Sl.v 1 s497), (.int .i64 x499)]⟩)), (7, (.tuple ⟨[(Sl.v 1 s497), (.int .i64 x499)]⟩)), (11, (Sl.v 1 s497)), (12, (.int .i64 x499)), (5, (Sl.v 1 s497)), (6, (.int .i64 x499))])) (H' := (⟨2, objTr [(.cells tab0 true false []), (.cells [(.int .i64 x485), (Sl.v 2 s487)] false false [])] 0 .nil, true⟩ : AHeap)) (evOps_cut 2 (by kernel_rfl) (evOps_data ((oo (pu 6 [(.agg ⟨[(.int .i64 x485), (Sl.v 2 s487)]⟩), (Sl.v 1 s489)]) none fun v => some (v, (⟨2, objTr [(.cells tab0 true false []), (.cells [(.int .i64 x485), (Sl.v 2 s487)] false false [])] 0 .nil, true⟩ : AHeap)))) (by kernel_rfl) (call_eq h492) (okAt_of (by kernel_rfl) (by kernel_rfl)) (by kernel_rfl))) ?_
  refine .ghs (⟨20, frTr [(5, (Sl.v 1 s497)), (6, (.int .i64 x499))] .nil⟩ : Fr) (⟨1, objTr [(.cells tab0 true false [])] 0 .nil, true⟩ : AHeap) (.gc [] [false] [] [5, 6] (by kernel_rfl) trivial (by kernel_rfl)) ?_
  refine .then ?_
  refine .join (v := v) (fun y : Int × Bool => ((⟨20, frTr [(6, (.int .i64 y.1)), (18, (.bool y.2))] .nil⟩ : Fr), (⟨1, objTr [(.cells tab0 true false [])] 0 .nil, true⟩ : AHeap))) (fun y => m11_0 pu n y.1 y.2) ?_ ?_
  · rintro ⟨z506, b507⟩ hm
    unfold m11_0 at hm
    have hq := bb_cases hm; clear hm; rcases hq with ⟨h508, hm⟩ | ⟨h508, hm⟩
    · refine .ifT b507 (by kernel_rfl) h508 ?_
      refine .then ?_
      refine .reg (F' := (Fr.puts (⟨20, frTr [(6, (.int .i64 z506)), (18, (.bool b507))] .nil⟩ : Fr) [(4, (.int .i64 (14 : Int)))])) (H' := (⟨1, objTr [(.cells tab0 true false [])] 0 .nil, true⟩ : AHeap)) (by kernel_rfl) ?_
      refine .ghs (⟨20, frTr [(4, (.int .i64 (14 : Int)))] .nil⟩ : Fr) (⟨1, objTr [(.cells tab0 true false [])] 0 .nil, true⟩ : AHeap) (.gc [] [false] [] [4] (by kernel_rfl) trivial (by kernel_rfl)) ?_
      refine .ret ?_
      exact fin_ret (.int .i64 (14 : Int)) (by kernel_rfl) (by kernel_rfl) hm
    · refine .ifF b507 (by kernel_rfl) h508 ?_
      refine .skip ?_
      refine .ghs (⟨20, frTr [(6, (.int .i64 z506))] .nil⟩ : Fr) (⟨1, objTr [(.cells tab0 true false [])] 0 .nil, true⟩ : AHeap) (.gc [] [false] [] [6] (by kernel_rfl) trivial (by kernel_rfl)) ?_
      refine .then ?_
      refine .reg (F' := (Fr.puts (⟨20, frTr [(6, (.int .i64 z506))] .nil⟩ : Fr) [(19, (.int .i64 z506)), (4, (.int .i64 z506))])) (H' := (⟨1, objTr [(.cells tab0 true false [])] 0 .nil, true⟩ : AHeap)) (by kernel_rfl) ?_
      refine .ghs (⟨20, frTr [(4, (.int .i64 z506))] .nil⟩ : Fr) (⟨1, objTr [(.cells tab0 true false [])] 0 .nil, true⟩ : AHeap) (.gc [] [false] [] [4] (by kernel_rfl) trivial (by kernel_rfl)) ?_
      refine .ret ?_
      exact fin_ret (.int .i64 z506) (by kernel_rfl) (by kernel_rfl) hm
  · skip
    have hq := bb_cases hm; clear hm; rcases hq with ⟨h509, hm⟩ | ⟨h509, hm⟩
    · skip
      have hq := oo_inv hm; clear hm; obtain ⟨v510, h511, hm⟩ := hq
      have hq := oo_inv hm; clear hm; obtain ⟨b512, h513, hm⟩ := hq
      obtain rfl := vBool_some h513
      refine .reg (F' := (Fr.puts (⟨20, frTr [(5, (Sl.v 1 s497)), (6, (.int .i64 x499))] .nil⟩ : Fr) [(13, (.int .i64 x499)), (14, (.bool true)), (15, (.bool true)), (16, (Sl.v 1 s497)), (17, (.bool b512)), (18, (.bool b512))])) (H' := (⟨1, objTr [(.cells tab0 true false [])] 0 .nil, true⟩ : AHeap)) (evOps_cut 1 (by kernel_rfl) (evOps_data (some ((.bool (ieq x499 (0 : Int))), (⟨1, objTr [(.cells tab0 true false [])] 0 .nil, true⟩ : AHeap))) (by kernel_rfl) (show _ = some ((.bool true), _) from (by rw [h509])) (okAt_of (by kernel_rfl) (by kernel_rfl)) (evOps_cut 2 (by kernel_rfl) (evOps_data ((oo (pu 33 [(Sl.v 1 s497)]) none fun v => some (v, (⟨1, objTr [(.cells tab0 true false [])] 0 .nil, true⟩ : AHeap)))) (by kernel_rfl) (call_eq h511) (okAt_of (by kernel_rfl) (by kernel_rfl)) (by kernel_rfl))))) ?_
      exact ⟨(x499, b512), hm, (.gc [] [false] [] [6, 18] (by kernel_rfl) trivial (by kernel_rfl))⟩
    · skip
      refine .reg (F' := (Fr.puts (⟨20, frTr [(5, (Sl.v 1 s497)), (6, (.int .i64 x499))] .nil⟩ : Fr) [(13, (.int .i64 x499)), (14, (.bool false)), (15, (.bool false)), (16, (.tuple ⟨[]⟩)), (17, (.tuple ⟨[]⟩)), (18, (.bool false))])) (H' := (⟨1, objTr [(.cells tab0 true false [])] 0 .nil, true⟩ : AHeap)) (evOps_cut 1 (by kernel_rfl) (evOps_data (some ((.bool (ieq x499 (0 : Int))), (⟨1, objTr [(.cells tab0 true false [])] 0 .nil, true⟩ : AHeap))) (by kernel_rfl) (show _ = some ((.bool false), _) from (by rw [h509])) (okAt_of (by kernel_rfl) (by kernel_rfl)) (by kernel_rfl))) ?_
      exact ⟨(x499, false), hm, (.gc [] [false] [] [6, 18] (by kernel_rfl) trivial (by kernel_rfl))⟩
/-- spadille/spadilleref07.Fails -/
def o12_0 : List ROp := [
  ⟨(some 2), .box 28 (.tmp 0), 0, none, []⟩,
  ⟨(some 4), .assign (.const (.int .i64 0)), 29, none, []⟩]
def c12_0 : RC := .reg [] o12_0
def o12_1 : List ROp := [
  ⟨(some 8), .load 28 (.tmp 2), 28, none, []⟩,
  ⟨(some 9), .move (.tmp 1), 25, none, []⟩,
  ⟨(some 10), .call ⟨.value (.func 7), #[(.tmp 8), (.tmp 9)], #[28, 25]⟩, 30, none, []⟩,
  ⟨(some 7), .move (.tmp 10), 30, none, []⟩,
  ⟨(some 11), .extract (.tmp 7) 0, 25, none, []⟩,
  ⟨(some 12), .extract (.tmp 7) 1, 29, none, []⟩,
  ⟨(some 5), .assign (.tmp 11), 25, none, []⟩,
  ⟨(some 6), .assign (.tmp 12), 29, none, []⟩]
def c12_1 : RC := .reg [] o12_1
def o12_2 : List ROp := [
  ⟨(some 13), .move (.tmp 6), 29, none, []⟩,
  ⟨(some 14), .binOp .eql 29 (.tmp 13) (.const (.int .i64 0)) 29, 4, none, []⟩,
  ⟨(some 15), .move (.tmp 14), 4, none, []⟩,
  ⟨(some 16), .move (.tmp 5), 25, (some ((some 15), true)), []⟩,
  ⟨(some 17), .call ⟨.value (.func 34), #[(.tmp 16)], #[25]⟩, 4, (some ((some 15), true)), []⟩,
  ⟨(some 18), .pick (.tmp 15) (.tmp 17) (.const (.bool false)), 4, none, []⟩]
def c12_2 : RC := .reg [] o12_2
def o12_3 : List ROp := [
  ⟨(some 6), .assign (.const (.int .i64 14)), 29, none, []⟩]
def c12_3 : RC := .reg [] o12_3
def c12_4 : RC := .cond (.tmp 18) c12_3 .skip
def c12_5 : RC := .seq c12_2 c12_4
def o12_6 : List ROp := [
  ⟨(some 19), .move (.tmp 6), 29, none, []⟩,
  ⟨(some 4), .assign (.tmp 19), 29, none, []⟩]
def c12_6 : RC := .reg [] o12_6
def c12_7 : RC := .seq c12_6 .ret
def c12_8 : RC := .seq c12_5 c12_7
def c12_9 : RC := .seq c12_1 c12_8
def c12_10 : RC := .seq c12_0 c12_9
def m12_0 (pu : PureF) (n : Nat) (z547 : Int) : Option Value :=
  (some (.int .i64 z547))
def m12_1 (pu : PureF) (n : Nat) (z553 : Int) (b554 : Bool) : Option Value :=
  (bb b554 (m12_0 pu n (14 : Int)) (m12_0 pu n z553))
def m12_ (pu : PureF) (n : Nat) (x518 : Int) (s520 : Sl) (s522 : Sl) : Option Value :=
  (oo (pu 7 [(.agg ⟨[(.int .i64 x518), (Sl.v 2 s520)]⟩), (Sl.v 1 s522)]) none fun v524 => (oo (vTup v524) none fun l526 => (ll l526 none fun v528 l526 => (ll l526 none fun v529 l526 => (ll l526 (oo (toSl 1 v528) none fun s530 => (oo (toI .i64 v529) none fun x532 => (bb (ieq x532 (0 : Int)) (oo (pu 34 [(Sl.v 1 s530)]) none fun v557 => (oo (vBool v557) none fun b559 => (m12_1 pu n x532 b559))) (m12_1 pu n x532 false)))) fun _ _ => none)))))
def m12 (pu : PureF) (n : Nat) (args : List Value) : Option Value :=
  (ll args none fun a0 args => (ll args none fun a1 args => (ll args (oo (vAgg a0) none fun l514 => (ll l514 none fun v516 l514 => (ll l514 none fun v517 l514 => (ll l514 (oo (toI .i64 v516) none fun x518 => (oo (toSl 2 v517) none fun s520 => (oo (toSl 1 a1) none fun s522 => (m12_ pu n x518 s520 s522)))) fun _ _ => none)))) fun _ _ => none)))
theorem r12 {call : CallF} (pu : PureF) (n : Nat) (hcall : call = callP tabs isP pu inl) {args : List Value} {v : Value} (hm : m12 pu n args = some v) (_ : ∀ x ∈ args, closed2 x = true) : args.length ≤ 20 ∧ Run tt call 1 c12_10 (Fr.made 20 args) (pureHeap tabs) (Fin tt 1 [.tmp 4] v) := by
  subst hcall
  unfold m12 at hm
  have hq := ll_uncons hm; clear hm; obtain ⟨a0, args_0, rfl, hm⟩ := hq
  have hq := ll_uncons hm; clear hm; obtain ⟨a1, args_1, rfl, hm⟩ := hq
  have hq := ll_end hm; clear hm; obtain ⟨rfl, hm⟩ := hq
  have hq := oo_inv hm; clear hm; obtain ⟨l514, h515, hm⟩ := hq
  obtain rfl := vAgg_some h515
  have hq := ll_uncons hm; clear hm; obtain ⟨v516, l514_0, rfl, hm⟩ := hq
  have hq := ll_uncons hm; clear hm; obtain ⟨v517, l514_1, rfl, hm⟩ := hq
  have hq := ll_end hm; clear hm; obtain ⟨rfl, hm⟩ := hq
  have hq := oo_inv hm; clear hm; obtain ⟨x518, h519, hm⟩ := hq
  obtain rfl := toI_some h519
  have hq := oo_inv hm; clear hm; obtain ⟨s520, h521, hm⟩ := hq
  obtain rfl := toSl_some h521
  have hq := oo_inv hm; clear hm; obtain ⟨s522, h523, hm⟩ := hq
  obtain rfl := toSl_some h523
  unfold m12_ at hm
  refine ⟨by simp, ?_⟩
  refine .same (F' := (⟨20, frTr [(0, (.agg ⟨[(.int .i64 x518), (Sl.v 2 s520)]⟩)), (1, (Sl.v 1 s522))] .nil⟩ : Fr)) (H' := (⟨1, objTr [(.cells tab0 true false [])] 0 .nil, true⟩ : AHeap)) (by kernel_rfl) (by kernel_rfl) ?_
  refine .then ?_
  refine .reg (F' := (Fr.puts (⟨20, frTr [(0, (.agg ⟨[(.int .i64 x518), (Sl.v 2 s520)]⟩)), (1, (Sl.v 1 s522))] .nil⟩ : Fr) [(2, (.pointer (some ⟨1, 0, none⟩))), (4, (.int .i64 (0 : Int)))])) (H' := (⟨2, objTr [(.cells tab0 true false []), (.cells [(.int .i64 x518), (Sl.v 2 s520)] false false [])] 0 .nil, true⟩ : AHeap)) (by kernel_rfl) ?_
  refine .ghs (⟨20, frTr [(1, (Sl.v 1 s522)), (2, (.pointer (some ⟨1, 0, none⟩)))] .nil⟩ : Fr) (⟨2, objTr [(.cells tab0 true false []), (.cells [(.int .i64 x518), (Sl.v 2 s520)] false false [])] 0 .nil, true⟩ : AHeap) (.gc [] [false] [.tmp 2 false] [1, 2] (by kernel_rfl) trivial (by kernel_rfl)) ?_
  refine .then ?_
  have hq := oo_inv hm; clear hm; obtain ⟨v524, h525, hm⟩ := hq
  have hq := oo_inv hm; clear hm; obtain ⟨l526, h527, hm⟩ := hq
  obtain rfl := vTup_some h527
  have hq := ll_uncons hm; clear hm; obtain ⟨v528, l526_0, rfl, hm⟩ := hq
  have hq := ll_uncons hm; clear hm; obtain ⟨v529, l526_1, rfl, hm⟩ := hq
  have hq := ll_end hm; clear hm; obtain ⟨rfl, hm⟩ := hq
  have hq := oo_inv hm; clear hm; obtain ⟨s530, h531, hm⟩ := hq
  obtain rfl := toSl_some h531
  have hq := oo_inv hm; clear hm; obtain ⟨x532, h533, hm⟩ := hq
  obtain rfl := toI_some h533
  refine .reg (F' := (Fr.puts (⟨20, frTr [(1, (Sl.v 1 s522)), (2, (.pointer (some ⟨1, 0, none⟩)))] .nil⟩ : Fr) [(8, (.agg ⟨[(.int .i64 x518), (Sl.v 2 s520)]⟩)), (9, (Sl.v 1 s522)), (10, (.tuple ⟨[(Sl.v 1 s530), (.int .i64 x532)]⟩)), (7, (.tuple ⟨[(Sl.v 1 s530), (.int .i64 x532)]⟩)), (11, (Sl.v 1 s530)), (12, (.int .i64 x532)), (5, (Sl.v 1 s530)), (6, (.int .i64 x532))])) (H' := (⟨2, objTr [(.cells tab0 true false []), (.cells [(.int .i64 x518), (Sl.v 2 s520)] false false [])] 0 .nil, true⟩ : AHeap)) (evOps_cut 2 (by kernel_rfl) (evOps_data ((oo (pu 7 [(.agg ⟨[(.int .i64 x518), (Sl.v 2 s520)]⟩), (Sl.v 1 s522)]) none fun v => some (v, (⟨2, objTr [(.cells tab0 true false []), (.cells [(.int .i64 x518), (Sl.v 2 s520)] false false [])] 0 .nil, true⟩ : AHeap)))) (by kernel_rfl) (call_eq h525) (okAt_of (by kernel_rfl) (by kernel_rfl)) (by kernel_rfl))) ?_
  refine .ghs (⟨20, frTr [(5, (Sl.v 1 s530)), (6, (.int .i64 x532))] .nil⟩ : Fr) (⟨1, objTr [(.cells tab0 true false [])] 0 .nil, true⟩ : AHeap) (.gc [] [false] [] [5, 6] (by kernel_rfl) trivial (by kernel_rfl)) ?_
  refine .join (v := v) (fun y : Int => ((⟨20, frTr [(6, (.int .i64 y))] .nil⟩ : Fr), (⟨1, objTr [(.cells tab0 true false [])] 0 .nil, true⟩ : AHeap))) (fun y => m12_0 pu n y) ?_ ?_
  · rintro z547 hm
    unfold m12_0 at hm
    refine .then ?_
    refine .reg (F' := (Fr.puts (⟨20, frTr [(6, (.int .i64 z547))] .nil⟩ : Fr) [(19, (.int .i64 z547)), (4, (.int .i64 z547))])) (H' := (⟨1, objTr [(.cells tab0 true false [])] 0 .nil, true⟩ : AHeap)) (by kernel_rfl) ?_
    refine .ghs (⟨20, frTr [(4, (.int .i64 z547))] .nil⟩ : Fr) (⟨1, objTr [(.cells tab0 true false [])] 0 .nil, true⟩ : AHeap) (.gc [] [false] [] [4] (by kernel_rfl) trivial (by kernel_rfl)) ?_
    refine .ret ?_
    exact fin_ret (.int .i64 z547) (by kernel_rfl) (by kernel_rfl) hm
  · skip
    refine .join (v := v) (fun y : Int × Bool => ((⟨20, frTr [(6, (.int .i64 y.1)), (18, (.bool y.2))] .nil⟩ : Fr), (⟨1, objTr [(.cells tab0 true false [])] 0 .nil, true⟩ : AHeap))) (fun y => m12_1 pu n y.1 y.2) ?_ ?_
    · rintro ⟨z553, b554⟩ hm
      unfold m12_1 at hm
      have hq := bb_cases hm; clear hm; rcases hq with ⟨h555, hm⟩ | ⟨h555, hm⟩
      · refine .ifT b554 (by kernel_rfl) h555 ?_
        refine .reg (F' := (Fr.puts (⟨20, frTr [(6, (.int .i64 z553)), (18, (.bool b554))] .nil⟩ : Fr) [(6, (.int .i64 (14 : Int)))])) (H' := (⟨1, objTr [(.cells tab0 true false [])] 0 .nil, true⟩ : AHeap)) (by kernel_rfl) ?_
        exact ⟨(14 : Int), hm, (.gc [] [false] [] [6] (by kernel_rfl) trivial (by kernel_rfl))⟩
      · refine .ifF b554 (by kernel_rfl) h555 ?_
        refine .skip ?_
        exact ⟨z553, hm, (.gc [] [false] [] [6] (by kernel_rfl) trivial (by kernel_rfl))⟩
    · skip
      have hq := bb_cases hm; clear hm; rcases hq with ⟨h556, hm⟩ | ⟨h556, hm⟩
      · skip
        have hq := oo_inv hm; clear hm; obtain ⟨v557, h558, hm⟩ := hq
        have hq := oo_inv hm; clear hm; obtain ⟨b559, h560, hm⟩ := hq
        obtain rfl := vBool_some h560
        refine .reg (F' := (Fr.puts (⟨20, frTr [(5, (Sl.v 1 s530)), (6, (.int .i64 x532))] .nil⟩ : Fr) [(13, (.int .i64 x532)), (14, (.bool true)), (15, (.bool true)), (16, (Sl.v 1 s530)), (17, (.bool b559)), (18, (.bool b559))])) (H' := (⟨1, objTr [(.cells tab0 true false [])] 0 .nil, true⟩ : AHeap)) (evOps_cut 1 (by kernel_rfl) (evOps_data (some ((.bool (ieq x532 (0 : Int))), (⟨1, objTr [(.cells tab0 true false [])] 0 .nil, true⟩ : AHeap))) (by kernel_rfl) (show _ = some ((.bool true), _) from (by rw [h556])) (okAt_of (by kernel_rfl) (by kernel_rfl)) (evOps_cut 2 (by kernel_rfl) (evOps_data ((oo (pu 34 [(Sl.v 1 s530)]) none fun v => some (v, (⟨1, objTr [(.cells tab0 true false [])] 0 .nil, true⟩ : AHeap)))) (by kernel_rfl) (call_eq h558) (okAt_of (by kernel_rfl) (by kernel_rfl)) (by kernel_rfl))))) ?_
        exact ⟨(x532, b559), hm, (.gc [] [false] [] [6, 18] (by kernel_rfl) trivial (by kernel_rfl))⟩
      · skip
        refine .reg (F' := (Fr.puts (⟨20, frTr [(5, (Sl.v 1 s530)), (6, (.int .i64 x532))] .nil⟩ : Fr) [(13, (.int .i64 x532)), (14, (.bool false)), (15, (.bool false)), (16, (.tuple ⟨[]⟩)), (17, (.tuple ⟨[]⟩)), (18, (.bool false))])) (H' := (⟨1, objTr [(.cells tab0 true false [])] 0 .nil, true⟩ : AHeap)) (evOps_cut 1 (by kernel_rfl) (evOps_data (some ((.bool (ieq x532 (0 : Int))), (⟨1, objTr [(.cells tab0 true false [])] 0 .nil, true⟩ : AHeap))) (by kernel_rfl) (show _ = some ((.bool false), _) from (by rw [h556])) (okAt_of (by kernel_rfl) (by kernel_rfl)) (by kernel_rfl))) ?_
        exact ⟨(x532, false), hm, (.gc [] [false] [] [6, 18] (by kernel_rfl) trivial (by kernel_rfl))⟩
/-- spadille/spadilleref07.run -/
def o30_0 : List ROp := [
  ⟨(some 3), .box 28 (.tmp 0), 0, none, []⟩,
  ⟨(some 6), .assign (.const (.slice none 0 0)), 25, none, []⟩]
def c30_0 : RC := .reg [] o30_0
def o30_1 : List ROp := [
  ⟨(some 11), .buildSlice 25 0 #[], 25, none, []⟩,
  ⟨(some 12), .move (.tmp 1), 25, none, []⟩,
  ⟨(some 13), .call ⟨.builtin .append, #[(.tmp 11), (.tmp 12)], #[25, 25]⟩, 25, none, []⟩,
  ⟨(some 7), .assign (.tmp 13), 25, none, []⟩]
def c30_1 : RC := .reg [] o30_1
def o30_2 : List ROp := [
  ⟨(some 8), .assign (.const (.int .i64 0)), 3, none, []⟩]
def c30_2 : RC := .reg [] o30_2
def o30_3 : List ROp := [
  ⟨(some 14), .move (.tmp 8), 3, none, []⟩,
  ⟨(some 15), .fieldAddr 28 (.tmp 3) 1, 0, none, []⟩,
  ⟨(some 16), .load 22 (.tmp 15), 22, none, []⟩,
  ⟨(some 17), .call ⟨.builtin .len, #[(.tmp 16)], #[22]⟩, 3, none, []⟩,
  ⟨(some 18), .binOp .lss 3 (.tmp 14) (.tmp 17) 3, 4, none, []⟩]
def c30_3 : RC := .reg [] o30_3
def c30_4 : RC := .cond (.tmp 18) .skip (.exit 0)
def c30_5 : RC := .seq c30_3 c30_4
def o30_6 : List ROp := [
  ⟨(some 21), .fieldAddr 28 (.tmp 3) 1, 0, none, []⟩,
  ⟨(some 22), .load 22 (.tmp 21), 22, none, []⟩,
  ⟨(some 23), .move (.tmp 8), 3, none, []⟩,
  ⟨(some 24), .indexAddr 22 (.tmp 22) (.tmp 23), 0, none, []⟩,
  ⟨(some 25), .indexAddr 55 (.tmp 24) (.const (.int .i64 0)), 0, none, []⟩,
  ⟨(some 26), .load 3 (.tmp 25), 3, none, []⟩,
  ⟨(some 27), .fieldAddr 28 (.tmp 3) 1, 0, none, []⟩,
  ⟨(some 28), .load 22 (.tmp 27), 22, none, []⟩,
  ⟨(some 29), .move (.tmp 8), 3, none, []⟩,
  ⟨(some 30), .indexAddr 22 (.tmp 28) (.tmp 29), 0, none, []⟩,
  ⟨(some 31), .indexAddr 55 (.tmp 30) (.const (.int .i64 1)), 0, none, []⟩,
  ⟨(some 32), .load 3 (.tmp 31), 3, none, []⟩,
  ⟨(some 9), .assign (.tmp 26), 3, none, []⟩,
  ⟨(some 10), .assign (.tmp 32), 3, none, []⟩]
def c30_6 : RC := .reg [0, 1, 2, 3, 4, 5, 6, 7, 8, 9, 10, 11, 12, 13] o30_6
def o30_7 : List ROp := [
  ⟨(some 33), .move (.tmp 8), 3, none, []⟩,
  ⟨(some 34), .move (.tmp 2), 3, none, []⟩,
  ⟨(some 35), .binOp .neq 3 (.tmp 33) (.tmp 34) 3, 4, none, []⟩,
  ⟨(some 36), .move (.tmp 35), 4, none, []⟩,
  ⟨(some 37), .move (.tmp 7), 25, (some ((some 36), true)), []⟩,
  ⟨(some 38), .move (.tmp 9), 3, (some ((some 36), true)), []⟩,
  ⟨(some 39), .indexAddr 25 (.tmp 37) (.tmp 38), 0, (some ((some 36), true)), []⟩,
  ⟨(some 40), .load 3 (.tmp 39), 3, (some ((some 36), true)), []⟩,
  ⟨(some 41), .move (.tmp 7), 25, (some ((some 36), true)), []⟩,
  ⟨(some 42), .move (.tmp 10), 3, (some ((some 36), true)), []⟩,
  ⟨(some 43), .indexAddr 25 (.tmp 41) (.tmp 42), 0, (some ((some 36), true)), []⟩,
  ⟨(some 44), .load 3 (.tmp 43), 3, (some ((some 36), true)), []⟩,
  ⟨(some 45), .binOp .gtr 3 (.tmp 40) (.tmp 44) 3, 4, (some ((some 36), true)), []⟩,
  ⟨(some 46), .pick (.tmp 36) (.tmp 45) (.const (.bool false)), 4, none, []⟩]
def c30_7 : RC := .reg [0, 1, 2, 3, 4, 5, 6, 7, 8, 9, 10, 11, 12, 13] o30_7
def o30_8 : List ROp := [
  ⟨(some 47), .move (.tmp 7), 25, none, []⟩,
  ⟨(some 48), .move (.tmp 9), 3, none, []⟩,
  ⟨(some 49), .move (.tmp 7), 25, none, []⟩,
  ⟨(some 50), .move (.tmp 10), 3, none, []⟩,
  ⟨(some 51), .move (.tmp 7), 25, none, []⟩,
  ⟨(some 52), .move (.tmp 10), 3, none, []⟩,
  ⟨(some 53), .indexAddr 25 (.tmp 51) (.tmp 52), 0, none, []⟩,
  ⟨(some 54), .load 3 (.tmp 53), 3, none, []⟩,
  ⟨(some 55), .move (.tmp 7), 25, none, []⟩,
  ⟨(some 56), .move (.tmp 9), 3, none, []⟩,
  ⟨(some 57), .indexAddr 25 (.tmp 55) (.tmp 56), 0, none, []⟩,
  ⟨(some 58), .load 3 (.tmp 57), 3, none, []⟩,
  ⟨(some 59), .indexAddr 25 (.tmp 47) (.tmp 48), 0, none, []⟩,
  ⟨none, .store 3 (.tmp 59) (.tmp 54), 0, none, []⟩,
  ⟨(some 60), .indexAddr 25 (.tmp 49) (.tmp 50), 0, none, []⟩,
  ⟨none, .store 3 (.tmp 60) (.tmp 58), 0, none, []⟩]
def c30_8 : RC := .reg [0, 1, 2, 3, 4, 5, 6, 7, 8, 9, 10, 11, 12, 13, 14, 15] o30_8
def c30_9 : RC := .cond (.tmp 46) c30_8 .skip
def c30_10 : RC := .seq c30_7 c30_9
def c30_11 : RC := .seq c30_6 c30_10
def c30_12 : RC := .block 1 c30_11
def o30_13 : List ROp := [
  ⟨(some 19), .move (.tmp 8), 3, none, []⟩,
  ⟨(some 20), .binOp .add 3 (.tmp 19) (.const (.int .i64 1)) 3, 3, none, []⟩,
  ⟨(some 8), .assign (.tmp 20), 3, none, []⟩]
def c30_13 : RC := .reg [] o30_13
def c30_14 : RC := .seq c30_12 c30_13
def c30_15 : RC := .seq c30_5 c30_14
def c30_16 : RC := .loop c30_15
def c30_17 : RC := .block 0 c30_16
def c30_18 : RC := .seq c30_2 c30_17
def o30_19 : List ROp := [
  ⟨(some 61), .move (.tmp 7), 25, none, []⟩,
  ⟨(some 6), .assign (.tmp 61), 25, none, []⟩]
def c30_19 : RC := .reg [] o30_19
def c30_20 : RC := .seq c30_19 .ret
def c30_21 : RC := .seq c30_18 c30_20
def c30_22 : RC := .seq c30_1 c30_21
def c30_23 : RC := .seq c30_0 c30_22
def m30_0 (pu : PureF) (n : Nat) (n11546 : Nat) (c11547 : Nat) (q11548 : List Value) : Option Value :=
  (bb (allL closed1 q11548) (bb (an (Nat.ble (0 + n11546 * 1) (len q11548)) (allL closed1 (takeL (n11546 * 1) (dropL 0 q11548)))) (some (Sl.v 1 (Sl.mk n11546 0 (takeL (n11546 * 1) (dropL 0 q11548))))) none) none)
def m30_2 (pu : PureF) (n : Nat) (ih0 : Int → Nat → Nat → Int → Int → Sl → List Value → Option Value) (z21841 : Int) (n21842 : Nat) (c21843 : Nat) (z21844 : Int) (z21845 : Int) (s21846 : Sl) (q21847 : List Value) : Option Value :=
  (bb (allL closed1 q21847) (ih0 z21841 n21842 c21843 (wrapF .i64 (Int.add z21844 (1 : Int))) z21845 s21846 q21847) none)
def m30_3 (pu : PureF) (n : Nat) (ih0 : Int → Nat → Nat → Int → Int → Sl → List Value → Option Value) (z22476 : Int) (n22477 : Nat) (c22478 : Nat) (z22479 : Int) (z22480 : Int) (z22481 : Int) (b22482 : Bool) (z22483 : Int) (s22484 : Sl) (q22485 : List Value) : Option Value :=
  (bb b22482 (oo (toN z22481) none fun k22487 => (bb (an (Nat.blt k22487 n22477) true) (oo (nthL q22485 (0 + k22487 * 1)) none fun v22490 => (oo (toI .i64 v22490) none fun x22492 => (oo (toN z22480) none fun k22494 => (bb (an (Nat.blt k22494 n22477) true) (oo (nthL q22485 (0 + k22494 * 1)) none fun v22497 => (oo (toI .i64 v22497) none fun x22499 => (bb (an (Nat.blt k22494 n22477) true) (bb (an (Nat.ble ((0 + k22494 * 1) + 1) (len q22485)) true) (bb (an (Nat.blt k22487 n22477) true) (bb (an (Nat.ble ((0 + k22487 * 1) + 1) (len (setL ([(.int .i64 x22492)] : List Value) (0 + k22494 * 1) q22485))) true) (bb (allL closed1 (setL ([(.int .i64 x22499)] : List Value) (0 + k22487 * 1) (setL ([(.int .i64 x22492)] : List Value) (0 + k22494 * 1) q22485))) (m30_2 pu n ih0 z22476 n22477 c22478 z22479 z22483 s22484 (setL ([(.int .i64 x22499)] : List Value) (0 + k22487 * 1) (setL ([(.int .i64 x22492)] : List Value) (0 + k22494 * 1) q22485))) none) none) none) none) none))) none)))) none)) (bb (allL closed1 q22485) (m30_2 pu n ih0 z22476 n22477 c22478 z22479 z22483 s22484 q22485) none))
def b30_1 (pu : PureF) (n : Nat) (ih0 : Int → Nat → Nat → Int → Int → Sl → List Value → Option Value) (z11551 : Int) (n11552 : Nat) (c11553 : Nat) (z11554 : Int) (z11555 : Int) (s11556 : Sl) (q11557 : List Value) : Option Value :=
  (bb (allL closed1 q11557) (bb (ilt z11554 (Int.ofNat (Sl.n s11556))) (oo (toN z11554) none fun k21849 => (bb (an (Nat.blt k21849 (Sl.n s11556)) true) (oo (nthL (Sl.cs s11556) ((k21849 * 2) + 0)) none fun v21852 => (oo (toI .i64 v21852) none fun x21854 => (bb (an (Nat.blt k21849 (Sl.n s11556)) true) (oo (nthL (Sl.cs s11556) ((k21849 * 2) + 1)) none fun v21857 => (oo (toI .i64 v21857) none fun x21859 => (bb (nt (ieq (Int.ofNat k21849) z11551)) (oo (toN x21854) none fun k22508 => (bb (an (Nat.blt k22508 n11552) true) (oo (nthL q11557 (0 + k22508 * 1)) none fun v22511 => (oo (toI .i64 v22511) none fun x22513 => (oo (toN x21859) none fun k22515 => (bb (an (Nat.blt k22515 n11552) true) (oo (nthL q11557 (0 + k22515 * 1)) none fun v22518 => (oo (toI .i64 v22518) none fun x22520 => (m30_3 pu n ih0 z11551 n11552 c11553 (Int.ofNat k21849) (Int.ofNat k22508) (Int.ofNat k22515) (ilt x22520 x22513) z11555 s11556 q11557))) none)))) none)) (m30_3 pu n ih0 z11551 n11552 c11553 (Int.ofNat k21849) x21854 x21859 false z11555 s11556 q11557)))) none))) none)) (m30_0 pu n n11552 c11553 q11557)) none)
def l30_1 (pu : PureF) (n : Nat) (w : Nat) : Int → Nat → Nat → Int → Int → Sl → List Value → Option Value :=
  Nat.rec (motive := fun _ => Int → Nat → Nat → Int → Int → Sl → List Value → Option Value) (fun _ _ _ _ _ _ _ => none) (fun _ ih0 => b30_1 pu n ih0) w
def m30_4 (pu : PureF) (n : Nat) (n33494 : Nat) (c33495 : Nat) (q33496 : List Value) : Option Value :=
  (bb (allL closed1 q33496) (bb (an (Nat.ble (0 + n33494 * 1) (len q33496)) (allL closed1 (takeL (n33494 * 1) (dropL 0 q33496)))) (some (Sl.v 1 (Sl.mk n33494 0 (takeL (n33494 * 1) (dropL 0 q33496))))) none) none)
def m30_6 (pu : PureF) (n : Nat) (ih0 : Int → Nat → Nat → Int → Int → Sl → List Value → Option Value) (z43789 : Int) (n43790 : Nat) (c43791 : Nat) (z43792 : Int) (z43793 : Int) (s43794 : Sl) (q43795 : List Value) : Option Value :=
  (bb (allL closed1 q43795) (ih0 z43789 n43790 c43791 (wrapF .i64 (Int.add z43792 (1 : Int))) z43793 s43794 q43795) none)
def m30_7 (pu : PureF) (n : Nat) (ih0 : Int → Nat → Nat → Int → Int → Sl → List Value → Option Value) (z44424 : Int) (n44425 : Nat) (c44426 : Nat) (z44427 : Int) (z44428 : Int) (z44429 : Int) (b44430 : Bool) (z44431 : Int) (s44432 : Sl) (q44433 : List Value) : Option Value :=
  (bb b44430 (oo (toN z44429) none fun k44435 => (bb (an (Nat.blt k44435 n44425) true) (oo (nthL q44433 (0 + k44435 * 1)) none fun v44438 => (oo (toI .i64 v44438) none fun x44440 => (oo (toN z44428) none fun k44442 => (bb (an (Nat.blt k44442 n44425) true) (oo (nthL q44433 (0 + k44442 * 1)) none fun v44445 => (oo (toI .i64 v44445) none fun x44447 => (bb (an (Nat.blt k44442 n44425) true) (bb (an (Nat.ble ((0 + k44442 * 1) + 1) (len q44433)) true) (bb (an (Nat.blt k44435 n44425) true) (bb (an (Nat.ble ((0 + k44435 * 1) + 1) (len (setL ([(.int .i64 x44440)] : List Value) (0 + k44442 * 1) q44433))) true) (bb (allL closed1 (setL ([(.int .i64 x44447)] : List Value) (0 + k44435 * 1) (setL ([(.int .i64 x44440)] : List Value) (0 + k44442 * 1) q44433))) (m30_6 pu n ih0 z44424 n44425 c44426 z44427 z44431 s44432 (setL ([(.int .i64 x44447)] : List Value) (0 + k44435 * 1) (setL ([(.int .i64 x44440)] : List Value) (0 + k44442 * 1) q44433))) none) none) none) none) none))) none)))) none)) (bb (allL closed1 q44433) (m30_6 pu n ih0 z44424 n44425 c44426 z44427 z44431 s44432 q44433) none))
def b30_5 (pu : PureF) (n : Nat) (ih0 : Int → Nat → Nat → Int → Int → Sl → List Value → Option Value) (z33499 : Int) (n33500 : Nat) (c33501 : Nat) (z33502 : Int) (z33503 : Int) (s33504 : Sl) (q33505 : List Value) : Option Value :=
  (bb (allL closed1 q33505) (bb (ilt z33502 (Int.ofNat (Sl.n s33504))) (oo (toN z33502) none fun k43797 => (bb (an (Nat.blt k43797 (Sl.n s33504)) true) (oo (nthL (Sl.cs s33504) ((k43797 * 2) + 0)) none fun v43800 => (oo (toI .i64 v43800) none fun x43802 => (bb (an (Nat.blt k43797 (Sl.n s33504)) true) (oo (nthL (Sl.cs s33504) ((k43797 * 2) + 1)) none fun v43805 => (oo (toI .i64 v43805) none fun x43807 => (bb (nt (ieq (Int.ofNat k43797) z33499)) (oo (toN x43802) none fun k44456 => (bb (an (Nat.blt k44456 n33500) true) (oo (nthL q33505 (0 + k44456 * 1)) none fun v44459 => (oo (toI .i64 v44459) none fun x44461 => (oo (toN x43807) none fun k44463 => (bb (an (Nat.blt k44463 n33500) true) (oo (nthL q33505 (0 + k44463 * 1)) none fun v44466 => (oo (toI .i64 v44466) none fun x44468 => (m30_7 pu n ih0 z33499 n33500 c33501 (Int.ofNat k43797) (Int.ofNat k44456) (Int.ofNat k44463) (ilt x44468 x44461) z33503 s33504 q33505))) none)))) none)) (m30_7 pu n ih0 z33499 n33500 c33501 (Int.ofNat k43797) x43802 x43807 false z33503 s33504 q33505)))) none))) none)) (m30_4 pu n n33500 c33501 q33505)) none)
def l30_5 (pu : PureF) (n : Nat) (w : Nat) : Int → Nat → Nat → Int → Int → Sl → List Value → Option Value :=
  Nat.rec (motive := fun _ => Int → Nat → Nat → Int → Int → Sl → List Value → Option Value) (fun _ _ _ _ _ _ _ => none) (fun _ ih0 => b30_5 pu n ih0) w
def m30_ (pu : PureF) (n : Nat) (x565 : Int) (s567 : Sl) (s569 : Sl) (x571 : Int) : Option Value :=
  (bb (Nat.beq (Sl.n s569) 0) (l30_1 pu n n x571 0 1 (0 : Int) x565 s567 ([] : List Value)) (bb (roomy (0 + (Sl.n s569)) 8) (bb (allL closed1 (takeL ((Sl.n s569) * 1) (Sl.cs s569))) (l30_5 pu n n x571 (0 + (Sl.n s569)) (2 * (0 + (Sl.n s569)) + bb false 1 0) (0 : Int) x565 s567 (takeL ((Sl.n s569) * 1) (Sl.cs s569))) none) none))
def m30 (pu : PureF) (n : Nat) (args : List Value) : Option Value :=
  (ll args none fun a0 args => (ll args none fun a1 args => (ll args none fun a2 args => (ll args (oo (vAgg a0) none fun l561 => (ll l561 none fun v563 l561 => (ll l561 none fun v564 l561 => (ll l561 (oo (toI .i64 v563) none fun x565 => (oo (toSl 2 v564) none fun s567 => (oo (toSl 1 a1) none fun s569 => (oo (toI .i64 a2) none fun x571 => (m30_ pu n x565 s567 s569 x571))))) fun _ _ => none)))) fun _ _ => none))))
theorem r30 {call : CallF} (pu : PureF) (n : Nat) (hcall : call = callP tabs isP pu inl) {args : List Value} {v : Value} (hm : m30 pu n args = some v) (_ : ∀ x ∈ args, closed2 x = true) : args.length ≤ 62 ∧ Run tt call 1 c30_23 (Fr.made 62 args) (pureHeap tabs) (Fin tt 1 [.tmp 6] v) := by
  subst hcall
  unfold m30 at hm
  have hq := ll_uncons hm; clear hm; obtain ⟨a0, args_0, rfl, hm⟩ := hq
  have hq := ll_uncons hm; clear hm; obtain ⟨a1, args_1, rfl, hm⟩ := hq
  have hq := ll_uncons hm; clear hm; obtain ⟨a2, args_2, rfl, hm⟩ := hq
  have hq := ll_end hm; clear hm; obtain ⟨rfl, hm⟩ := hq
  have hq := oo_inv hm; clear hm; obtain ⟨l561, h562, hm⟩ := hq
  obtain rfl := vAgg_some h562
  have hq := ll_uncons hm; clear hm; obtain ⟨v563, l561_0, rfl, hm⟩ := hq
  have hq := ll_uncons hm; clear hm; obtain ⟨v564, l561_1, rfl, hm⟩ := hq
  have hq := ll_end hm; clear hm; obtain ⟨rfl, hm⟩ := hq
  have hq := oo_inv hm; clear hm; obtain ⟨x565, h566, hm⟩ := hq
  obtain rfl := toI_some h566
  have hq := oo_inv hm; clear hm; obtain ⟨s567, h568, hm⟩ := hq
  obtain rfl := toSl_some h568
  have hq := oo_inv hm; clear hm; obtain ⟨s569, h570, hm⟩ := hq
  obtain rfl := toSl_some h570
  have hq := oo_inv hm; clear hm; obtain ⟨x571, h572, hm⟩ := hq
  obtain rfl := toI_some h572
  unfold m30_ at hm
  refine ⟨by simp, ?_⟩
  refine .same (F' := (⟨62, frTr [(0, (.agg ⟨[(.int .i64 x565), (Sl.v 2 s567)]⟩)), (1, (Sl.v 1 s569)), (2, (.int .i64 x571))] .nil⟩ : Fr)) (H' := (⟨1, objTr [(.cells tab0 true false [])] 0 .nil, true⟩ : AHeap)) (by kernel_rfl) (by kernel_rfl) ?_
  refine .then ?_
  refine .reg (F' := (Fr.puts (⟨62, frTr [(0, (.agg ⟨[(.int .i64 x565), (Sl.v 2 s567)]⟩)), (1, (Sl.v 1 s569)), (2, (.int .i64 x571))] .nil⟩ : Fr) [(3, (.pointer (some ⟨1, 0, none⟩))), (6, (.slice none 0 0))])) (H' := (⟨2, objTr [(.cells tab0 true false []), (.cells [(.int .i64 x565), (Sl.v 2 s567)] false false [])] 0 .nil, true⟩ : AHeap)) (by kernel_rfl) ?_
  refine .ghs (⟨62, frTr [(1, (Sl.v 1 s569)), (2, (.int .i64 x571)), (3, (.pointer (some ⟨1, 0, none⟩)))] .nil⟩ : Fr) (⟨2, objTr [(.cells tab0 true false []), (.cells [(.int .i64 x565), (Sl.v 2 s567)] false false [])] 0 .nil, true⟩ : AHeap) (.gc [] [false] [.tmp 3 false] [1, 2, 3] (by kernel_rfl) trivial (by kernel_rfl)) ?_
  refine .then ?_
  have hq := bb_cases hm; clear hm; rcases hq with ⟨h573, hm⟩ | ⟨h573, hm⟩
  · skip
    refine .reg (F' := (Fr.puts (⟨62, frTr [(1, (Sl.v 1 s569)), (2, (.int .i64 x571)), (3, (.pointer (some ⟨1, 0, none⟩)))] .nil⟩ : Fr) [(11, (.slice (some ⟨2, 0, some 1⟩) 0 1)), (12, (Sl.v 1 s569)), (13, (.slice (some ⟨2, 0, some 1⟩) 0 1)), (7, (.slice (some ⟨2, 0, some 1⟩) 0 1))])) (H' := (⟨3, objTr [(.cells tab0 true false []), (.cells [(.int .i64 x565), (Sl.v 2 s567)] false false []), (.cells [] false false [])] 0 .nil, true⟩ : AHeap)) (evOps_cut 2 (by kernel_rfl) (evOps_data (appFs (⟨3, objTr [(.cells tab0 true false []), (.cells [(.int .i64 x565), (Sl.v 2 s567)] false false []), (.cells [] false false [])] 0 .nil, true⟩ : AHeap) 1 8 (.slice (some ⟨2, 0, some 1⟩) 0 1) s569) (by kernel_rfl) (appFs_sl0 h573) (okAt_of (by kernel_rfl) (by kernel_rfl)) (by kernel_rfl))) ?_
    refine .ghs (⟨62, frTr [(2, (.int .i64 x571)), (3, (.pointer (some ⟨1, 0, none⟩))), (7, (.slice (some ⟨2, 0, some 1⟩) 0 1))] .nil⟩ : Fr) (⟨3, objTr [(.cells tab0 true false []), (.cells [(.int .i64 x565), (Sl.v 2 s567)] false false []), (.cells [] false false [])] 0 .nil, true⟩ : AHeap) (.gc [] [false] [.tmp 3 false, .tmp 7 false] [2, 3, 7] (by kernel_rfl) trivial (by kernel_rfl)) ?_
    refine .join (v := v) (fun y : Nat × Nat × List Value => ((⟨62, frTr [(7, (.slice (some ⟨1, 0, some 1⟩) y.1 y.2.1))] .nil⟩ : Fr), (⟨2, objTr [(.cells tab0 true false []), (.cells y.2.2 false false [])] 0 .nil, true⟩ : AHeap))) (fun y => m30_0 pu n y.1 y.2.1 y.2.2) ?_ ?_
    · rintro ⟨n11546, c11547, q11548⟩ hm
      unfold m30_0 at hm
      refine .then ?_
      refine .reg (F' := (Fr.puts (⟨62, frTr [(7, (.slice (some ⟨1, 0, some 1⟩) n11546 c11547))] .nil⟩ : Fr) [(61, (.slice (some ⟨1, 0, some 1⟩) n11546 c11547)), (6, (.slice (some ⟨1, 0, some 1⟩) n11546 c11547))])) (H' := (⟨2, objTr [(.cells tab0 true false []), (.cells q11548 false false [])] 0 .nil, true⟩ : AHeap)) (by kernel_rfl) ?_
      have hq := bb_inv hm; clear hm; obtain ⟨h11549, hm⟩ := hq
      refine .ghs (⟨62, frTr [(6, (.slice (some ⟨1, 0, some 1⟩) n11546 c11547))] .nil⟩ : Fr) (⟨2, objTr [(.cells tab0 true false []), (.cells q11548 false false [])] 0 .nil, true⟩ : AHeap) (.gc [1] [false] [.tmp 6 false] [6] (by kernel_rfl) ⟨trE (by kernel_rfl) h11549, trivial⟩ (by kernel_rfl)) ?_
      have hq := bb_inv hm; clear hm; obtain ⟨h11550, hm⟩ := hq
      refine .ghs (Fr.puts (⟨62, frTr [(6, (.slice (some ⟨1, 0, some 1⟩) n11546 c11547))] .nil⟩ : Fr) [(6, (Sl.v 1 (Sl.mk n11546 0 (takeL (n11546 * 1) (dropL 0 q11548)))))]) (⟨2, objTr [(.cells tab0 true false []), .dead] 0 .nil, true⟩ : AHeap) (.freezeC 1 6 1 (an (Nat.ble (0 + n11546 * 1) (len q11548)) (allL closed1 (takeL (n11546 * 1) (dropL 0 q11548)))) (F1 := (Fr.puts (⟨62, frTr [(6, (.slice (some ⟨1, 0, some 1⟩) n11546 c11547))] .nil⟩ : Fr) [(6, (Sl.v 1 (Sl.mk n11546 0 (takeL (n11546 * 1) (dropL 0 q11548)))))])) (H1 := (⟨2, objTr [(.cells tab0 true false []), .dead] 0 .nil, true⟩ : AHeap)) (by kernel_rfl) (by kernel_rfl) h11550 (GhS.id _ _)) ?_
      refine .ret ?_
      exact fin_ret (Sl.v 1 (Sl.mk n11546 0 (takeL (n11546 * 1) (dropL 0 q11548)))) (by kernel_rfl) (by kernel_rfl) hm
    · skip
      refine .then ?_
      refine .reg (F' := (Fr.puts (⟨62, frTr [(2, (.int .i64 x571)), (3, (.pointer (some ⟨1, 0, none⟩))), (7, (.slice (some ⟨2, 0, some 1⟩) 0 1))] .nil⟩ : Fr) [(8, (.int .i64 (0 : Int)))])) (H' := (⟨3, objTr [(.cells tab0 true false []), (.cells [(.int .i64 x565), (Sl.v 2 s567)] false false []), (.cells [] false false [])] 0 .nil, true⟩ : AHeap)) (by kernel_rfl) ?_
      refine .ghs (⟨62, frTr [(2, (.int .i64 x571)), (3, (.pointer (some ⟨1, 0, none⟩))), (7, (.slice (some ⟨2, 0, some 1⟩) 0 1)), (8, (.int .i64 (0 : Int)))] .nil⟩ : Fr) (⟨3, objTr [(.cells tab0 true false []), (.cells [(.int .i64 x565), (Sl.v 2 s567)] false false []), (.cells [] false false [])] 0 .nil, true⟩ : AHeap) (.gc [] [false] [.tmp 3 false, .tmp 7 false] [2, 3, 7, 8] (by kernel_rfl) trivial (by kernel_rfl)) ?_
      refine .block ?_
      refine .loopM (v := v) (fun y : Int × Nat × Nat × Int × Int × Sl × List Value => ((⟨62, frTr [(2, (.int .i64 y.1)), (3, (.pointer (some ⟨1, 0, none⟩))), (7, (.slice (some ⟨2, 0, some 1⟩) y.2.1 y.2.2.1)), (8, (.int .i64 y.2.2.2.1))] .nil⟩ : Fr), (⟨3, objTr [(.cells tab0 true false []), (.cells [(.int .i64 y.2.2.2.2.1), (Sl.v 2 y.2.2.2.2.2.1)] false false []), (.cells y.2.2.2.2.2.2 false false [])] 0 .nil, true⟩ : AHeap))) (fun w y => l30_1 pu n w y.1 y.2.1 y.2.2.1 y.2.2.2.1 y.2.2.2.2.1 y.2.2.2.2.2.1 y.2.2.2.2.2.2) n ⟨(x571, 0, 1, (0 : Int), x565, s567, ([] : List Value)), hm, (.gc [] [false] [.tmp 3 false, .tmp 7 false] [2, 3, 7, 8] (by kernel_rfl) trivial (by kernel_rfl))⟩ (fun _ => rfl) ?_
      rintro w0 ⟨z11551, n11552, c11553, z11554, z11555, s11556, q11557⟩ hm
      refine .then ?_
      refine .then ?_
      refine .reg (F' := (Fr.puts (⟨62, frTr [(2, (.int .i64 z11551)), (3, (.pointer (some ⟨1, 0, none⟩))), (7, (.slice (some ⟨2, 0, some 1⟩) n11552 c11553)), (8, (.int .i64 z11554))] .nil⟩ : Fr) [(14, (.int .i64 z11554)), (15, (.pointer (some ⟨1, 1, none⟩))), (16, (Sl.v 2 s11556)), (17, (.int .i64 (Int.ofNat (Sl.n s11556)))), (18, (.bool (ilt z11554 (Int.ofNat (Sl.n s11556)))))])) (H' := (⟨3, objTr [(.cells tab0 true false []), (.cells [(.int .i64 z11555), (Sl.v 2 s11556)] false false []), (.cells q11557 false false [])] 0 .nil, true⟩ : AHeap)) (by kernel_rfl) ?_
      have hq := bb_inv hm; clear hm; obtain ⟨h11558, hm⟩ := hq
      refine .ghs (⟨62, frTr [(2, (.int .i64 z11551)), (3, (.pointer (some ⟨1, 0, none⟩))), (7, (.slice (some ⟨2, 0, some 1⟩) n11552 c11553)), (8, (.int .i64 z11554)), (18, (.bool (ilt z11554 (Int.ofNat (Sl.n s11556)))))] .nil⟩ : Fr) (⟨3, objTr [(.cells tab0 true false []), (.cells [(.int .i64 z11555), (Sl.v 2 s11556)] false false []), (.cells q11557 false false [])] 0 .nil, true⟩ : AHeap) (.gc [2] [false] [.tmp 3 false, .tmp 7 false] [2, 3, 7, 8, 18] (by kernel_rfl) ⟨trE (by kernel_rfl) h11558, trivial⟩ (by kernel_rfl)) ?_
      have hq := bb_cases hm; clear hm; rcases hq with ⟨h11559, hm⟩ | ⟨h11559, hm⟩
      · refine .ifT (ilt z11554 (Int.ofNat (Sl.n s11556))) (by kernel_rfl) h11559 ?_
        refine .skip ?_
        refine .ghs (⟨62, frTr [(2, (.int .i64 z11551)), (3, (.pointer (some ⟨1, 0, none⟩))), (7, (.slice (some ⟨2, 0, some 1⟩) n11552 c11553)), (8, (.int .i64 z11554))] .nil⟩ : Fr) (⟨3, objTr [(.cells tab0 true false []), (.cells [(.int .i64 z11555), (Sl.v 2 s11556)] false false []), (.cells q11557 false false [])] 0 .nil, true⟩ : AHeap) (.gc [2] [false] [.tmp 3 false, .tmp 7 false] [2, 3, 7, 8] (by kernel_rfl) ⟨trE (by kernel_rfl) h11558, trivial⟩ (by kernel_rfl)) ?_
        refine .join (v := v) (fun y : Int × Nat × Nat × Int × Int × Sl × List Value => ((⟨62, frTr [(2, (.int .i64 y.1)), (3, (.pointer (some ⟨1, 0, none⟩))), (7, (.slice (some ⟨2, 0, some 1⟩) y.2.1 y.2.2.1)), (8, (.int .i64 y.2.2.2.1))] .nil⟩ : Fr), (⟨3, objTr [(.cells tab0 true false []), (.cells [(.int .i64 y.2.2.2.2.1), (Sl.v 2 y.2.2.2.2.2.1)] false false []), (.cells y.2.2.2.2.2.2 false false [])] 0 .nil, true⟩ : AHeap))) (fun y => m30_2 pu n (l30_1 pu n w0) y.1 y.2.1 y.2.2.1 y.2.2.2.1 y.2.2.2.2.1 y.2.2.2.2.2.1 y.2.2.2.2.2.2) ?_ ?_
        · rintro ⟨z21841, n21842, c21843, z21844, z21845, s21846, q21847⟩ hm
          unfold m30_2 at hm
          refine .reg (F' := (Fr.puts (⟨62, frTr [(2, (.int .i64 z21841)), (3, (.pointer (some ⟨1, 0, none⟩))), (7, (.slice (some ⟨2, 0, some 1⟩) n21842 c21843)), (8, (.int .i64 z21844))] .nil⟩ : Fr) [(19, (.int .i64 z21844)), (20, (.int .i64 (wrapF .i64 (Int.add z21844 (1 : Int))))), (8, (.int .i64 (wrapF .i64 (Int.add z21844 (1 : Int)))))])) (H' := (⟨3, objTr [(.cells tab0 true false []), (.cells [(.int .i64 z21845), (Sl.v 2 s21846)] false false []), (.cells q21847 false false [])] 0 .nil, true⟩ : AHeap)) (by kernel_rfl) ?_
          have hq := bb_inv hm; clear hm; obtain ⟨h21848, hm⟩ := hq
          exact ⟨(z21841, n21842, c21843, (wrapF .i64 (Int.add z21844 (1 : Int))), z21845, s21846, q21847), hm, (.gc [2] [false] [.tmp 3 false, .tmp 7 false] [2, 3, 7, 8] (by kernel_rfl) ⟨trE (by kernel_rfl) h21848, trivial⟩ (by kernel_rfl))⟩
        · skip
          refine .block ?_
          refine .then ?_
          have hq := oo_inv hm; clear hm; obtain ⟨k21849, h21850, hm⟩ := hq
          obtain rfl := toN_some h21850
          have hq := bb_inv hm; clear hm; obtain ⟨h21851, hm⟩ := hq
          have hq := oo_inv hm; clear hm; obtain ⟨v21852, h21853, hm⟩ := hq
          have hq := oo_inv hm; clear hm; obtain ⟨x21854, h21855, hm⟩ := hq
          obtain rfl := toI_some h21855
          have hq := bb_inv hm; clear hm; obtain ⟨h21856, hm⟩ := hq
          have hq := oo_inv hm; clear hm; obtain ⟨v21857, h21858, hm⟩ := hq
          have hq := oo_inv hm; clear hm; obtain ⟨x21859, h21860, hm⟩ := hq
          obtain rfl := toI_some h21860
          refine .reg (F' := (Fr.puts (⟨62, frTr [(2, (.int .i64 z11551)), (3, (.pointer (some ⟨1, 0, none⟩))), (7, (.slice (some ⟨2, 0, some 1⟩) n11552 c11553)), (8, (.int .i64 (Int.ofNat k21849)))] .nil⟩ : Fr) [(21, (.pointer (some ⟨1, 1, none⟩))), (22, (Sl.v 2 s11556)), (23, (.int .i64 (Int.ofNat k21849))), (24, (fpV (k21849 * 2) (Sl.cs s11556))), (25, (fpV ((k21849 * 2) + 0) (Sl.cs s11556))), (26, (.int .i64 x21854)), (27, (.pointer (some ⟨1, 1, none⟩))), (28, (Sl.v 2 s11556)), (29, (.int .i64 (Int.ofNat k21849))), (30, (fpV (k21849 * 2) (Sl.cs s11556))), (31, (fpV ((k21849 * 2) + 1) (Sl.cs s11556))), (32, (.int .i64 x21859)), (9, (.int .i64 x21854)), (10, (.int .i64 x21859))])) (H' := (⟨3, objTr [(.cells tab0 true false []), (.cells [(.int .i64 z11555), (Sl.v 2 s11556)] false false []), (.cells q11557 false false [])] 0 .nil, true⟩ : AHeap)) (evOps_cut 3 (by kernel_rfl) (evOps_data (keep (⟨3, objTr [(.cells tab0 true false []), (.cells [(.int .i64 z11555), (Sl.v 2 s11556)] false false []), (.cells q11557 false false [])] 0 .nil, true⟩ : AHeap) (bb (an (Nat.blt k21849 (Sl.n s11556)) true) (some (fpV (k21849 * 2) (Sl.cs s11556))) none)) (by kernel_rfl) (keep_bb h21851) (okAt_of (by kernel_rfl) (by kernel_rfl)) (evOps_cut 1 (by kernel_rfl) (evOps_data (keep (⟨3, objTr [(.cells tab0 true false []), (.cells [(.int .i64 z11555), (Sl.v 2 s11556)] false false []), (.cells q11557 false false [])] 0 .nil, true⟩ : AHeap) (nthL (Sl.cs s11556) ((k21849 * 2) + 0))) (by kernel_rfl) (keep_eq h21853) (okAt_of (by kernel_rfl) (by kernel_rfl)) (evOps_cut 3 (by kernel_rfl) (evOps_data (keep (⟨3, objTr [(.cells tab0 true false []), (.cells [(.int .i64 z11555), (Sl.v 2 s11556)] false false []), (.cells q11557 false false [])] 0 .nil, true⟩ : AHeap) (bb (an (Nat.blt k21849 (Sl.n s11556)) true) (some (fpV (k21849 * 2) (Sl.cs s11556))) none)) (by kernel_rfl) (keep_bb h21856) (okAt_of (by kernel_rfl) (by kernel_rfl)) (evOps_cut 1 (by kernel_rfl) (evOps_data (keep (⟨3, objTr [(.cells tab0 true false []), (.cells [(.int .i64 z11555), (Sl.v 2 s11556)] false false []), (.cells q11557 false false [])] 0 .nil, true⟩ : AHeap) (nthL (Sl.cs s11556) ((k21849 * 2) + 1))) (by kernel_rfl) (keep_eq h21858) (okAt_of (by kernel_rfl) (by kernel_rfl)) (by kernel_rfl))))))))) ?_
          refine .ghs (⟨62, frTr [(2, (.int .i64 z11551)), (3, (.pointer (some ⟨1, 0, none⟩))), (7, (.slice (some ⟨2, 0, some 1⟩) n11552 c11553)), (8, (.int .i64 (Int.ofNat k21849))), (9, (.int .i64 x21854)), (10, (.int .i64 x21859))] .nil⟩ : Fr) (⟨3, objTr [(.cells tab0 true false []), (.cells [(.int .i64 z11555), (Sl.v 2 s11556)] false false []), (.cells q11557 false false [])] 0 .nil, true⟩ : AHeap) (.gc [2] [false] [.tmp 3 false, .tmp 7 false] [2, 3, 7, 8, 9, 10] (by kernel_rfl) ⟨trE (by kernel_rfl) h11558, trivial⟩ (by kernel_rfl)) ?_
          refine .join (v := v) (fun y : Int × Nat × Nat × Int × Int × Int × Bool × Int × Sl × List Value => ((⟨62, frTr [(2, (.int .i64 y.1)), (3, (.pointer (some ⟨1, 0, none⟩))), (7, (.slice (some ⟨2, 0, some 1⟩) y.2.1 y.2.2.1)), (8, (.int .i64 y.2.2.2.1)), (9, (.int .i64 y.2.2.2.2.1)), (10, (.int .i64 y.2.2.2.2.2.1)), (46, (.bool y.2.2.2.2.2.2.1))] .nil⟩ : Fr), (⟨3, objTr [(.cells tab0 true false []), (.cells [(.int .i64 y.2.2.2.2.2.2.2.1), (Sl.v 2 y.2.2.2.2.2.2.2.2.1)] false false []), (.cells y.2.2.2.2.2.2.2.2.2 false false [])] 0 .nil, true⟩ : AHeap))) (fun y => m30_3 pu n (l30_1 pu n w0) y.1 y.2.1 y.2.2.1 y.2.2.2.1 y.2.2.2.2.1 y.2.2.2.2.2.1 y.2.2.2.2.2.2.1 y.2.2.2.2.2.2.2.1 y.2.2.2.2.2.2.2.2.1 y.2.2.2.2.2.2.2.2.2) ?_ ?_
          · rintro ⟨z22476, n22477, c22478, z22479, z22480, z22481, b22482, z22483, s22484, q22485⟩ hm
            unfold m30_3 at hm
            have hq := bb_cases hm; clear hm; rcases hq with ⟨h22486, hm⟩ | ⟨h22486, hm⟩
            · refine .ifT b22482 (by kernel_rfl) h22486 ?_
              have hq := oo_inv hm; clear hm; obtain ⟨k22487, h22488, hm⟩ := hq
              obtain rfl := toN_some h22488
              have hq := bb_inv hm; clear hm; obtain ⟨h22489, hm⟩ := hq
              have hq := oo_inv hm; clear hm; obtain ⟨v22490, h22491, hm⟩ := hq
              have hq := oo_inv hm; clear hm; obtain ⟨x22492, h22493, hm⟩ := hq
              obtain rfl := toI_some h22493
              have hq := oo_inv hm; clear hm; obtain ⟨k22494, h22495, hm⟩ := hq
              obtain rfl := toN_some h22495
              have hq := bb_inv hm; clear hm; obtain ⟨h22496, hm⟩ := hq
              have hq := oo_inv hm; clear hm; obtain ⟨v22497, h22498, hm⟩ := hq
              have hq := oo_inv hm; clear hm; obtain ⟨x22499, h22500, hm⟩ := hq
              obtain rfl := toI_some h22500
              have hq := bb_inv hm; clear hm; obtain ⟨h22501, hm⟩ := hq
              have hq := bb_inv hm; clear hm; obtain ⟨h22502, hm⟩ := hq
              have hq := bb_inv hm; clear hm; obtain ⟨h22503, hm⟩ := hq
              have hq := bb_inv hm; clear hm; obtain ⟨h22504, hm⟩ := hq
              refine .reg (F' := (Fr.puts (⟨62, frTr [(2, (.int .i64 z22476)), (3, (.pointer (some ⟨1, 0, none⟩))), (7, (.slice (some ⟨2, 0, some 1⟩) n22477 c22478)), (8, (.int .i64 z22479)), (9, (.int .i64 (Int.ofNat k22494))), (10, (.int .i64 (Int.ofNat k22487))), (46, (.bool b22482))] .nil⟩ : Fr) [(47, (.slice (some ⟨2, 0, some 1⟩) n22477 c22478)), (48, (.int .i64 (Int.ofNat k22494))), (49, (.slice (some ⟨2, 0, some 1⟩) n22477 c22478)), (50, (.int .i64 (Int.ofNat k22487))), (51, (.slice (some ⟨2, 0, some 1⟩) n22477 c22478)), (52, (.int .i64 (Int.ofNat k22487))), (53, (.pointer (some ⟨2, (0 + k22487 * 1), none⟩))), (54, (.int .i64 x22492)), (55, (.slice (some ⟨2, 0, some 1⟩) n22477 c22478)), (56, (.int .i64 (Int.ofNat k22494))), (57, (.pointer (some ⟨2, (0 + k22494 * 1), none⟩))), (58, (.int .i64 x22499)), (59, (.pointer (some ⟨2, (0 + k22494 * 1), none⟩))), (60, (.pointer (some ⟨2, (0 + k22487 * 1), none⟩)))])) (H' := (⟨3, objTr [(.cells tab0 true false []), (.cells [(.int .i64 z22483), (Sl.v 2 s22484)] false false []), (.cells (setL ([(.int .i64 x22499)] : List Value) (0 + k22487 * 1) (setL ([(.int .i64 x22492)] : List Value) (0 + k22494 * 1) q22485)) false false [])] 0 .nil, true⟩ : AHeap)) (evOps_cut 6 (by kernel_rfl) (evOps_data (keep (⟨3, objTr [(.cells tab0 true false []), (.cells [(.int .i64 z22483), (Sl.v 2 s22484)] false false []), (.cells q22485 false false [])] 0 .nil, true⟩ : AHeap) (bb (an (Nat.blt k22487 n22477) true) (some (.pointer (some ⟨2, (0 + k22487 * 1), none⟩))) none)) (by kernel_rfl) (keep_bb h22489) (okAt_of (by kernel_rfl) (by kernel_rfl)) (evOps_data (keep (⟨3, objTr [(.cells tab0 true false []), (.cells [(.int .i64 z22483), (Sl.v 2 s22484)] false false []), (.cells q22485 false false [])] 0 .nil, true⟩ : AHeap) (nthL q22485 (0 + k22487 * 1))) (by kernel_rfl) (keep_eq h22491) (okAt_of (by kernel_rfl) (by kernel_rfl)) (evOps_cut 2 (by kernel_rfl) (evOps_data (keep (⟨3, objTr [(.cells tab0 true false []), (.cells [(.int .i64 z22483), (Sl.v 2 s22484)] false false []), (.cells q22485 false false [])] 0 .nil, true⟩ : AHeap) (bb (an (Nat.blt k22494 n22477) true) (some (.pointer (some ⟨2, (0 + k22494 * 1), none⟩))) none)) (by kernel_rfl) (keep_bb h22496) (okAt_of (by kernel_rfl) (by kernel_rfl)) (evOps_data (keep (⟨3, objTr [(.cells tab0 true false []), (.cells [(.int .i64 z22483), (Sl.v 2 s22484)] false false []), (.cells q22485 false false [])] 0 .nil, true⟩ : AHeap) (nthL q22485 (0 + k22494 * 1))) (by kernel_rfl) (keep_eq h22498) (okAt_of (by kernel_rfl) (by kernel_rfl)) (evOps_data (keep (⟨3, objTr [(.cells tab0 true false []), (.cells [(.int .i64 z22483), (Sl.v 2 s22484)] false false []), (.cells q22485 false false [])] 0 .nil, true⟩ : AHeap) (bb (an (Nat.blt k22494 n22477) true) (some (.pointer (some ⟨2, (0 + k22494 * 1), none⟩))) none)) (by kernel_rfl) (keep_bb h22501) (okAt_of (by kernel_rfl) (by kernel_rfl)) (evOps_data (done (bb (an (Nat.ble ((0 + k22494 * 1) + 1) (len q22485)) true) (some (⟨3, objTr [(.cells tab0 true false []), (.cells [(.int .i64 z22483), (Sl.v 2 s22484)] false false []), (.cells (setL ([(.int .i64 x22492)] : List Value) (0 + k22494 * 1) q22485) false false [])] 0 .nil, true⟩ : AHeap)) none) undef) (by kernel_rfl) (done_bb h22502) (okAt_of (by kernel_rfl) (by kernel_rfl)) (evOps_data (keep (⟨3, objTr [(.cells tab0 true false []), (.cells [(.int .i64 z22483), (Sl.v 2 s22484)] false false []), (.cells (setL ([(.int .i64 x22492)] : List Value) (0 + k22494 * 1) q22485) false false [])] 0 .nil, true⟩ : AHeap) (bb (an (Nat.blt k22487 n22477) true) (some (.pointer (some ⟨2, (0 + k22487 * 1), none⟩))) none)) (by kernel_rfl) (keep_bb h22503) (okAt_of (by kernel_rfl) (by kernel_rfl)) (evOps_data (done (bb (an (Nat.ble ((0 + k22487 * 1) + 1) (len (setL ([(.int .i64 x22492)] : List Value) (0 + k22494 * 1) q22485))) true) (some (⟨3, objTr [(.cells tab0 true false []), (.cells [(.int .i64 z22483), (Sl.v 2 s22484)] false false []), (.cells (setL ([(.int .i64 x22499)] : List Value) (0 + k22487 * 1) (setL ([(.int .i64 x22492)] : List Value) (0 + k22494 * 1) q22485)) false false [])] 0 .nil, true⟩ : AHeap)) none) undef) (by kernel_rfl) (done_bb h22504) (okAt_of (by kernel_rfl) (by kernel_rfl)) (by kernel_rfl))))))))))) ?_
              have hq := bb_inv hm; clear hm; obtain ⟨h22505, hm⟩ := hq
              exact ⟨(z22476, n22477, c22478, z22479, z22483, s22484, (setL ([(.int .i64 x22499)] : List Value) (0 + k22487 * 1) (setL ([(.int .i64 x22492)] : List Value) (0 + k22494 * 1) q22485))), hm, (.gc [2] [false] [.tmp 3 false, .tmp 7 false] [2, 3, 7, 8] (by kernel_rfl) ⟨trE (by kernel_rfl) h22505, trivial⟩ (by kernel_rfl))⟩
            · refine .ifF b22482 (by kernel_rfl) h22486 ?_
              refine .skip ?_
              have hq := bb_inv hm; clear hm; obtain ⟨h22506, hm⟩ := hq
              exact ⟨(z22476, n22477, c22478, z22479, z22483, s22484, q22485), hm, (.gc [2] [false] [.tmp 3 false, .tmp 7 false] [2, 3, 7, 8] (by kernel_rfl) ⟨trE (by kernel_rfl) h22506, trivial⟩ (by kernel_rfl))⟩
          · skip
            have hq := bb_cases hm; clear hm; rcases hq with ⟨h22507, hm⟩ | ⟨h22507, hm⟩
            · skip
              have hq := oo_inv hm; clear hm; obtain ⟨k22508, h22509, hm⟩ := hq
              obtain rfl := toN_some h22509
              have hq := bb_inv hm; clear hm; obtain ⟨h22510, hm⟩ := hq
              have hq := oo_inv hm; clear hm; obtain ⟨v22511, h22512, hm⟩ := hq
              have hq := oo_inv hm; clear hm; obtain ⟨x22513, h22514, hm⟩ := hq
              obtain rfl := toI_some h22514
              have hq := oo_inv hm; clear hm; obtain ⟨k22515, h22516, hm⟩ := hq
              obtain rfl := toN_some h22516
              have hq := bb_inv hm; clear hm; obtain ⟨h22517, hm⟩ := hq
              have hq := oo_inv hm; clear hm; obtain ⟨v22518, h22519, hm⟩ := hq
              have hq := oo_inv hm; clear hm; obtain ⟨x22520, h22521, hm⟩ := hq
              obtain rfl := toI_some h22521
              refine .reg (F' := (Fr.puts (⟨62, frTr [(2, (.int .i64 z11551)), (3, (.pointer (some ⟨1, 0, none⟩))), (7, (.slice (some ⟨2, 0, some 1⟩) n11552 c11553)), (8, (.int .i64 (Int.ofNat k21849))), (9, (.int .i64 (Int.ofNat k22508))), (10, (.int .i64 (Int.ofNat k22515)))] .nil⟩ : Fr) [(33, (.int .i64 (Int.ofNat k21849))), (34, (.int .i64 z11551)), (35, (.bool true)), (36, (.bool true)), (37, (.slice (some ⟨2, 0, some 1⟩) n11552 c11553)), (38, (.int .i64 (Int.ofNat k22508))), (39, (.pointer (some ⟨2, (0 + k22508 * 1), none⟩))), (40, (.int .i64 x22513)), (41, (.slice (some ⟨2, 0, some 1⟩) n11552 c11553)), (42, (.int .i64 (Int.ofNat k22515))), (43, (.pointer (some ⟨2, (0 + k22515 * 1), none⟩))), (44, (.int .i64 x22520)), (45, (.bool (ilt x22520 x22513))), (46, (.bool (ilt x22520 x22513)))])) (H' := (⟨3, objTr [(.cells tab0 true false []), (.cells [(.int .i64 z11555), (Sl.v 2 s11556)] false false []), (.cells q11557 false false [])] 0 .nil, true⟩ : AHeap)) (evOps_cut 2 (by kernel_rfl) (evOps_data (some ((.bool (nt (ieq (Int.ofNat k21849) z11551))), (⟨3, objTr [(.cells tab0 true false []), (.cells [(.int .i64 z11555), (Sl.v 2 s11556)] false false []), (.cells q11557 false false [])] 0 .nil, true⟩ : AHeap))) (by kernel_rfl) (show _ = some ((.bool true), _) from (by rw [h22507])) (okAt_of (by kernel_rfl) (by kernel_rfl)) (evOps_cut 3 (by kernel_rfl) (evOps_data (keep (⟨3, objTr [(.cells tab0 true false []), (.cells [(.int .i64 z11555), (Sl.v 2 s11556)] false false []), (.cells q11557 false false [])] 0 .nil, true⟩ : AHeap) (bb (an (Nat.blt k22508 n11552) true) (some (.pointer (some ⟨2, (0 + k22508 * 1), none⟩))) none)) (by kernel_rfl) (keep_bb h22510) (okAt_of (by kernel_rfl) (by kernel_rfl)) (evOps_data (keep (⟨3, objTr [(.cells tab0 true false []), (.cells [(.int .i64 z11555), (Sl.v 2 s11556)] false false []), (.cells q11557 false false [])] 0 .nil, true⟩ : AHeap) (nthL q11557 (0 + k22508 * 1))) (by kernel_rfl) (keep_eq h22512) (okAt_of (by kernel_rfl) (by kernel_rfl)) (evOps_cut 2 (by kernel_rfl) (evOps_data (keep (⟨3, objTr [(.cells tab0 true false []), (.cells [(.int .i64 z11555), (Sl.v 2 s11556)] false false []), (.cells q11557 false false [])] 0 .nil, true⟩ : AHeap) (bb (an (Nat.blt k22515 n11552) true) (some (.pointer (some ⟨2, (0 + k22515 * 1), none⟩))) none)) (by kernel_rfl) (keep_bb h22517) (okAt_of (by kernel_rfl) (by kernel_rfl)) (evOps_data (keep (⟨3, objTr [(.cells tab0 true false []), (.cells [(.int .i64 z11555), (Sl.v 2 s11556)] false false []), (.cells q11557 false false [])] 0 .nil, true⟩ : AHeap) (nthL q11557 (0 + k22515 * 1))) (by kernel_rfl) (keep_eq h22519) (okAt_of (by kernel_rfl) (by kernel_rfl)) (by kernel_rfl))))))))) ?_
              exact ⟨(z11551, n11552, c11553, (Int.ofNat k21849), (Int.ofNat k22508), (Int.ofNat k22515), (ilt x22520 x22513), z11555, s11556, q11557), hm, (.gc [2] [false] [.tmp 3 false, .tmp 7 false] [2, 3, 7, 8, 9, 10, 46] (by kernel_rfl) ⟨trE (by kernel_rfl) h11558, trivial⟩ (by kernel_rfl))⟩
            · skip
              refine .reg (F' := (Fr.puts (⟨62, frTr [(2, (.int .i64 z11551)), (3, (.pointer (some ⟨1, 0, none⟩))), (7, (.slice (some ⟨2, 0, some 1⟩) n11552 c11553)), (8, (.int .i64 (Int.ofNat k21849))), (9, (.int .i64 x21854)), (10, (.int .i64 x21859))] .nil⟩ : Fr) [(33, (.int .i64 (Int.ofNat k21849))), (34, (.int .i64 z11551)), (35, (.bool false)), (36, (.bool false)), (37, (.tuple ⟨[]⟩)), (38, (.tuple ⟨[]⟩)), (39, (.tuple ⟨[]⟩)), (40, (.tuple ⟨[]⟩)), (41, (.tuple ⟨[]⟩)), (42, (.tuple ⟨[]⟩)), (43, (.tuple ⟨[]⟩)), (44, (.tuple ⟨[]⟩)), (45, (.tuple ⟨[]⟩)), (46, (.bool false))])) (H' := (⟨3, objTr [(.cells tab0 true false []), (.cells [(.int .i64 z11555), (Sl.v 2 s11556)] false false []), (.cells q11557 false false [])] 0 .nil, true⟩ : AHeap)) (evOps_cut 2 (by kernel_rfl) (evOps_data (some ((.bool (nt (ieq (Int.ofNat k21849) z11551))), (⟨3, objTr [(.cells tab0 true false []), (.cells [(.int .i64 z11555), (Sl.v 2 s11556)] false false []), (.cells q11557 false false [])] 0 .nil, true⟩ : AHeap))) (by kernel_rfl) (show _ = some ((.bool false), _) from (by rw [h22507])) (okAt_of (by kernel_rfl) (by kernel_rfl)) (by kernel_rfl))) ?_
              exact ⟨(z11551, n11552, c11553, (Int.ofNat k21849), x21854, x21859, false, z11555, s11556, q11557), hm, (.gc [2] [false] [.tmp 3 false, .tmp 7 false] [2, 3, 7, 8, 9, 10, 46] (by kernel_rfl) ⟨trE (by kernel_rfl) h11558, trivial⟩ (by kernel_rfl))⟩
      · refine .ifF (ilt z11554 (Int.ofNat (Sl.n s11556))) (by kernel_rfl) h11559 ?_
        refine .exit ?_
        exact ⟨(n11552, c11553, q11557), hm, (.gc [2] [false] [.tmp 7 false] [7] (by kernel_rfl) ⟨trE (by kernel_rfl) h11558, trivial⟩ (by kernel_rfl))⟩
  · skip
    have hq := bb_inv hm; clear hm; obtain ⟨h574, hm⟩ := hq
    refine .reg (F' := (Fr.puts (⟨62, frTr [(1, (Sl.v 1 s569)), (2, (.int .i64 x571)), (3, (.pointer (some ⟨1, 0, none⟩)))] .nil⟩ : Fr) [(11, (.slice (some ⟨2, 0, some 1⟩) 0 1)), (12, (Sl.v 1 s569)), (13, (.slice (some ⟨3, 0, some 1⟩) (0 + (Sl.n s569)) (2 * (0 + (Sl.n s569)) + bb false 1 0))), (7, (.slice (some ⟨3, 0, some 1⟩) (0 + (Sl.n s569)) (2 * (0 + (Sl.n s569)) + bb false 1 0)))])) (H' := (⟨4, objTr [(.cells tab0 true false []), (.cells [(.int .i64 x565), (Sl.v 2 s567)] false false []), (.cells [] false false []), (.cells (takeL ((Sl.n s569) * 1) (Sl.cs s569)) false false [])] 0 .nil, true⟩ : AHeap)) (evOps_cut 2 (by kernel_rfl) (evOps_data (appFs (⟨3, objTr [(.cells tab0 true false []), (.cells [(.int .i64 x565), (Sl.v 2 s567)] false false []), (.cells [] false false [])] 0 .nil, true⟩ : AHeap) 1 8 (.slice (some ⟨2, 0, some 1⟩) 0 1) s569) (by kernel_rfl) (appFs_new h573 h574 (by kernel_rfl)) (okAt_of (by kernel_rfl) (by kernel_rfl)) (by kernel_rfl))) ?_
    have hq := bb_inv hm; clear hm; obtain ⟨h22522, hm⟩ := hq
    refine .ghs (⟨62, frTr [(2, (.int .i64 x571)), (3, (.pointer (some ⟨1, 0, none⟩))), (7, (.slice (some ⟨2, 0, some 1⟩) (0 + (Sl.n s569)) (2 * (0 + (Sl.n s569)) + bb false 1 0)))] .nil⟩ : Fr) (⟨3, objTr [(.cells tab0 true false []), (.cells [(.int .i64 x565), (Sl.v 2 s567)] false false []), (.cells (takeL ((Sl.n s569) * 1) (Sl.cs s569)) false false [])] 0 .nil, true⟩ : AHeap) (.gc [3] [false] [.tmp 3 false, .tmp 7 false] [2, 3, 7] (by kernel_rfl) ⟨trE (by kernel_rfl) h22522, trivial⟩ (by kernel_rfl)) ?_
    refine .join (v := v) (fun y : Nat × Nat × List Value => ((⟨62, frTr [(7, (.slice (some ⟨1, 0, some 1⟩) y.1 y.2.1))] .nil⟩ : Fr), (⟨2, objTr [(.cells tab0 true false []), (.cells y.2.2 false false [])] 0 .nil, true⟩ : AHeap))) (fun y => m30_4 pu n y.1 y.2.1 y.2.2) ?_ ?_
    · rintro ⟨n33494, c33495, q33496⟩ hm
      unfold m30_4 at hm
      refine .then ?_
      refine .reg (F' := (Fr.puts (⟨62, frTr [(7, (.slice (some ⟨1, 0, some 1⟩) n33494 c33495))] .nil⟩ : Fr) [(61, (.slice (some ⟨1, 0, some 1⟩) n33494 c33495)), (6, (.slice (some ⟨1, 0, some 1⟩) n33494 c33495))])) (H' := (⟨2, objTr [(.cells tab0 true false []), (.cells q33496 false false [])] 0 .nil, true⟩ : AHeap)) (by kernel_rfl) ?_
      have hq := bb_inv hm; clear hm; obtain ⟨h33497, hm⟩ := hq
      refine .ghs (⟨62, frTr [(6, (.slice (some ⟨1, 0, some 1⟩) n33494 c33495))] .nil⟩ : Fr) (⟨2, objTr [(.cells tab0 true false []), (.cells q33496 false false [])] 0 .nil, true⟩ : AHeap) (.gc [1] [false] [.tmp 6 false] [6] (by kernel_rfl) ⟨trE (by kernel_rfl) h33497, trivial⟩ (by kernel_rfl)) ?_
      have hq := bb_inv hm; clear hm; obtain ⟨h33498, hm⟩ := hq
      refine .ghs (Fr.puts (⟨62, frTr [(6, (.slice (some ⟨1, 0, some 1⟩) n33494 c33495))] .nil⟩ : Fr) [(6, (Sl.v 1 (Sl.mk n33494 0 (takeL (n33494 * 1) (dropL 0 q33496)))))]) (⟨2, objTr [(.cells tab0 true false []), .dead] 0 .nil, true⟩ : AHeap) (.freezeC 1 6 1 (an (Nat.ble (0 + n33494 * 1) (len q33496)) (allL closed1 (takeL (n33494 * 1) (dropL 0 q33496)))) (F1 := (Fr.puts (⟨62, frTr [(6, (.slice (some ⟨1, 0, some 1⟩) n33494 c33495))] .nil⟩ : Fr) [(6, (Sl.v 1 (Sl.mk n33494 0 (takeL (n33494 * 1) (dropL 0 q33496)))))])) (H1 := (⟨2, objTr [(.cells tab0 true false []), .dead] 0 .nil, true⟩ : AHeap)) (by kernel_rfl) (by kernel_rfl) h33498 (GhS.id _ _)) ?_
      refine .ret ?_
      exact fin_ret (Sl.v 1 (Sl.mk n33494 0 (takeL (n33494 * 1) (dropL 0 q33496)))) (by kernel_rfl) (by kernel_rfl) hm
    · skip
      refine .then ?_
      refine .reg (F' := (Fr.puts (⟨62, frTr [(2, (.int .i64 x571)), (3, (.pointer (some ⟨1, 0, none⟩))), (7, (.slice (some ⟨2, 0, some 1⟩) (0 + (Sl.n s569)) (2 * (0 + (Sl.n s569)) + bb false 1 0)))] .nil⟩ : Fr) [(8, (.int .i64 (0 : Int)))])) (H' := (⟨3, objTr [(.cells tab0 true false []), (.cells [(.int .i64 x565), (Sl.v 2 s567)] false false []), (.cells (takeL ((Sl.n s569) * 1) (Sl.cs s569)) false false [])] 0 .nil, true⟩ : AHeap)) (by kernel_rfl) ?_
      refine .ghs (⟨62, frTr [(2, (.int .i64 x571)), (3, (.pointer (some ⟨1, 0, none⟩))), (7, (.slice (some ⟨2, 0, some 1⟩) (0 + (Sl.n s569)) (2 * (0 + (Sl.n s569)) + bb false 1 0))), (8, (.int .i64 (0 : Int)))] .nil⟩ : Fr) (⟨3, objTr [(.cells tab0 true false []), (.cells [(.int .i64 x565), (Sl.v 2 s567)] false false []), (.cells (takeL ((Sl.n s569) * 1) (Sl.cs s569)) false false [])] 0 .nil, true⟩ : AHeap) (.gc [2] [false] [.tmp 3 false, .tmp 7 false] [2, 3, 7, 8] (by kernel_rfl) ⟨trE (by kernel_rfl) h22522, trivial⟩ (by kernel_rfl)) ?_
      refine .block ?_
      refine .loopM (v := v) (fun y : Int × Nat × Nat × Int × Int × Sl × List Value => ((⟨62, frTr [(2, (.int .i64 y.1)), (3, (.pointer (some ⟨1, 0, none⟩))), (7, (.slice (some ⟨2, 0, some 1⟩) y.2.1 y.2.2.1)), (8, (.int .i64 y.2.2.2.1))] .nil⟩ : Fr), (⟨3, objTr [(.cells tab0 true false []), (.cells [(.int .i64 y.2.2.2.2.1), (Sl.v 2 y.2.2.2.2.2.1)] false false []), (.cells y.2.2.2.2.2.2 false false [])] 0 .nil, true⟩ : AHeap))) (fun w y => l30_5 pu n w y.1 y.2.1 y.2.2.1 y.2.2.2.1 y.2.2.2.2.1 y.2.2.2.2.2.1 y.2.2.2.2.2.2) n ⟨(x571, (0 + (Sl.n s569)), (2 * (0 + (Sl.n s569)) + bb false 1 0), (0 : Int), x565, s567, (takeL ((Sl.n s569) * 1) (Sl.cs s569))), hm, (.gc [2] [false] [.tmp 3 false, .tmp 7 false] [2, 3, 7, 8] (by kernel_rfl) ⟨trE (by kernel_rfl) h22522, trivial⟩ (by kernel_rfl))⟩ (fun _ => rfl) ?_
      rintro w0 ⟨z33499, n33500, c33501, z33502, z33503, s33504, q33505⟩ hm
      refine .then ?_
      refine .then ?_
      refine .reg (F' := (Fr.puts (⟨62, frTr [(2, (.int .i64 z33499)), (3, (.pointer (some ⟨1, 0, none⟩))), (7, (.slice (some ⟨2, 0, some 1⟩) n33500 c33501)), (8, (.int .i64 z33502))] .nil⟩ : Fr) [(14, (.int .i64 z33502)), (15, (.pointer (some ⟨1, 1, none⟩))), (16, (Sl.v 2 s33504)), (17, (.int .i64 (Int.ofNat (Sl.n s33504)))), (18, (.bool (ilt z33502 (Int.ofNat (Sl.n s33504)))))])) (H' := (⟨3, objTr [(.cells tab0 true false []), (.cells [(.int .i64 z33503), (Sl.v 2 s33504)] false false []), (.cells q33505 false false [])] 0 .nil, true⟩ : AHeap)) (by kernel_rfl) ?_
      have hq := bb_inv hm; clear hm; obtain ⟨h33506, hm⟩ := hq
      refine .ghs (⟨62, frTr [(2, (.int .i64 z33499)), (3, (.pointer (some ⟨1, 0, none⟩))), (7, (.slice (some ⟨2, 0, some 1⟩) n33500 c33501)), (8, (.int .i64 z33502)), (18, (.bool (ilt z33502 (Int.ofNat (Sl.n s33504)))))] .nil⟩ : Fr) (⟨3, objTr [(.cells tab0 true false []), (.cells [(.int .i64 z33503), (Sl.v 2 s33504)] false false []), (.cells q33505 false false [])] 0 .nil, true⟩ : AHeap) (.gc [2] [false] [.tmp 3 false, .tmp 7 false] [2, 3, 7, 8, 18] (by kernel_rfl) ⟨trE (by kernel_rfl) h33506, trivial⟩ (by kernel_rfl)) ?_
      have hq := bb_cases hm; clear hm; rcases hq with ⟨h33507, hm⟩ | ⟨h33507, hm⟩
      · refine .ifT (ilt z33502 (Int.ofNat (Sl.n s33504))) (by kernel_rfl) h33507 ?_
        refine .skip ?_
        refine .ghs (⟨62, frTr [(2, (.int .i64 z33499)), (3, (.pointer (some ⟨1, 0, none⟩))), (7, (.slice (some ⟨2, 0, some 1⟩) n33500 c33501)), (8, (.int .i64 z33502))] .nil⟩ : Fr) (⟨3, objTr [(.cells tab0 true false []), (.cells [(.int .i64 z33503), (Sl.v 2 s33504)] false false []), (.cells q33505 false false [])] 0 .nil, true⟩ : AHeap) (.gc [2] [false] [.tmp 3 false, .tmp 7 false] [2, 3, 7, 8] (by kernel_rfl) ⟨trE (by kernel_rfl) h33506, trivial⟩ (by kernel_rfl)) ?_
        refine .join (v := v) (fun y : Int × Nat × Nat × Int × Int × Sl × List Value => ((⟨62, frTr [(2, (.int .i64 y.1)), (3, (.pointer (some ⟨1, 0, none⟩))), (7, (.slice (some ⟨2, 0, some 1⟩) y.2.1 y.2.2.1)), (8, (.int .i64 y.2.2.2.1))] .nil⟩ : Fr), (⟨3, objTr [(.cells tab0 true false []), (.cells [(.int .i64 y.2.2.2.2.1), (Sl.v 2 y.2.2.2.2.2.1)] false false []), (.cells y.2.2.2.2.2.2 false false [])] 0 .nil, true⟩ : AHeap))) (fun y => m30_6 pu n (l30_5 pu n w0) y.1 y.2.1 y.2.2.1 y.2.2.2.1 y.2.2.2.2.1 y.2.2.2.2.2.1 y.2.2.2.2.2.2) ?_ ?_
        · rintro ⟨z43789, n43790, c43791, z43792, z43793, s43794, q43795⟩ hm
          unfold m30_6 at hm
          refine .reg (F' := (Fr.puts (⟨62, frTr [(2, (.int .i64 z43789)), (3, (.pointer (some ⟨1, 0, none⟩))), (7, (.slice (some ⟨2, 0, some 1⟩) n43790 c43791)), (8, (.int .i64 z43792))] .nil⟩ : Fr) [(19, (.int .i64 z43792)), (20, (.int .i64 (wrapF .i64 (Int.add z43792 (1 : Int))))), (8, (.int .i64 (wrapF .i64 (Int.add z43792 (1 : Int)))))])) (H' := (⟨3, objTr [(.cells tab0 true false []), (.cells [(.int .i64 z43793), (Sl.v 2 s43794)] false false []), (.cells q43795 false false [])] 0 .nil, true⟩ : AHeap)) (by kernel_rfl) ?_
          have hq := bb_inv hm; clear hm; obtain ⟨h43796, hm⟩ := hq
          exact ⟨(z43789, n43790, c43791, (wrapF .i64 (Int.add z43792 (1 : Int))), z43793, s43794, q43795), hm, (.gc [2] [false] [.tmp 3 false, .tmp 7 false] [2, 3, 7, 8] (by kernel_rfl) ⟨trE (by kernel_rfl) h43796, trivial⟩ (by kernel_rfl))⟩
        · skip
          refine .block ?_
          refine .then ?_
          have hq := oo_inv hm; clear hm; obtain ⟨k43797, h43798, hm⟩ := hq
          obtain rfl := toN_some h43798
          have hq := bb_inv hm; clear hm; obtain ⟨h43799, hm⟩ := hq
          have hq := oo_inv hm; clear hm; obtain ⟨v43800, h43801, hm⟩ := hq
          have hq := oo_inv hm; clear hm; obtain ⟨x43802, h43803, hm⟩ := hq
          obtain rfl := toI_some h43803
          have hq := bb_inv hm; clear hm; obtain ⟨h43804, hm⟩ := hq
          have hq := oo_inv hm; clear hm; obtain ⟨v43805, h43806, hm⟩ := hq
          have hq := oo_inv hm; clear hm; obtain ⟨x43807, h43808, hm⟩ := hq
          obtain rfl := toI_some h43808
          refine .reg (F' := (Fr.puts (⟨62, frTr [(2, (.int .i64 z33499)), (3, (.pointer (some ⟨1, 0, none⟩))), (7, (.slice (some ⟨2, 0, some 1⟩) n33500 c33501)), (8, (.int .i64 (Int.ofNat k43797)))] .nil⟩ : Fr) [(21, (.pointer (some ⟨1, 1, none⟩))), (22, (Sl.v 2 s33504)), (23, (.int .i64 (Int.ofNat k43797))), (24, (fpV (k43797 * 2) (Sl.cs s33504))), (25, (fpV ((k43797 * 2) + 0) (Sl.cs s33504))), (26, (.int .i64 x43802)), (27, (.pointer (some ⟨1, 1, none⟩))), (28, (Sl.v 2 s33504)), (29, (.int .i64 (Int.ofNat k43797))), (30, (fpV (k43797 * 2) (Sl.cs s33504))), (31, (fpV ((k43797 * 2) + 1) (Sl.cs s33504))), (32, (.int .i64 x43807)), (9, (.int .i64 x43802)), (10, (.int .i64 x43807))])) (H' := (⟨3, objTr [(.cells tab0 true false []), (.cells [(.int .i64 z33503), (Sl.v 2 s33504)] false false []), (.cells q33505 false false [])] 0 .nil, true⟩ : AHeap)) (evOps_cut 3 (by kernel_rfl) (evOps_data (keep (⟨3, objTr [(.cells tab0 true false []), (.cells [(.int .i64 z33503), (Sl.v 2 s33504)] false false []), (.cells q33505 false false [])] 0 .nil, true⟩ : AHeap) (bb (an (Nat.blt k43797 (Sl.n s33504)) true) (some (fpV (k43797 * 2) (Sl.cs s33504))) none)) (by kernel_rfl) (keep_bb h43799) (okAt_of (by kernel_rfl) (by kernel_rfl)) (evOps_cut 1 (by kernel_rfl) (evOps_data (keep (⟨3, objTr [(.cells tab0 true false []), (.cells [(.int .i64 z33503), (Sl.v 2 s33504)] false false []), (.cells q33505 false false [])] 0 .nil, true⟩ : AHeap) (nthL (Sl.cs s33504) ((k43797 * 2) + 0))) (by kernel_rfl) (keep_eq h43801) (okAt_of (by kernel_rfl) (by kernel_rfl)) (evOps_cut 3 (by kernel_rfl) (evOps_data (keep (⟨3, objTr [(.cells tab0 true false []), (.cells [(.int .i64 z33503), (Sl.v 2 s33504)] false false []), (.cells q33505 false false [])] 0 .nil, true⟩ : AHeap) (bb (an (Nat.blt k43797 (Sl.n s33504)) true) (some (fpV (k43797 * 2) (Sl.cs s33504))) none)) (by kernel_rfl) (keep_bb h43804) (okAt_of (by kernel_rfl) (by kernel_rfl)) (evOps_cut 1 (by kernel_rfl) (evOps_data (keep (⟨3, objTr [(.cells tab0 true false []), (.cells [(.int .i64 z33503), (Sl.v 2 s33504)] false false []), (.cells q33505 false false [])] 0 .nil, true⟩ : AHeap) (nthL (Sl.cs s33504) ((k43797 * 2) + 1))) (by kernel_rfl) (keep_eq h43806) (okAt_of (by kernel_rfl) (by kernel_rfl)) (by kernel_rfl))))))))) ?_
          refine .ghs (⟨62, frTr [(2, (.int .i64 z33499)), (3, (.pointer (some ⟨1, 0, none⟩))), (7, (.slice (some ⟨2, 0, some 1⟩) n33500 c33501)), (8, (.int .i64 (Int.ofNat k43797))), (9, (.int .i64 x43802)), (10, (.int .i64 x43807))] .nil⟩ : Fr) (⟨3, objTr [(.cells tab0 true false []), (.cells [(.int .i64 z33503), (Sl.v 2 s33504)] false false []), (.cells q33505 false false [])] 0 .nil, true⟩ : AHeap) (.gc [2] [false] [.tmp 3 false, .tmp 7 false] [2, 3, 7, 8, 9, 10] (by kernel_rfl) ⟨trE (by kernel_rfl) h33506, trivial⟩ (by kernel_rfl)) ?_
          refine .join (v := v) (fun y : Int × Nat × Nat × Int × Int × Int × Bool × Int × Sl × List Value => ((⟨62, frTr [(2, (.int .i64 y.1)), (3, (.pointer (some ⟨1, 0, none⟩))), (7, (.slice (some ⟨2, 0, some 1⟩) y.2.1 y.2.2.1)), (8, (.int .i64 y.2.2.2.1)), (9, (.int .i64 y.2.2.2.2.1)), (10, (.int .i64 y.2.2.2.2.2.1)), (46, (.bool y.2.2.2.2.2.2.1))] .nil⟩ : Fr), (⟨3, objTr [(.cells tab0 true false []), (.cells [(.int .i64 y.2.2.2.2.2.2.2.1), (Sl.v 2 y.2.2.2.2.2.2.2.2.1)] false false []), (.cells y.2.2.2.2.2.2.2.2.2 false false [])] 0 .nil, true⟩ : AHeap))) (fun y => m30_7 pu n (l30_5 pu n w0) y.1 y.2.1 y.2.2.1 y.2.2.2.1 y.2.2.2.2.1 y.2.2.2.2.2.1 y.2.2.2.2.2.2.1 y.2.2.2.2.2.2.2.1 y.2.2.2.2.2.2.2.2.1 y.2.2.2.2.2.2.2.2.2) ?_ ?_
          · rintro ⟨z44424, n44425, c44426, z44427, z44428, z44429, b44430, z44431, s44432, q44433⟩ hm
            unfold m30_7 at hm
            have hq := bb_cases hm; clear hm; rcases hq with ⟨h44434, hm⟩ | ⟨h44434, hm⟩
            · refine .ifT b44430 (by kernel_rfl) h44434 ?_
              have hq := oo_inv hm; clear hm; obtain ⟨k44435, h44436, hm⟩ := hq
              obtain rfl := toN_some h44436
              have hq := bb_inv hm; clear hm; obtain ⟨h44437, hm⟩ := hq
              have hq := oo_inv hm; clear hm; obtain ⟨v44438, h44439, hm⟩ := hq
              have hq := oo_inv hm; clear hm; obtain ⟨x44440, h44441, hm⟩ := hq
              obtain rfl := toI_some h44441
              have hq := oo_inv hm; clear hm; obtain ⟨k44442, h44443, hm⟩ := hq
              obtain rfl := toN_some h44443
              have hq := bb_inv hm; clear hm; obtain ⟨h44444, hm⟩ := hq
              have hq := oo_inv hm; clear hm; obtain ⟨v44445, h44446, hm⟩ := hq
              have hq := oo_inv hm; clear hm; obtain ⟨x44447, h44448, hm⟩ := hq
              obtain rfl := toI_some h44448
              have hq := bb_inv hm; clear hm; obtain ⟨h44449, hm⟩ := hq
              have hq := bb_inv hm; clear hm; obtain ⟨h44450, hm⟩ := hq
              have hq := bb_inv hm; clear hm; obtain ⟨h44451, hm⟩ := hq
              have hq := bb_inv hm; clear hm; obtain ⟨h44452, hm⟩ := hq
              refine .reg (F' := (Fr.puts (⟨62, frTr [(2, (.int .i64 z44424)), (3, (.pointer (some ⟨1, 0, none⟩))), (7, (.slice (some ⟨2, 0, some 1⟩) n44425 c44426)), (8, (.int .i64 z44427)), (9, (.int .i64 (Int.ofNat k44442))), (10, (.int .i64 (Int.ofNat k44435))), (46, (.bool b44430))] .nil⟩ : Fr) [(47, (.slice (some ⟨2, 0, some 1⟩) n44425 c44426)), (48, (.int .i64 (Int.ofNat k44442))), (49, (.slice (some ⟨2, 0, some 1⟩) n44425 c44426)), (50, (.int .i64 (Int.ofNat k44435))), (51, (.slice (some ⟨2, 0, some 1⟩) n44425 c44426)), (52, (.int .i64 (Int.ofNat k44435))), (53, (.pointer (some ⟨2, (0 + k44435 * 1), none⟩))), (54, (.int .i64 x44440)), (55, (.slice (some ⟨2, 0, some 1⟩) n44425 c44426)), (56, (.int .i64 (Int.ofNat k44442))), (57, (.pointer (some ⟨2, (0 + k44442 * 1), none⟩))), (58, (.int .i64 x44447)), (59, (.pointer (some ⟨2, (0 + k44442 * 1), none⟩))), (60, (.pointer (some ⟨2, (0 + k44435 * 1), none⟩)))])) (H' := (⟨3, objTr [(.cells tab0 true false []), (.cells [(.int .i64 z44431), (Sl.v 2 s44432)] false false []), (.cells (setL ([(.int .i64 x44447)] : List Value) (0 + k44435 * 1) (setL ([(.int .i64 x44440)] : List Value) (0 + k44442 * 1) q44433)) false false [])] 0 .nil, true⟩ : AHeap)) (evOps_cut 6 (by kernel_rfl) (evOps_data (keep (⟨3, objTr [(.cells tab0 true false []), (.cells [(.int .i64 z44431), (Sl.v 2 s44432)] false false []), (.cells q44433 false false [])] 0 .nil, true⟩ : AHeap) (bb (an (Nat.blt k44435 n44425) true) (some (.pointer (some ⟨2, (0 + k44435 * 1), none⟩))) none)) (by kernel_rfl) (keep_bb h44437) (okAt_of (by kernel_rfl) (by kernel_rfl)) (evOps_data (keep (⟨3, objTr [(.cells tab0 true false []), (.cells [(.int .i64 z44431), (Sl.v 2 s44432)] false false []), (.cells q44433 false false [])] 0 .nil, true⟩ : AHeap) (nthL q44433 (0 + k44435 * 1))) (by kernel_rfl) (keep_eq h44439) (okAt_of (by kernel_rfl) (by kernel_rfl)) (evOps_cut 2 (by kernel_rfl) (evOps_data (keep (⟨3, objTr [(.cells tab0 true false []), (.cells [(.int .i64 z44431), (Sl.v 2 s44432)] false false []), (.cells q44433 false false [])] 0 .nil, true⟩ : AHeap) (bb (an (Nat.blt k44442 n44425) true) (some (.pointer (some ⟨2, (0 + k44442 * 1), none⟩))) none)) (by kernel_rfl) (keep_bb h44444) (okAt_of (by kernel_rfl) (by kernel_rfl)) (evOps_data (keep (⟨3, objTr [(.cells tab0 true false []), (.cells [(.int .i64 z44431), (Sl.v 2 s44432)] false false []), (.cells q44433 false false [])] 0 .nil, true⟩ : AHeap) (nthL q44433 (0 + k44442 * 1))) (by kernel_rfl) (keep_eq h44446) (okAt_of (by kernel_rfl) (by kernel_rfl)) (evOps_data (keep (⟨3, objTr [(.cells tab0 true false []), (.cells [(.int .i64 z44431), (Sl.v 2 s44432)] false false []), (.cells q44433 false false [])] 0 .nil, true⟩ : AHeap) (bb (an (Nat.blt k44442 n44425) true) (some (.pointer (some ⟨2, (0 + k44442 * 1), none⟩))) none)) (by kernel_rfl) (keep_bb h44449) (okAt_of (by kernel_rfl) (by kernel_rfl)) (evOps_data (done (bb (an (Nat.ble ((0 + k44442 * 1) + 1) (len q44433)) true) (some (⟨3, objTr [(.cells tab0 true false []), (.cells [(.int .i64 z44431), (Sl.v 2 s44432)] false false []), (.cells (setL ([(.int .i64 x44440)] : List Value) (0 + k44442 * 1) q44433) false false [])] 0 .nil, true⟩ : AHeap)) none) undef) (by kernel_rfl) (done_bb h44450) (okAt_of (by kernel_rfl) (by kernel_rfl)) (evOps_data (keep (⟨3, objTr [(.cells tab0 true false []), (.cells [(.int .i64 z44431), (Sl.v 2 s44432)] false false []), (.cells (setL ([(.int .i64 x44440)] : List Value) (0 + k44442 * 1) q44433) false false [])] 0 .nil, true⟩ : AHeap) (bb (an (Nat.blt k44435 n44425) true) (some (.pointer (some ⟨2, (0 + k44435 * 1), none⟩))) none)) (by kernel_rfl) (keep_bb h44451) (okAt_of (by kernel_rfl) (by kernel_rfl)) (evOps_data (done (bb (an (Nat.ble ((0 + k44435 * 1) + 1) (len (setL ([(.int .i64 x44440)] : List Value) (0 + k44442 * 1) q44433))) true) (some (⟨3, objTr [(.cells tab0 true false []), (.cells [(.int .i64 z44431), (Sl.v 2 s44432)] false false []), (.cells (setL ([(.int .i64 x44447)] : List Value) (0 + k44435 * 1) (setL ([(.int .i64 x44440)] : List Value) (0 + k44442 * 1) q44433)) false false [])] 0 .nil, true⟩ : AHeap)) none) undef) (by kernel_rfl) (done_bb h44452) (okAt_of (by kernel_rfl) (by kernel_rfl)) (by kernel_rfl))))))))))) ?_
              have hq := bb_inv hm; clear hm; obtain ⟨h44453, hm⟩ := hq
              exact ⟨(z44424, n44425, c44426, z44427, z44431, s44432, (setL ([(.int .i64 x44447)] : List Value) (0 + k44435 * 1) (setL ([(.int .i64 x44440)] : List Value) (0 + k44442 * 1) q44433))), hm, (.gc [2] [false] [.tmp 3 false, .tmp 7 false] [2, 3, 7, 8] (by kernel_rfl) ⟨trE (by kernel_rfl) h44453, trivial⟩ (by kernel_rfl))⟩
            · refine .ifF b44430 (by kernel_rfl) h44434 ?_
              refine .skip ?_
              have hq := bb_inv hm; clear hm; obtain ⟨h44454, hm⟩ := hq
              exact ⟨(z44424, n44425, c44426, z44427, z44431, s44432, q44433), hm, (.gc [2] [false] [.tmp 3 false, .tmp 7 false] [2, 3, 7, 8] (by kernel_rfl) ⟨trE (by kernel_rfl) h44454, trivial⟩ (by kernel_rfl))⟩
          · skip
            have hq := bb_cases hm; clear hm; rcases hq with ⟨h44455, hm⟩ | ⟨h44455, hm⟩
            · skip
              have hq := oo_inv hm; clear hm; obtain ⟨k44456, h44457, hm⟩ := hq
              obtain rfl := toN_some h44457
              have hq := bb_inv hm; clear hm; obtain ⟨h44458, hm⟩ := hq
              have hq := oo_inv hm; clear hm; obtain ⟨v44459, h44460, hm⟩ := hq
              have hq := oo_inv hm; clear hm; obtain ⟨x44461, h44462, hm⟩ := hq
              obtain rfl := toI_some h44462
              have hq := oo_inv hm; clear hm; obtain ⟨k44463, h44464, hm⟩ := hq
              obtain rfl := toN_some h44464
              have hq := bb_inv hm; clear hm; obtain ⟨h44465, hm⟩ := hq
              have hq := oo_inv hm; clear hm; obtain ⟨v44466, h44467, hm⟩ := hq
              have hq := oo_inv hm; clear hm; obtain ⟨x44468, h44469, hm⟩ := hq
              obtain rfl := toI_some h44469
              refine .reg (F' := (Fr.puts (⟨62, frTr [(2, (.int .i64 z33499)), (3, (.pointer (some ⟨1, 0, none⟩))), (7, (.slice (some ⟨2, 0, some 1⟩) n33500 c33501)), (8, (.int .i64 (Int.ofNat k43797))), (9, (.int .i64 (Int.ofNat k44456))), (10, (.int .i64 (Int.ofNat k44463)))] .nil⟩ : Fr) [(33, (.int .i64 (Int.ofNat k43797))), (34, (.int .i64 z33499)), (35, (.bool true)), (36, (.bool true)), (37, (.slice (some ⟨2, 0, some 1⟩) n33500 c33501)), (38, (.int .i64 (Int.ofNat k44456))), (39, (.pointer (some ⟨2, (0 + k44456 * 1), none⟩))), (40, (.int .i64 x44461)), (41, (.slice (some ⟨2, 0, some 1⟩) n33500 c33501)), (42, (.int .i64 (Int.ofNat k44463))), (43, (.pointer (some ⟨2, (0 + k44463 * 1), none⟩))), (44, (.int .i64 x44468)), (45, (.bool (ilt x44468 x44461))), (46, (.bool (ilt x44468 x44461)))])) (H' := (⟨3, objTr [(.cells tab0 true false []), (.cells [(.int .i64 z33503), (Sl.v 2 s33504)] false false []), (.cells q33505 false false [])] 0 .nil, true⟩ : AHeap)) (evOps_cut 2 (by kernel_rfl) (evOps_data (some ((.bool (nt (ieq (Int.ofNat k43797) z33499))), (⟨3, objTr [(.cells tab0 true false []), (.cells [(.int .i64 z33503), (Sl.v 2 s33504)] false false []), (.cells q33505 false false [])] 0 .nil, true⟩ : AHeap))) (by kernel_rfl) (show _ = some ((.bool true), _) from (by rw [h44455])) (okAt_of (by kernel_rfl) (by kernel_rfl)) (evOps_cut 3 (by kernel_rfl) (evOps_data (keep (⟨3, objTr [(.cells tab0 true false []), (.cells [(.int .i64 z33503), (Sl.v 2 s33504)] false false []), (.cells q33505 false false [])] 0 .nil, true⟩ : AHeap) (bb (an (Nat.blt k44456 n33500) true) (some (.pointer (some ⟨2, (0 + k44456 * 1), none⟩))) none)) (by kernel_rfl) (keep_bb h44458) (okAt_of (by kernel_rfl) (by kernel_rfl)) (evOps_data (keep (⟨3, objTr [(.cells tab0 true false []), (.cells [(.int .i64 z33503), (Sl.v 2 s33504)] false false []), (.cells q33505 false false [])] 0 .nil, true⟩ : AHeap) (nthL q33505 (0 + k44456 * 1))) (by kernel_rfl) (keep_eq h44460) (okAt_of (by kernel_rfl) (by kernel_rfl)) (evOps_cut 2 (by kernel_rfl) (evOps_data (keep (⟨3, objTr [(.cells tab0 true false []), (.cells [(.int .i64 z33503), (Sl.v 2 s33504)] false false []), (.cells q33505 false false [])] 0 .nil, true⟩ : AHeap) (bb (an (Nat.blt k44463 n33500) true) (some (.pointer (some ⟨2, (0 + k44463 * 1), none⟩))) none)) (by kernel_rfl) (keep_bb h44465) (okAt_of (by kernel_rfl) (by kernel_rfl)) (evOps_data (keep (⟨3, objTr [(.cells tab0 true false []), (.cells [(.int .i64 z33503), (Sl.v 2 s33504)] false false []), (.cells q33505 false false [])] 0 .nil, true⟩ : AHeap) (nthL q33505 (0 + k44463 * 1))) (by kernel_rfl) (keep_eq h44467) (okAt_of (by kernel_rfl) (by kernel_rfl)) (by kernel_rfl))))))))) ?_
              exact ⟨(z33499, n33500, c33501, (Int.ofNat k43797), (Int.ofNat k44456), (Int.ofNat k44463), (ilt x44468 x44461), z33503, s33504, q33505), hm, (.gc [2] [false] [.tmp 3 false, .tmp 7 false] [2, 3, 7, 8, 9, 10, 46] (by kernel_rfl) ⟨trE (by kernel_rfl) h33506, trivial⟩ (by kernel_rfl))⟩
            · skip
              refine .reg (F' := (Fr.puts (⟨62, frTr [(2, (.int .i64 z33499)), (3, (.pointer (some ⟨1, 0, none⟩))), (7, (.slice (some ⟨2, 0, some 1⟩) n33500 c33501)), (8, (.int .i64 (Int.ofNat k43797))), (9, (.int .i64 x43802)), (10, (.int .i64 x43807))] .nil⟩ : Fr) [(33, (.int .i64 (Int.ofNat k43797))), (34, (.int .i64 z33499)), (35, (.bool false)), (36, (.bool false)), (37, (.tuple ⟨[]⟩)), (38, (.tuple ⟨[]⟩)), (39, (.tuple ⟨[]⟩)), (40, (.tuple ⟨[]⟩)), (41, (.tuple ⟨[]⟩)), (42, (.tuple ⟨[]⟩)), (43, (.tuple ⟨[]⟩)), (44, (.tuple ⟨[]⟩)), (45, (.tuple ⟨[]⟩)), (46, (.bool false))])) (H' := (⟨3, objTr [(.cells tab0 true false []), (.cells [(.int .i64 z33503), (Sl.v 2 s33504)] false false []), (.cells q33505 false false [])] 0 .nil, true⟩ : AHeap)) (evOps_cut 2 (by kernel_rfl) (evOps_data (some ((.bool (nt (ieq (Int.ofNat k43797) z33499))), (⟨3, objTr [(.cells tab0 true false []), (.cells [(.int .i64 z33503), (Sl.v 2 s33504)] false false []), (.cells q33505 false false [])] 0 .nil, true⟩ : AHeap))) (by kernel_rfl) (show _ = some ((.bool false), _) from (by rw [h44455])) (okAt_of (by kernel_rfl) (by kernel_rfl)) (by kernel_rfl))) ?_
              exact ⟨(z33499, n33500, c33501, (Int.ofNat k43797), x43802, x43807, false, z33503, s33504, q33505), hm, (.gc [2] [false] [.tmp 3 false, .tmp 7 false] [2, 3, 7, 8, 9, 10, 46] (by kernel_rfl) ⟨trE (by kernel_rfl) h33506, trivial⟩ (by kernel_rfl))⟩
      · refine .ifF (ilt z33502 (Int.ofNat (Sl.n s33504))) (by kernel_rfl) h33507 ?_
        refine .exit ?_
        exact ⟨(n33500, c33501, q33505), hm, (.gc [2] [false] [.tmp 7 false] [7] (by kernel_rfl) ⟨trE (by kernel_rfl) h33506, trivial⟩ (by kernel_rfl))⟩
end
end Go.TabRM
