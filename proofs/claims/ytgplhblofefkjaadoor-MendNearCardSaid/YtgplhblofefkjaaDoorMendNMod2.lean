/- Models of the program's functions, and the proofs that runs give them: MADE BY PROGRAM (wip/tools/dec.py). -/
import Derived.Test.YtgplhblofefkjaaDoorMendNMod1x

set_option maxRecDepth 100000
set_option linter.unusedVariables false
namespace Go.MendNM
open Go.Sp Go.MendN
noncomputable section
/-- spadille/mend.Check -/
def o21_0 : List ROp := [
  ⟨(some 1), .box 24 (.tmp 0), 0, none, []⟩,
  ⟨(some 2), .assign (.const (.int .i64 0)), 28, none, []⟩]
def c21_0 : RC := .reg [] o21_0
def o21_1 : List ROp := [
  ⟨(some 8), .fieldAddr 24 (.tmp 1) 0, 0, none, []⟩,
  ⟨(some 9), .load 3 (.tmp 8), 3, none, []⟩,
  ⟨(some 10), .call ⟨.value (.func 60), #[(.const (.int .i64 1)), (.tmp 9), (.const (.int .i64 5))], #[3, 3, 3]⟩, 4, none, []⟩,
  ⟨(some 11), .unOp .not 4 (.tmp 10), 4, none, []⟩,
  ⟨(some 7), .assign (.tmp 11), 4, none, []⟩]
def c21_1 : RC := .reg [] o21_1
def o21_2 : List ROp := [
  ⟨(some 2), .assign (.const (.int .i64 1)), 28, none, []⟩]
def c21_2 : RC := .reg [] o21_2
def c21_3 : RC := .seq c21_2 .ret
def o21_4 : List ROp := [
  ⟨(some 13), .fieldAddr 24 (.tmp 1) 1, 0, none, []⟩,
  ⟨(some 14), .load 22 (.tmp 13), 22, none, []⟩,
  ⟨(some 15), .call ⟨.builtin .len, #[(.tmp 14)], #[22]⟩, 3, none, []⟩,
  ⟨(some 16), .binOp .eql 3 (.tmp 15) (.const (.int .i64 0)) 3, 4, none, []⟩,
  ⟨(some 12), .assign (.tmp 16), 4, none, []⟩]
def c21_4 : RC := .reg [] o21_4
def o21_5 : List ROp := [
  ⟨(some 2), .assign (.const (.int .i64 4)), 28, none, []⟩]
def c21_5 : RC := .reg [] o21_5
def c21_6 : RC := .seq c21_5 .ret
def o21_7 : List ROp := [
  ⟨(some 18), .fieldAddr 24 (.tmp 1) 1, 0, none, []⟩,
  ⟨(some 19), .load 22 (.tmp 18), 22, none, []⟩,
  ⟨(some 20), .call ⟨.builtin .len, #[(.tmp 19)], #[22]⟩, 3, none, []⟩,
  ⟨(some 21), .binOp .gtr 3 (.tmp 20) (.const (.int .i64 10)) 3, 4, none, []⟩,
  ⟨(some 17), .assign (.tmp 21), 4, none, []⟩]
def c21_7 : RC := .reg [] o21_7
def o21_8 : List ROp := [
  ⟨(some 2), .assign (.const (.int .i64 3)), 28, none, []⟩]
def c21_8 : RC := .reg [] o21_8
def c21_9 : RC := .seq c21_8 .ret
def o21_10 : List ROp := [
  ⟨(some 23), .fieldAddr 24 (.tmp 1) 2, 0, none, []⟩,
  ⟨(some 24), .load 22 (.tmp 23), 22, none, []⟩,
  ⟨(some 25), .call ⟨.builtin .len, #[(.tmp 24)], #[22]⟩, 3, none, []⟩,
  ⟨(some 26), .fieldAddr 24 (.tmp 1) 1, 0, none, []⟩,
  ⟨(some 27), .load 22 (.tmp 26), 22, none, []⟩,
  ⟨(some 28), .call ⟨.builtin .len, #[(.tmp 27)], #[22]⟩, 3, none, []⟩,
  ⟨(some 29), .binOp .neq 3 (.tmp 25) (.tmp 28) 3, 4, none, []⟩,
  ⟨(some 22), .assign (.tmp 29), 4, none, []⟩]
def c21_10 : RC := .reg [] o21_10
def o21_11 : List ROp := [
  ⟨(some 2), .assign (.const (.int .i64 5)), 28, none, []⟩]
def c21_11 : RC := .reg [] o21_11
def c21_12 : RC := .seq c21_11 .ret
def c21_13 : RC := .cond (.tmp 22) c21_12 .skip
def c21_14 : RC := .seq c21_10 c21_13
def c21_15 : RC := .cond (.tmp 17) c21_9 c21_14
def c21_16 : RC := .seq c21_7 c21_15
def c21_17 : RC := .cond (.tmp 12) c21_6 c21_16
def c21_18 : RC := .seq c21_4 c21_17
def c21_19 : RC := .cond (.tmp 7) c21_3 c21_18
def c21_20 : RC := .seq c21_1 c21_19
def c21_21 : RC := .block 0 c21_20
def o21_22 : List ROp := [
  ⟨(some 3), .alloc 87, 0, none, []⟩]
def c21_22 : RC := .reg [] o21_22
def o21_23 : List ROp := [
  ⟨(some 30), .fieldAddr 24 (.tmp 1) 1, 0, none, []⟩,
  ⟨(some 31), .load 22 (.tmp 30), 22, none, []⟩,
  ⟨(some 32), .call ⟨.builtin .len, #[(.tmp 31)], #[22]⟩, 3, none, []⟩,
  ⟨(some 33), .move (.const (.int .i64 0)), 3, none, []⟩]
def c21_23 : RC := .reg [] o21_23
def o21_24 : List ROp := [
  ⟨(some 34), .binOp .lss 3 (.tmp 33) (.tmp 32) 3, 0, none, []⟩]
def c21_24 : RC := .reg [] o21_24
def c21_25 : RC := .cond (.tmp 34) .skip (.exit 1)
def o21_26 : List ROp := [
  ⟨(some 35), .move (.tmp 33), 3, none, []⟩,
  ⟨(some 36), .indexAddr 22 (.tmp 31) (.tmp 33), 0, none, []⟩,
  ⟨(some 37), .load 3 (.tmp 36), 3, none, []⟩,
  ⟨(some 4), .assign (.tmp 35), 3, none, []⟩,
  ⟨(some 5), .assign (.tmp 37), 3, none, []⟩]
def c21_26 : RC := .reg [] o21_26
def o21_27 : List ROp := [
  ⟨(some 38), .fieldAddr 24 (.tmp 1) 2, 0, none, []⟩,
  ⟨(some 39), .load 22 (.tmp 38), 22, none, []⟩,
  ⟨(some 40), .move (.tmp 4), 3, none, []⟩,
  ⟨(some 41), .indexAddr 22 (.tmp 39) (.tmp 40), 0, none, []⟩,
  ⟨(some 42), .load 3 (.tmp 41), 3, none, []⟩,
  ⟨(some 6), .assign (.tmp 42), 3, none, []⟩]
def c21_27 : RC := .reg [] o21_27
def o21_28 : List ROp := [
  ⟨(some 43), .move (.tmp 5), 3, none, []⟩,
  ⟨(some 44), .move (.tmp 6), 3, none, []⟩,
  ⟨(some 45), .call ⟨.builtin .min, #[(.tmp 43), (.tmp 44)], #[3, 3]⟩, 3, none, []⟩,
  ⟨(some 46), .fieldAddr 24 (.tmp 1) 0, 0, none, []⟩,
  ⟨(some 47), .load 3 (.tmp 46), 3, none, []⟩,
  ⟨(some 48), .binOp .sub 3 (.tmp 47) (.const (.int .i64 1)) 3, 3, none, []⟩,
  ⟨(some 49), .call ⟨.value (.func 60), #[(.const (.int .i64 0)), (.tmp 45), (.tmp 48)], #[3, 3, 3]⟩, 4, none, []⟩,
  ⟨(some 50), .unOp .not 4 (.tmp 49), 4, none, []⟩,
  ⟨(some 51), .move (.tmp 50), 4, none, []⟩,
  ⟨(some 52), .move (.tmp 5), 3, (some ((some 51), false)), []⟩,
  ⟨(some 53), .move (.tmp 6), 3, (some ((some 51), false)), []⟩,
  ⟨(some 54), .call ⟨.builtin .max, #[(.tmp 52), (.tmp 53)], #[3, 3]⟩, 3, (some ((some 51), false)), []⟩,
  ⟨(some 55), .fieldAddr 24 (.tmp 1) 0, 0, (some ((some 51), false)), []⟩,
  ⟨(some 56), .load 3 (.tmp 55), 3, (some ((some 51), false)), []⟩,
  ⟨(some 57), .binOp .geq 3 (.tmp 54) (.tmp 56) 3, 4, (some ((some 51), false)), []⟩,
  ⟨(some 58), .pick (.tmp 51) (.const (.bool true)) (.tmp 57), 4, none, []⟩]
def c21_28 : RC := .reg [] o21_28
def o21_29 : List ROp := [
  ⟨(some 2), .assign (.const (.int .i64 2)), 28, none, []⟩]
def c21_29 : RC := .reg [] o21_29
def c21_30 : RC := .seq c21_29 .ret
def c21_31 : RC := .cond (.tmp 58) c21_30 .skip
def c21_32 : RC := .seq c21_28 c21_31
def o21_33 : List ROp := [
  ⟨(some 59), .move (.tmp 5), 3, none, []⟩,
  ⟨(some 60), .indexAddr 87 (.tmp 3) (.tmp 59), 0, none, []⟩,
  ⟨(some 61), .load 3 (.tmp 60), 3, none, []⟩,
  ⟨(some 62), .binOp .add 3 (.tmp 61) (.const (.int .i64 1)) 3, 3, none, []⟩,
  ⟨(some 63), .indexAddr 87 (.tmp 3) (.tmp 59), 0, none, []⟩,
  ⟨none, .store 3 (.tmp 63) (.tmp 62), 0, none, []⟩]
def c21_33 : RC := .reg [] o21_33
def o21_34 : List ROp := [
  ⟨(some 64), .move (.tmp 6), 3, none, []⟩,
  ⟨(some 65), .indexAddr 87 (.tmp 3) (.tmp 64), 0, none, []⟩,
  ⟨(some 66), .load 3 (.tmp 65), 3, none, []⟩,
  ⟨(some 67), .binOp .sub 3 (.tmp 66) (.const (.int .i64 1)) 3, 3, none, []⟩,
  ⟨(some 68), .indexAddr 87 (.tmp 3) (.tmp 64), 0, none, []⟩,
  ⟨none, .store 3 (.tmp 68) (.tmp 67), 0, none, []⟩]
def c21_34 : RC := .reg [] o21_34
def c21_35 : RC := .seq c21_33 c21_34
def c21_36 : RC := .seq c21_32 c21_35
def c21_37 : RC := .seq c21_27 c21_36
def c21_38 : RC := .seq c21_26 c21_37
def c21_39 : RC := .block 2 c21_38
def o21_40 : List ROp := [
  ⟨(some 69), .binOp .add 3 (.tmp 33) (.const (.int .i64 1)) 3, 3, none, []⟩,
  ⟨(some 33), .move (.tmp 69), 3, none, []⟩]
def c21_40 : RC := .reg [] o21_40
def c21_41 : RC := .seq c21_39 c21_40
def c21_42 : RC := .seq c21_25 c21_41
def c21_43 : RC := .seq c21_24 c21_42
def c21_44 : RC := .loop c21_43
def c21_45 : RC := .block 1 c21_44
def c21_46 : RC := .seq c21_23 c21_45
def o21_47 : List ROp := [
  ⟨(some 70), .load 87 (.tmp 3), 87, none, []⟩,
  ⟨(some 71), .build 87 #[], 87, none, []⟩,
  ⟨(some 72), .binOp .neq 87 (.tmp 70) (.tmp 71) 87, 4, none, []⟩]
def c21_47 : RC := .reg [] o21_47
def o21_48 : List ROp := [
  ⟨(some 2), .assign (.const (.int .i64 17)), 28, none, []⟩]
def c21_48 : RC := .reg [] o21_48
def c21_49 : RC := .seq c21_48 .ret
def c21_50 : RC := .cond (.tmp 72) c21_49 .skip
def c21_51 : RC := .seq c21_47 c21_50
def o21_52 : List ROp := [
  ⟨(some 2), .assign (.const (.int .i64 0)), 28, none, []⟩]
def c21_52 : RC := .reg [] o21_52
def c21_53 : RC := .seq c21_52 .ret
def c21_54 : RC := .seq c21_51 c21_53
def c21_55 : RC := .seq c21_46 c21_54
def c21_56 : RC := .seq c21_22 c21_55
def c21_57 : RC := .seq c21_21 c21_56
def c21_58 : RC := .seq c21_0 c21_57
def m21_0 (pu : PureF) (n : Nat) (q313 : List Value) : Option Value :=
  (bb (Nat.ble (0 + 5) (len q313)) (oo (nthL q313 0) none fun v315 => (oo (toI .i64 v315) none fun x317 => (oo (nthL q313 (0 + 1)) none fun v319 => (oo (toI .i64 v319) none fun x321 => (oo (nthL q313 ((0 + 1) + 1)) none fun v323 => (oo (toI .i64 v323) none fun x325 => (oo (nthL q313 (((0 + 1) + 1) + 1)) none fun v327 => (oo (toI .i64 v327) none fun x329 => (oo (nthL q313 ((((0 + 1) + 1) + 1) + 1)) none fun v331 => (oo (toI .i64 v331) none fun x333 => (bb (bq false (an (ieq x317 (0 : Int)) (an (ieq x321 (0 : Int)) (an (ieq x325 (0 : Int)) (an (ieq x329 (0 : Int)) (an (ieq x333 (0 : Int)) true)))))) (some (.int .i64 (17 : Int))) (some (.int .i64 (0 : Int)))))))))))))) none)
def m21_2 (pu : PureF) (n : Nat) (ih0 : Sl → Int → Int → Int → Sl → Sl → List Value → Option Value) (z426 : Int) (z427 : Int) (s428 : Sl) (z429 : Int) (z430 : Int) (b431 : Bool) (z432 : Int) (s433 : Sl) (s434 : Sl) (q435 : List Value) : Option Value :=
  (bb b431 (some (.int .i64 (2 : Int))) (bb (allL closed1 q435) (oo (toN z426) none fun k438 => (bb (Nat.blt k438 5) (oo (nthL q435 (0 + k438 * 1)) none fun v441 => (oo (toI .i64 v441) none fun x443 => (bb (Nat.blt k438 5) (bb (an (Nat.ble ((0 + k438 * 1) + 1) (len q435)) true) (bb (allL closed1 (setL ([(.int .i64 (wrapF .i64 (Int.add x443 (1 : Int))))] : List Value) (0 + k438 * 1) q435)) (oo (toN z427) none fun k448 => (bb (Nat.blt k448 5) (oo (nthL (setL ([(.int .i64 (wrapF .i64 (Int.add x443 (1 : Int))))] : List Value) (0 + k438 * 1) q435) (0 + k448 * 1)) none fun v451 => (oo (toI .i64 v451) none fun x453 => (bb (Nat.blt k448 5) (bb (an (Nat.ble ((0 + k448 * 1) + 1) (len (setL ([(.int .i64 (wrapF .i64 (Int.add x443 (1 : Int))))] : List Value) (0 + k438 * 1) q435))) true) (bb (allL closed1 (setL ([(.int .i64 (wrapF .i64 (Int.sub x453 (1 : Int))))] : List Value) (0 + k448 * 1) (setL ([(.int .i64 (wrapF .i64 (Int.add x443 (1 : Int))))] : List Value) (0 + k438 * 1) q435))) (ih0 s428 z429 (wrapF .i64 (Int.add z430 (1 : Int))) z432 s433 s434 (setL ([(.int .i64 (wrapF .i64 (Int.sub x453 (1 : Int))))] : List Value) (0 + k448 * 1) (setL ([(.int .i64 (wrapF .i64 (Int.add x443 (1 : Int))))] : List Value) (0 + k438 * 1) q435))) none) none) none))) none)) none) none) none))) none)) none))
def b21_1 (pu : PureF) (n : Nat) (ih0 : Sl → Int → Int → Int → Sl → Sl → List Value → Option Value) (s400 : Sl) (z401 : Int) (z402 : Int) (z403 : Int) (s404 : Sl) (s405 : Sl) (q406 : List Value) : Option Value :=
  (bb (allL closed1 q406) (bb (ilt z402 z401) (oo (toN z402) none fun k409 => (bb (an (Nat.blt k409 (Sl.n s400)) true) (oo (nthL (Sl.cs s400) (k409 * 1)) none fun v412 => (oo (toI .i64 v412) none fun x414 => (bb (an (Nat.blt k409 (Sl.n s405)) true) (oo (nthL (Sl.cs s405) (k409 * 1)) none fun v417 => (oo (toI .i64 v417) none fun x419 => (oo (pu 60 [(.int .i64 (0 : Int)), (.int .i64 (bb (ilt x419 x414) x419 x414)), (.int .i64 (wrapF .i64 (Int.sub z403 (1 : Int))))]) none fun v458 => (oo (vBool v458) none fun b460 => (bb (nt b460) (m21_2 pu n ih0 x414 x419 s400 z401 (Int.ofNat k409) true z403 s404 s405 q406) (m21_2 pu n ih0 x414 x419 s400 z401 (Int.ofNat k409) (nt (ilt (bb (ilt x414 x419) x419 x414) z403)) z403 s404 s405 q406)))))) none))) none)) (m21_0 pu n q406)) none)
def l21_1 (pu : PureF) (n : Nat) (w : Nat) : Sl → Int → Int → Int → Sl → Sl → List Value → Option Value :=
  Nat.rec (motive := fun _ => Sl → Int → Int → Int → Sl → Sl → List Value → Option Value) (fun _ _ _ _ _ _ _ => none) (fun _ ih0 => b21_1 pu n ih0) w
def m21_ (pu : PureF) (n : Nat) (x172 : Int) (s174 : Sl) (s176 : Sl) : Option Value :=
  (oo (pu 60 [(.int .i64 (1 : Int)), (.int .i64 x172), (.int .i64 (5 : Int))]) none fun v178 => (oo (vBool v178) none fun b180 => (bb (nt b180) (some (.int .i64 (1 : Int))) (bb (ieq (Int.ofNat (Sl.n s174)) (0 : Int)) (some (.int .i64 (4 : Int))) (bb (ilt (10 : Int) (Int.ofNat (Sl.n s174))) (some (.int .i64 (3 : Int))) (bb (nt (ieq (Int.ofNat (Sl.n s176)) (Int.ofNat (Sl.n s174)))) (some (.int .i64 (5 : Int))) (l21_1 pu n n s174 (Int.ofNat (Sl.n s174)) (0 : Int) x172 s174 s176 ([(.int .i64 (0 : Int)), (.int .i64 (0 : Int)), (.int .i64 (0 : Int)), (.int .i64 (0 : Int)), (.int .i64 (0 : Int))] : List Value))))))))
def m21 (pu : PureF) (n : Nat) (args : List Value) : Option Value :=
  (ll args none fun a0 args => (ll args (oo (vAgg a0) none fun l167 => (ll l167 none fun v169 l167 => (ll l167 none fun v170 l167 => (ll l167 none fun v171 l167 => (ll l167 (oo (toI .i64 v169) none fun x172 => (oo (toSl 1 v170) none fun s174 => (oo (toSl 1 v171) none fun s176 => (m21_ pu n x172 s174 s176)))) fun _ _ => none))))) fun _ _ => none))
theorem r21 {call : CallF} (pu : PureF) (n : Nat) (hcall : call = callP tabs isP pu inl) {args : List Value} {v : Value} (hm : m21 pu n args = some v) (_ : ∀ x ∈ args, closed2 x = true) : args.length ≤ 73 ∧ Run tt call 1 c21_58 (Fr.made 73 args) (pureHeap tabs) (Fin tt 1 [.tmp 2] v) := by
  subst hcall
  unfold m21 at hm
  have hq := ll_uncons hm; clear hm; obtain ⟨a0, args_0, rfl, hm⟩ := hq
  have hq := ll_end hm; clear hm; obtain ⟨rfl, hm⟩ := hq
  have hq := oo_inv hm; clear hm; obtain ⟨l167, h168, hm⟩ := hq
  obtain rfl := vAgg_some h168
  have hq := ll_uncons hm; clear hm; obtain ⟨v169, l167_0, rfl, hm⟩ := hq
  have hq := ll_uncons hm; clear hm; obtain ⟨v170, l167_1, rfl, hm⟩ := hq
  have hq := ll_uncons hm; clear hm; obtain ⟨v171, l167_2, rfl, hm⟩ := hq
  have hq := ll_end hm; clear hm; obtain ⟨rfl, hm⟩ := hq
  have hq := oo_inv hm; clear hm; obtain ⟨x172, h173, hm⟩ := hq
  obtain rfl := toI_some h173
  have hq := oo_inv hm; clear hm; obtain ⟨s174, h175, hm⟩ := hq
  obtain rfl := toSl_some h175
  have hq := oo_inv hm; clear hm; obtain ⟨s176, h177, hm⟩ := hq
  obtain rfl := toSl_some h177
  unfold m21_ at hm
  refine ⟨by simp, ?_⟩
  refine .same (F' := (⟨73, frTr [(0, (.agg ⟨[(.int .i64 x172), (Sl.v 1 s174), (Sl.v 1 s176)]⟩))] .nil⟩ : Fr)) (H' := (⟨1, objTr [(.cells tab0 true false [])] 0 .nil, true⟩ : AHeap)) (by kernel_rfl) (by kernel_rfl) ?_
  refine .then ?_
  refine .reg (F' := (Fr.puts (⟨73, frTr [(0, (.agg ⟨[(.int .i64 x172), (Sl.v 1 s174), (Sl.v 1 s176)]⟩))] .nil⟩ : Fr) [(1, (.pointer (some ⟨1, 0, none⟩))), (2, (.int .i64 (0 : Int)))])) (H' := (⟨2, objTr [(.cells tab0 true false []), (.cells [(.int .i64 x172), (Sl.v 1 s174), (Sl.v 1 s176)] false false [])] 0 .nil, true⟩ : AHeap)) (by kernel_rfl) ?_
  refine .ghs (⟨73, frTr [(1, (.pointer (some ⟨1, 0, none⟩)))] .nil⟩ : Fr) (⟨2, objTr [(.cells tab0 true false []), (.cells [(.int .i64 x172), (Sl.v 1 s174), (Sl.v 1 s176)] false false [])] 0 .nil, true⟩ : AHeap) (.gc [] [false] [.tmp 1 false] [1] (by kernel_rfl) trivial (by kernel_rfl)) ?_
  refine .then ?_
  refine .block ?_
  refine .then ?_
  have hq := oo_inv hm; clear hm; obtain ⟨v178, h179, hm⟩ := hq
  have hq := oo_inv hm; clear hm; obtain ⟨b180, h181, hm⟩ := hq
  obtain rfl := vBool_some h181
  refine .reg (F' := (Fr.puts (⟨73, frTr [(1, (.pointer (some ⟨1, 0, none⟩)))] .nil⟩ : Fr) [(8, (.pointer (some ⟨1, 0, none⟩))), (9, (.int .i64 x172)), (10, (.bool b180)), (11, (.bool (nt b180))), (7, (.bool (nt b180)))])) (H' := (⟨2, objTr [(.cells tab0 true false []), (.cells [(.int .i64 x172), (Sl.v 1 s174), (Sl.v 1 s176)] false false [])] 0 .nil, true⟩ : AHeap)) (evOps_cut 2 (by kernel_rfl) (evOps_data ((oo (pu 60 [(.int .i64 (1 : Int)), (.int .i64 x172), (.int .i64 (5 : Int))]) none fun v => some (v, (⟨2, objTr [(.cells tab0 true false []), (.cells [(.int .i64 x172), (Sl.v 1 s174), (Sl.v 1 s176)] false false [])] 0 .nil, true⟩ : AHeap)))) (by kernel_rfl) (call_eq h179) (okAt_of (by kernel_rfl) (by kernel_rfl)) (by kernel_rfl))) ?_
  refine .ghs (⟨73, frTr [(1, (.pointer (some ⟨1, 0, none⟩))), (7, (.bool (nt b180)))] .nil⟩ : Fr) (⟨2, objTr [(.cells tab0 true false []), (.cells [(.int .i64 x172), (Sl.v 1 s174), (Sl.v 1 s176)] false false [])] 0 .nil, true⟩ : AHeap) (.gc [] [false] [.tmp 1 false] [1, 7] (by kernel_rfl) trivial (by kernel_rfl)) ?_
  have hq := bb_cases hm; clear hm; rcases hq with ⟨h182, hm⟩ | ⟨h182, hm⟩
  · refine .ifT (nt b180) (by kernel_rfl) h182 ?_
    refine .then ?_
    refine .reg (F' := (Fr.puts (⟨73, frTr [(1, (.pointer (some ⟨1, 0, none⟩))), (7, (.bool (nt b180)))] .nil⟩ : Fr) [(2, (.int .i64 (1 : Int)))])) (H' := (⟨2, objTr [(.cells tab0 true false []), (.cells [(.int .i64 x172), (Sl.v 1 s174), (Sl.v 1 s176)] false false [])] 0 .nil, true⟩ : AHeap)) (by kernel_rfl) ?_
    refine .ghs (⟨73, frTr [(2, (.int .i64 (1 : Int)))] .nil⟩ : Fr) (⟨1, objTr [(.cells tab0 true false [])] 0 .nil, true⟩ : AHeap) (.gc [] [false] [] [2] (by kernel_rfl) trivial (by kernel_rfl)) ?_
    refine .ret ?_
    exact fin_ret (.int .i64 (1 : Int)) (by kernel_rfl) (by kernel_rfl) hm
  · refine .ifF (nt b180) (by kernel_rfl) h182 ?_
    refine .then ?_
    refine .reg (F' := (Fr.puts (⟨73, frTr [(1, (.pointer (some ⟨1, 0, none⟩))), (7, (.bool (nt b180)))] .nil⟩ : Fr) [(13, (.pointer (some ⟨1, 1, none⟩))), (14, (Sl.v 1 s174)), (15, (.int .i64 (Int.ofNat (Sl.n s174)))), (16, (.bool (ieq (Int.ofNat (Sl.n s174)) (0 : Int)))), (12, (.bool (ieq (Int.ofNat (Sl.n s174)) (0 : Int))))])) (H' := (⟨2, objTr [(.cells tab0 true false []), (.cells [(.int .i64 x172), (Sl.v 1 s174), (Sl.v 1 s176)] false false [])] 0 .nil, true⟩ : AHeap)) (by kernel_rfl) ?_
    refine .ghs (⟨73, frTr [(1, (.pointer (some ⟨1, 0, none⟩))), (12, (.bool (ieq (Int.ofNat (Sl.n s174)) (0 : Int))))] .nil⟩ : Fr) (⟨2, objTr [(.cells tab0 true false []), (.cells [(.int .i64 x172), (Sl.v 1 s174), (Sl.v 1 s176)] false false [])] 0 .nil, true⟩ : AHeap) (.gc [] [false] [.tmp 1 false] [1, 12] (by kernel_rfl) trivial (by kernel_rfl)) ?_
    have hq := bb_cases hm; clear hm; rcases hq with ⟨h183, hm⟩ | ⟨h183, hm⟩
    · refine .ifT (ieq (Int.ofNat (Sl.n s174)) (0 : Int)) (by kernel_rfl) h183 ?_
      refine .then ?_
      refine .reg (F' := (Fr.puts (⟨73, frTr [(1, (.pointer (some ⟨1, 0, none⟩))), (12, (.bool (ieq (Int.ofNat (Sl.n s174)) (0 : Int))))] .nil⟩ : Fr) [(2, (.int .i64 (4 : Int)))])) (H' := (⟨2, objTr [(.cells tab0 true false []), (.cells [(.int .i64 x172), (Sl.v 1 s174), (Sl.v 1 s176)] false false [])] 0 .nil, true⟩ : AHeap)) (by kernel_rfl) ?_
      refine .ghs (⟨73, frTr [(2, (.int .i64 (4 : Int)))] .nil⟩ : Fr) (⟨1, objTr [(.cells tab0 true false [])] 0 .nil, true⟩ : AHeap) (.gc [] [false] [] [2] (by kernel_rfl) trivial (by kernel_rfl)) ?_
      refine .ret ?_
      exact fin_ret (.int .i64 (4 : Int)) (by kernel_rfl) (by kernel_rfl) hm
    · refine .ifF (ieq (Int.ofNat (Sl.n s174)) (0 : Int)) (by kernel_rfl) h183 ?_
      refine .then ?_
      refine .reg (F' := (Fr.puts (⟨73, frTr [(1, (.pointer (some ⟨1, 0, none⟩))), (12, (.bool (ieq (Int.ofNat (Sl.n s174)) (0 : Int))))] .nil⟩ : Fr) [(18, (.pointer (some ⟨1, 1, none⟩))), (19, (Sl.v 1 s174)), (20, (.int .i64 (Int.ofNat (Sl.n s174)))), (21, (.bool (ilt (10 : Int) (Int.ofNat (Sl.n s174))))), (17, (.bool (ilt (10 : Int) (Int.ofNat (Sl.n s174)))))])) (H' := (⟨2, objTr [(.cells tab0 true false []), (.cells [(.int .i64 x172), (Sl.v 1 s174), (Sl.v 1 s176)] false false [])] 0 .nil, true⟩ : AHeap)) (by kernel_rfl) ?_
      refine .ghs (⟨73, frTr [(1, (.pointer (some ⟨1, 0, none⟩))), (17, (.bool (ilt (10 : Int) (Int.ofNat (Sl.n s174)))))] .nil⟩ : Fr) (⟨2, objTr [(.cells tab0 true false []), (.cells [(.int .i64 x172), (Sl.v 1 s174), (Sl.v 1 s176)] false false [])] 0 .nil, true⟩ : AHeap) (.gc [] [false] [.tmp 1 false] [1, 17] (by kernel_rfl) trivial (by kernel_rfl)) ?_
      have hq := bb_cases hm; clear hm; rcases hq with ⟨h184, hm⟩ | ⟨h184, hm⟩
      · refine .ifT (ilt (10 : Int) (Int.ofNat (Sl.n s174))) (by kernel_rfl) h184 ?_
        refine .then ?_
        refine .reg (F' := (Fr.puts (⟨73, frTr [(1, (.pointer (some ⟨1, 0, none⟩))), (17, (.bool (ilt (10 : Int) (Int.ofNat (Sl.n s174)))))] .nil⟩ : Fr) [(2, (.int .i64 (3 : Int)))])) (H' := (⟨2, objTr [(.cells tab0 true false []), (.cells [(.int .i64 x172), (Sl.v 1 s174), (Sl.v 1 s176)] false false [])] 0 .nil, true⟩ : AHeap)) (by kernel_rfl) ?_
        refine .ghs (⟨73, frTr [(2, (.int .i64 (3 : Int)))] .nil⟩ : Fr) (⟨1, objTr [(.cells tab0 true false [])] 0 .nil, true⟩ : AHeap) (.gc [] [false] [] [2] (by kernel_rfl) trivial (by kernel_rfl)) ?_
        refine .ret ?_
        exact fin_ret (.int .i64 (3 : Int)) (by kernel_rfl) (by kernel_rfl) hm
      · refine .ifF (ilt (10 : Int) (Int.ofNat (Sl.n s174))) (by kernel_rfl) h184 ?_
        refine .then ?_
        refine .reg (F' := (Fr.puts (⟨73, frTr [(1, (.pointer (some ⟨1, 0, none⟩))), (17, (.bool (ilt (10 : Int) (Int.ofNat (Sl.n s174)))))] .nil⟩ : Fr) [(23, (.pointer (some ⟨1, 2, none⟩))), (24, (Sl.v 1 s176)), (25, (.int .i64 (Int.ofNat (Sl.n s176)))), (26, (.pointer (some ⟨1, 1, none⟩))), (27, (Sl.v 1 s174)), (28, (.int .i64 (Int.ofNat (Sl.n s174)))), (29, (.bool (nt (ieq (Int.ofNat (Sl.n s176)) (Int.ofNat (Sl.n s174)))))), (22, (.bool (nt (ieq (Int.ofNat (Sl.n s176)) (Int.ofNat (Sl.n s174))))))])) (H' := (⟨2, objTr [(.cells tab0 true false []), (.cells [(.int .i64 x172), (Sl.v 1 s174), (Sl.v 1 s176)] false false [])] 0 .nil, true⟩ : AHeap)) (by kernel_rfl) ?_
        refine .ghs (⟨73, frTr [(1, (.pointer (some ⟨1, 0, none⟩))), (22, (.bool (nt (ieq (Int.ofNat (Sl.n s176)) (Int.ofNat (Sl.n s174))))))] .nil⟩ : Fr) (⟨2, objTr [(.cells tab0 true false []), (.cells [(.int .i64 x172), (Sl.v 1 s174), (Sl.v 1 s176)] false false [])] 0 .nil, true⟩ : AHeap) (.gc [] [false] [.tmp 1 false] [1, 22] (by kernel_rfl) trivial (by kernel_rfl)) ?_
        have hq := bb_cases hm; clear hm; rcases hq with ⟨h185, hm⟩ | ⟨h185, hm⟩
        · refine .ifT (nt (ieq (Int.ofNat (Sl.n s176)) (Int.ofNat (Sl.n s174)))) (by kernel_rfl) h185 ?_
          refine .then ?_
          refine .reg (F' := (Fr.puts (⟨73, frTr [(1, (.pointer (some ⟨1, 0, none⟩))), (22, (.bool (nt (ieq (Int.ofNat (Sl.n s176)) (Int.ofNat (Sl.n s174))))))] .nil⟩ : Fr) [(2, (.int .i64 (5 : Int)))])) (H' := (⟨2, objTr [(.cells tab0 true false []), (.cells [(.int .i64 x172), (Sl.v 1 s174), (Sl.v 1 s176)] false false [])] 0 .nil, true⟩ : AHeap)) (by kernel_rfl) ?_
          refine .ghs (⟨73, frTr [(2, (.int .i64 (5 : Int)))] .nil⟩ : Fr) (⟨1, objTr [(.cells tab0 true false [])] 0 .nil, true⟩ : AHeap) (.gc [] [false] [] [2] (by kernel_rfl) trivial (by kernel_rfl)) ?_
          refine .ret ?_
          exact fin_ret (.int .i64 (5 : Int)) (by kernel_rfl) (by kernel_rfl) hm
        · refine .ifF (nt (ieq (Int.ofNat (Sl.n s176)) (Int.ofNat (Sl.n s174)))) (by kernel_rfl) h185 ?_
          refine .skip ?_
          refine .ghs (⟨73, frTr [(1, (.pointer (some ⟨1, 0, none⟩)))] .nil⟩ : Fr) (⟨2, objTr [(.cells tab0 true false []), (.cells [(.int .i64 x172), (Sl.v 1 s174), (Sl.v 1 s176)] false false [])] 0 .nil, true⟩ : AHeap) (.gc [] [false] [.tmp 1 false] [1] (by kernel_rfl) trivial (by kernel_rfl)) ?_
          refine .then ?_
          refine .reg (F' := (Fr.puts (⟨73, frTr [(1, (.pointer (some ⟨1, 0, none⟩)))] .nil⟩ : Fr) [(3, (.pointer (some ⟨2, 0, none⟩)))])) (H' := (⟨3, objTr [(.cells tab0 true false []), (.cells [(.int .i64 x172), (Sl.v 1 s174), (Sl.v 1 s176)] false false []), (.cells [(.int .i64 (0 : Int)), (.int .i64 (0 : Int)), (.int .i64 (0 : Int)), (.int .i64 (0 : Int)), (.int .i64 (0 : Int))] false false [])] 0 .nil, true⟩ : AHeap)) (by kernel_rfl) ?_
          refine .ghs (⟨73, frTr [(1, (.pointer (some ⟨1, 0, none⟩))), (3, (.pointer (some ⟨2, 0, none⟩)))] .nil⟩ : Fr) (⟨3, objTr [(.cells tab0 true false []), (.cells [(.int .i64 x172), (Sl.v 1 s174), (Sl.v 1 s176)] false false []), (.cells [(.int .i64 (0 : Int)), (.int .i64 (0 : Int)), (.int .i64 (0 : Int)), (.int .i64 (0 : Int)), (.int .i64 (0 : Int))] false false [])] 0 .nil, true⟩ : AHeap) (.gc [] [false] [.tmp 1 false, .tmp 3 false] [1, 3] (by kernel_rfl) trivial (by kernel_rfl)) ?_
          refine .join (v := v) (fun y : List Value => ((⟨73, frTr [(3, (.pointer (some ⟨1, 0, none⟩)))] .nil⟩ : Fr), (⟨2, objTr [(.cells tab0 true false []), (.cells y false false [])] 0 .nil, true⟩ : AHeap))) (fun y => m21_0 pu n y) ?_ ?_
          · rintro q313 hm
            unfold m21_0 at hm
            refine .then ?_
            refine .then ?_
            have hq := bb_inv hm; clear hm; obtain ⟨h314, hm⟩ := hq
            have hq := oo_inv hm; clear hm; obtain ⟨v315, h316, hm⟩ := hq
            have hq := oo_inv hm; clear hm; obtain ⟨x317, h318, hm⟩ := hq
            obtain rfl := toI_some h318
            have hq := oo_inv hm; clear hm; obtain ⟨v319, h320, hm⟩ := hq
            have hq := oo_inv hm; clear hm; obtain ⟨x321, h322, hm⟩ := hq
            obtain rfl := toI_some h322
            have hq := oo_inv hm; clear hm; obtain ⟨v323, h324, hm⟩ := hq
            have hq := oo_inv hm; clear hm; obtain ⟨x325, h326, hm⟩ := hq
            obtain rfl := toI_some h326
            have hq := oo_inv hm; clear hm; obtain ⟨v327, h328, hm⟩ := hq
            have hq := oo_inv hm; clear hm; obtain ⟨x329, h330, hm⟩ := hq
            obtain rfl := toI_some h330
            have hq := oo_inv hm; clear hm; obtain ⟨v331, h332, hm⟩ := hq
            have hq := oo_inv hm; clear hm; obtain ⟨x333, h334, hm⟩ := hq
            obtain rfl := toI_some h334
            refine .reg (F' := (Fr.puts (⟨73, frTr [(3, (.pointer (some ⟨1, 0, none⟩)))] .nil⟩ : Fr) [(70, (.agg ⟨[(.int .i64 x317), (.int .i64 x321), (.int .i64 x325), (.int .i64 x329), (.int .i64 x333)]⟩)), (71, (.agg ⟨[(.int .i64 (0 : Int)), (.int .i64 (0 : Int)), (.int .i64 (0 : Int)), (.int .i64 (0 : Int)), (.int .i64 (0 : Int))]⟩)), (72, (.bool (bq false (an (ieq x317 (0 : Int)) (an (ieq x321 (0 : Int)) (an (ieq x325 (0 : Int)) (an (ieq x329 (0 : Int)) (an (ieq x333 (0 : Int)) true))))))))])) (H' := (⟨2, objTr [(.cells tab0 true false []), (.cells q313 false false [])] 0 .nil, true⟩ : AHeap)) (evOps_data (keep (⟨2, objTr [(.cells tab0 true false []), (.cells q313 false false [])] 0 .nil, true⟩ : AHeap) (bb (Nat.ble (0 + 5) (len q313)) (some (.agg ⟨takeL 5 (dropL 0 q313)⟩)) none)) (by kernel_rfl) (keep_agg h314 (takeL_cons h316 (takeL_cons h320 (takeL_cons h324 (takeL_cons h328 (takeL_cons h332 rfl)))))) (okAt_of (by kernel_rfl) (by kernel_rfl)) (by kernel_rfl)) ?_
            refine .ghs (⟨73, frTr [(72, (.bool (bq false (an (ieq x317 (0 : Int)) (an (ieq x321 (0 : Int)) (an (ieq x325 (0 : Int)) (an (ieq x329 (0 : Int)) (an (ieq x333 (0 : Int)) true))))))))] .nil⟩ : Fr) (⟨1, objTr [(.cells tab0 true false [])] 0 .nil, true⟩ : AHeap) (.gc [] [false] [] [72] (by kernel_rfl) trivial (by kernel_rfl)) ?_
            have hq := bb_cases hm; clear hm; rcases hq with ⟨h335, hm⟩ | ⟨h335, hm⟩
            · refine .ifT (bq false (an (ieq x317 (0 : Int)) (an (ieq x321 (0 : Int)) (an (ieq x325 (0 : Int)) (an (ieq x329 (0 : Int)) (an (ieq x333 (0 : Int)) true)))))) (by kernel_rfl) h335 ?_
              refine .then ?_
              refine .reg (F' := (Fr.puts (⟨73, frTr [(72, (.bool (bq false (an (ieq x317 (0 : Int)) (an (ieq x321 (0 : Int)) (an (ieq x325 (0 : Int)) (an (ieq x329 (0 : Int)) (an (ieq x333 (0 : Int)) true))))))))] .nil⟩ : Fr) [(2, (.int .i64 (17 : Int)))])) (H' := (⟨1, objTr [(.cells tab0 true false [])] 0 .nil, true⟩ : AHeap)) (by kernel_rfl) ?_
              refine .ghs (⟨73, frTr [(2, (.int .i64 (17 : Int)))] .nil⟩ : Fr) (⟨1, objTr [(.cells tab0 true false [])] 0 .nil, true⟩ : AHeap) (.gc [] [false] [] [2] (by kernel_rfl) trivial (by kernel_rfl)) ?_
              refine .ret ?_
              exact fin_ret (.int .i64 (17 : Int)) (by kernel_rfl) (by kernel_rfl) hm
            · refine .ifF (bq false (an (ieq x317 (0 : Int)) (an (ieq x321 (0 : Int)) (an (ieq x325 (0 : Int)) (an (ieq x329 (0 : Int)) (an (ieq x333 (0 : Int)) true)))))) (by kernel_rfl) h335 ?_
              refine .skip ?_
              refine .ghs (⟨73, frTr [] .nil⟩ : Fr) (⟨1, objTr [(.cells tab0 true false [])] 0 .nil, true⟩ : AHeap) (.gc [] [false] [] [] (by kernel_rfl) trivial (by kernel_rfl)) ?_
              refine .then ?_
              refine .reg (F' := (Fr.puts (⟨73, frTr [] .nil⟩ : Fr) [(2, (.int .i64 (0 : Int)))])) (H' := (⟨1, objTr [(.cells tab0 true false [])] 0 .nil, true⟩ : AHeap)) (by kernel_rfl) ?_
              refine .ghs (⟨73, frTr [(2, (.int .i64 (0 : Int)))] .nil⟩ : Fr) (⟨1, objTr [(.cells tab0 true false [])] 0 .nil, true⟩ : AHeap) (.gc [] [false] [] [2] (by kernel_rfl) trivial (by kernel_rfl)) ?_
              refine .ret ?_
              exact fin_ret (.int .i64 (0 : Int)) (by kernel_rfl) (by kernel_rfl) hm
          · skip
            refine .then ?_
            refine .reg (F' := (Fr.puts (⟨73, frTr [(1, (.pointer (some ⟨1, 0, none⟩))), (3, (.pointer (some ⟨2, 0, none⟩)))] .nil⟩ : Fr) [(30, (.pointer (some ⟨1, 1, none⟩))), (31, (Sl.v 1 s174)), (32, (.int .i64 (Int.ofNat (Sl.n s174)))), (33, (.int .i64 (0 : Int)))])) (H' := (⟨3, objTr [(.cells tab0 true false []), (.cells [(.int .i64 x172), (Sl.v 1 s174), (Sl.v 1 s176)] false false []), (.cells [(.int .i64 (0 : Int)), (.int .i64 (0 : Int)), (.int .i64 (0 : Int)), (.int .i64 (0 : Int)), (.int .i64 (0 : Int))] false false [])] 0 .nil, true⟩ : AHeap)) (by kernel_rfl) ?_
            refine .ghs (⟨73, frTr [(1, (.pointer (some ⟨1, 0, none⟩))), (3, (.pointer (some ⟨2, 0, none⟩))), (31, (Sl.v 1 s174)), (32, (.int .i64 (Int.ofNat (Sl.n s174)))), (33, (.int .i64 (0 : Int)))] .nil⟩ : Fr) (⟨3, objTr [(.cells tab0 true false []), (.cells [(.int .i64 x172), (Sl.v 1 s174), (Sl.v 1 s176)] false false []), (.cells [(.int .i64 (0 : Int)), (.int .i64 (0 : Int)), (.int .i64 (0 : Int)), (.int .i64 (0 : Int)), (.int .i64 (0 : Int))] false false [])] 0 .nil, true⟩ : AHeap) (.gc [] [false] [.tmp 1 false, .tmp 3 false] [1, 3, 31, 32, 33] (by kernel_rfl) trivial (by kernel_rfl)) ?_
            refine .block ?_
            refine .loopM (v := v) (fun y : Sl × Int × Int × Int × Sl × Sl × List Value => ((⟨73, frTr [(1, (.pointer (some ⟨1, 0, none⟩))), (3, (.pointer (some ⟨2, 0, none⟩))), (31, (Sl.v 1 y.1)), (32, (.int .i64 y.2.1)), (33, (.int .i64 y.2.2.1))] .nil⟩ : Fr), (⟨3, objTr [(.cells tab0 true false []), (.cells [(.int .i64 y.2.2.2.1), (Sl.v 1 y.2.2.2.2.1), (Sl.v 1 y.2.2.2.2.2.1)] false false []), (.cells y.2.2.2.2.2.2 false false [])] 0 .nil, true⟩ : AHeap))) (fun w y => l21_1 pu n w y.1 y.2.1 y.2.2.1 y.2.2.2.1 y.2.2.2.2.1 y.2.2.2.2.2.1 y.2.2.2.2.2.2) n ⟨(s174, (Int.ofNat (Sl.n s174)), (0 : Int), x172, s174, s176, ([(.int .i64 (0 : Int)), (.int .i64 (0 : Int)), (.int .i64 (0 : Int)), (.int .i64 (0 : Int)), (.int .i64 (0 : Int))] : List Value)), hm, (.gc [] [false] [.tmp 1 false, .tmp 3 false] [1, 3, 31, 32, 33] (by kernel_rfl) trivial (by kernel_rfl))⟩ (fun _ => rfl) ?_
            rintro w0 ⟨s400, z401, z402, z403, s404, s405, q406⟩ hm
            refine .then ?_
            refine .reg (F' := (Fr.puts (⟨73, frTr [(1, (.pointer (some ⟨1, 0, none⟩))), (3, (.pointer (some ⟨2, 0, none⟩))), (31, (Sl.v 1 s400)), (32, (.int .i64 z401)), (33, (.int .i64 z402))] .nil⟩ : Fr) [(34, (.bool (ilt z402 z401)))])) (H' := (⟨3, objTr [(.cells tab0 true false []), (.cells [(.int .i64 z403), (Sl.v 1 s404), (Sl.v 1 s405)] false false []), (.cells q406 false false [])] 0 .nil, true⟩ : AHeap)) (by kernel_rfl) ?_
            have hq := bb_inv hm; clear hm; obtain ⟨h407, hm⟩ := hq
            refine .ghs (⟨73, frTr [(1, (.pointer (some ⟨1, 0, none⟩))), (3, (.pointer (some ⟨2, 0, none⟩))), (31, (Sl.v 1 s400)), (32, (.int .i64 z401)), (33, (.int .i64 z402)), (34, (.bool (ilt z402 z401)))] .nil⟩ : Fr) (⟨3, objTr [(.cells tab0 true false []), (.cells [(.int .i64 z403), (Sl.v 1 s404), (Sl.v 1 s405)] false false []), (.cells q406 false false [])] 0 .nil, true⟩ : AHeap) (.gc [2] [false] [.tmp 1 false, .tmp 3 false] [1, 3, 31, 32, 33, 34] (by kernel_rfl) ⟨trE (by kernel_rfl) h407, trivial⟩ (by kernel_rfl)) ?_
            refine .then ?_
            have hq := bb_cases hm; clear hm; rcases hq with ⟨h408, hm⟩ | ⟨h408, hm⟩
            · refine .ifT (ilt z402 z401) (by kernel_rfl) h408 ?_
              refine .skip ?_
              refine .ghs (⟨73, frTr [(1, (.pointer (some ⟨1, 0, none⟩))), (3, (.pointer (some ⟨2, 0, none⟩))), (31, (Sl.v 1 s400)), (32, (.int .i64 z401)), (33, (.int .i64 z402))] .nil⟩ : Fr) (⟨3, objTr [(.cells tab0 true false []), (.cells [(.int .i64 z403), (Sl.v 1 s404), (Sl.v 1 s405)] false false []), (.cells q406 false false [])] 0 .nil, true⟩ : AHeap) (.gc [2] [false] [.tmp 1 false, .tmp 3 false] [1, 3, 31, 32, 33] (by kernel_rfl) ⟨trE (by kernel_rfl) h407, trivial⟩ (by kernel_rfl)) ?_
              refine .then ?_
              refine .block ?_
              refine .then ?_
              have hq := oo_inv hm; clear hm; obtain ⟨k409, h410, hm⟩ := hq
              obtain rfl := toN_some h410
              have hq := bb_inv hm; clear hm; obtain ⟨h411, hm⟩ := hq
              have hq := oo_inv hm; clear hm; obtain ⟨v412, h413, hm⟩ := hq
              have hq := oo_inv hm; clear hm; obtain ⟨x414, h415, hm⟩ := hq
              obtain rfl := toI_some h415
              refine .reg (F' := (Fr.puts (⟨73, frTr [(1, (.pointer (some ⟨1, 0, none⟩))), (3, (.pointer (some ⟨2, 0, none⟩))), (31, (Sl.v 1 s400)), (32, (.int .i64 z401)), (33, (.int .i64 (Int.ofNat k409)))] .nil⟩ : Fr) [(35, (.int .i64 (Int.ofNat k409))), (36, (fpV (k409 * 1) (Sl.cs s400))), (37, (.int .i64 x414)), (4, (.int .i64 (Int.ofNat k409))), (5, (.int .i64 x414))])) (H' := (⟨3, objTr [(.cells tab0 true false []), (.cells [(.int .i64 z403), (Sl.v 1 s404), (Sl.v 1 s405)] false false []), (.cells q406 false false [])] 0 .nil, true⟩ : AHeap)) (evOps_cut 1 (by kernel_rfl) (evOps_data (keep (⟨3, objTr [(.cells tab0 true false []), (.cells [(.int .i64 z403), (Sl.v 1 s404), (Sl.v 1 s405)] false false []), (.cells q406 false false [])] 0 .nil, true⟩ : AHeap) (bb (an (Nat.blt k409 (Sl.n s400)) true) (some (fpV (k409 * 1) (Sl.cs s400))) none)) (by kernel_rfl) (keep_bb h411) (okAt_of (by kernel_rfl) (by kernel_rfl)) (evOps_data (keep (⟨3, objTr [(.cells tab0 true false []), (.cells [(.int .i64 z403), (Sl.v 1 s404), (Sl.v 1 s405)] false false []), (.cells q406 false false [])] 0 .nil, true⟩ : AHeap) (nthL (Sl.cs s400) (k409 * 1))) (by kernel_rfl) (keep_eq h413) (okAt_of (by kernel_rfl) (by kernel_rfl)) (by kernel_rfl)))) ?_
              refine .ghs (⟨73, frTr [(1, (.pointer (some ⟨1, 0, none⟩))), (3, (.pointer (some ⟨2, 0, none⟩))), (4, (.int .i64 (Int.ofNat k409))), (5, (.int .i64 x414)), (31, (Sl.v 1 s400)), (32, (.int .i64 z401)), (33, (.int .i64 (Int.ofNat k409)))] .nil⟩ : Fr) (⟨3, objTr [(.cells tab0 true false []), (.cells [(.int .i64 z403), (Sl.v 1 s404), (Sl.v 1 s405)] false false []), (.cells q406 false false [])] 0 .nil, true⟩ : AHeap) (.gc [2] [false] [.tmp 1 false, .tmp 3 false] [1, 3, 4, 5, 31, 32, 33] (by kernel_rfl) ⟨trE (by kernel_rfl) h407, trivial⟩ (by kernel_rfl)) ?_
              refine .then ?_
              have hq := bb_inv hm; clear hm; obtain ⟨h416, hm⟩ := hq
              have hq := oo_inv hm; clear hm; obtain ⟨v417, h418, hm⟩ := hq
              have hq := oo_inv hm; clear hm; obtain ⟨x419, h420, hm⟩ := hq
              obtain rfl := toI_some h420
              refine .reg (F' := (Fr.puts (⟨73, frTr [(1, (.pointer (some ⟨1, 0, none⟩))), (3, (.pointer (some ⟨2, 0, none⟩))), (4, (.int .i64 (Int.ofNat k409))), (5, (.int .i64 x414)), (31, (Sl.v 1 s400)), (32, (.int .i64 z401)), (33, (.int .i64 (Int.ofNat k409)))] .nil⟩ : Fr) [(38, (.pointer (some ⟨1, 2, none⟩))), (39, (Sl.v 1 s405)), (40, (.int .i64 (Int.ofNat k409))), (41, (fpV (k409 * 1) (Sl.cs s405))), (42, (.int .i64 x419)), (6, (.int .i64 x419))])) (H' := (⟨3, objTr [(.cells tab0 true false []), (.cells [(.int .i64 z403), (Sl.v 1 s404), (Sl.v 1 s405)] false false []), (.cells q406 false false [])] 0 .nil, true⟩ : AHeap)) (evOps_cut 3 (by kernel_rfl) (evOps_data (keep (⟨3, objTr [(.cells tab0 true false []), (.cells [(.int .i64 z403), (Sl.v 1 s404), (Sl.v 1 s405)] false false []), (.cells q406 false false [])] 0 .nil, true⟩ : AHeap) (bb (an (Nat.blt k409 (Sl.n s405)) true) (some (fpV (k409 * 1) (Sl.cs s405))) none)) (by kernel_rfl) (keep_bb h416) (okAt_of (by kernel_rfl) (by kernel_rfl)) (evOps_data (keep (⟨3, objTr [(.cells tab0 true false []), (.cells [(.int .i64 z403), (Sl.v 1 s404), (Sl.v 1 s405)] false false []), (.cells q406 false false [])] 0 .nil, true⟩ : AHeap) (nthL (Sl.cs s405) (k409 * 1))) (by kernel_rfl) (keep_eq h418) (okAt_of (by kernel_rfl) (by kernel_rfl)) (by kernel_rfl)))) ?_
              refine .ghs (⟨73, frTr [(1, (.pointer (some ⟨1, 0, none⟩))), (3, (.pointer (some ⟨2, 0, none⟩))), (5, (.int .i64 x414)), (6, (.int .i64 x419)), (31, (Sl.v 1 s400)), (32, (.int .i64 z401)), (33, (.int .i64 (Int.ofNat k409)))] .nil⟩ : Fr) (⟨3, objTr [(.cells tab0 true false []), (.cells [(.int .i64 z403), (Sl.v 1 s404), (Sl.v 1 s405)] false false []), (.cells q406 false false [])] 0 .nil, true⟩ : AHeap) (.gc [2] [false] [.tmp 1 false, .tmp 3 false] [1, 3, 5, 6, 31, 32, 33] (by kernel_rfl) ⟨trE (by kernel_rfl) h407, trivial⟩ (by kernel_rfl)) ?_
              refine .then ?_
              refine .join (v := v) (fun y : Int × Int × Sl × Int × Int × Bool × Int × Sl × Sl × List Value => ((⟨73, frTr [(1, (.pointer (some ⟨1, 0, none⟩))), (3, (.pointer (some ⟨2, 0, none⟩))), (5, (.int .i64 y.1)), (6, (.int .i64 y.2.1)), (31, (Sl.v 1 y.2.2.1)), (32, (.int .i64 y.2.2.2.1)), (33, (.int .i64 y.2.2.2.2.1)), (58, (.bool y.2.2.2.2.2.1))] .nil⟩ : Fr), (⟨3, objTr [(.cells tab0 true false []), (.cells [(.int .i64 y.2.2.2.2.2.2.1), (Sl.v 1 y.2.2.2.2.2.2.2.1), (Sl.v 1 y.2.2.2.2.2.2.2.2.1)] false false []), (.cells y.2.2.2.2.2.2.2.2.2 false false [])] 0 .nil, true⟩ : AHeap))) (fun y => m21_2 pu n (l21_1 pu n w0) y.1 y.2.1 y.2.2.1 y.2.2.2.1 y.2.2.2.2.1 y.2.2.2.2.2.1 y.2.2.2.2.2.2.1 y.2.2.2.2.2.2.2.1 y.2.2.2.2.2.2.2.2.1 y.2.2.2.2.2.2.2.2.2) ?_ ?_
              · rintro ⟨z426, z427, s428, z429, z430, b431, z432, s433, s434, q435⟩ hm
                unfold m21_2 at hm
                have hq := bb_cases hm; clear hm; rcases hq with ⟨h436, hm⟩ | ⟨h436, hm⟩
                · refine .ifT b431 (by kernel_rfl) h436 ?_
                  refine .then ?_
                  refine .reg (F' := (Fr.puts (⟨73, frTr [(1, (.pointer (some ⟨1, 0, none⟩))), (3, (.pointer (some ⟨2, 0, none⟩))), (5, (.int .i64 z426)), (6, (.int .i64 z427)), (31, (Sl.v 1 s428)), (32, (.int .i64 z429)), (33, (.int .i64 z430)), (58, (.bool b431))] .nil⟩ : Fr) [(2, (.int .i64 (2 : Int)))])) (H' := (⟨3, objTr [(.cells tab0 true false []), (.cells [(.int .i64 z432), (Sl.v 1 s433), (Sl.v 1 s434)] false false []), (.cells q435 false false [])] 0 .nil, true⟩ : AHeap)) (by kernel_rfl) ?_
                  refine .ghs (⟨73, frTr [(2, (.int .i64 (2 : Int)))] .nil⟩ : Fr) (⟨1, objTr [(.cells tab0 true false [])] 0 .nil, true⟩ : AHeap) (.gc [] [false] [] [2] (by kernel_rfl) trivial (by kernel_rfl)) ?_
                  refine .ret ?_
                  exact fin_ret (.int .i64 (2 : Int)) (by kernel_rfl) (by kernel_rfl) hm
                · refine .ifF b431 (by kernel_rfl) h436 ?_
                  refine .skip ?_
                  have hq := bb_inv hm; clear hm; obtain ⟨h437, hm⟩ := hq
                  refine .ghs (⟨73, frTr [(1, (.pointer (some ⟨1, 0, none⟩))), (3, (.pointer (some ⟨2, 0, none⟩))), (5, (.int .i64 z426)), (6, (.int .i64 z427)), (31, (Sl.v 1 s428)), (32, (.int .i64 z429)), (33, (.int .i64 z430))] .nil⟩ : Fr) (⟨3, objTr [(.cells tab0 true false []), (.cells [(.int .i64 z432), (Sl.v 1 s433), (Sl.v 1 s434)] false false []), (.cells q435 false false [])] 0 .nil, true⟩ : AHeap) (.gc [2] [false] [.tmp 1 false, .tmp 3 false] [1, 3, 5, 6, 31, 32, 33] (by kernel_rfl) ⟨trE (by kernel_rfl) h437, trivial⟩ (by kernel_rfl)) ?_
                  refine .then ?_
                  have hq := oo_inv hm; clear hm; obtain ⟨k438, h439, hm⟩ := hq
                  obtain rfl := toN_some h439
                  have hq := bb_inv hm; clear hm; obtain ⟨h440, hm⟩ := hq
                  have hq := oo_inv hm; clear hm; obtain ⟨v441, h442, hm⟩ := hq
                  have hq := oo_inv hm; clear hm; obtain ⟨x443, h444, hm⟩ := hq
                  obtain rfl := toI_some h444
                  have hq := bb_inv hm; clear hm; obtain ⟨h445, hm⟩ := hq
                  have hq := bb_inv hm; clear hm; obtain ⟨h446, hm⟩ := hq
                  refine .reg (F' := (Fr.puts (⟨73, frTr [(1, (.pointer (some ⟨1, 0, none⟩))), (3, (.pointer (some ⟨2, 0, none⟩))), (5, (.int .i64 (Int.ofNat k438))), (6, (.int .i64 z427)), (31, (Sl.v 1 s428)), (32, (.int .i64 z429)), (33, (.int .i64 z430))] .nil⟩ : Fr) [(59, (.int .i64 (Int.ofNat k438))), (60, (.pointer (some ⟨2, (0 + k438 * 1), none⟩))), (61, (.int .i64 x443)), (62, (.int .i64 (wrapF .i64 (Int.add x443 (1 : Int))))), (63, (.pointer (some ⟨2, (0 + k438 * 1), none⟩)))])) (H' := (⟨3, objTr [(.cells tab0 true false []), (.cells [(.int .i64 z432), (Sl.v 1 s433), (Sl.v 1 s434)] false false []), (.cells (setL ([(.int .i64 (wrapF .i64 (Int.add x443 (1 : Int))))] : List Value) (0 + k438 * 1) q435) false false [])] 0 .nil, true⟩ : AHeap)) (evOps_cut 1 (by kernel_rfl) (evOps_data (keep (⟨3, objTr [(.cells tab0 true false []), (.cells [(.int .i64 z432), (Sl.v 1 s433), (Sl.v 1 s434)] false false []), (.cells q435 false false [])] 0 .nil, true⟩ : AHeap) (bb (Nat.blt k438 5) (some (.pointer (some ⟨2, (0 + k438 * 1), none⟩))) none)) (by kernel_rfl) (keep_bb h440) (okAt_of (by kernel_rfl) (by kernel_rfl)) (evOps_data (keep (⟨3, objTr [(.cells tab0 true false []), (.cells [(.int .i64 z432), (Sl.v 1 s433), (Sl.v 1 s434)] false false []), (.cells q435 false false [])] 0 .nil, true⟩ : AHeap) (nthL q435 (0 + k438 * 1))) (by kernel_rfl) (keep_eq h442) (okAt_of (by kernel_rfl) (by kernel_rfl)) (evOps_cut 1 (by kernel_rfl) (evOps_data (keep (⟨3, objTr [(.cells tab0 true false []), (.cells [(.int .i64 z432), (Sl.v 1 s433), (Sl.v 1 s434)] false false []), (.cells q435 false false [])] 0 .nil, true⟩ : AHeap) (bb (Nat.blt k438 5) (some (.pointer (some ⟨2, (0 + k438 * 1), none⟩))) none)) (by kernel_rfl) (keep_bb h445) (okAt_of (by kernel_rfl) (by kernel_rfl)) (evOps_data (done (bb (an (Nat.ble ((0 + k438 * 1) + 1) (len q435)) true) (some (⟨3, objTr [(.cells tab0 true false []), (.cells [(.int .i64 z432), (Sl.v 1 s433), (Sl.v 1 s434)] false false []), (.cells (setL ([(.int .i64 (wrapF .i64 (Int.add x443 (1 : Int))))] : List Value) (0 + k438 * 1) q435) false false [])] 0 .nil, true⟩ : AHeap)) none) undef) (by kernel_rfl) (done_bb h446) (okAt_of (by kernel_rfl) (by kernel_rfl)) (by kernel_rfl))))))) ?_
                  have hq := bb_inv hm; clear hm; obtain ⟨h447, hm⟩ := hq
                  refine .ghs (⟨73, frTr [(1, (.pointer (some ⟨1, 0, none⟩))), (3, (.pointer (some ⟨2, 0, none⟩))), (6, (.int .i64 z427)), (31, (Sl.v 1 s428)), (32, (.int .i64 z429)), (33, (.int .i64 z430))] .nil⟩ : Fr) (⟨3, objTr [(.cells tab0 true false []), (.cells [(.int .i64 z432), (Sl.v 1 s433), (Sl.v 1 s434)] false false []), (.cells (setL ([(.int .i64 (wrapF .i64 (Int.add x443 (1 : Int))))] : List Value) (0 + k438 * 1) q435) false false [])] 0 .nil, true⟩ : AHeap) (.gc [2] [false] [.tmp 1 false, .tmp 3 false] [1, 3, 6, 31, 32, 33] (by kernel_rfl) ⟨trE (by kernel_rfl) h447, trivial⟩ (by kernel_rfl)) ?_
                  have hq := oo_inv hm; clear hm; obtain ⟨k448, h449, hm⟩ := hq
                  obtain rfl := toN_some h449
                  have hq := bb_inv hm; clear hm; obtain ⟨h450, hm⟩ := hq
                  have hq := oo_inv hm; clear hm; obtain ⟨v451, h452, hm⟩ := hq
                  have hq := oo_inv hm; clear hm; obtain ⟨x453, h454, hm⟩ := hq
                  obtain rfl := toI_some h454
                  have hq := bb_inv hm; clear hm; obtain ⟨h455, hm⟩ := hq
                  have hq := bb_inv hm; clear hm; obtain ⟨h456, hm⟩ := hq
                  refine .reg (F' := (Fr.puts (⟨73, frTr [(1, (.pointer (some ⟨1, 0, none⟩))), (3, (.pointer (some ⟨2, 0, none⟩))), (6, (.int .i64 (Int.ofNat k448))), (31, (Sl.v 1 s428)), (32, (.int .i64 z429)), (33, (.int .i64 z430))] .nil⟩ : Fr) [(64, (.int .i64 (Int.ofNat k448))), (65, (.pointer (some ⟨2, (0 + k448 * 1), none⟩))), (66, (.int .i64 x453)), (67, (.int .i64 (wrapF .i64 (Int.sub x453 (1 : Int))))), (68, (.pointer (some ⟨2, (0 + k448 * 1), none⟩)))])) (H' := (⟨3, objTr [(.cells tab0 true false []), (.cells [(.int .i64 z432), (Sl.v 1 s433), (Sl.v 1 s434)] false false []), (.cells (setL ([(.int .i64 (wrapF .i64 (Int.sub x453 (1 : Int))))] : List Value) (0 + k448 * 1) (setL ([(.int .i64 (wrapF .i64 (Int.add x443 (1 : Int))))] : List Value) (0 + k438 * 1) q435)) false false [])] 0 .nil, true⟩ : AHeap)) (evOps_cut 1 (by kernel_rfl) (evOps_data (keep (⟨3, objTr [(.cells tab0 true false []), (.cells [(.int .i64 z432), (Sl.v 1 s433), (Sl.v 1 s434)] false false []), (.cells (setL ([(.int .i64 (wrapF .i64 (Int.add x443 (1 : Int))))] : List Value) (0 + k438 * 1) q435) false false [])] 0 .nil, true⟩ : AHeap) (bb (Nat.blt k448 5) (some (.pointer (some ⟨2, (0 + k448 * 1), none⟩))) none)) (by kernel_rfl) (keep_bb h450) (okAt_of (by kernel_rfl) (by kernel_rfl)) (evOps_data (keep (⟨3, objTr [(.cells tab0 true false []), (.cells [(.int .i64 z432), (Sl.v 1 s433), (Sl.v 1 s434)] false false []), (.cells (setL ([(.int .i64 (wrapF .i64 (Int.add x443 (1 : Int))))] : List Value) (0 + k438 * 1) q435) false false [])] 0 .nil, true⟩ : AHeap) (nthL (setL ([(.int .i64 (wrapF .i64 (Int.add x443 (1 : Int))))] : List Value) (0 + k438 * 1) q435) (0 + k448 * 1))) (by kernel_rfl) (keep_eq h452) (okAt_of (by kernel_rfl) (by kernel_rfl)) (evOps_cut 1 (by kernel_rfl) (evOps_data (keep (⟨3, objTr [(.cells tab0 true false []), (.cells [(.int .i64 z432), (Sl.v 1 s433), (Sl.v 1 s434)] false false []), (.cells (setL ([(.int .i64 (wrapF .i64 (Int.add x443 (1 : Int))))] : List Value) (0 + k438 * 1) q435) false false [])] 0 .nil, true⟩ : AHeap) (bb (Nat.blt k448 5) (some (.pointer (some ⟨2, (0 + k448 * 1), none⟩))) none)) (by kernel_rfl) (keep_bb h455) (okAt_of (by kernel_rfl) (by kernel_rfl)) (evOps_data (done (bb (an (Nat.ble ((0 + k448 * 1) + 1) (len (setL ([(.int .i64 (wrapF .i64 (Int.add x443 (1 : Int))))] : List Value) (0 + k438 * 1) q435))) true) (some (⟨3, objTr [(.cells tab0 true false []), (.cells [(.int .i64 z432), (Sl.v 1 s433), (Sl.v 1 s434)] false false []), (.cells (setL ([(.int .i64 (wrapF .i64 (Int.sub x453 (1 : Int))))] : List Value) (0 + k448 * 1) (setL ([(.int .i64 (wrapF .i64 (Int.add x443 (1 : Int))))] : List Value) (0 + k438 * 1) q435)) false false [])] 0 .nil, true⟩ : AHeap)) none) undef) (by kernel_rfl) (done_bb h456) (okAt_of (by kernel_rfl) (by kernel_rfl)) (by kernel_rfl))))))) ?_
                  have hq := bb_inv hm; clear hm; obtain ⟨h457, hm⟩ := hq
                  refine .ghs (⟨73, frTr [(1, (.pointer (some ⟨1, 0, none⟩))), (3, (.pointer (some ⟨2, 0, none⟩))), (31, (Sl.v 1 s428)), (32, (.int .i64 z429)), (33, (.int .i64 z430))] .nil⟩ : Fr) (⟨3, objTr [(.cells tab0 true false []), (.cells [(.int .i64 z432), (Sl.v 1 s433), (Sl.v 1 s434)] false false []), (.cells (setL ([(.int .i64 (wrapF .i64 (Int.sub x453 (1 : Int))))] : List Value) (0 + k448 * 1) (setL ([(.int .i64 (wrapF .i64 (Int.add x443 (1 : Int))))] : List Value) (0 + k438 * 1) q435)) false false [])] 0 .nil, true⟩ : AHeap) (.gc [2] [false] [.tmp 1 false, .tmp 3 false] [1, 3, 31, 32, 33] (by kernel_rfl) ⟨trE (by kernel_rfl) h457, trivial⟩ (by kernel_rfl)) ?_
                  refine .reg (F' := (Fr.puts (⟨73, frTr [(1, (.pointer (some ⟨1, 0, none⟩))), (3, (.pointer (some ⟨2, 0, none⟩))), (31, (Sl.v 1 s428)), (32, (.int .i64 z429)), (33, (.int .i64 z430))] .nil⟩ : Fr) [(69, (.int .i64 (wrapF .i64 (Int.add z430 (1 : Int))))), (33, (.int .i64 (wrapF .i64 (Int.add z430 (1 : Int)))))])) (H' := (⟨3, objTr [(.cells tab0 true false []), (.cells [(.int .i64 z432), (Sl.v 1 s433), (Sl.v 1 s434)] false false []), (.cells (setL ([(.int .i64 (wrapF .i64 (Int.sub x453 (1 : Int))))] : List Value) (0 + k448 * 1) (setL ([(.int .i64 (wrapF .i64 (Int.add x443 (1 : Int))))] : List Value) (0 + k438 * 1) q435)) false false [])] 0 .nil, true⟩ : AHeap)) (by kernel_rfl) ?_
                  exact ⟨(s428, z429, (wrapF .i64 (Int.add z430 (1 : Int))), z432, s433, s434, (setL ([(.int .i64 (wrapF .i64 (Int.sub x453 (1 : Int))))] : List Value) (0 + k448 * 1) (setL ([(.int .i64 (wrapF .i64 (Int.add x443 (1 : Int))))] : List Value) (0 + k438 * 1) q435))), hm, (.gc [2] [false] [.tmp 1 false, .tmp 3 false] [1, 3, 31, 32, 33] (by kernel_rfl) ⟨trE (by kernel_rfl) h457, trivial⟩ (by kernel_rfl))⟩
              · skip
                have hq := oo_inv hm; clear hm; obtain ⟨v458, h459, hm⟩ := hq
                have hq := oo_inv hm; clear hm; obtain ⟨b460, h461, hm⟩ := hq
                obtain rfl := vBool_some h461
                have hq := bb_cases hm; clear hm; rcases hq with ⟨h462, hm⟩ | ⟨h462, hm⟩
                · skip
                  refine .reg (F' := (Fr.puts (⟨73, frTr [(1, (.pointer (some ⟨1, 0, none⟩))), (3, (.pointer (some ⟨2, 0, none⟩))), (5, (.int .i64 x414)), (6, (.int .i64 x419)), (31, (Sl.v 1 s400)), (32, (.int .i64 z401)), (33, (.int .i64 (Int.ofNat k409)))] .nil⟩ : Fr) [(43, (.int .i64 x414)), (44, (.int .i64 x419)), (45, (.int .i64 (bb (ilt x419 x414) x419 x414))), (46, (.pointer (some ⟨1, 0, none⟩))), (47, (.int .i64 z403)), (48, (.int .i64 (wrapF .i64 (Int.sub z403 (1 : Int))))), (49, (.bool b460)), (50, (.bool true)), (51, (.bool true)), (52, (.tuple ⟨[]⟩)), (53, (.tuple ⟨[]⟩)), (54, (.tuple ⟨[]⟩)), (55, (.tuple ⟨[]⟩)), (56, (.tuple ⟨[]⟩)), (57, (.tuple ⟨[]⟩)), (58, (.bool true))])) (H' := (⟨3, objTr [(.cells tab0 true false []), (.cells [(.int .i64 z403), (Sl.v 1 s404), (Sl.v 1 s405)] false false []), (.cells q406 false false [])] 0 .nil, true⟩ : AHeap)) (evOps_cut 6 (by kernel_rfl) (evOps_data ((oo (pu 60 [(.int .i64 (0 : Int)), (.int .i64 (bb (ilt x419 x414) x419 x414)), (.int .i64 (wrapF .i64 (Int.sub z403 (1 : Int))))]) none fun v => some (v, (⟨3, objTr [(.cells tab0 true false []), (.cells [(.int .i64 z403), (Sl.v 1 s404), (Sl.v 1 s405)] false false []), (.cells q406 false false [])] 0 .nil, true⟩ : AHeap)))) (by kernel_rfl) (call_eq h459) (okAt_of (by kernel_rfl) (by kernel_rfl)) (evOps_data (some ((.bool (nt b460)), (⟨3, objTr [(.cells tab0 true false []), (.cells [(.int .i64 z403), (Sl.v 1 s404), (Sl.v 1 s405)] false false []), (.cells q406 false false [])] 0 .nil, true⟩ : AHeap))) (by kernel_rfl) (show _ = some ((.bool true), _) from (by rw [h462])) (okAt_of (by kernel_rfl) (by kernel_rfl)) (by kernel_rfl)))) ?_
                  exact ⟨(x414, x419, s400, z401, (Int.ofNat k409), true, z403, s404, s405, q406), hm, (.gc [2] [false] [.tmp 1 false, .tmp 3 false] [1, 3, 5, 6, 31, 32, 33, 58] (by kernel_rfl) ⟨trE (by kernel_rfl) h407, trivial⟩ (by kernel_rfl))⟩
                · skip
                  refine .reg (F' := (Fr.puts (⟨73, frTr [(1, (.pointer (some ⟨1, 0, none⟩))), (3, (.pointer (some ⟨2, 0, none⟩))), (5, (.int .i64 x414)), (6, (.int .i64 x419)), (31, (Sl.v 1 s400)), (32, (.int .i64 z401)), (33, (.int .i64 (Int.ofNat k409)))] .nil⟩ : Fr) [(43, (.int .i64 x414)), (44, (.int .i64 x419)), (45, (.int .i64 (bb (ilt x419 x414) x419 x414))), (46, (.pointer (some ⟨1, 0, none⟩))), (47, (.int .i64 z403)), (48, (.int .i64 (wrapF .i64 (Int.sub z403 (1 : Int))))), (49, (.bool b460)), (50, (.bool false)), (51, (.bool false)), (52, (.int .i64 x414)), (53, (.int .i64 x419)), (54, (.int .i64 (bb (ilt x414 x419) x419 x414))), (55, (.pointer (some ⟨1, 0, none⟩))), (56, (.int .i64 z403)), (57, (.bool (nt (ilt (bb (ilt x414 x419) x419 x414) z403)))), (58, (.bool (nt (ilt (bb (ilt x414 x419) x419 x414) z403))))])) (H' := (⟨3, objTr [(.cells tab0 true false []), (.cells [(.int .i64 z403), (Sl.v 1 s404), (Sl.v 1 s405)] false false []), (.cells q406 false false [])] 0 .nil, true⟩ : AHeap)) (evOps_cut 6 (by kernel_rfl) (evOps_data ((oo (pu 60 [(.int .i64 (0 : Int)), (.int .i64 (bb (ilt x419 x414) x419 x414)), (.int .i64 (wrapF .i64 (Int.sub z403 (1 : Int))))]) none fun v => some (v, (⟨3, objTr [(.cells tab0 true false []), (.cells [(.int .i64 z403), (Sl.v 1 s404), (Sl.v 1 s405)] false false []), (.cells q406 false false [])] 0 .nil, true⟩ : AHeap)))) (by kernel_rfl) (call_eq h459) (okAt_of (by kernel_rfl) (by kernel_rfl)) (evOps_data (some ((.bool (nt b460)), (⟨3, objTr [(.cells tab0 true false []), (.cells [(.int .i64 z403), (Sl.v 1 s404), (Sl.v 1 s405)] false false []), (.cells q406 false false [])] 0 .nil, true⟩ : AHeap))) (by kernel_rfl) (show _ = some ((.bool false), _) from (by rw [h462])) (okAt_of (by kernel_rfl) (by kernel_rfl)) (by kernel_rfl)))) ?_
                  exact ⟨(x414, x419, s400, z401, (Int.ofNat k409), (nt (ilt (bb (ilt x414 x419) x419 x414) z403)), z403, s404, s405, q406), hm, (.gc [2] [false] [.tmp 1 false, .tmp 3 false] [1, 3, 5, 6, 31, 32, 33, 58] (by kernel_rfl) ⟨trE (by kernel_rfl) h407, trivial⟩ (by kernel_rfl))⟩
            · refine .ifF (ilt z402 z401) (by kernel_rfl) h408 ?_
              refine .exit ?_
              exact ⟨q406, hm, (.gc [2] [false] [.tmp 3 false] [3] (by kernel_rfl) ⟨trE (by kernel_rfl) h407, trivial⟩ (by kernel_rfl))⟩
/-- spadille/spadilleref09.Check -/
def o22_0 : List ROp := [
  ⟨(some 1), .box 27 (.tmp 0), 0, none, []⟩,
  ⟨(some 2), .assign (.const (.int .i64 0)), 28, none, []⟩]
def c22_0 : RC := .reg [] o22_0
def o22_1 : List ROp := [
  ⟨(some 5), .fieldAddr 27 (.tmp 1) 0, 0, none, []⟩,
  ⟨(some 6), .load 3 (.tmp 5), 3, none, []⟩,
  ⟨(some 7), .call ⟨.value (.func 61), #[(.tmp 6), (.const (.int .i64 1)), (.const (.int .i64 5))], #[3, 3, 3]⟩, 4, none, []⟩,
  ⟨(some 8), .unOp .not 4 (.tmp 7), 4, none, []⟩]
def c22_1 : RC := .reg [] o22_1
def o22_2 : List ROp := [
  ⟨(some 2), .assign (.const (.int .i64 1)), 28, none, []⟩]
def c22_2 : RC := .reg [] o22_2
def c22_3 : RC := .seq c22_2 .ret
def c22_4 : RC := .cond (.tmp 8) c22_3 .skip
def c22_5 : RC := .seq c22_1 c22_4
def o22_6 : List ROp := [
  ⟨(some 9), .fieldAddr 27 (.tmp 1) 1, 0, none, []⟩,
  ⟨(some 10), .load 22 (.tmp 9), 22, none, []⟩,
  ⟨(some 11), .call ⟨.builtin .len, #[(.tmp 10)], #[22]⟩, 3, none, []⟩,
  ⟨(some 12), .binOp .eql 3 (.tmp 11) (.const (.int .i64 0)) 3, 4, none, []⟩]
def c22_6 : RC := .reg [] o22_6
def o22_7 : List ROp := [
  ⟨(some 2), .assign (.const (.int .i64 4)), 28, none, []⟩]
def c22_7 : RC := .reg [] o22_7
def c22_8 : RC := .seq c22_7 .ret
def c22_9 : RC := .cond (.tmp 12) c22_8 .skip
def c22_10 : RC := .seq c22_6 c22_9
def o22_11 : List ROp := [
  ⟨(some 13), .fieldAddr 27 (.tmp 1) 1, 0, none, []⟩,
  ⟨(some 14), .load 22 (.tmp 13), 22, none, []⟩,
  ⟨(some 15), .call ⟨.builtin .len, #[(.tmp 14)], #[22]⟩, 3, none, []⟩,
  ⟨(some 16), .binOp .gtr 3 (.tmp 15) (.const (.int .i64 10)) 3, 4, none, []⟩]
def c22_11 : RC := .reg [] o22_11
def o22_12 : List ROp := [
  ⟨(some 2), .assign (.const (.int .i64 3)), 28, none, []⟩]
def c22_12 : RC := .reg [] o22_12
def c22_13 : RC := .seq c22_12 .ret
def c22_14 : RC := .cond (.tmp 16) c22_13 .skip
def c22_15 : RC := .seq c22_11 c22_14
def o22_16 : List ROp := [
  ⟨(some 17), .fieldAddr 27 (.tmp 1) 2, 0, none, []⟩,
  ⟨(some 18), .load 22 (.tmp 17), 22, none, []⟩,
  ⟨(some 19), .call ⟨.builtin .len, #[(.tmp 18)], #[22]⟩, 3, none, []⟩,
  ⟨(some 20), .fieldAddr 27 (.tmp 1) 1, 0, none, []⟩,
  ⟨(some 21), .load 22 (.tmp 20), 22, none, []⟩,
  ⟨(some 22), .call ⟨.builtin .len, #[(.tmp 21)], #[22]⟩, 3, none, []⟩,
  ⟨(some 23), .binOp .neq 3 (.tmp 19) (.tmp 22) 3, 4, none, []⟩]
def c22_16 : RC := .reg [] o22_16
def o22_17 : List ROp := [
  ⟨(some 2), .assign (.const (.int .i64 5)), 28, none, []⟩]
def c22_17 : RC := .reg [] o22_17
def c22_18 : RC := .seq c22_17 .ret
def c22_19 : RC := .cond (.tmp 23) c22_18 .skip
def c22_20 : RC := .seq c22_16 c22_19
def o22_21 : List ROp := [
  ⟨(some 3), .assign (.const (.int .i64 0)), 3, none, []⟩]
def c22_21 : RC := .reg [] o22_21
def o22_22 : List ROp := [
  ⟨(some 24), .move (.tmp 3), 3, none, []⟩,
  ⟨(some 25), .fieldAddr 27 (.tmp 1) 1, 0, none, []⟩,
  ⟨(some 26), .load 22 (.tmp 25), 22, none, []⟩,
  ⟨(some 27), .call ⟨.builtin .len, #[(.tmp 26)], #[22]⟩, 3, none, []⟩,
  ⟨(some 28), .binOp .lss 3 (.tmp 24) (.tmp 27) 3, 4, none, []⟩]
def c22_22 : RC := .reg [] o22_22
def c22_23 : RC := .cond (.tmp 28) .skip (.exit 0)
def c22_24 : RC := .seq c22_22 c22_23
def o22_25 : List ROp := [
  ⟨(some 31), .fieldAddr 27 (.tmp 1) 1, 0, none, []⟩,
  ⟨(some 32), .load 22 (.tmp 31), 22, none, []⟩,
  ⟨(some 33), .move (.tmp 3), 3, none, []⟩,
  ⟨(some 34), .indexAddr 22 (.tmp 32) (.tmp 33), 0, none, []⟩,
  ⟨(some 35), .load 3 (.tmp 34), 3, none, []⟩,
  ⟨(some 36), .fieldAddr 27 (.tmp 1) 0, 0, none, []⟩,
  ⟨(some 37), .load 3 (.tmp 36), 3, none, []⟩,
  ⟨(some 38), .binOp .sub 3 (.tmp 37) (.const (.int .i64 1)) 3, 3, none, []⟩,
  ⟨(some 39), .call ⟨.value (.func 61), #[(.tmp 35), (.const (.int .i64 0)), (.tmp 38)], #[3, 3, 3]⟩, 4, none, []⟩,
  ⟨(some 40), .unOp .not 4 (.tmp 39), 4, none, []⟩,
  ⟨(some 41), .move (.tmp 40), 4, none, []⟩,
  ⟨(some 42), .fieldAddr 27 (.tmp 1) 2, 0, (some ((some 41), false)), []⟩,
  ⟨(some 43), .load 22 (.tmp 42), 22, (some ((some 41), false)), []⟩,
  ⟨(some 44), .move (.tmp 3), 3, (some ((some 41), false)), []⟩,
  ⟨(some 45), .indexAddr 22 (.tmp 43) (.tmp 44), 0, (some ((some 41), false)), []⟩,
  ⟨(some 46), .load 3 (.tmp 45), 3, (some ((some 41), false)), []⟩,
  ⟨(some 47), .fieldAddr 27 (.tmp 1) 0, 0, (some ((some 41), false)), []⟩,
  ⟨(some 48), .load 3 (.tmp 47), 3, (some ((some 41), false)), []⟩,
  ⟨(some 49), .binOp .sub 3 (.tmp 48) (.const (.int .i64 1)) 3, 3, (some ((some 41), false)), []⟩,
  ⟨(some 50), .call ⟨.value (.func 61), #[(.tmp 46), (.const (.int .i64 0)), (.tmp 49)], #[3, 3, 3]⟩, 4, (some ((some 41), false)), []⟩,
  ⟨(some 51), .unOp .not 4 (.tmp 50), 4, (some ((some 41), false)), []⟩,
  ⟨(some 52), .pick (.tmp 41) (.const (.bool true)) (.tmp 51), 4, none, []⟩]
def c22_25 : RC := .reg [0, 1, 2, 3, 4, 5, 6, 7, 8, 9, 10, 11, 12, 13, 14, 15, 16, 17, 18, 19, 20, 21] o22_25
def o22_26 : List ROp := [
  ⟨(some 2), .assign (.const (.int .i64 2)), 28, none, []⟩]
def c22_26 : RC := .reg [] o22_26
def c22_27 : RC := .seq c22_26 .ret
def c22_28 : RC := .cond (.tmp 52) c22_27 .skip
def c22_29 : RC := .seq c22_25 c22_28
def c22_30 : RC := .block 1 c22_29
def o22_31 : List ROp := [
  ⟨(some 29), .move (.tmp 3), 3, none, []⟩,
  ⟨(some 30), .binOp .add 3 (.tmp 29) (.const (.int .i64 1)) 3, 3, none, []⟩,
  ⟨(some 3), .assign (.tmp 30), 3, none, []⟩]
def c22_31 : RC := .reg [] o22_31
def c22_32 : RC := .seq c22_30 c22_31
def c22_33 : RC := .seq c22_24 c22_32
def c22_34 : RC := .loop c22_33
def c22_35 : RC := .block 0 c22_34
def c22_36 : RC := .seq c22_21 c22_35
def o22_37 : List ROp := [
  ⟨(some 4), .assign (.const (.int .i64 0)), 3, none, []⟩]
def c22_37 : RC := .reg [] o22_37
def o22_38 : List ROp := [
  ⟨(some 53), .move (.tmp 4), 3, none, []⟩,
  ⟨(some 54), .fieldAddr 27 (.tmp 1) 0, 0, none, []⟩,
  ⟨(some 55), .load 3 (.tmp 54), 3, none, []⟩,
  ⟨(some 56), .binOp .lss 3 (.tmp 53) (.tmp 55) 3, 4, none, []⟩]
def c22_38 : RC := .reg [] o22_38
def c22_39 : RC := .cond (.tmp 56) .skip (.exit 2)
def c22_40 : RC := .seq c22_38 c22_39
def o22_41 : List ROp := [
  ⟨(some 59), .fieldAddr 27 (.tmp 1) 1, 0, none, []⟩,
  ⟨(some 60), .load 22 (.tmp 59), 22, none, []⟩,
  ⟨(some 61), .move (.tmp 4), 3, none, []⟩,
  ⟨(some 63), .fieldAddr 27 (.tmp 1) 2, 0, none, []⟩,
  ⟨(some 64), .load 22 (.tmp 63), 22, none, []⟩,
  ⟨(some 65), .move (.tmp 4), 3, none, []⟩,
  ⟨(some 62), .call ⟨.value (.func 62), #[(.tmp 60), (.tmp 61)], #[22, 3]⟩, 3, none, [(.tmp 63)]⟩,
  ⟨(some 66), .call ⟨.value (.func 62), #[(.tmp 64), (.tmp 65)], #[22, 3]⟩, 3, none, []⟩,
  ⟨(some 67), .binOp .neq 3 (.tmp 62) (.tmp 66) 3, 4, none, []⟩]
def c22_41 : RC := .reg [0, 1, 2, 4, 5, 6, 3, 7, 8] o22_41
def o22_42 : List ROp := [
  ⟨(some 2), .assign (.const (.int .i64 17)), 28, none, []⟩]
def c22_42 : RC := .reg [] o22_42
def c22_43 : RC := .seq c22_42 .ret
def c22_44 : RC := .cond (.tmp 67) c22_43 .skip
def c22_45 : RC := .seq c22_41 c22_44
def c22_46 : RC := .block 3 c22_45
def o22_47 : List ROp := [
  ⟨(some 57), .move (.tmp 4), 3, none, []⟩,
  ⟨(some 58), .binOp .add 3 (.tmp 57) (.const (.int .i64 1)) 3, 3, none, []⟩,
  ⟨(some 4), .assign (.tmp 58), 3, none, []⟩]
def c22_47 : RC := .reg [] o22_47
def c22_48 : RC := .seq c22_46 c22_47
def c22_49 : RC := .seq c22_40 c22_48
def c22_50 : RC := .loop c22_49
def c22_51 : RC := .block 2 c22_50
def c22_52 : RC := .seq c22_37 c22_51
def o22_53 : List ROp := [
  ⟨(some 2), .assign (.const (.int .i64 0)), 28, none, []⟩]
def c22_53 : RC := .reg [] o22_53
def c22_54 : RC := .seq c22_53 .ret
def c22_55 : RC := .seq c22_52 c22_54
def c22_56 : RC := .seq c22_36 c22_55
def c22_57 : RC := .seq c22_20 c22_56
def c22_58 : RC := .seq c22_15 c22_57
def c22_59 : RC := .seq c22_10 c22_58
def c22_60 : RC := .seq c22_5 c22_59
def c22_61 : RC := .seq c22_0 c22_60
def m22_1 (pu : PureF) (n : Nat) : Option Value :=
  (some (.int .i64 (0 : Int)))
def b22_2 (pu : PureF) (n : Nat) (ih0 : Int → Int → Sl → Sl → Option Value) (z552 : Int) (z553 : Int) (s554 : Sl) (s555 : Sl) : Option Value :=
  (bb (ilt z552 z553) (oo (pu 62 [(Sl.v 1 s554), (.int .i64 z552)]) none fun v557 => (oo (toI .i64 v557) none fun x559 => (oo (pu 62 [(Sl.v 1 s555), (.int .i64 z552)]) none fun v561 => (oo (toI .i64 v561) none fun x563 => (bb (nt (ieq x559 x563)) (some (.int .i64 (17 : Int))) (ih0 (wrapF .i64 (Int.add z552 (1 : Int))) z553 s554 s555)))))) (m22_1 pu n))
def l22_2 (pu : PureF) (n : Nat) (w : Nat) : Int → Int → Sl → Sl → Option Value :=
  Nat.rec (motive := fun _ => Int → Int → Sl → Sl → Option Value) (fun _ _ _ _ => none) (fun _ ih0 => b22_2 pu n ih0) w
def m22_0 (pu : PureF) (n : Nat) (z535 : Int) (s536 : Sl) (s537 : Sl) : Option Value :=
  (l22_2 pu n n (0 : Int) z535 s536 s537)
def m22_4 (pu : PureF) (n : Nat) (ih0 : Int → Int → Sl → Sl → Option Value) (z592 : Int) (b593 : Bool) (z594 : Int) (s595 : Sl) (s596 : Sl) : Option Value :=
  (bb b593 (some (.int .i64 (2 : Int))) (ih0 (wrapF .i64 (Int.add z592 (1 : Int))) z594 s595 s596))
def b22_3 (pu : PureF) (n : Nat) (ih0 : Int → Int → Sl → Sl → Option Value) (z566 : Int) (z567 : Int) (s568 : Sl) (s569 : Sl) : Option Value :=
  (bb (ilt z566 (Int.ofNat (Sl.n s568))) (oo (toN z566) none fun k598 => (bb (an (Nat.blt k598 (Sl.n s568)) true) (oo (nthL (Sl.cs s568) (k598 * 1)) none fun v601 => (oo (toI .i64 v601) none fun x603 => (oo (pu 61 [(.int .i64 x603), (.int .i64 (0 : Int)), (.int .i64 (wrapF .i64 (Int.sub z567 (1 : Int))))]) none fun v605 => (oo (vBool v605) none fun b607 => (bb (nt b607) (m22_4 pu n ih0 (Int.ofNat k598) true z567 s568 s569) (bb (an (Nat.blt k598 (Sl.n s569)) true) (oo (nthL (Sl.cs s569) (k598 * 1)) none fun v611 => (oo (toI .i64 v611) none fun x613 => (oo (pu 61 [(.int .i64 x613), (.int .i64 (0 : Int)), (.int .i64 (wrapF .i64 (Int.sub z567 (1 : Int))))]) none fun v615 => (oo (vBool v615) none fun b617 => (m22_4 pu n ih0 (Int.ofNat k598) (nt b617) z567 s568 s569))))) none)))))) none)) (m22_0 pu n z567 s568 s569))
def l22_3 (pu : PureF) (n : Nat) (w : Nat) : Int → Int → Sl → Sl → Option Value :=
  Nat.rec (motive := fun _ => Int → Int → Sl → Sl → Option Value) (fun _ _ _ _ => none) (fun _ ih0 => b22_3 pu n ih0) w
def m22_ (pu : PureF) (n : Nat) (x468 : Int) (s470 : Sl) (s472 : Sl) : Option Value :=
  (oo (pu 61 [(.int .i64 x468), (.int .i64 (1 : Int)), (.int .i64 (5 : Int))]) none fun v474 => (oo (vBool v474) none fun b476 => (bb (nt b476) (some (.int .i64 (1 : Int))) (bb (ieq (Int.ofNat (Sl.n s470)) (0 : Int)) (some (.int .i64 (4 : Int))) (bb (ilt (10 : Int) (Int.ofNat (Sl.n s470))) (some (.int .i64 (3 : Int))) (bb (nt (ieq (Int.ofNat (Sl.n s472)) (Int.ofNat (Sl.n s470)))) (some (.int .i64 (5 : Int))) (l22_3 pu n n (0 : Int) x468 s470 s472)))))))
def m22 (pu : PureF) (n : Nat) (args : List Value) : Option Value :=
  (ll args none fun a0 args => (ll args (oo (vAgg a0) none fun l463 => (ll l463 none fun v465 l463 => (ll l463 none fun v466 l463 => (ll l463 none fun v467 l463 => (ll l463 (oo (toI .i64 v465) none fun x468 => (oo (toSl 1 v466) none fun s470 => (oo (toSl 1 v467) none fun s472 => (m22_ pu n x468 s470 s472)))) fun _ _ => none))))) fun _ _ => none))
theorem r22 {call : CallF} (pu : PureF) (n : Nat) (hcall : call = callP tabs isP pu inl) {args : List Value} {v : Value} (hm : m22 pu n args = some v) (_ : ∀ x ∈ args, closed2 x = true) : args.length ≤ 68 ∧ Run tt call 1 c22_61 (Fr.made 68 args) (pureHeap tabs) (Fin tt 1 [.tmp 2] v) := by
  subst hcall
  unfold m22 at hm
  have hq := ll_uncons hm; clear hm; obtain ⟨a0, args_0, rfl, hm⟩ := hq
  have hq := ll_end hm; clear hm; obtain ⟨rfl, hm⟩ := hq
  have hq := oo_inv hm; clear hm; obtain ⟨l463, h464, hm⟩ := hq
  obtain rfl := vAgg_some h464
  have hq := ll_uncons hm; clear hm; obtain ⟨v465, l463_0, rfl, hm⟩ := hq
  have hq := ll_uncons hm; clear hm; obtain ⟨v466, l463_1, rfl, hm⟩ := hq
  have hq := ll_uncons hm; clear hm; obtain ⟨v467, l463_2, rfl, hm⟩ := hq
  have hq := ll_end hm; clear hm; obtain ⟨rfl, hm⟩ := hq
  have hq := oo_inv hm; clear hm; obtain ⟨x468, h469, hm⟩ := hq
  obtain rfl := toI_some h469
  have hq := oo_inv hm; clear hm; obtain ⟨s470, h471, hm⟩ := hq
  obtain rfl := toSl_some h471
  have hq := oo_inv hm; clear hm; obtain ⟨s472, h473, hm⟩ := hq
  obtain rfl := toSl_some h473
  unfold m22_ at hm
  refine ⟨by simp, ?_⟩
  refine .same (F' := (⟨68, frTr [(0, (.agg ⟨[(.int .i64 x468), (Sl.v 1 s470), (Sl.v 1 s472)]⟩))] .nil⟩ : Fr)) (H' := (⟨1, objTr [(.cells tab0 true false [])] 0 .nil, true⟩ : AHeap)) (by kernel_rfl) (by kernel_rfl) ?_
  refine .then ?_
  refine .reg (F' := (Fr.puts (⟨68, frTr [(0, (.agg ⟨[(.int .i64 x468), (Sl.v 1 s470), (Sl.v 1 s472)]⟩))] .nil⟩ : Fr) [(1, (.pointer (some ⟨1, 0, none⟩))), (2, (.int .i64 (0 : Int)))])) (H' := (⟨2, objTr [(.cells tab0 true false []), (.cells [(.int .i64 x468), (Sl.v 1 s470), (Sl.v 1 s472)] false false [])] 0 .nil, true⟩ : AHeap)) (by kernel_rfl) ?_
  refine .ghs (⟨68, frTr [(1, (.pointer (some ⟨1, 0, none⟩)))] .nil⟩ : Fr) (⟨2, objTr [(.cells tab0 true false []), (.cells [(.int .i64 x468), (Sl.v 1 s470), (Sl.v 1 s472)] false false [])] 0 .nil, true⟩ : AHeap) (.gc [] [false] [.tmp 1 false] [1] (by kernel_rfl) trivial (by kernel_rfl)) ?_
  refine .then ?_
  refine .then ?_
  have hq := oo_inv hm; clear hm; obtain ⟨v474, h475, hm⟩ := hq
  have hq := oo_inv hm; clear hm; obtain ⟨b476, h477, hm⟩ := hq
  obtain rfl := vBool_some h477
  refine .reg (F' := (Fr.puts (⟨68, frTr [(1, (.pointer (some ⟨1, 0, none⟩)))] .nil⟩ : Fr) [(5, (.pointer (some ⟨1, 0, none⟩))), (6, (.int .i64 x468)), (7, (.bool b476)), (8, (.bool (nt b476)))])) (H' := (⟨2, objTr [(.cells tab0 true false []), (.cells [(.int .i64 x468), (Sl.v 1 s470), (Sl.v 1 s472)] false false [])] 0 .nil, true⟩ : AHeap)) (evOps_cut 2 (by kernel_rfl) (evOps_data ((oo (pu 61 [(.int .i64 x468), (.int .i64 (1 : Int)), (.int .i64 (5 : Int))]) none fun v => some (v, (⟨2, objTr [(.cells tab0 true false []), (.cells [(.int .i64 x468), (Sl.v 1 s470), (Sl.v 1 s472)] false false [])] 0 .nil, true⟩ : AHeap)))) (by kernel_rfl) (call_eq h475) (okAt_of (by kernel_rfl) (by kernel_rfl)) (by kernel_rfl))) ?_
  refine .ghs (⟨68, frTr [(1, (.pointer (some ⟨1, 0, none⟩))), (8, (.bool (nt b476)))] .nil⟩ : Fr) (⟨2, objTr [(.cells tab0 true false []), (.cells [(.int .i64 x468), (Sl.v 1 s470), (Sl.v 1 s472)] false false [])] 0 .nil, true⟩ : AHeap) (.gc [] [false] [.tmp 1 false] [1, 8] (by kernel_rfl) trivial (by kernel_rfl)) ?_
  have hq := bb_cases hm; clear hm; rcases hq with ⟨h478, hm⟩ | ⟨h478, hm⟩
  · refine .ifT (nt b476) (by kernel_rfl) h478 ?_
    refine .then ?_
    refine .reg (F' := (Fr.puts (⟨68, frTr [(1, (.pointer (some ⟨1, 0, none⟩))), (8, (.bool (nt b476)))] .nil⟩ : Fr) [(2, (.int .i64 (1 : Int)))])) (H' := (⟨2, objTr [(.cells tab0 true false []), (.cells [(.int .i64 x468), (Sl.v 1 s470), (Sl.v 1 s472)] false false [])] 0 .nil, true⟩ : AHeap)) (by kernel_rfl) ?_
    refine .ghs (⟨68, frTr [(2, (.int .i64 (1 : Int)))] .nil⟩ : Fr) (⟨1, objTr [(.cells tab0 true false [])] 0 .nil, true⟩ : AHeap) (.gc [] [false] [] [2] (by kernel_rfl) trivial (by kernel_rfl)) ?_
    refine .ret ?_
    exact fin_ret (.int .i64 (1 : Int)) (by kernel_rfl) (by kernel_rfl) hm
  · refine .ifF (nt b476) (by kernel_rfl) h478 ?_
    refine .skip ?_
    refine .ghs (⟨68, frTr [(1, (.pointer (some ⟨1, 0, none⟩)))] .nil⟩ : Fr) (⟨2, objTr [(.cells tab0 true false []), (.cells [(.int .i64 x468), (Sl.v 1 s470), (Sl.v 1 s472)] false false [])] 0 .nil, true⟩ : AHeap) (.gc [] [false] [.tmp 1 false] [1] (by kernel_rfl) trivial (by kernel_rfl)) ?_
    refine .then ?_
    refine .then ?_
    refine .reg (F' := (Fr.puts (⟨68, frTr [(1, (.pointer (some ⟨1, 0, none⟩)))] .nil⟩ : Fr) [(9, (.pointer (some ⟨1, 1, none⟩))), (10, (Sl.v 1 s470)), (11, (.int .i64 (Int.ofNat (Sl.n s470)))), (12, (.bool (ieq (Int.ofNat (Sl.n s470)) (0 : Int))))])) (H' := (⟨2, objTr [(.cells tab0 true false []), (.cells [(.int .i64 x468), (Sl.v 1 s470), (Sl.v 1 s472)] false false [])] 0 .nil, true⟩ : AHeap)) (by kernel_rfl) ?_
    refine .ghs (⟨68, frTr [(1, (.pointer (some ⟨1, 0, none⟩))), (12, (.bool (ieq (Int.ofNat (Sl.n s470)) (0 : Int))))] .nil⟩ : Fr) (⟨2, objTr [(.cells tab0 true false []), (.cells [(.int .i64 x468), (Sl.v 1 s470), (Sl.v 1 s472)] false false [])] 0 .nil, true⟩ : AHeap) (.gc [] [false] [.tmp 1 false] [1, 12] (by kernel_rfl) trivial (by kernel_rfl)) ?_
    have hq := bb_cases hm; clear hm; rcases hq with ⟨h479, hm⟩ | ⟨h479, hm⟩
    · refine .ifT (ieq (Int.ofNat (Sl.n s470)) (0 : Int)) (by kernel_rfl) h479 ?_
      refine .then ?_
      refine .reg (F' := (Fr.puts (⟨68, frTr [(1, (.pointer (some ⟨1, 0, none⟩))), (12, (.bool (ieq (Int.ofNat (Sl.n s470)) (0 : Int))))] .nil⟩ : Fr) [(2, (.int .i64 (4 : Int)))])) (H' := (⟨2, objTr [(.cells tab0 true false []), (.cells [(.int .i64 x468), (Sl.v 1 s470), (Sl.v 1 s472)] false false [])] 0 .nil, true⟩ : AHeap)) (by kernel_rfl) ?_
      refine .ghs (⟨68, frTr [(2, (.int .i64 (4 : Int)))] .nil⟩ : Fr) (⟨1, objTr [(.cells tab0 true false [])] 0 .nil, true⟩ : AHeap) (.gc [] [false] [] [2] (by kernel_rfl) trivial (by kernel_rfl)) ?_
      refine .ret ?_
      exact fin_ret (.int .i64 (4 : Int)) (by kernel_rfl) (by kernel_rfl) hm
    · refine .ifF (ieq (Int.ofNat (Sl.n s470)) (0 : Int)) (by kernel_rfl) h479 ?_
      refine .skip ?_
      refine .ghs (⟨68, frTr [(1, (.pointer (some ⟨1, 0, none⟩)))] .nil⟩ : Fr) (⟨2, objTr [(.cells tab0 true false []), (.cells [(.int .i64 x468), (Sl.v 1 s470), (Sl.v 1 s472)] false false [])] 0 .nil, true⟩ : AHeap) (.gc [] [false] [.tmp 1 false] [1] (by kernel_rfl) trivial (by kernel_rfl)) ?_
      refine .then ?_
      refine .then ?_
      refine .reg (F' := (Fr.puts (⟨68, frTr [(1, (.pointer (some ⟨1, 0, none⟩)))] .nil⟩ : Fr) [(13, (.pointer (some ⟨1, 1, none⟩))), (14, (Sl.v 1 s470)), (15, (.int .i64 (Int.ofNat (Sl.n s470)))), (16, (.bool (ilt (10 : Int) (Int.ofNat (Sl.n s470)))))])) (H' := (⟨2, objTr [(.cells tab0 true false []), (.cells [(.int .i64 x468), (Sl.v 1 s470), (Sl.v 1 s472)] false false [])] 0 .nil, true⟩ : AHeap)) (by kernel_rfl) ?_
      refine .ghs (⟨68, frTr [(1, (.pointer (some ⟨1, 0, none⟩))), (16, (.bool (ilt (10 : Int) (Int.ofNat (Sl.n s470)))))] .nil⟩ : Fr) (⟨2, objTr [(.cells tab0 true false []), (.cells [(.int .i64 x468), (Sl.v 1 s470), (Sl.v 1 s472)] false false [])] 0 .nil, true⟩ : AHeap) (.gc [] [false] [.tmp 1 false] [1, 16] (by kernel_rfl) trivial (by kernel_rfl)) ?_
      have hq := bb_cases hm; clear hm; rcases hq with ⟨h480, hm⟩ | ⟨h480, hm⟩
      · refine .ifT (ilt (10 : Int) (Int.ofNat (Sl.n s470))) (by kernel_rfl) h480 ?_
        refine .then ?_
        refine .reg (F' := (Fr.puts (⟨68, frTr [(1, (.pointer (some ⟨1, 0, none⟩))), (16, (.bool (ilt (10 : Int) (Int.ofNat (Sl.n s470)))))] .nil⟩ : Fr) [(2, (.int .i64 (3 : Int)))])) (H' := (⟨2, objTr [(.cells tab0 true false []), (.cells [(.int .i64 x468), (Sl.v 1 s470), (Sl.v 1 s472)] false false [])] 0 .nil, true⟩ : AHeap)) (by kernel_rfl) ?_
        refine .ghs (⟨68, frTr [(2, (.int .i64 (3 : Int)))] .nil⟩ : Fr) (⟨1, objTr [(.cells tab0 true false [])] 0 .nil, true⟩ : AHeap) (.gc [] [false] [] [2] (by kernel_rfl) trivial (by kernel_rfl)) ?_
        refine .ret ?_
        exact fin_ret (.int .i64 (3 : Int)) (by kernel_rfl) (by kernel_rfl) hm
      · refine .ifF (ilt (10 : Int) (Int.ofNat (Sl.n s470))) (by kernel_rfl) h480 ?_
        refine .skip ?_
        refine .ghs (⟨68, frTr [(1, (.pointer (some ⟨1, 0, none⟩)))] .nil⟩ : Fr) (⟨2, objTr [(.cells tab0 true false []), (.cells [(.int .i64 x468), (Sl.v 1 s470), (Sl.v 1 s472)] false false [])] 0 .nil, true⟩ : AHeap) (.gc [] [false] [.tmp 1 false] [1] (by kernel_rfl) trivial (by kernel_rfl)) ?_
        refine .then ?_
        refine .then ?_
        refine .reg (F' := (Fr.puts (⟨68, frTr [(1, (.pointer (some ⟨1, 0, none⟩)))] .nil⟩ : Fr) [(17, (.pointer (some ⟨1, 2, none⟩))), (18, (Sl.v 1 s472)), (19, (.int .i64 (Int.ofNat (Sl.n s472)))), (20, (.pointer (some ⟨1, 1, none⟩))), (21, (Sl.v 1 s470)), (22, (.int .i64 (Int.ofNat (Sl.n s470)))), (23, (.bool (nt (ieq (Int.ofNat (Sl.n s472)) (Int.ofNat (Sl.n s470))))))])) (H' := (⟨2, objTr [(.cells tab0 true false []), (.cells [(.int .i64 x468), (Sl.v 1 s470), (Sl.v 1 s472)] false false [])] 0 .nil, true⟩ : AHeap)) (by kernel_rfl) ?_
        refine .ghs (⟨68, frTr [(1, (.pointer (some ⟨1, 0, none⟩))), (23, (.bool (nt (ieq (Int.ofNat (Sl.n s472)) (Int.ofNat (Sl.n s470))))))] .nil⟩ : Fr) (⟨2, objTr [(.cells tab0 true false []), (.cells [(.int .i64 x468), (Sl.v 1 s470), (Sl.v 1 s472)] false false [])] 0 .nil, true⟩ : AHeap) (.gc [] [false] [.tmp 1 false] [1, 23] (by kernel_rfl) trivial (by kernel_rfl)) ?_
        have hq := bb_cases hm; clear hm; rcases hq with ⟨h481, hm⟩ | ⟨h481, hm⟩
        · refine .ifT (nt (ieq (Int.ofNat (Sl.n s472)) (Int.ofNat (Sl.n s470)))) (by kernel_rfl) h481 ?_
          refine .then ?_
          refine .reg (F' := (Fr.puts (⟨68, frTr [(1, (.pointer (some ⟨1, 0, none⟩))), (23, (.bool (nt (ieq (Int.ofNat (Sl.n s472)) (Int.ofNat (Sl.n s470))))))] .nil⟩ : Fr) [(2, (.int .i64 (5 : Int)))])) (H' := (⟨2, objTr [(.cells tab0 true false []), (.cells [(.int .i64 x468), (Sl.v 1 s470), (Sl.v 1 s472)] false false [])] 0 .nil, true⟩ : AHeap)) (by kernel_rfl) ?_
          refine .ghs (⟨68, frTr [(2, (.int .i64 (5 : Int)))] .nil⟩ : Fr) (⟨1, objTr [(.cells tab0 true false [])] 0 .nil, true⟩ : AHeap) (.gc [] [false] [] [2] (by kernel_rfl) trivial (by kernel_rfl)) ?_
          refine .ret ?_
          exact fin_ret (.int .i64 (5 : Int)) (by kernel_rfl) (by kernel_rfl) hm
        · refine .ifF (nt (ieq (Int.ofNat (Sl.n s472)) (Int.ofNat (Sl.n s470)))) (by kernel_rfl) h481 ?_
          refine .skip ?_
          refine .ghs (⟨68, frTr [(1, (.pointer (some ⟨1, 0, none⟩)))] .nil⟩ : Fr) (⟨2, objTr [(.cells tab0 true false []), (.cells [(.int .i64 x468), (Sl.v 1 s470), (Sl.v 1 s472)] false false [])] 0 .nil, true⟩ : AHeap) (.gc [] [false] [.tmp 1 false] [1] (by kernel_rfl) trivial (by kernel_rfl)) ?_
          refine .join (v := v) (fun y : Int × Sl × Sl => ((⟨68, frTr [(1, (.pointer (some ⟨1, 0, none⟩)))] .nil⟩ : Fr), (⟨2, objTr [(.cells tab0 true false []), (.cells [(.int .i64 y.1), (Sl.v 1 y.2.1), (Sl.v 1 y.2.2)] false false [])] 0 .nil, true⟩ : AHeap))) (fun y => m22_0 pu n y.1 y.2.1 y.2.2) ?_ ?_
          · rintro ⟨z535, s536, s537⟩ hm
            unfold m22_0 at hm
            refine .join (v := v) (fun y : Unit => ((⟨68, frTr [] .nil⟩ : Fr), (⟨1, objTr [(.cells tab0 true false [])] 0 .nil, true⟩ : AHeap))) (fun y => m22_1 pu n) ?_ ?_
            · rintro _ hm
              unfold m22_1 at hm
              refine .then ?_
              refine .reg (F' := (Fr.puts (⟨68, frTr [] .nil⟩ : Fr) [(2, (.int .i64 (0 : Int)))])) (H' := (⟨1, objTr [(.cells tab0 true false [])] 0 .nil, true⟩ : AHeap)) (by kernel_rfl) ?_
              refine .ghs (⟨68, frTr [(2, (.int .i64 (0 : Int)))] .nil⟩ : Fr) (⟨1, objTr [(.cells tab0 true false [])] 0 .nil, true⟩ : AHeap) (.gc [] [false] [] [2] (by kernel_rfl) trivial (by kernel_rfl)) ?_
              refine .ret ?_
              exact fin_ret (.int .i64 (0 : Int)) (by kernel_rfl) (by kernel_rfl) hm
            · skip
              refine .then ?_
              refine .reg (F' := (Fr.puts (⟨68, frTr [(1, (.pointer (some ⟨1, 0, none⟩)))] .nil⟩ : Fr) [(4, (.int .i64 (0 : Int)))])) (H' := (⟨2, objTr [(.cells tab0 true false []), (.cells [(.int .i64 z535), (Sl.v 1 s536), (Sl.v 1 s537)] false false [])] 0 .nil, true⟩ : AHeap)) (by kernel_rfl) ?_
              refine .ghs (⟨68, frTr [(1, (.pointer (some ⟨1, 0, none⟩))), (4, (.int .i64 (0 : Int)))] .nil⟩ : Fr) (⟨2, objTr [(.cells tab0 true false []), (.cells [(.int .i64 z535), (Sl.v 1 s536), (Sl.v 1 s537)] false false [])] 0 .nil, true⟩ : AHeap) (.gc [] [false] [.tmp 1 false] [1, 4] (by kernel_rfl) trivial (by kernel_rfl)) ?_
              refine .block ?_
              refine .loopM (v := v) (fun y : Int × Int × Sl × Sl => ((⟨68, frTr [(1, (.pointer (some ⟨1, 0, none⟩))), (4, (.int .i64 y.1))] .nil⟩ : Fr), (⟨2, objTr [(.cells tab0 true false []), (.cells [(.int .i64 y.2.1), (Sl.v 1 y.2.2.1), (Sl.v 1 y.2.2.2)] false false [])] 0 .nil, true⟩ : AHeap))) (fun w y => l22_2 pu n w y.1 y.2.1 y.2.2.1 y.2.2.2) n ⟨((0 : Int), z535, s536, s537), hm, (.gc [] [false] [.tmp 1 false] [1, 4] (by kernel_rfl) trivial (by kernel_rfl))⟩ (fun _ => rfl) ?_
              rintro w0 ⟨z552, z553, s554, s555⟩ hm
              refine .then ?_
              refine .then ?_
              refine .reg (F' := (Fr.puts (⟨68, frTr [(1, (.pointer (some ⟨1, 0, none⟩))), (4, (.int .i64 z552))] .nil⟩ : Fr) [(53, (.int .i64 z552)), (54, (.pointer (some ⟨1, 0, none⟩))), (55, (.int .i64 z553)), (56, (.bool (ilt z552 z553)))])) (H' := (⟨2, objTr [(.cells tab0 true false []), (.cells [(.int .i64 z553), (Sl.v 1 s554), (Sl.v 1 s555)] false false [])] 0 .nil, true⟩ : AHeap)) (by kernel_rfl) ?_
              refine .ghs (⟨68, frTr [(1, (.pointer (some ⟨1, 0, none⟩))), (4, (.int .i64 z552)), (56, (.bool (ilt z552 z553)))] .nil⟩ : Fr) (⟨2, objTr [(.cells tab0 true false []), (.cells [(.int .i64 z553), (Sl.v 1 s554), (Sl.v 1 s555)] false false [])] 0 .nil, true⟩ : AHeap) (.gc [] [false] [.tmp 1 false] [1, 4, 56] (by kernel_rfl) trivial (by kernel_rfl)) ?_
              have hq := bb_cases hm; clear hm; rcases hq with ⟨h556, hm⟩ | ⟨h556, hm⟩
              · refine .ifT (ilt z552 z553) (by kernel_rfl) h556 ?_
                refine .skip ?_
                refine .ghs (⟨68, frTr [(1, (.pointer (some ⟨1, 0, none⟩))), (4, (.int .i64 z552))] .nil⟩ : Fr) (⟨2, objTr [(.cells tab0 true false []), (.cells [(.int .i64 z553), (Sl.v 1 s554), (Sl.v 1 s555)] false false [])] 0 .nil, true⟩ : AHeap) (.gc [] [false] [.tmp 1 false] [1, 4] (by kernel_rfl) trivial (by kernel_rfl)) ?_
                refine .then ?_
                refine .block ?_
                refine .then ?_
                have hq := oo_inv hm; clear hm; obtain ⟨v557, h558, hm⟩ := hq
                have hq := oo_inv hm; clear hm; obtain ⟨x559, h560, hm⟩ := hq
                obtain rfl := toI_some h560
                have hq := oo_inv hm; clear hm; obtain ⟨v561, h562, hm⟩ := hq
                have hq := oo_inv hm; clear hm; obtain ⟨x563, h564, hm⟩ := hq
                obtain rfl := toI_some h564
                refine .reg (F' := (Fr.puts (⟨68, frTr [(1, (.pointer (some ⟨1, 0, none⟩))), (4, (.int .i64 z552))] .nil⟩ : Fr) [(59, (.pointer (some ⟨1, 1, none⟩))), (60, (Sl.v 1 s554)), (61, (.int .i64 z552)), (63, (.pointer (some ⟨1, 2, none⟩))), (64, (Sl.v 1 s555)), (65, (.int .i64 z552)), (62, (.int .i64 x559)), (66, (.int .i64 x563)), (67, (.bool (nt (ieq x559 x563))))])) (H' := (⟨2, objTr [(.cells tab0 true false []), (.cells [(.int .i64 z553), (Sl.v 1 s554), (Sl.v 1 s555)] false false [])] 0 .nil, true⟩ : AHeap)) (evOps_cut 6 (by kernel_rfl) (evOps_data ((oo (pu 62 [(Sl.v 1 s554), (.int .i64 z552)]) none fun v => some (v, (⟨2, objTr [(.cells tab0 true false []), (.cells [(.int .i64 z553), (Sl.v 1 s554), (Sl.v 1 s555)] false false [])] 0 .nil, true⟩ : AHeap)))) (by kernel_rfl) (call_eq h558) (okAt_of (by kernel_rfl) (by kernel_rfl)) (evOps_data ((oo (pu 62 [(Sl.v 1 s555), (.int .i64 z552)]) none fun v => some (v, (⟨2, objTr [(.cells tab0 true false []), (.cells [(.int .i64 z553), (Sl.v 1 s554), (Sl.v 1 s555)] false false [])] 0 .nil, true⟩ : AHeap)))) (by kernel_rfl) (call_eq h562) (okAt_of (by kernel_rfl) (by kernel_rfl)) (by kernel_rfl)))) ?_
                refine .ghs (⟨68, frTr [(1, (.pointer (some ⟨1, 0, none⟩))), (4, (.int .i64 z552)), (67, (.bool (nt (ieq x559 x563))))] .nil⟩ : Fr) (⟨2, objTr [(.cells tab0 true false []), (.cells [(.int .i64 z553), (Sl.v 1 s554), (Sl.v 1 s555)] false false [])] 0 .nil, true⟩ : AHeap) (.gc [] [false] [.tmp 1 false] [1, 4, 67] (by kernel_rfl) trivial (by kernel_rfl)) ?_
                have hq := bb_cases hm; clear hm; rcases hq with ⟨h565, hm⟩ | ⟨h565, hm⟩
                · refine .ifT (nt (ieq x559 x563)) (by kernel_rfl) h565 ?_
                  refine .then ?_
                  refine .reg (F' := (Fr.puts (⟨68, frTr [(1, (.pointer (some ⟨1, 0, none⟩))), (4, (.int .i64 z552)), (67, (.bool (nt (ieq x559 x563))))] .nil⟩ : Fr) [(2, (.int .i64 (17 : Int)))])) (H' := (⟨2, objTr [(.cells tab0 true false []), (.cells [(.int .i64 z553), (Sl.v 1 s554), (Sl.v 1 s555)] false false [])] 0 .nil, true⟩ : AHeap)) (by kernel_rfl) ?_
                  refine .ghs (⟨68, frTr [(2, (.int .i64 (17 : Int)))] .nil⟩ : Fr) (⟨1, objTr [(.cells tab0 true false [])] 0 .nil, true⟩ : AHeap) (.gc [] [false] [] [2] (by kernel_rfl) trivial (by kernel_rfl)) ?_
                  refine .ret ?_
                  exact fin_ret (.int .i64 (17 : Int)) (by kernel_rfl) (by kernel_rfl) hm
                · refine .ifF (nt (ieq x559 x563)) (by kernel_rfl) h565 ?_
                  refine .skip ?_
                  refine .ghs (⟨68, frTr [(1, (.pointer (some ⟨1, 0, none⟩))), (4, (.int .i64 z552))] .nil⟩ : Fr) (⟨2, objTr [(.cells tab0 true false []), (.cells [(.int .i64 z553), (Sl.v 1 s554), (Sl.v 1 s555)] false false [])] 0 .nil, true⟩ : AHeap) (.gc [] [false] [.tmp 1 false] [1, 4] (by kernel_rfl) trivial (by kernel_rfl)) ?_
                  refine .reg (F' := (Fr.puts (⟨68, frTr [(1, (.pointer (some ⟨1, 0, none⟩))), (4, (.int .i64 z552))] .nil⟩ : Fr) [(57, (.int .i64 z552)), (58, (.int .i64 (wrapF .i64 (Int.add z552 (1 : Int))))), (4, (.int .i64 (wrapF .i64 (Int.add z552 (1 : Int)))))])) (H' := (⟨2, objTr [(.cells tab0 true false []), (.cells [(.int .i64 z553), (Sl.v 1 s554), (Sl.v 1 s555)] false false [])] 0 .nil, true⟩ : AHeap)) (by kernel_rfl) ?_
                  exact ⟨((wrapF .i64 (Int.add z552 (1 : Int))), z553, s554, s555), hm, (.gc [] [false] [.tmp 1 false] [1, 4] (by kernel_rfl) trivial (by kernel_rfl))⟩
              · refine .ifF (ilt z552 z553) (by kernel_rfl) h556 ?_
                refine .exit ?_
                exact ⟨(), hm, (.gc [] [false] [] [] (by kernel_rfl) trivial (by kernel_rfl))⟩
          · skip
            refine .then ?_
            refine .reg (F' := (Fr.puts (⟨68, frTr [(1, (.pointer (some ⟨1, 0, none⟩)))] .nil⟩ : Fr) [(3, (.int .i64 (0 : Int)))])) (H' := (⟨2, objTr [(.cells tab0 true false []), (.cells [(.int .i64 x468), (Sl.v 1 s470), (Sl.v 1 s472)] false false [])] 0 .nil, true⟩ : AHeap)) (by kernel_rfl) ?_
            refine .ghs (⟨68, frTr [(1, (.pointer (some ⟨1, 0, none⟩))), (3, (.int .i64 (0 : Int)))] .nil⟩ : Fr) (⟨2, objTr [(.cells tab0 true false []), (.cells [(.int .i64 x468), (Sl.v 1 s470), (Sl.v 1 s472)] false false [])] 0 .nil, true⟩ : AHeap) (.gc [] [false] [.tmp 1 false] [1, 3] (by kernel_rfl) trivial (by kernel_rfl)) ?_
            refine .block ?_
            refine .loopM (v := v) (fun y : Int × Int × Sl × Sl => ((⟨68, frTr [(1, (.pointer (some ⟨1, 0, none⟩))), (3, (.int .i64 y.1))] .nil⟩ : Fr), (⟨2, objTr [(.cells tab0 true false []), (.cells [(.int .i64 y.2.1), (Sl.v 1 y.2.2.1), (Sl.v 1 y.2.2.2)] false false [])] 0 .nil, true⟩ : AHeap))) (fun w y => l22_3 pu n w y.1 y.2.1 y.2.2.1 y.2.2.2) n ⟨((0 : Int), x468, s470, s472), hm, (.gc [] [false] [.tmp 1 false] [1, 3] (by kernel_rfl) trivial (by kernel_rfl))⟩ (fun _ => rfl) ?_
            rintro w0 ⟨z566, z567, s568, s569⟩ hm
            refine .then ?_
            refine .then ?_
            refine .reg (F' := (Fr.puts (⟨68, frTr [(1, (.pointer (some ⟨1, 0, none⟩))), (3, (.int .i64 z566))] .nil⟩ : Fr) [(24, (.int .i64 z566)), (25, (.pointer (some ⟨1, 1, none⟩))), (26, (Sl.v 1 s568)), (27, (.int .i64 (Int.ofNat (Sl.n s568)))), (28, (.bool (ilt z566 (Int.ofNat (Sl.n s568)))))])) (H' := (⟨2, objTr [(.cells tab0 true false []), (.cells [(.int .i64 z567), (Sl.v 1 s568), (Sl.v 1 s569)] false false [])] 0 .nil, true⟩ : AHeap)) (by kernel_rfl) ?_
            refine .ghs (⟨68, frTr [(1, (.pointer (some ⟨1, 0, none⟩))), (3, (.int .i64 z566)), (28, (.bool (ilt z566 (Int.ofNat (Sl.n s568)))))] .nil⟩ : Fr) (⟨2, objTr [(.cells tab0 true false []), (.cells [(.int .i64 z567), (Sl.v 1 s568), (Sl.v 1 s569)] false false [])] 0 .nil, true⟩ : AHeap) (.gc [] [false] [.tmp 1 false] [1, 3, 28] (by kernel_rfl) trivial (by kernel_rfl)) ?_
            have hq := bb_cases hm; clear hm; rcases hq with ⟨h570, hm⟩ | ⟨h570, hm⟩
            · refine .ifT (ilt z566 (Int.ofNat (Sl.n s568))) (by kernel_rfl) h570 ?_
              refine .skip ?_
              refine .ghs (⟨68, frTr [(1, (.pointer (some ⟨1, 0, none⟩))), (3, (.int .i64 z566))] .nil⟩ : Fr) (⟨2, objTr [(.cells tab0 true false []), (.cells [(.int .i64 z567), (Sl.v 1 s568), (Sl.v 1 s569)] false false [])] 0 .nil, true⟩ : AHeap) (.gc [] [false] [.tmp 1 false] [1, 3] (by kernel_rfl) trivial (by kernel_rfl)) ?_
              refine .then ?_
              refine .block ?_
              refine .join (v := v) (fun y : Int × Bool × Int × Sl × Sl => ((⟨68, frTr [(1, (.pointer (some ⟨1, 0, none⟩))), (3, (.int .i64 y.1)), (52, (.bool y.2.1))] .nil⟩ : Fr), (⟨2, objTr [(.cells tab0 true false []), (.cells [(.int .i64 y.2.2.1), (Sl.v 1 y.2.2.2.1), (Sl.v 1 y.2.2.2.2)] false false [])] 0 .nil, true⟩ : AHeap))) (fun y => m22_4 pu n (l22_3 pu n w0) y.1 y.2.1 y.2.2.1 y.2.2.2.1 y.2.2.2.2) ?_ ?_
              · rintro ⟨z592, b593, z594, s595, s596⟩ hm
                unfold m22_4 at hm
                have hq := bb_cases hm; clear hm; rcases hq with ⟨h597, hm⟩ | ⟨h597, hm⟩
                · refine .ifT b593 (by kernel_rfl) h597 ?_
                  refine .then ?_
                  refine .reg (F' := (Fr.puts (⟨68, frTr [(1, (.pointer (some ⟨1, 0, none⟩))), (3, (.int .i64 z592)), (52, (.bool b593))] .nil⟩ : Fr) [(2, (.int .i64 (2 : Int)))])) (H' := (⟨2, objTr [(.cells tab0 true false []), (.cells [(.int .i64 z594), (Sl.v 1 s595), (Sl.v 1 s596)] false false [])] 0 .nil, true⟩ : AHeap)) (by kernel_rfl) ?_
                  refine .ghs (⟨68, frTr [(2, (.int .i64 (2 : Int)))] .nil⟩ : Fr) (⟨1, objTr [(.cells tab0 true false [])] 0 .nil, true⟩ : AHeap) (.gc [] [false] [] [2] (by kernel_rfl) trivial (by kernel_rfl)) ?_
                  refine .ret ?_
                  exact fin_ret (.int .i64 (2 : Int)) (by kernel_rfl) (by kernel_rfl) hm
                · refine .ifF b593 (by kernel_rfl) h597 ?_
                  refine .skip ?_
                  refine .ghs (⟨68, frTr [(1, (.pointer (some ⟨1, 0, none⟩))), (3, (.int .i64 z592))] .nil⟩ : Fr) (⟨2, objTr [(.cells tab0 true false []), (.cells [(.int .i64 z594), (Sl.v 1 s595), (Sl.v 1 s596)] false false [])] 0 .nil, true⟩ : AHeap) (.gc [] [false] [.tmp 1 false] [1, 3] (by kernel_rfl) trivial (by kernel_rfl)) ?_
                  refine .reg (F' := (Fr.puts (⟨68, frTr [(1, (.pointer (some ⟨1, 0, none⟩))), (3, (.int .i64 z592))] .nil⟩ : Fr) [(29, (.int .i64 z592)), (30, (.int .i64 (wrapF .i64 (Int.add z592 (1 : Int))))), (3, (.int .i64 (wrapF .i64 (Int.add z592 (1 : Int)))))])) (H' := (⟨2, objTr [(.cells tab0 true false []), (.cells [(.int .i64 z594), (Sl.v 1 s595), (Sl.v 1 s596)] false false [])] 0 .nil, true⟩ : AHeap)) (by kernel_rfl) ?_
                  exact ⟨((wrapF .i64 (Int.add z592 (1 : Int))), z594, s595, s596), hm, (.gc [] [false] [.tmp 1 false] [1, 3] (by kernel_rfl) trivial (by kernel_rfl))⟩
              · skip
                have hq := oo_inv hm; clear hm; obtain ⟨k598, h599, hm⟩ := hq
                obtain rfl := toN_some h599
                have hq := bb_inv hm; clear hm; obtain ⟨h600, hm⟩ := hq
                have hq := oo_inv hm; clear hm; obtain ⟨v601, h602, hm⟩ := hq
                have hq := oo_inv hm; clear hm; obtain ⟨x603, h604, hm⟩ := hq
                obtain rfl := toI_some h604
                have hq := oo_inv hm; clear hm; obtain ⟨v605, h606, hm⟩ := hq
                have hq := oo_inv hm; clear hm; obtain ⟨b607, h608, hm⟩ := hq
                obtain rfl := vBool_some h608
                have hq := bb_cases hm; clear hm; rcases hq with ⟨h609, hm⟩ | ⟨h609, hm⟩
                · skip
                  refine .reg (F' := (Fr.puts (⟨68, frTr [(1, (.pointer (some ⟨1, 0, none⟩))), (3, (.int .i64 (Int.ofNat k598)))] .nil⟩ : Fr) [(31, (.pointer (some ⟨1, 1, none⟩))), (32, (Sl.v 1 s568)), (33, (.int .i64 (Int.ofNat k598))), (34, (fpV (k598 * 1) (Sl.cs s568))), (35, (.int .i64 x603)), (36, (.pointer (some ⟨1, 0, none⟩))), (37, (.int .i64 z567)), (38, (.int .i64 (wrapF .i64 (Int.sub z567 (1 : Int))))), (39, (.bool b607)), (40, (.bool true)), (41, (.bool true)), (42, (.tuple ⟨[]⟩)), (43, (.tuple ⟨[]⟩)), (44, (.tuple ⟨[]⟩)), (45, (.tuple ⟨[]⟩)), (46, (.tuple ⟨[]⟩)), (47, (.tuple ⟨[]⟩)), (48, (.tuple ⟨[]⟩)), (49, (.tuple ⟨[]⟩)), (50, (.tuple ⟨[]⟩)), (51, (.tuple ⟨[]⟩)), (52, (.bool true))])) (H' := (⟨2, objTr [(.cells tab0 true false []), (.cells [(.int .i64 z567), (Sl.v 1 s568), (Sl.v 1 s569)] false false [])] 0 .nil, true⟩ : AHeap)) (evOps_cut 3 (by kernel_rfl) (evOps_data (keep (⟨2, objTr [(.cells tab0 true false []), (.cells [(.int .i64 z567), (Sl.v 1 s568), (Sl.v 1 s569)] false false [])] 0 .nil, true⟩ : AHeap) (bb (an (Nat.blt k598 (Sl.n s568)) true) (some (fpV (k598 * 1) (Sl.cs s568))) none)) (by kernel_rfl) (keep_bb h600) (okAt_of (by kernel_rfl) (by kernel_rfl)) (evOps_data (keep (⟨2, objTr [(.cells tab0 true false []), (.cells [(.int .i64 z567), (Sl.v 1 s568), (Sl.v 1 s569)] false false [])] 0 .nil, true⟩ : AHeap) (nthL (Sl.cs s568) (k598 * 1))) (by kernel_rfl) (keep_eq h602) (okAt_of (by kernel_rfl) (by kernel_rfl)) (evOps_cut 3 (by kernel_rfl) (evOps_data ((oo (pu 61 [(.int .i64 x603), (.int .i64 (0 : Int)), (.int .i64 (wrapF .i64 (Int.sub z567 (1 : Int))))]) none fun v => some (v, (⟨2, objTr [(.cells tab0 true false []), (.cells [(.int .i64 z567), (Sl.v 1 s568), (Sl.v 1 s569)] false false [])] 0 .nil, true⟩ : AHeap)))) (by kernel_rfl) (call_eq h606) (okAt_of (by kernel_rfl) (by kernel_rfl)) (evOps_data (some ((.bool (nt b607)), (⟨2, objTr [(.cells tab0 true false []), (.cells [(.int .i64 z567), (Sl.v 1 s568), (Sl.v 1 s569)] false false [])] 0 .nil, true⟩ : AHeap))) (by kernel_rfl) (show _ = some ((.bool true), _) from (by rw [h609])) (okAt_of (by kernel_rfl) (by kernel_rfl)) (by kernel_rfl))))))) ?_
                  exact ⟨((Int.ofNat k598), true, z567, s568, s569), hm, (.gc [] [false] [.tmp 1 false] [1, 3, 52] (by kernel_rfl) trivial (by kernel_rfl))⟩
                · skip
                  have hq := bb_inv hm; clear hm; obtain ⟨h610, hm⟩ := hq
                  have hq := oo_inv hm; clear hm; obtain ⟨v611, h612, hm⟩ := hq
                  have hq := oo_inv hm; clear hm; obtain ⟨x613, h614, hm⟩ := hq
                  obtain rfl := toI_some h614
                  have hq := oo_inv hm; clear hm; obtain ⟨v615, h616, hm⟩ := hq
                  have hq := oo_inv hm; clear hm; obtain ⟨b617, h618, hm⟩ := hq
                  obtain rfl := vBool_some h618
                  refine .reg (F' := (Fr.puts (⟨68, frTr [(1, (.pointer (some ⟨1, 0, none⟩))), (3, (.int .i64 (Int.ofNat k598)))] .nil⟩ : Fr) [(31, (.pointer (some ⟨1, 1, none⟩))), (32, (Sl.v 1 s568)), (33, (.int .i64 (Int.ofNat k598))), (34, (fpV (k598 * 1) (Sl.cs s568))), (35, (.int .i64 x603)), (36, (.pointer (some ⟨1, 0, none⟩))), (37, (.int .i64 z567)), (38, (.int .i64 (wrapF .i64 (Int.sub z567 (1 : Int))))), (39, (.bool b607)), (40, (.bool false)), (41, (.bool false)), (42, (.pointer (some ⟨1, 2, none⟩))), (43, (Sl.v 1 s569)), (44, (.int .i64 (Int.ofNat k598))), (45, (fpV (k598 * 1) (Sl.cs s569))), (46, (.int .i64 x613)), (47, (.pointer (some ⟨1, 0, none⟩))), (48, (.int .i64 z567)), (49, (.int .i64 (wrapF .i64 (Int.sub z567 (1 : Int))))), (50, (.bool b617)), (51, (.bool (nt b617))), (52, (.bool (nt b617)))])) (H' := (⟨2, objTr [(.cells tab0 true false []), (.cells [(.int .i64 z567), (Sl.v 1 s568), (Sl.v 1 s569)] false false [])] 0 .nil, true⟩ : AHeap)) (evOps_cut 3 (by kernel_rfl) (evOps_data (keep (⟨2, objTr [(.cells tab0 true false []), (.cells [(.int .i64 z567), (Sl.v 1 s568), (Sl.v 1 s569)] false false [])] 0 .nil, true⟩ : AHeap) (bb (an (Nat.blt k598 (Sl.n s568)) true) (some (fpV (k598 * 1) (Sl.cs s568))) none)) (by kernel_rfl) (keep_bb h600) (okAt_of (by kernel_rfl) (by kernel_rfl)) (evOps_data (keep (⟨2, objTr [(.cells tab0 true false []), (.cells [(.int .i64 z567), (Sl.v 1 s568), (Sl.v 1 s569)] false false [])] 0 .nil, true⟩ : AHeap) (nthL (Sl.cs s568) (k598 * 1))) (by kernel_rfl) (keep_eq h602) (okAt_of (by kernel_rfl) (by kernel_rfl)) (evOps_cut 3 (by kernel_rfl) (evOps_data ((oo (pu 61 [(.int .i64 x603), (.int .i64 (0 : Int)), (.int .i64 (wrapF .i64 (Int.sub z567 (1 : Int))))]) none fun v => some (v, (⟨2, objTr [(.cells tab0 true false []), (.cells [(.int .i64 z567), (Sl.v 1 s568), (Sl.v 1 s569)] false false [])] 0 .nil, true⟩ : AHeap)))) (by kernel_rfl) (call_eq h606) (okAt_of (by kernel_rfl) (by kernel_rfl)) (evOps_data (some ((.bool (nt b607)), (⟨2, objTr [(.cells tab0 true false []), (.cells [(.int .i64 z567), (Sl.v 1 s568), (Sl.v 1 s569)] false false [])] 0 .nil, true⟩ : AHeap))) (by kernel_rfl) (show _ = some ((.bool false), _) from (by rw [h609])) (okAt_of (by kernel_rfl) (by kernel_rfl)) (evOps_cut 4 (by kernel_rfl) (evOps_data (keep (⟨2, objTr [(.cells tab0 true false []), (.cells [(.int .i64 z567), (Sl.v 1 s568), (Sl.v 1 s569)] false false [])] 0 .nil, true⟩ : AHeap) (bb (an (Nat.blt k598 (Sl.n s569)) true) (some (fpV (k598 * 1) (Sl.cs s569))) none)) (by kernel_rfl) (keep_bb h610) (okAt_of (by kernel_rfl) (by kernel_rfl)) (evOps_data (keep (⟨2, objTr [(.cells tab0 true false []), (.cells [(.int .i64 z567), (Sl.v 1 s568), (Sl.v 1 s569)] false false [])] 0 .nil, true⟩ : AHeap) (nthL (Sl.cs s569) (k598 * 1))) (by kernel_rfl) (keep_eq h612) (okAt_of (by kernel_rfl) (by kernel_rfl)) (evOps_cut 3 (by kernel_rfl) (evOps_data ((oo (pu 61 [(.int .i64 x613), (.int .i64 (0 : Int)), (.int .i64 (wrapF .i64 (Int.sub z567 (1 : Int))))]) none fun v => some (v, (⟨2, objTr [(.cells tab0 true false []), (.cells [(.int .i64 z567), (Sl.v 1 s568), (Sl.v 1 s569)] false false [])] 0 .nil, true⟩ : AHeap)))) (by kernel_rfl) (call_eq h616) (okAt_of (by kernel_rfl) (by kernel_rfl)) (by kernel_rfl)))))))))))) ?_
                  exact ⟨((Int.ofNat k598), (nt b617), z567, s568, s569), hm, (.gc [] [false] [.tmp 1 false] [1, 3, 52] (by kernel_rfl) trivial (by kernel_rfl))⟩
            · refine .ifF (ilt z566 (Int.ofNat (Sl.n s568))) (by kernel_rfl) h570 ?_
              refine .exit ?_
              exact ⟨(z567, s568, s569), hm, (.gc [] [false] [.tmp 1 false] [1] (by kernel_rfl) trivial (by kernel_rfl))⟩
end
end Go.MendNM
