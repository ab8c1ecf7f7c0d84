/- Models of the program's functions, and the proofs that runs give them: MADE BY PROGRAM (wip/tools/dec.py). -/
import Derived.Test.YtgplhblofefkjaaDoorMendTMod0x

set_option maxRecDepth 100000
set_option linter.unusedVariables false
namespace Go.MendM
open Go.Sp Go.MendT
noncomputable section
/-- spadille/spadilleref09.Check -/
def o22_0 : List ROp := [
  ⟨(some 1), .box 27 (.tmp 0), 0, none, []⟩,
  ⟨(some 2), .assign (.const (.int .i64 0)), 28, none, []⟩]
def c22_0 : RC := .reg [] o22_0
def o22_1 : List ROp := [
  ⟨(some 5), .fieldAddr 27 (.tmp 1) 0, 0, none, []⟩,
  ⟨(some 6), .load 3 (.tmp 5), 3, none, []⟩,
  ⟨(some 7), .call ⟨.value (.func 61), #[(.tmp 6), (.const (.int .i64 1)), (.const (.int .i64 5))], #[3, 3, 3]⟩, 4, none, []⟩,
  ⟨(some 8), .unOp .not 4 (.tmp 7), 4, none, []⟩]
def c22_1 : RC := .reg [] o22_1
def o22_2 : List ROp := [
  ⟨(some 2), .assign (.const (.int .i64 1)), 28, none, []⟩]
def c22_2 : RC := .reg [] o22_2
def c22_3 : RC := .seq c22_2 .ret
def c22_4 : RC := .cond (.tmp 8) c22_3 .skip
def c22_5 : RC := .seq c22_1 c22_4
def o22_6 : List ROp := [
  ⟨(some 9), .fieldAddr 27 (.tmp 1) 1, 0, none, []⟩,
  ⟨(some 10), .load 22 (.tmp 9), 22, none, []⟩,
  ⟨(some 11), .call ⟨.builtin .len, #[(.tmp 10)], #[22]⟩, 3, none, []⟩,
  ⟨(some 12), .binOp .eql 3 (.tmp 11) (.const (.int .i64 0)) 3, 4, none, []⟩]
def c22_6 : RC := .reg [] o22_6
def o22_7 : List ROp := [
  ⟨(some 2), .assign (.const (.int .i64 4)), 28, none, []⟩]
def c22_7 : RC := .reg [] o22_7
def c22_8 : RC := .seq c22_7 .ret
def c22_9 : RC := .cond (.tmp 12) c22_8 .skip
def c22_10 : RC := .seq c22_6 c22_9
def o22_11 : List ROp := [
  ⟨(some 13), .fieldAddr 27 (.tmp 1) 1, 0, none, []⟩,
  ⟨(some 14), .load 22 (.tmp 13), 22, none, []⟩,
  ⟨(some 15), .call ⟨.builtin .len, #[(.tmp 14)], #[22]⟩, 3, none, []⟩,
  ⟨(some 16), .binOp .gtr 3 (.tmp 15) (.const (.int .i64 10)) 3, 4, none, []⟩]
def c22_11 : RC := .reg [] o22_11
def o22_12 : List ROp := [
  ⟨(some 2), .assign (.const (.int .i64 3)), 28, none, []⟩]
def c22_12 : RC := .reg [] o22_12
def c22_13 : RC := .seq c22_12 .ret
def c22_14 : RC := .cond (.tmp 16) c22_13 .skip
def c22_15 : RC := .seq c22_11 c22_14
def o22_16 : List ROp := [
  ⟨(some 17), .fieldAddr 27 (.tmp 1) 2, 0, none, []⟩,
  ⟨(some 18), .load 22 (.tmp 17), 22, none, []⟩,
  ⟨(some 19), .call ⟨.builtin .len, #[(.tmp 18)], #[22]⟩, 3, none, []⟩,
  ⟨(some 20), .fieldAddr 27 (.tmp 1) 1, 0, none, []⟩,
  ⟨(some 21), .load 22 (.tmp 20), 22, none, []⟩,
  ⟨(some 22), .call ⟨.builtin .len, #[(.tmp 21)], #[22]⟩, 3, none, []⟩,
  ⟨(some 23), .binOp .neq 3 (.tmp 19) (.tmp 22) 3, 4, none, []⟩]
def c22_16 : RC := .reg [] o22_16
def o22_17 : List ROp := [
  ⟨(some 2), .assign (.const (.int .i64 5)), 28, none, []⟩]
def c22_17 : RC := .reg [] o22_17
def c22_18 : RC := .seq c22_17 .ret
def c22_19 : RC := .cond (.tmp 23) c22_18 .skip
def c22_20 : RC := .seq c22_16 c22_19
def o22_21 : List ROp := [
  ⟨(some 3), .assign (.const (.int .i64 0)), 3, none, []⟩]
def c22_21 : RC := .reg [] o22_21
def o22_22 : List ROp := [
  ⟨(some 24), .move (.tmp 3), 3, none, []⟩,
  ⟨(some 25), .fieldAddr 27 (.tmp 1) 1, 0, none, []⟩,
  ⟨(some 26), .load 22 (.tmp 25), 22, none, []⟩,
  ⟨(some 27), .call ⟨.builtin .len, #[(.tmp 26)], #[22]⟩, 3, none, []⟩,
  ⟨(some 28), .binOp .lss 3 (.tmp 24) (.tmp 27) 3, 4, none, []⟩]
def c22_22 : RC := .reg [] o22_22
def c22_23 : RC := .cond (.tmp 28) .skip (.exit 0)
def c22_24 : RC := .seq c22_22 c22_23
def o22_25 : List ROp := [
  ⟨(some 31), .fieldAddr 27 (.tmp 1) 1, 0, none, []⟩,
  ⟨(some 32), .load 22 (.tmp 31), 22, none, []⟩,
  ⟨(some 33), .move (.tmp 3), 3, none, []⟩,
  ⟨(some 34), .indexAddr 22 (.tmp 32) (.tmp 33), 0, none, []⟩,
  ⟨(some 35), .load 3 (.tmp 34), 3, none, []⟩,
  ⟨(some 36), .fieldAddr 27 (.tmp 1) 0, 0, none, []⟩,
  ⟨(some 37), .load 3 (.tmp 36), 3, none, []⟩,
  ⟨(some 38), .binOp .sub 3 (.tmp 37) (.const (.int .i64 1)) 3, 3, none, []⟩,
  ⟨(some 39), .call ⟨.value (.func 61), #[(.tmp 35), (.const (.int .i64 0)), (.tmp 38)], #[3, 3, 3]⟩, 4, none, []⟩,
  ⟨(some 40), .unOp .not 4 (.tmp 39), 4, none, []⟩,
  ⟨(some 41), .move (.tmp 40), 4, none, []⟩,
  ⟨(some 42), .fieldAddr 27 (.tmp 1) 2, 0, (some ((some 41), false)), []⟩,
  ⟨(some 43), .load 22 (.tmp 42), 22, (some ((some 41), false)), []⟩,
  ⟨(some 44), .move (.tmp 3), 3, (some ((some 41), false)), []⟩,
  ⟨(some 45), .indexAddr 22 (.tmp 43) (.tmp 44), 0, (some ((some 41), false)), []⟩,
  ⟨(some 46), .load 3 (.tmp 45), 3, (some ((some 41), false)), []⟩,
  ⟨(some 47), .fieldAddr 27 (.tmp 1) 0, 0, (some ((some 41), false)), []⟩,
  ⟨(some 48), .load 3 (.tmp 47), 3, (some ((some 41), false)), []⟩,
  ⟨(some 49), .binOp .sub 3 (.tmp 48) (.const (.int .i64 1)) 3, 3, (some ((some 41), false)), []⟩,
  ⟨(some 50), .call ⟨.value (.func 61), #[(.tmp 46), (.const (.int .i64 0)), (.tmp 49)], #[3, 3, 3]⟩, 4, (some ((some 41), false)), []⟩,
  ⟨(some 51), .unOp .not 4 (.tmp 50), 4, (some ((some 41), false)), []⟩,
  ⟨(some 52), .pick (.tmp 41) (.const (.bool true)) (.tmp 51), 4, none, []⟩]
def c22_25 : RC := .reg [0, 1, 2, 3, 4, 5, 6, 7, 8, 9, 10, 11, 12, 13, 14, 15, 16, 17, 18, 19, 20, 21] o22_25
def o22_26 : List ROp := [
  ⟨(some 2), .assign (.const (.int .i64 2)), 28, none, []⟩]
def c22_26 : RC := .reg [] o22_26
def c22_27 : RC := .seq c22_26 .ret
def c22_28 : RC := .cond (.tmp 52) c22_27 .skip
def c22_29 : RC := .seq c22_25 c22_28
def c22_30 : RC := .block 1 c22_29
def o22_31 : List ROp := [
  ⟨(some 29), .move (.tmp 3), 3, none, []⟩,
  ⟨(some 30), .binOp .add 3 (.tmp 29) (.const (.int .i64 1)) 3, 3, none, []⟩,
  ⟨(some 3), .assign (.tmp 30), 3, none, []⟩]
def c22_31 : RC := .reg [] o22_31
def c22_32 : RC := .seq c22_30 c22_31
def c22_33 : RC := .seq c22_24 c22_32
def c22_34 : RC := .loop c22_33
def c22_35 : RC := .block 0 c22_34
def c22_36 : RC := .seq c22_21 c22_35
def o22_37 : List ROp := [
  ⟨(some 4), .assign (.const (.int .i64 0)), 3, none, []⟩]
def c22_37 : RC := .reg [] o22_37
def o22_38 : List ROp := [
  ⟨(some 53), .move (.tmp 4), 3, none, []⟩,
  ⟨(some 54), .fieldAddr 27 (.tmp 1) 0, 0, none, []⟩,
  ⟨(some 55), .load 3 (.tmp 54), 3, none, []⟩,
  ⟨(some 56), .binOp .lss 3 (.tmp 53) (.tmp 55) 3, 4, none, []⟩]
def c22_38 : RC := .reg [] o22_38
def c22_39 : RC := .cond (.tmp 56) .skip (.exit 2)
def c22_40 : RC := .seq c22_38 c22_39
def o22_41 : List ROp := [
  ⟨(some 59), .fieldAddr 27 (.tmp 1) 1, 0, none, []⟩,
  ⟨(some 60), .load 22 (.tmp 59), 22, none, []⟩,
  ⟨(some 61), .move (.tmp 4), 3, none, []⟩,
  ⟨(some 63), .fieldAddr 27 (.tmp 1) 2, 0, none, []⟩,
  ⟨(some 64), .load 22 (.tmp 63), 22, none, []⟩,
  ⟨(some 65), .move (.tmp 4), 3, none, []⟩,
  ⟨(some 62), .call ⟨.value (.func 62), #[(.tmp 60), (.tmp 61)], #[22, 3]⟩, 3, none, [(.tmp 63)]⟩,
  ⟨(some 66), .call ⟨.value (.func 62), #[(.tmp 64), (.tmp 65)], #[22, 3]⟩, 3, none, []⟩,
  ⟨(some 67), .binOp .neq 3 (.tmp 62) (.tmp 66) 3, 4, none, []⟩]
def c22_41 : RC := .reg [0, 1, 2, 4, 5, 6, 3, 7, 8] o22_41
def o22_42 : List ROp := [
  ⟨(some 2), .assign (.const (.int .i64 17)), 28, none, []⟩]
def c22_42 : RC := .reg [] o22_42
def c22_43 : RC := .seq c22_42 .ret
def c22_44 : RC := .cond (.tmp 67) c22_43 .skip
def c22_45 : RC := .seq c22_41 c22_44
def c22_46 : RC := .block 3 c22_45
def o22_47 : List ROp := [
  ⟨(some 57), .move (.tmp 4), 3, none, []⟩,
  ⟨(some 58), .binOp .add 3 (.tmp 57) (.const (.int .i64 1)) 3, 3, none, []⟩,
  ⟨(some 4), .assign (.tmp 58), 3, none, []⟩]
def c22_47 : RC := .reg [] o22_47
def c22_48 : RC := .seq c22_46 c22_47
def c22_49 : RC := .seq c22_40 c22_48
def c22_50 : RC := .loop c22_49
def c22_51 : RC := .block 2 c22_50
def c22_52 : RC := .seq c22_37 c22_51
def o22_53 : List ROp := [
  ⟨(some 2), .assign (.const (.int .i64 0)), 28, none, []⟩]
def c22_53 : RC := .reg [] o22_53
def c22_54 : RC := .seq c22_53 .ret
def c22_55 : RC := .seq c22_52 c22_54
def c22_56 : RC := .seq c22_36 c22_55
def c22_57 : RC := .seq c22_20 c22_56
def c22_58 : RC := .seq c22_15 c22_57
def c22_59 : RC := .seq c22_10 c22_58
def c22_60 : RC := .seq c22_5 c22_59
def c22_61 : RC := .seq c22_0 c22_60
def m22_1 (pu : PureF) (n : Nat) : Option Value :=
  (some (.int .i64 (0 : Int)))
def b22_2 (pu : PureF) (n : Nat) (ih0 : Int → Int → Sl → Sl → Option Value) (z728 : Int) (z729 : Int) (s730 : Sl) (s731 : Sl) : Option Value :=
  (bb (ilt z728 z729) (oo (pu 62 [(Sl.v 1 s730), (.int .i64 z728)]) none fun v733 => (oo (toI .i64 v733) none fun x735 => (oo (pu 62 [(Sl.v 1 s731), (.int .i64 z728)]) none fun v737 => (oo (toI .i64 v737) none fun x739 => (bb (nt (ieq x735 x739)) (some (.int .i64 (17 : Int))) (ih0 (wrapF .i64 (Int.add z728 (1 : Int))) z729 s730 s731)))))) (m22_1 pu n))
def l22_2 (pu : PureF) (n : Nat) (w : Nat) : Int → Int → Sl → Sl → Option Value :=
  Nat.rec (motive := fun _ => Int → Int → Sl → Sl → Option Value) (fun _ _ _ _ => none) (fun _ ih0 => b22_2 pu n ih0) w
def m22_0 (pu : PureF) (n : Nat) (z711 : Int) (s712 : Sl) (s713 : Sl) : Option Value :=
  (l22_2 pu n n (0 : Int) z711 s712 s713)
def m22_4 (pu : PureF) (n : Nat) (ih0 : Int → Int → Sl → Sl → Option Value) (z768 : Int) (b769 : Bool) (z770 : Int) (s771 : Sl) (s772 : Sl) : Option Value :=
  (bb b769 (some (.int .i64 (2 : Int))) (ih0 (wrapF .i64 (Int.add z768 (1 : Int))) z770 s771 s772))
def b22_3 (pu : PureF) (n : Nat) (ih0 : Int → Int → Sl → Sl → Option Value) (z742 : Int) (z743 : Int) (s744 : Sl) (s745 : Sl) : Option Value :=
  (bb (ilt z742 (Int.ofNat (Sl.n s744))) (oo (toN z742) none fun k774 => (bb (an (Nat.blt k774 (Sl.n s744)) true) (oo (nthL (Sl.cs s744) (k774 * 1)) none fun v777 => (oo (toI .i64 v777) none fun x779 => (oo (pu 61 [(.int .i64 x779), (.int .i64 (0 : Int)), (.int .i64 (wrapF .i64 (Int.sub z743 (1 : Int))))]) none fun v781 => (oo (vBool v781) none fun b783 => (bb (nt b783) (m22_4 pu n ih0 (Int.ofNat k774) true z743 s744 s745) (bb (an (Nat.blt k774 (Sl.n s745)) true) (oo (nthL (Sl.cs s745) (k774 * 1)) none fun v787 => (oo (toI .i64 v787) none fun x789 => (oo (pu 61 [(.int .i64 x789), (.int .i64 (0 : Int)), (.int .i64 (wrapF .i64 (Int.sub z743 (1 : Int))))]) none fun v791 => (oo (vBool v791) none fun b793 => (m22_4 pu n ih0 (Int.ofNat k774) (nt b793) z743 s744 s745))))) none)))))) none)) (m22_0 pu n z743 s744 s745))
def l22_3 (pu : PureF) (n : Nat) (w : Nat) : Int → Int → Sl → Sl → Option Value :=
  Nat.rec (motive := fun _ => Int → Int → Sl → Sl → Option Value) (fun _ _ _ _ => none) (fun _ ih0 => b22_3 pu n ih0) w
def m22_ (pu : PureF) (n : Nat) (x644 : Int) (s646 : Sl) (s648 : Sl) : Option Value :=
  (oo (pu 61 [(.int .i64 x644), (.int .i64 (1 : Int)), (.int .i64 (5 : Int))]) none fun v650 => (oo (vBool v650) none fun b652 => (bb (nt b652) (some (.int .i64 (1 : Int))) (bb (ieq (Int.ofNat (Sl.n s646)) (0 : Int)) (some (.int .i64 (4 : Int))) (bb (ilt (10 : Int) (Int.ofNat (Sl.n s646))) (some (.int .i64 (3 : Int))) (bb (nt (ieq (Int.ofNat (Sl.n s648)) (Int.ofNat (Sl.n s646)))) (some (.int .i64 (5 : Int))) (l22_3 pu n n (0 : Int) x644 s646 s648)))))))
def m22 (pu : PureF) (n : Nat) (args : List Value) : Option Value :=
  (ll args none fun a0 args => (ll args (oo (vAgg a0) none fun l639 => (ll l639 none fun v641 l639 => (ll l639 none fun v642 l639 => (ll l639 none fun v643 l639 => (ll l639 (oo (toI .i64 v641) none fun x644 => (oo (toSl 1 v642) none fun s646 => (oo (toSl 1 v643) none fun s648 => (m22_ pu n x644 s646 s648)))) fun _ _ => none))))) fun _ _ => none))
theorem r22 {call : CallF} (pu : PureF) (n : Nat) (hcall : call = callP tabs isP pu inl) {args : List Value} {v : Value} (hm : m22 pu n args = some v) (_ : ∀ x ∈ args, closed2 x = true) : args.length ≤ 68 ∧ Run tt call 1 c22_61 (Fr.made 68 args) (pureHeap tabs) (Fin tt 1 [.tmp 2] v) := by
  subst hcall
  unfold m22 at hm
  have hq := ll_uncons hm; clear hm; obtain ⟨a0, args_0, rfl, hm⟩ := hq
  have hq := ll_end hm; clear hm; obtain ⟨rfl, hm⟩ := hq
  have hq := oo_inv hm; clear hm; obtain ⟨l639, h640, hm⟩ := hq
  obtain rfl := vAgg_some h640
  have hq := ll_uncons hm; clear hm; obtain ⟨v641, l639_0, rfl, hm⟩ := hq
  have hq := ll_uncons hm; clear hm; obtain ⟨v642, l639_1, rfl, hm⟩ := hq
  have hq := ll_uncons hm; clear hm; obtain ⟨v643, l639_2, rfl, hm⟩ := hq
  have hq := ll_end hm; clear hm; obtain ⟨rfl, hm⟩ := hq
  have hq := oo_inv hm; clear hm; obtain ⟨x644, h645, hm⟩ := hq
  obtain rfl := toI_some h645
  have hq := oo_inv hm; clear hm; obtain ⟨s646, h647, hm⟩ := hq
  obtain rfl := toSl_some h647
  have hq := oo_inv hm; clear hm; obtain ⟨s648, h649, hm⟩ := hq
  obtain rfl := toSl_some h649
  unfold m22_ at hm
  refine ⟨by simp, ?_⟩
  refine .same (F' := (⟨68, frTr [(0, (.agg ⟨[(.int .i64 x644), (Sl.v 1 s646), (Sl.v 1 s648)]⟩))] .nil⟩ : Fr)) (H' := (⟨1, objTr [(.cells tab0 true false [])] 0 .nil, true⟩ : AHeap)) (by kernel_rfl) (by kernel_rfl) ?_
  refine .then ?_
  refine .reg (F' := (Fr.puts (⟨68, frTr [(0, (.agg ⟨[(.int .i64 x644), (Sl.v 1 s646), (Sl.v 1 s648)]⟩))] .nil⟩ : Fr) [(1, (.pointer (some ⟨1, 0, none⟩))), (2, (.int .i64 (0 : Int)))])) (H' := (⟨2, objTr [(.cells tab0 true false []), (.cells [(.int .i64 x644), (Sl.v 1 s646), (Sl.v 1 s648)] false false [])] 0 .nil, true⟩ : AHeap)) (by kernel_rfl) ?_
  refine .ghs (⟨68, frTr [(1, (.pointer (some ⟨1, 0, none⟩)))] .nil⟩ : Fr) (⟨2, objTr [(.cells tab0 true false []), (.cells [(.int .i64 x644), (Sl.v 1 s646), (Sl.v 1 s648)] false false [])] 0 .nil, true⟩ : AHeap) (.gc [] [false] [.tmp 1 false] [1] (by kernel_rfl) trivial (by kernel_rfl)) ?_
  refine .then ?_
  refine .then ?_
  have hq := oo_inv hm; clear hm; obtain ⟨v650, h651, hm⟩ := hq
  have hq := oo_inv hm; clear hm; obtain ⟨b652, h653, hm⟩ := hq
  obtain rfl := vBool_some h653
  refine .reg (F' := (Fr.puts (⟨68, frTr [(1, (.pointer (some ⟨1, 0, none⟩)))] .nil⟩ : Fr) [(5, (.pointer (some ⟨1, 0, none⟩))), (6, (.int .i64 x644)), (7, (.bool b652)), (8, (.bool (nt b652)))])) (H' := (⟨2, objTr [(.cells tab0 true false []), (.cells [(.int .i64 x644), (Sl.v 1 s646), (Sl.v 1 s648)] false false [])] 0 .nil, true⟩ : AHeap)) (evOps_cut 2 (by kernel_rfl) (evOps_data ((oo (pu 61 [(.int .i64 x644), (.int .i64 (1 : Int)), (.int .i64 (5 : Int))]) none fun v => some (v, (⟨2, objTr [(.cells tab0 true false []), (.cells [(.int .i64 x644), (Sl.v 1 s646), (Sl.v 1 s648)] false false [])] 0 .nil, true⟩ : AHeap)))) (by kernel_rfl) (call_eq h651) (okAt_of (by kernel_rfl) (by kernel_rfl)) (by kernel_rfl))) ?_
  refine .ghs (⟨68, frTr [(1, (.pointer (some ⟨1, 0, none⟩))), (8, (.bool (nt b652)))] .nil⟩ : Fr) (⟨2, objTr [(.cells tab0 true false []), (.cells [(.int .i64 x644), (Sl.v 1 s646), (Sl.v 1 s648)] false false [])] 0 .nil, true⟩ : AHeap) (.gc [] [false] [.tmp 1 false] [1, 8] (by kernel_rfl) trivial (by kernel_rfl)) ?_
  have hq := bb_cases hm; clear hm; rcases hq with ⟨h654, hm⟩ | ⟨h654, hm⟩
  · refine .ifT (nt b652) (by kernel_rfl) h654 ?_
    refine .then ?_
    refine .reg (F' := (Fr.puts (⟨68, frTr [(1, (.pointer (some ⟨1, 0, none⟩))), (8, (.bool (nt b652)))] .nil⟩ : Fr) [(2, (.int .i64 (1 : Int)))])) (H' := (⟨2, objTr [(.cells tab0 true false []), (.cells [(.int .i64 x644), (Sl.v 1 s646), (Sl.v 1 s648)] false false [])] 0 .nil, true⟩ : AHeap)) (by kernel_rfl) ?_
    refine .ghs (⟨68, frTr [(2, (.int .i64 (1 : Int)))] .nil⟩ : Fr) (⟨1, objTr [(.cells tab0 true false [])] 0 .nil, true⟩ : AHeap) (.gc [] [false] [] [2] (by kernel_rfl) trivial (by kernel_rfl)) ?_
    refine .ret ?_
    exact fin_ret (.int .i64 (1 : Int)) (by kernel_rfl) (by kernel_rfl) hm
  · refine .ifF (nt b652) (by kernel_rfl) h654 ?_
    refine .skip ?_
    refine .ghs (⟨68, frTr [(1, (.pointer (some ⟨1, 0, none⟩)))] .nil⟩ : Fr) (⟨2, objTr [(.cells tab0 true false []), (.cells [(.int .i64 x644), (Sl.v 1 s646), (Sl.v 1 s648)] false false [])] 0 .nil, true⟩ : AHeap) (.gc [] [false] [.tmp 1 false] [1] (by kernel_rfl) trivial (by kernel_rfl)) ?_
    refine .then ?_
    refine .then ?_
    refine .reg (F' := (Fr.puts (⟨68, frTr [(1, (.pointer (some ⟨1, 0, none⟩)))] .nil⟩ : Fr) [(9, (.pointer (some ⟨1, 1, none⟩))), (10, (Sl.v 1 s646)), (11, (.int .i64 (Int.ofNat (Sl.n s646)))), (12, (.bool (ieq (Int.ofNat (Sl.n s646)) (0 : Int))))])) (H' := (⟨2, objTr [(.cells tab0 true false []), (.cells [(.int .i64 x644), (Sl.v 1 s646), (Sl.v 1 s648)] false false [])] 0 .nil, true⟩ : AHeap)) (by kernel_rfl) ?_
    refine .ghs (⟨68, frTr [(1, (.pointer (some ⟨1, 0, none⟩))), (12, (.bool (ieq (Int.ofNat (Sl.n s646)) (0 : Int))))] .nil⟩ : Fr) (⟨2, objTr [(.cells tab0 true false []), (.cells [(.int .i64 x644), (Sl.v 1 s646), (Sl.v 1 s648)] false false [])] 0 .nil, true⟩ : AHeap) (.gc [] [false] [.tmp 1 false] [1, 12] (by kernel_rfl) trivial (by kernel_rfl)) ?_
    have hq := bb_cases hm; clear hm; rcases hq with ⟨h655, hm⟩ | ⟨h655, hm⟩
    · refine .ifT (ieq (Int.ofNat (Sl.n s646)) (0 : Int)) (by kernel_rfl) h655 ?_
      refine .then ?_
      refine .reg (F' := (Fr.puts (⟨68, frTr [(1, (.pointer (some ⟨1, 0, none⟩))), (12, (.bool (ieq (Int.ofNat (Sl.n s646)) (0 : Int))))] .nil⟩ : Fr) [(2, (.int .i64 (4 : Int)))])) (H' := (⟨2, objTr [(.cells tab0 true false []), (.cells [(.int .i64 x644), (Sl.v 1 s646), (Sl.v 1 s648)] false false [])] 0 .nil, true⟩ : AHeap)) (by kernel_rfl) ?_
      refine .ghs (⟨68, frTr [(2, (.int .i64 (4 : Int)))] .nil⟩ : Fr) (⟨1, objTr [(.cells tab0 true false [])] 0 .nil, true⟩ : AHeap) (.gc [] [false] [] [2] (by kernel_rfl) trivial (by kernel_rfl)) ?_
      refine .ret ?_
      exact fin_ret (.int .i64 (4 : Int)) (by kernel_rfl) (by kernel_rfl) hm
    · refine .ifF (ieq (Int.ofNat (Sl.n s646)) (0 : Int)) (by kernel_rfl) h655 ?_
      refine .skip ?_
      refine .ghs (⟨68, frTr [(1, (.pointer (some ⟨1, 0, none⟩)))] .nil⟩ : Fr) (⟨2, objTr [(.cells tab0 true false []), (.cells [(.int .i64 x644), (Sl.v 1 s646), (Sl.v 1 s648)] false false [])] 0 .nil, true⟩ : AHeap) (.gc [] [false] [.tmp 1 false] [1] (by kernel_rfl) trivial (by kernel_rfl)) ?_
      refine .then ?_
      refine .then ?_
      refine .reg (F' := (Fr.puts (⟨68, frTr [(1, (.pointer (some ⟨1, 0, none⟩)))] .nil⟩ : Fr) [(13, (.pointer (some ⟨1, 1, none⟩))), (14, (Sl.v 1 s646)), (15, (.int .i64 (Int.ofNat (Sl.n s646)))), (16, (.bool (ilt (10 : Int) (Int.ofNat (Sl.n s646)))))])) (H' := (⟨2, objTr [(.cells tab0 true false []), (.cells [(.int .i64 x644), (Sl.v 1 s646), (Sl.v 1 s648)] false false [])] 0 .nil, true⟩ : AHeap)) (by kernel_rfl) ?_
      refine .ghs (⟨68, frTr [(1, (.pointer (some ⟨1, 0, none⟩))), (16, (.bool (ilt (10 : Int) (Int.ofNat (Sl.n s646)))))] .nil⟩ : Fr) (⟨2, objTr [(.cells tab0 true false []), (.cells [(.int .i64 x644), (Sl.v 1 s646), (Sl.v 1 s648)] false false [])] 0 .nil, true⟩ : AHeap) (.gc [] [false] [.tmp 1 false] [1, 16] (by kernel_rfl) trivial (by kernel_rfl)) ?_
      have hq := bb_cases hm; clear hm; rcases hq with ⟨h656, hm⟩ | ⟨h656, hm⟩
      · refine .ifT (ilt (10 : Int) (Int.ofNat (Sl.n s646))) (by kernel_rfl) h656 ?_
        refine .then ?_
        refine .reg (F' := (Fr.puts (⟨68, frTr [(1, (.pointer (some ⟨1, 0, none⟩))), (16, (.bool (ilt (10 : Int) (Int.ofNat (Sl.n s646)))))] .nil⟩ : Fr) [(2, (.int .i64 (3 : Int)))])) (H' := (⟨2, objTr [(.cells tab0 true false []), (.cells [(.int .i64 x644), (Sl.v 1 s646), (Sl.v 1 s648)] false false [])] 0 .nil, true⟩ : AHeap)) (by kernel_rfl) ?_
        refine .ghs (⟨68, frTr [(2, (.int .i64 (3 : Int)))] .nil⟩ : Fr) (⟨1, objTr [(.cells tab0 true false [])] 0 .nil, true⟩ : AHeap) (.gc [] [false] [] [2] (by kernel_rfl) trivial (by kernel_rfl)) ?_
        refine .ret ?_
        exact fin_ret (.int .i64 (3 : Int)) (by kernel_rfl) (by kernel_rfl) hm
      · refine .ifF (ilt (10 : Int) (Int.ofNat (Sl.n s646))) (by kernel_rfl) h656 ?_
        refine .skip ?_
        refine .ghs (⟨68, frTr [(1, (.pointer (some ⟨1, 0, none⟩)))] .nil⟩ : Fr) (⟨2, objTr [(.cells tab0 true false []), (.cells [(.int .i64 x644), (Sl.v 1 s646), (Sl.v 1 s648)] false false [])] 0 .nil, true⟩ : AHeap) (.gc [] [false] [.tmp 1 false] [1] (by kernel_rfl) trivial (by kernel_rfl)) ?_
        refine .then ?_
        refine .then ?_
        refine .reg (F' := (Fr.puts (⟨68, frTr [(1, (.pointer (some ⟨1, 0, none⟩)))] .nil⟩ : Fr) [(17, (.pointer (some ⟨1, 2, none⟩))), (18, (Sl.v 1 s648)), (19, (.int .i64 (Int.ofNat (Sl.n s648)))), (20, (.pointer (some ⟨1, 1, none⟩))), (21, (Sl.v 1 s646)), (22, (.int .i64 (Int.ofNat (Sl.n s646)))), (23, (.bool (nt (ieq (Int.ofNat (Sl.n s648)) (Int.ofNat (Sl.n s646))))))])) (H' := (⟨2, objTr [(.cells tab0 true false []), (.cells [(.int .i64 x644), (Sl.v 1 s646), (Sl.v 1 s648)] false false [])] 0 .nil, true⟩ : AHeap)) (by kernel_rfl) ?_
        refine .ghs (⟨68, frTr [(1, (.pointer (some ⟨1, 0, none⟩))), (23, (.bool (nt (ieq (Int.ofNat (Sl.n s648)) (Int.ofNat (Sl.n s646))))))] .nil⟩ : Fr) (⟨2, objTr [(.cells tab0 true false []), (.cells [(.int .i64 x644), (Sl.v 1 s646), (Sl.v 1 s648)] false false [])] 0 .nil, true⟩ : AHeap) (.gc [] [false] [.tmp 1 false] [1, 23] (by kernel_rfl) trivial (by kernel_rfl)) ?_
        have hq := bb_cases hm; clear hm; rcases hq with ⟨h657, hm⟩ | ⟨h657, hm⟩
        · refine .ifT (nt (ieq (Int.ofNat (Sl.n s648)) (Int.ofNat (Sl.n s646)))) (by kernel_rfl) h657 ?_
          refine .then ?_
          refine .reg (F' := (Fr.puts (⟨68, frTr [(1, (.pointer (some ⟨1, 0, none⟩))), (23, (.bool (nt (ieq (Int.ofNat (Sl.n s648)) (Int.ofNat (Sl.n s646))))))] .nil⟩ : Fr) [(2, (.int .i64 (5 : Int)))])) (H' := (⟨2, objTr [(.cells tab0 true false []), (.cells [(.int .i64 x644), (Sl.v 1 s646), (Sl.v 1 s648)] false false [])] 0 .nil, true⟩ : AHeap)) (by kernel_rfl) ?_
          refine .ghs (⟨68, frTr [(2, (.int .i64 (5 : Int)))] .nil⟩ : Fr) (⟨1, objTr [(.cells tab0 true false [])] 0 .nil, true⟩ : AHeap) (.gc [] [false] [] [2] (by kernel_rfl) trivial (by kernel_rfl)) ?_
          refine .ret ?_
          exact fin_ret (.int .i64 (5 : Int)) (by kernel_rfl) (by kernel_rfl) hm
        · refine .ifF (nt (ieq (Int.ofNat (Sl.n s648)) (Int.ofNat (Sl.n s646)))) (by kernel_rfl) h657 ?_
          refine .skip ?_
          refine .ghs (⟨68, frTr [(1, (.pointer (some ⟨1, 0, none⟩)))] .nil⟩ : Fr) (⟨2, objTr [(.cells tab0 true false []), (.cells [(.int .i64 x644), (Sl.v 1 s646), (Sl.v 1 s648)] false false [])] 0 .nil, true⟩ : AHeap) (.gc [] [false] [.tmp 1 false] [1] (by kernel_rfl) trivial (by kernel_rfl)) ?_
          refine .join (v := v) (fun y : Int × Sl × Sl => ((⟨68, frTr [(1, (.pointer (some ⟨1, 0, none⟩)))] .nil⟩ : Fr), (⟨2, objTr [(.cells tab0 true false []), (.cells [(.int .i64 y.1), (Sl.v 1 y.2.1), (Sl.v 1 y.2.2)] false false [])] 0 .nil, true⟩ : AHeap))) (fun y => m22_0 pu n y.1 y.2.1 y.2.2) ?_ ?_
          · rintro ⟨z711, s712, s713⟩ hm
            unfold m22_0 at hm
            refine .join (v := v) (fun y : Unit => ((⟨68, frTr [] .nil⟩ : Fr), (⟨1, objTr [(.cells tab0 true false [])] 0 .nil, true⟩ : AHeap))) (fun y => m22_1 pu n) ?_ ?_
            · rintro _ hm
              unfold m22_1 at hm
              refine .then ?_
              refine .reg (F' := (Fr.puts (⟨68, frTr [] .nil⟩ : Fr) [(2, (.int .i64 (0 : Int)))])) (H' := (⟨1, objTr [(.cells tab0 true false [])] 0 .nil, true⟩ : AHeap)) (by kernel_rfl) ?_
              refine .ghs (⟨68, frTr [(2, (.int .i64 (0 : Int)))] .nil⟩ : Fr) (⟨1, objTr [(.cells tab0 true false [])] 0 .nil, true⟩ : AHeap) (.gc [] [false] [] [2] (by kernel_rfl) trivial (by kernel_rfl)) ?_
              refine .ret ?_
              exact fin_ret (.int .i64 (0 : Int)) (by kernel_rfl) (by kernel_rfl) hm
            · skip
              refine .then ?_
              refine .reg (F' := (Fr.puts (⟨68, frTr [(1, (.pointer (some ⟨1, 0, none⟩)))] .nil⟩ : Fr) [(4, (.int .i64 (0 : Int)))])) (H' := (⟨2, objTr [(.cells tab0 true false []), (.cells [(.int .i64 z711), (Sl.v 1 s712), (Sl.v 1 s713)] false false [])] 0 .nil, true⟩ : AHeap)) (by kernel_rfl) ?_
              refine .ghs (⟨68, frTr [(1, (.pointer (some ⟨1, 0, none⟩))), (4, (.int .i64 (0 : Int)))] .nil⟩ : Fr) (⟨2, objTr [(.cells tab0 true false []), (.cells [(.int .i64 z711), (Sl.v 1 s712), (Sl.v 1 s713)] false false [])] 0 .nil, true⟩ : AHeap) (.gc [] [false] [.tmp 1 false] [1, 4] (by kernel_rfl) trivial (by kernel_rfl)) ?_
              refine .block ?_
              refine .loopM (v := v) (fun y : Int × Int × Sl × Sl => ((⟨68, frTr [(1, (.pointer (some ⟨1, 0, none⟩))), (4, (.int .i64 y.1))] .nil⟩ : Fr), (⟨2, objTr [(.cells tab0 true false []), (.cells [(.int .i64 y.2.1), (Sl.v 1 y.2.2.1), (Sl.v 1 y.2.2.2)] false false [])] 0 .nil, true⟩ : AHeap))) (fun w y => l22_2 pu n w y.1 y.2.1 y.2.2.1 y.2.2.2) n ⟨((0 : Int), z711, s712, s713), hm, (.gc [] [false] [.tmp 1 false] [1, 4] (by kernel_rfl) trivial (by kernel_rfl))⟩ (fun _ => rfl) ?_
              rintro w0 ⟨z728, z729, s730, s731⟩ hm
              refine .then ?_
              refine .then ?_
              refine .reg (F' := (Fr.puts (⟨68, frTr [(1, (.pointer (some ⟨1, 0, none⟩))), (4, (.int .i64 z728))] .nil⟩ : Fr) [(53, (.int .i64 z728)), (54, (.pointer (some ⟨1, 0, none⟩))), (55, (.int .i64 z729)), (56, (.bool (ilt z728 z729)))])) (H' := (⟨2, objTr [(.cells tab0 true false []), (.cells [(.int .i64 z729), (Sl.v 1 s730), (Sl.v 1 s731)] false false [])] 0 .nil, true⟩ : AHeap)) (by kernel_rfl) ?_
              refine .ghs (⟨68, frTr [(1, (.pointer (some ⟨1, 0, none⟩))), (4, (.int .i64 z728)), (56, (.bool (ilt z728 z729)))] .nil⟩ : Fr) (⟨2, objTr [(.cells tab0 true false []), (.cells [(.int .i64 z729), (Sl.v 1 s730), (Sl.v 1 s731)] false false [])] 0 .nil, true⟩ : AHeap) (.gc [] [false] [.tmp 1 false] [1, 4, 56] (by kernel_rfl) trivial (by kernel_rfl)) ?_
              have hq := bb_cases hm; clear hm; rcases hq with ⟨h732, hm⟩ | ⟨h732, hm⟩
              · refine .ifT (ilt z728 z729) (by kernel_rfl) h732 ?_
                refine .skip ?_
                refine .ghs (⟨68, frTr [(1, (.pointer (some ⟨1, 0, none⟩))), (4, (.int .i64 z728))] .nil⟩ : Fr) (⟨2, objTr [(.cells tab0 true false []), (.cells [(.int .i64 z729), (Sl.v 1 s730), (Sl.v 1 s731)] false false [])] 0 .nil, true⟩ : AHeap) (.gc [] [false] [.tmp 1 false] [1, 4] (by kernel_rfl) trivial (by kernel_rfl)) ?_
                refine .then ?_
                refine .block ?_
                refine .then ?_
                have hq := oo_inv hm; clear hm; obtain ⟨v733, h734, hm⟩ := hq
                have hq := oo_inv hm; clear hm; obtain ⟨x735, h736, hm⟩ := hq
                obtain rfl := toI_some h736
                have hq := oo_inv hm; clear hm; obtain ⟨v737, h738, hm⟩ := hq
                have hq := oo_inv hm; clear hm; obtain ⟨x739, h740, hm⟩ := hq
                obtain rfl := toI_some h740
                refine .reg (F' := (Fr.puts (⟨68, frTr [(1, (.pointer (some ⟨1, 0, none⟩))), (4, (.int .i64 z728))] .nil⟩ : Fr) [(59, (.pointer (some ⟨1, 1, none⟩))), (60, (Sl.v 1 s730)), (61, (.int .i64 z728)), (63, (.pointer (some ⟨1, 2, none⟩))), (64, (Sl.v 1 s731)), (65, (.int .i64 z728)), (62, (.int .i64 x735)), (66, (.int .i64 x739)), (67, (.bool (nt (ieq x735 x739))))])) (H' := (⟨2, objTr [(.cells tab0 true false []), (.cells [(.int .i64 z729), (Sl.v 1 s730), (Sl.v 1 s731)] false false [])] 0 .nil, true⟩ : AHeap)) (evOps_cut 6 (by kernel_rfl) (evOps_data ((oo (pu 62 [(Sl.v 1 s730), (.int .i64 z728)]) none fun v => some (v, (⟨2, objTr [(.cells tab0 true false []), (.cells [(.int .i64 z729), (Sl.v 1 s730), (Sl.v 1 s731)] false false [])] 0 .nil, true⟩ : AHeap)))) (by kernel_rfl) (call_eq h734) (okAt_of (by kernel_rfl) (by kernel_rfl)) (evOps_data ((oo (pu 62 [(Sl.v 1 s731), (.int .i64 z728)]) none fun v => some (v, (⟨2, objTr [(.cells tab0 true false []), (.cells [(.int .i64 z729), (Sl.v 1 s730), (Sl.v 1 s731)] false false [])] 0 .nil, true⟩ : AHeap)))) (by kernel_rfl) (call_eq h738) (okAt_of (by kernel_rfl) (by kernel_rfl)) (by kernel_rfl)))) ?_
                refine .ghs (⟨68, frTr [(1, (.pointer (some ⟨1, 0, none⟩))), (4, (.int .i64 z728)), (67, (.bool (nt (ieq x735 x739))))] .nil⟩ : Fr) (⟨2, objTr [(.cells tab0 true false []), (.cells [(.int .i64 z729), (Sl.v 1 s730), (Sl.v 1 s731)] false false [])] 0 .nil, true⟩ : AHeap) (.gc [] [false] [.tmp 1 false] [1, 4, 67] (by kernel_rfl) trivial (by kernel_rfl)) ?_
                have hq := bb_cases hm; clear hm; rcases hq with ⟨h741, hm⟩ | ⟨h741, hm⟩
                · refine .ifT (nt (ieq x735 x739)) (by kernel_rfl) h741 ?_
                  refine .then ?_
                  refine .reg (F' := (Fr.puts (⟨68, frTr [(1, (.pointer (some ⟨1, 0, none⟩))), (4, (.int .i64 z728)), (67, (.bool (nt (ieq x735 x739))))] .nil⟩ : Fr) [(2, (.int .i64 (17 : Int)))])) (H' := (⟨2, objTr [(.cells tab0 true false []), (.cells [(.int .i64 z729), (Sl.v 1 s730), (Sl.v 1 s731)] false false [])] 0 .nil, true⟩ : AHeap)) (by kernel_rfl) ?_
                  refine .ghs (⟨68, frTr [(2, (.int .i64 (17 : Int)))] .nil⟩ : Fr) (⟨1, objTr [(.cells tab0 true false [])] 0 .nil, true⟩ : AHeap) (.gc [] [false] [] [2] (by kernel_rfl) trivial (by kernel_rfl)) ?_
                  refine .ret ?_
                  exact fin_ret (.int .i64 (17 : Int)) (by kernel_rfl) (by kernel_rfl) hm
                · refine .ifF (nt (ieq x735 x739)) (by kernel_rfl) h741 ?_
                  refine .skip ?_
                  refine .ghs (⟨68, frTr [(1, (.pointer (some ⟨1, 0, none⟩))), (4, (.int .i64 z728))] .nil⟩ : Fr) (⟨2, objTr [(.cells tab0 true false []), (.cells [(.int .i64 z729), (Sl.v 1 s730), (Sl.v 1 s731)] false false [])] 0 .nil, true⟩ : AHeap) (.gc [] [false] [.tmp 1 false] [1, 4] (by kernel_rfl) trivial (by kernel_rfl)) ?_
                  refine .reg (F' := (Fr.puts (⟨68, frTr [(1, (.pointer (some ⟨1, 0, none⟩))), (4, (.int .i64 z728))] .nil⟩ : Fr) [(57, (.int .i64 z728)), (58, (.int .i64 (wrapF .i64 (Int.add z728 (1 : Int))))), (4, (.int .i64 (wrapF .i64 (Int.add z728 (1 : Int)))))])) (H' := (⟨2, objTr [(.cells tab0 true false []), (.cells [(.int .i64 z729), (Sl.v 1 s730), (Sl.v 1 s731)] false false [])] 0 .nil, true⟩ : AHeap)) (by kernel_rfl) ?_
                  exact ⟨((wrapF .i64 (Int.add z728 (1 : Int))), z729, s730, s731), hm, (.gc [] [false] [.tmp 1 false] [1, 4] (by kernel_rfl) trivial (by kernel_rfl))⟩
              · refine .ifF (ilt z728 z729) (by kernel_rfl) h732 ?_
                refine .exit ?_
                exact ⟨(), hm, (.gc [] [false] [] [] (by kernel_rfl) trivial (by kernel_rfl))⟩
          · skip
            refine .then ?_
            refine .reg (F' := (Fr.puts (⟨68, frTr [(1, (.pointer (some ⟨1, 0, none⟩)))] .nil⟩ : Fr) [(3, (.int .i64 (0 : Int)))])) (H' := (⟨2, objTr [(.cells tab0 true false []), (.cells [(.int .i64 x644), (Sl.v 1 s646), (Sl.v 1 s648)] false false [])] 0 .nil, true⟩ : AHeap)) (by kernel_rfl) ?_
            refine .ghs (⟨68, frTr [(1, (.pointer (some ⟨1, 0, none⟩))), (3, (.int .i64 (0 : Int)))] .nil⟩ : Fr) (⟨2, objTr [(.cells tab0 true false []), (.cells [(.int .i64 x644), (Sl.v 1 s646), (Sl.v 1 s648)] false false [])] 0 .nil, true⟩ : AHeap) (.gc [] [false] [.tmp 1 false] [1, 3] (by kernel_rfl) trivial (by kernel_rfl)) ?_
            refine .block ?_
            refine .loopM (v := v) (fun y : Int × Int × Sl × Sl => ((⟨68, frTr [(1, (.pointer (some ⟨1, 0, none⟩))), (3, (.int .i64 y.1))] .nil⟩ : Fr), (⟨2, objTr [(.cells tab0 true false []), (.cells [(.int .i64 y.2.1), (Sl.v 1 y.2.2.1), (Sl.v 1 y.2.2.2)] false false [])] 0 .nil, true⟩ : AHeap))) (fun w y => l22_3 pu n w y.1 y.2.1 y.2.2.1 y.2.2.2) n ⟨((0 : Int), x644, s646, s648), hm, (.gc [] [false] [.tmp 1 false] [1, 3] (by kernel_rfl) trivial (by kernel_rfl))⟩ (fun _ => rfl) ?_
            rintro w0 ⟨z742, z743, s744, s745⟩ hm
            refine .then ?_
            refine .then ?_
            refine .reg (F' := (Fr.puts (⟨68, frTr [(1, (.pointer (some ⟨1, 0, none⟩))), (3, (.int .i64 z742))] .nil⟩ : Fr) [(24, (.int .i64 z742)), (25, (.pointer (some ⟨1, 1, none⟩))), (26, (Sl.v 1 s744)), (27, (.int .i64 (Int.ofNat (Sl.n s744)))), (28, (.bool (ilt z742 (Int.ofNat (Sl.n s744)))))])) (H' := (⟨2, objTr [(.cells tab0 true false []), (.cells [(.int .i64 z743), (Sl.v 1 s744), (Sl.v 1 s745)] false false [])] 0 .nil, true⟩ : AHeap)) (by kernel_rfl) ?_
            refine .ghs (⟨68, frTr [(1, (.pointer (some ⟨1, 0, none⟩))), (3, (.int .i64 z742)), (28, (.bool (ilt z742 (Int.ofNat (Sl.n s744)))))] .nil⟩ : Fr) (⟨2, objTr [(.cells tab0 true false []), (.cells [(.int .i64 z743), (Sl.v 1 s744), (Sl.v 1 s745)] false false [])] 0 .nil, true⟩ : AHeap) (.gc [] [false] [.tmp 1 false] [1, 3, 28] (by kernel_rfl) trivial (by kernel_rfl)) ?_
            have hq := bb_cases hm; clear hm; rcases hq with ⟨h746, hm⟩ | ⟨h746, hm⟩
            · refine .ifT (ilt z742 (Int.ofNat (Sl.n s744))) (by kernel_rfl) h746 ?_
              refine .skip ?_
              refine .ghs (⟨68, frTr [(1, (.pointer (some ⟨1, 0, none⟩))), (3, (.int .i64 z742))] .nil⟩ : Fr) (⟨2, objTr [(.cells tab0 true false []), (.cells [(.int .i64 z743), (Sl.v 1 s744), (Sl.v 1 s745)] false false [])] 0 .nil, true⟩ : AHeap) (.gc [] [false] [.tmp 1 false] [1, 3] (by kernel_rfl) trivial (by kernel_rfl)) ?_
              refine .then ?_
              refine .block ?_
              refine .join (v := v) (fun y : Int × Bool × Int × Sl × Sl => ((⟨68, frTr [(1, (.pointer (some ⟨1, 0, none⟩))), (3, (.int .i64 y.1)), (52, (.bool y.2.1))] .nil⟩ : Fr), (⟨2, objTr [(.cells tab0 true false []), (.cells [(.int .i64 y.2.2.1), (Sl.v 1 y.2.2.2.1), (Sl.v 1 y.2.2.2.2)] false false [])] 0 .nil, true⟩ : AHeap))) (fun y => m22_4 pu n (l22_3 pu n w0) y.1 y.2.1 y.2.2.1 y.2.2.2.1 y.2.2.2.2) ?_ ?_
              · rintro ⟨z768, b769, z770, s771, s772⟩ hm
                unfold m22_4 at hm
                have hq := bb_cases hm; clear hm; rcases hq with ⟨h773, hm⟩ | ⟨h773, hm⟩
                · refine .ifT b769 (by kernel_rfl) h773 ?_
                  refine .then ?_
                  refine .reg (F' := (Fr.puts (⟨68, frTr [(1, (.pointer (some ⟨1, 0, none⟩))), (3, (.int .i64 z768)), (52, (.bool b769))] .nil⟩ : Fr) [(2, (.int .i64 (2 : Int)))])) (H' := (⟨2, objTr [(.cells tab0 true false []), (.cells [(.int .i64 z770), (Sl.v 1 s771), (Sl.v 1 s772)] false false [])] 0 .nil, true⟩ : AHeap)) (by kernel_rfl) ?_
                  refine .ghs (⟨68, frTr [(2, (.int .i64 (2 : Int)))] .nil⟩ : Fr) (⟨1, objTr [(.cells tab0 true false [])] 0 .nil, true⟩ : AHeap) (.gc [] [false] [] [2] (by kernel_rfl) trivial (by kernel_rfl)) ?_
                  refine .ret ?_
                  exact fin_ret (.int .i64 (2 : Int)) (by kernel_rfl) (by kernel_rfl) hm
                · refine .ifF b769 (by kernel_rfl) h773 ?_
                  refine .skip ?_
                  refine .ghs (⟨68, frTr [(1, (.pointer (some ⟨1, 0, none⟩))), (3, (.int .i64 z768))] .nil⟩ : Fr) (⟨2, objTr [(.cells tab0 true false []), (.cells [(.int .i64 z770), (Sl.v 1 s771), (Sl.v 1 s772)] false false [])] 0 .nil, true⟩ : AHeap) (.gc [] [false] [.tmp 1 false] [1, 3] (by kernel_rfl) trivial (by kernel_rfl)) ?_
                  refine .reg (F' := (Fr.puts (⟨68, frTr [(1, (.pointer (some ⟨1, 0, none⟩))), (3, (.int .i64 z768))] .nil⟩ : Fr) [(29, (.int .i64 z768)), (30, (.int .i64 (wrapF .i64 (Int.add z768 (1 : Int))))), (3, (.int .i64 (wrapF .i64 (Int.add z768 (1 : Int)))))])) (H' := (⟨2, objTr [(.cells tab0 true false []), (.cells [(.int .i64 z770), (Sl.v 1 s771), (Sl.v 1 s772)] false false [])] 0 .nil, true⟩ : AHeap)) (by kernel_rfl) ?_
                  exact ⟨((wrapF .i64 (Int.add z768 (1 : Int))), z770, s771, s772), hm, (.gc [] [false] [.tmp 1 false] [1, 3] (by kernel_rfl) trivial (by kernel_rfl))⟩
              · skip
                have hq := oo_inv hm; clear hm; obtain ⟨k774, h775, hm⟩ := hq
                obtain rfl := toN_some h775
                have hq := bb_inv hm; clear hm; obtain ⟨h776, hm⟩ := hq
                have hq := oo_inv hm; clear hm; obtain ⟨v777, h778, hm⟩ := hq
                have hq := oo_inv hm; clear hm; obtain ⟨x779, h780, hm⟩ := hq
                obtain rfl := toI_some h780
                have hq := oo_inv hm; clear hm; obtain ⟨v781, h782, hm⟩ := hq
                have hq := oo_inv hm; clear hm; obtain ⟨b783, h784, hm⟩ := hq
                obtain rfl := vBool_some h784
                have hq := bb_cases hm; clear hm; rcases hq with ⟨h785, hm⟩ | ⟨h785, hm⟩
                · skip
                  refine .reg (F' := (Fr.puts (⟨68, frTr [(1, (.pointer (some ⟨1, 0, none⟩))), (3, (.int .i64 (Int.ofNat k774)))] .nil⟩ : Fr) [(31, (.pointer (some ⟨1, 1, none⟩))), (32, (Sl.v 1 s744)), (33, (.int .i64 (Int.ofNat k774))), (34, (fpV (k774 * 1) (Sl.cs s744))), (35, (.int .i64 x779)), (36, (.pointer (some ⟨1, 0, none⟩))), (37, (.int .i64 z743)), (38, (.int .i64 (wrapF .i64 (Int.sub z743 (1 : Int))))), (39, (.bool b783)), (40, (.bool true)), (41, (.bool true)), (42, (.tuple ⟨[]⟩)), (43, (.tuple ⟨[]⟩)), (44, (.tuple ⟨[]⟩)), (45, (.tuple ⟨[]⟩)), (46, (.tuple ⟨[]⟩)), (47, (.tuple ⟨[]⟩)), (48, (.tuple ⟨[]⟩)), (49, (.tuple ⟨[]⟩)), (50, (.tuple ⟨[]⟩)), (51, (.tuple ⟨[]⟩)), (52, (.bool true))])) (H' := (⟨2, objTr [(.cells tab0 true false []), (.cells [(.int .i64 z743), (Sl.v 1 s744), (Sl.v 1 s745)] false false [])] 0 .nil, true⟩ : AHeap)) (evOps_cut 3 (by kernel_rfl) (evOps_data (keep (⟨2, objTr [(.cells tab0 true false []), (.cells [(.int .i64 z743), (Sl.v 1 s744), (Sl.v 1 s745)] false false [])] 0 .nil, true⟩ : AHeap) (bb (an (Nat.blt k774 (Sl.n s744)) true) (some (fpV (k774 * 1) (Sl.cs s744))) none)) (by kernel_rfl) (keep_bb h776) (okAt_of (by kernel_rfl) (by kernel_rfl)) (evOps_data (keep (⟨2, objTr [(.cells tab0 true false []), (.cells [(.int .i64 z743), (Sl.v 1 s744), (Sl.v 1 s745)] false false [])] 0 .nil, true⟩ : AHeap) (nthL (Sl.cs s744) (k774 * 1))) (by kernel_rfl) (keep_eq h778) (okAt_of (by kernel_rfl) (by kernel_rfl)) (evOps_cut 3 (by kernel_rfl) (evOps_data ((oo (pu 61 [(.int .i64 x779), (.int .i64 (0 : Int)), (.int .i64 (wrapF .i64 (Int.sub z743 (1 : Int))))]) none fun v => some (v, (⟨2, objTr [(.cells tab0 true false []), (.cells [(.int .i64 z743), (Sl.v 1 s744), (Sl.v 1 s745)] false false [])] 0 .nil, true⟩ : AHeap)))) (by kernel_rfl) (call_eq h782) (okAt_of (by kernel_rfl) (by kernel_rfl)) (evOps_data (some ((.bool (nt b783)), (⟨2, objTr [(.cells tab0 true false []), (.cells [(.int .i64 z743), (Sl.v 1 s744), (Sl.v 1 s745)] false false [])] 0 .nil, true⟩ : AHeap))) (by kernel_rfl) (show _ = some ((.bool true), _) from (by rw [h785])) (okAt_of (by kernel_rfl) (by kernel_rfl)) (by kernel_rfl))))))) ?_
                  exact ⟨((Int.ofNat k774), true, z743, s744, s745), hm, (.gc [] [false] [.tmp 1 false] [1, 3, 52] (by kernel_rfl) trivial (by kernel_rfl))⟩
                · skip
                  have hq := bb_inv hm; clear hm; obtain ⟨h786, hm⟩ := hq
                  have hq := oo_inv hm; clear hm; obtain ⟨v787, h788, hm⟩ := hq
                  have hq := oo_inv hm; clear hm; obtain ⟨x789, h790, hm⟩ := hq
                  obtain rfl := toI_some h790
                  have hq := oo_inv hm; clear hm; obtain ⟨v791, h792, hm⟩ := hq
                  have hq := oo_inv hm; clear hm; obtain ⟨b793, h794, hm⟩ := hq
                  obtain rfl := vBool_some h794
                  refine .reg (F' := (Fr.puts (⟨68, frTr [(1, (.pointer (some ⟨1, 0, none⟩))), (3, (.int .i64 (Int.ofNat k774)))] .nil⟩ : Fr) [(31, (.pointer (some ⟨1, 1, none⟩))), (32, (Sl.v 1 s744)), (33, (.int .i64 (Int.ofNat k774))), (34, (fpV (k774 * 1) (Sl.cs s744))), (35, (.int .i64 x779)), (36, (.pointer (some ⟨1, 0, none⟩))), (37, (.int .i64 z743)), (38, (.int .i64 (wrapF .i64 (Int.sub z743 (1 : Int))))), (39, (.bool b783)), (40, (.bool false)), (41, (.bool false)), (42, (.pointer (some ⟨1, 2, none⟩))), (43, (Sl.v 1 s745)), (44, (.int .i64 (Int.ofNat k774))), (45, (fpV (k774 * 1) (Sl.cs s745))), (46, (.int .i64 x789)), (47, (.pointer (some ⟨1, 0, none⟩))), (48, (.int .i64 z743)), (49, (.int .i64 (wrapF .i64 (Int.sub z743 (1 : Int))))), (50, (.bool b793)), (51, (.bool (nt b793))), (52, (.bool (nt b793)))])) (H' := (⟨2, objTr [(.cells tab0 true false []), (.cells [(.int .i64 z743), (Sl.v 1 s744), (Sl.v 1 s745)] false false [])] 0 .nil, true⟩ : AHeap)) (evOps_cut 3 (by kernel_rfl) (evOps_data (keep (⟨2, objTr [(.cells tab0 true false []), (.cells [(.int .i64 z743), (Sl.v 1 s744), (Sl.v 1 s745)] false false [])] 0 .nil, true⟩ : AHeap) (bb (an (Nat.blt k774 (Sl.n s744)) true) (some (fpV (k774 * 1) (Sl.cs s744))) none)) (by kernel_rfl) (keep_bb h776) (okAt_of (by kernel_rfl) (by kernel_rfl)) (evOps_data (keep (⟨2, objTr [(.cells tab0 true false []), (.cells [(.int .i64 z743), (Sl.v 1 s744), (Sl.v 1 s745)] false false [])] 0 .nil, true⟩ : AHeap) (nthL (Sl.cs s744) (k774 * 1))) (by kernel_rfl) (keep_eq h778) (okAt_of (by kernel_rfl) (by kernel_rfl)) (evOps_cut 3 (by kernel_rfl) (evOps_data ((oo (pu 61 [(.int .i64 x779), (.int .i64 (0 : Int)), (.int .i64 (wrapF .i64 (Int.sub z743 (1 : Int))))]) none fun v => some (v, (⟨2, objTr [(.cells tab0 true false []), (.cells [(.int .i64 z743), (Sl.v 1 s744), (Sl.v 1 s745)] false false [])] 0 .nil, true⟩ : AHeap)))) (by kernel_rfl) (call_eq h782) (okAt_of (by kernel_rfl) (by kernel_rfl)) (evOps_data (some ((.bool (nt b783)), (⟨2, objTr [(.cells tab0 true false []), (.cells [(.int .i64 z743), (Sl.v 1 s744), (Sl.v 1 s745)] false false [])] 0 .nil, true⟩ : AHeap))) (by kernel_rfl) (show _ = some ((.bool false), _) from (by rw [h785])) (okAt_of (by kernel_rfl) (by kernel_rfl)) (evOps_cut 4 (by kernel_rfl) (evOps_data (keep (⟨2, objTr [(.cells tab0 true false []), (.cells [(.int .i64 z743), (Sl.v 1 s744), (Sl.v 1 s745)] false false [])] 0 .nil, true⟩ : AHeap) (bb (an (Nat.blt k774 (Sl.n s745)) true) (some (fpV (k774 * 1) (Sl.cs s745))) none)) (by kernel_rfl) (keep_bb h786) (okAt_of (by kernel_rfl) (by kernel_rfl)) (evOps_data (keep (⟨2, objTr [(.cells tab0 true false []), (.cells [(.int .i64 z743), (Sl.v 1 s744), (Sl.v 1 s745)] false false [])] 0 .nil, true⟩ : AHeap) (nthL (Sl.cs s745) (k774 * 1))) (by kernel_rfl) (keep_eq h788) (okAt_of (by kernel_rfl) (by kernel_rfl)) (evOps_cut 3 (by kernel_rfl) (evOps_data ((oo (pu 61 [(.int .i64 x789), (.int .i64 (0 : Int)), (.int .i64 (wrapF .i64 (Int.sub z743 (1 : Int))))]) none fun v => some (v, (⟨2, objTr [(.cells tab0 true false []), (.cells [(.int .i64 z743), (Sl.v 1 s744), (Sl.v 1 s745)] false false [])] 0 .nil, true⟩ : AHeap)))) (by kernel_rfl) (call_eq h792) (okAt_of (by kernel_rfl) (by kernel_rfl)) (by kernel_rfl)))))))))))) ?_
                  exact ⟨((Int.ofNat k774), (nt b793), z743, s744, s745), hm, (.gc [] [false] [.tmp 1 false] [1, 3, 52] (by kernel_rfl) trivial (by kernel_rfl))⟩
            · refine .ifF (ilt z742 (Int.ofNat (Sl.n s744))) (by kernel_rfl) h746 ?_
              refine .exit ?_
              exact ⟨(z743, s744, s745), hm, (.gc [] [false] [.tmp 1 false] [1] (by kernel_rfl) trivial (by kernel_rfl))⟩
/-- (spadille/mend.Tray).wrong -/
def o53_0 : List ROp := [
  ⟨(some 1), .box 24 (.tmp 0), 0, none, []⟩,
  ⟨(some 2), .assign (.const (.int .u16 0)), 79, none, []⟩]
def c53_0 : RC := .reg [] o53_0
def o53_1 : List ROp := [
  ⟨(some 3), .assign (.const (.int .u16 0)), 79, none, []⟩]
def c53_1 : RC := .reg [] o53_1
def o53_2 : List ROp := [
  ⟨(some 6), .fieldAddr 24 (.tmp 1) 1, 0, none, []⟩,
  ⟨(some 7), .load 22 (.tmp 6), 22, none, []⟩,
  ⟨(some 8), .call ⟨.builtin .len, #[(.tmp 7)], #[22]⟩, 3, none, []⟩,
  ⟨(some 9), .move (.const (.int .i64 0)), 3, none, []⟩]
def c53_2 : RC := .reg [] o53_2
def o53_3 : List ROp := [
  ⟨(some 10), .binOp .lss 3 (.tmp 9) (.tmp 8) 3, 0, none, []⟩]
def c53_3 : RC := .reg [] o53_3
def c53_4 : RC := .cond (.tmp 10) .skip (.exit 0)
def o53_5 : List ROp := [
  ⟨(some 11), .move (.tmp 9), 3, none, []⟩,
  ⟨(some 12), .indexAddr 22 (.tmp 7) (.tmp 9), 0, none, []⟩,
  ⟨(some 13), .load 3 (.tmp 12), 3, none, []⟩,
  ⟨(some 4), .assign (.tmp 11), 3, none, []⟩,
  ⟨(some 5), .assign (.tmp 13), 3, none, []⟩]
def c53_5 : RC := .reg [] o53_5
def o53_6 : List ROp := [
  ⟨(some 14), .move (.tmp 5), 3, none, []⟩,
  ⟨(some 15), .fieldAddr 24 (.tmp 1) 2, 0, none, []⟩,
  ⟨(some 16), .load 22 (.tmp 15), 22, none, []⟩,
  ⟨(some 17), .move (.tmp 4), 3, none, []⟩,
  ⟨(some 18), .indexAddr 22 (.tmp 16) (.tmp 17), 0, none, []⟩,
  ⟨(some 19), .load 3 (.tmp 18), 3, none, []⟩,
  ⟨(some 20), .binOp .neq 3 (.tmp 14) (.tmp 19) 3, 4, none, []⟩]
def c53_6 : RC := .reg [] o53_6
def o53_7 : List ROp := [
  ⟨(some 21), .move (.tmp 3), 79, none, []⟩,
  ⟨(some 22), .move (.tmp 4), 3, none, []⟩,
  ⟨(some 23), .binOp .shl 79 (.const (.int .u16 1)) (.tmp 22) 3, 79, none, []⟩,
  ⟨(some 24), .binOp .or 79 (.tmp 21) (.tmp 23) 79, 79, none, []⟩,
  ⟨(some 3), .assign (.tmp 24), 79, none, []⟩]
def c53_7 : RC := .reg [] o53_7
def c53_8 : RC := .cond (.tmp 20) c53_7 .skip
def c53_9 : RC := .seq c53_6 c53_8
def c53_10 : RC := .seq c53_5 c53_9
def c53_11 : RC := .block 1 c53_10
def o53_12 : List ROp := [
  ⟨(some 25), .binOp .add 3 (.tmp 9) (.const (.int .i64 1)) 3, 3, none, []⟩,
  ⟨(some 9), .move (.tmp 25), 3, none, []⟩]
def c53_12 : RC := .reg [] o53_12
def c53_13 : RC := .seq c53_11 c53_12
def c53_14 : RC := .seq c53_4 c53_13
def c53_15 : RC := .seq c53_3 c53_14
def c53_16 : RC := .loop c53_15
def c53_17 : RC := .block 0 c53_16
def c53_18 : RC := .seq c53_2 c53_17
def o53_19 : List ROp := [
  ⟨(some 26), .move (.tmp 3), 79, none, []⟩,
  ⟨(some 2), .assign (.tmp 26), 79, none, []⟩]
def c53_19 : RC := .reg [] o53_19
def c53_20 : RC := .seq c53_19 .ret
def c53_21 : RC := .seq c53_18 c53_20
def c53_22 : RC := .seq c53_1 c53_21
def c53_23 : RC := .seq c53_0 c53_22
def m53_0 (pu : PureF) (n : Nat) (z847 : Int) : Option Value :=
  (some (.int .u16 z847))
def m53_2 (pu : PureF) (n : Nat) (ih0 : Int → Sl → Int → Int → Int → Sl → Sl → Option Value) (z869 : Int) (s870 : Sl) (z871 : Int) (z872 : Int) (z873 : Int) (s874 : Sl) (s875 : Sl) : Option Value :=
  (ih0 z869 s870 z871 (wrapF .i64 (Int.add z872 (1 : Int))) z873 s874 s875)
def b53_1 (pu : PureF) (n : Nat) (ih0 : Int → Sl → Int → Int → Int → Sl → Sl → Option Value) (z848 : Int) (s849 : Sl) (z850 : Int) (z851 : Int) (z852 : Int) (s853 : Sl) (s854 : Sl) : Option Value :=
  (bb (ilt z851 z850) (oo (toN z851) none fun k876 => (bb (an (Nat.blt k876 (Sl.n s849)) true) (oo (nthL (Sl.cs s849) (k876 * 1)) none fun v879 => (oo (toI .i64 v879) none fun x881 => (bb (an (Nat.blt k876 (Sl.n s854)) true) (oo (nthL (Sl.cs s854) (k876 * 1)) none fun v884 => (oo (toI .i64 v884) none fun x886 => (bb (nt (ieq x881 x886)) (m53_2 pu n ih0 (aor .u16 z848 (shlI .u16 (1 : Int) k876)) s849 z850 (Int.ofNat k876) z852 s853 s854) (m53_2 pu n ih0 z848 s849 z850 (Int.ofNat k876) z852 s853 s854)))) none))) none)) (m53_0 pu n z848))
def l53_1 (pu : PureF) (n : Nat) (w : Nat) : Int → Sl → Int → Int → Int → Sl → Sl → Option Value :=
  Nat.rec (motive := fun _ => Int → Sl → Int → Int → Int → Sl → Sl → Option Value) (fun _ _ _ _ _ _ _ => none) (fun _ ih0 => b53_1 pu n ih0) w
def m53_ (pu : PureF) (n : Nat) (x800 : Int) (s802 : Sl) (s804 : Sl) : Option Value :=
  (l53_1 pu n n (0 : Int) s802 (Int.ofNat (Sl.n s802)) (0 : Int) x800 s802 s804)
def m53 (pu : PureF) (n : Nat) (args : List Value) : Option Value :=
  (ll args none fun a0 args => (ll args (oo (vAgg a0) none fun l795 => (ll l795 none fun v797 l795 => (ll l795 none fun v798 l795 => (ll l795 none fun v799 l795 => (ll l795 (oo (toI .i64 v797) none fun x800 => (oo (toSl 1 v798) none fun s802 => (oo (toSl 1 v799) none fun s804 => (m53_ pu n x800 s802 s804)))) fun _ _ => none))))) fun _ _ => none))
theorem r53 {call : CallF} (pu : PureF) (n : Nat) (hcall : call = callP tabs isP pu inl) {args : List Value} {v : Value} (hm : m53 pu n args = some v) (_ : ∀ x ∈ args, closed2 x = true) : args.length ≤ 27 ∧ Run tt call 1 c53_23 (Fr.made 27 args) (pureHeap tabs) (Fin tt 1 [.tmp 2] v) := by
  subst hcall
  unfold m53 at hm
  have hq := ll_uncons hm; clear hm; obtain ⟨a0, args_0, rfl, hm⟩ := hq
  have hq := ll_end hm; clear hm; obtain ⟨rfl, hm⟩ := hq
  have hq := oo_inv hm; clear hm; obtain ⟨l795, h796, hm⟩ := hq
  obtain rfl := vAgg_some h796
  have hq := ll_uncons hm; clear hm; obtain ⟨v797, l795_0, rfl, hm⟩ := hq
  have hq := ll_uncons hm; clear hm; obtain ⟨v798, l795_1, rfl, hm⟩ := hq
  have hq := ll_uncons hm; clear hm; obtain ⟨v799, l795_2, rfl, hm⟩ := hq
  have hq := ll_end hm; clear hm; obtain ⟨rfl, hm⟩ := hq
  have hq := oo_inv hm; clear hm; obtain ⟨x800, h801, hm⟩ := hq
  obtain rfl := toI_some h801
  have hq := oo_inv hm; clear hm; obtain ⟨s802, h803, hm⟩ := hq
  obtain rfl := toSl_some h803
  have hq := oo_inv hm; clear hm; obtain ⟨s804, h805, hm⟩ := hq
  obtain rfl := toSl_some h805
  unfold m53_ at hm
  refine ⟨by simp, ?_⟩
  refine .same (F' := (⟨27, frTr [(0, (.agg ⟨[(.int .i64 x800), (Sl.v 1 s802), (Sl.v 1 s804)]⟩))] .nil⟩ : Fr)) (H' := (⟨1, objTr [(.cells tab0 true false [])] 0 .nil, true⟩ : AHeap)) (by kernel_rfl) (by kernel_rfl) ?_
  refine .then ?_
  refine .reg (F' := (Fr.puts (⟨27, frTr [(0, (.agg ⟨[(.int .i64 x800), (Sl.v 1 s802), (Sl.v 1 s804)]⟩))] .nil⟩ : Fr) [(1, (.pointer (some ⟨1, 0, none⟩))), (2, (.int .u16 (0 : Int)))])) (H' := (⟨2, objTr [(.cells tab0 true false []), (.cells [(.int .i64 x800), (Sl.v 1 s802), (Sl.v 1 s804)] false false [])] 0 .nil, true⟩ : AHeap)) (by kernel_rfl) ?_
  refine .ghs (⟨27, frTr [(1, (.pointer (some ⟨1, 0, none⟩)))] .nil⟩ : Fr) (⟨2, objTr [(.cells tab0 true false []), (.cells [(.int .i64 x800), (Sl.v 1 s802), (Sl.v 1 s804)] false false [])] 0 .nil, true⟩ : AHeap) (.gc [] [false] [.tmp 1 false] [1] (by kernel_rfl) trivial (by kernel_rfl)) ?_
  refine .then ?_
  refine .reg (F' := (Fr.puts (⟨27, frTr [(1, (.pointer (some ⟨1, 0, none⟩)))] .nil⟩ : Fr) [(3, (.int .u16 (0 : Int)))])) (H' := (⟨2, objTr [(.cells tab0 true false []), (.cells [(.int .i64 x800), (Sl.v 1 s802), (Sl.v 1 s804)] false false [])] 0 .nil, true⟩ : AHeap)) (by kernel_rfl) ?_
  refine .ghs (⟨27, frTr [(1, (.pointer (some ⟨1, 0, none⟩))), (3, (.int .u16 (0 : Int)))] .nil⟩ : Fr) (⟨2, objTr [(.cells tab0 true false []), (.cells [(.int .i64 x800), (Sl.v 1 s802), (Sl.v 1 s804)] false false [])] 0 .nil, true⟩ : AHeap) (.gc [] [false] [.tmp 1 false] [1, 3] (by kernel_rfl) trivial (by kernel_rfl)) ?_
  refine .join (v := v) (fun y : Int => ((⟨27, frTr [(3, (.int .u16 y))] .nil⟩ : Fr), (⟨1, objTr [(.cells tab0 true false [])] 0 .nil, true⟩ : AHeap))) (fun y => m53_0 pu n y) ?_ ?_
  · rintro z847 hm
    unfold m53_0 at hm
    refine .then ?_
    refine .reg (F' := (Fr.puts (⟨27, frTr [(3, (.int .u16 z847))] .nil⟩ : Fr) [(26, (.int .u16 z847)), (2, (.int .u16 z847))])) (H' := (⟨1, objTr [(.cells tab0 true false [])] 0 .nil, true⟩ : AHeap)) (by kernel_rfl) ?_
    refine .ghs (⟨27, frTr [(2, (.int .u16 z847))] .nil⟩ : Fr) (⟨1, objTr [(.cells tab0 true false [])] 0 .nil, true⟩ : AHeap) (.gc [] [false] [] [2] (by kernel_rfl) trivial (by kernel_rfl)) ?_
    refine .ret ?_
    exact fin_ret (.int .u16 z847) (by kernel_rfl) (by kernel_rfl) hm
  · skip
    refine .then ?_
    refine .reg (F' := (Fr.puts (⟨27, frTr [(1, (.pointer (some ⟨1, 0, none⟩))), (3, (.int .u16 (0 : Int)))] .nil⟩ : Fr) [(6, (.pointer (some ⟨1, 1, none⟩))), (7, (Sl.v 1 s802)), (8, (.int .i64 (Int.ofNat (Sl.n s802)))), (9, (.int .i64 (0 : Int)))])) (H' := (⟨2, objTr [(.cells tab0 true false []), (.cells [(.int .i64 x800), (Sl.v 1 s802), (Sl.v 1 s804)] false false [])] 0 .nil, true⟩ : AHeap)) (by kernel_rfl) ?_
    refine .ghs (⟨27, frTr [(1, (.pointer (some ⟨1, 0, none⟩))), (3, (.int .u16 (0 : Int))), (7, (Sl.v 1 s802)), (8, (.int .i64 (Int.ofNat (Sl.n s802)))), (9, (.int .i64 (0 : Int)))] .nil⟩ : Fr) (⟨2, objTr [(.cells tab0 true false []), (.cells [(.int .i64 x800), (Sl.v 1 s802), (Sl.v 1 s804)] false false [])] 0 .nil, true⟩ : AHeap) (.gc [] [false] [.tmp 1 false] [1, 3, 7, 8, 9] (by kernel_rfl) trivial (by kernel_rfl)) ?_
    refine .block ?_
    refine .loopM (v := v) (fun y : Int × Sl × Int × Int × Int × Sl × Sl => ((⟨27, frTr [(1, (.pointer (some ⟨1, 0, none⟩))), (3, (.int .u16 y.1)), (7, (Sl.v 1 y.2.1)), (8, (.int .i64 y.2.2.1)), (9, (.int .i64 y.2.2.2.1))] .nil⟩ : Fr), (⟨2, objTr [(.cells tab0 true false []), (.cells [(.int .i64 y.2.2.2.2.1), (Sl.v 1 y.2.2.2.2.2.1), (Sl.v 1 y.2.2.2.2.2.2)] false false [])] 0 .nil, true⟩ : AHeap))) (fun w y => l53_1 pu n w y.1 y.2.1 y.2.2.1 y.2.2.2.1 y.2.2.2.2.1 y.2.2.2.2.2.1 y.2.2.2.2.2.2) n ⟨((0 : Int), s802, (Int.ofNat (Sl.n s802)), (0 : Int), x800, s802, s804), hm, (.gc [] [false] [.tmp 1 false] [1, 3, 7, 8, 9] (by kernel_rfl) trivial (by kernel_rfl))⟩ (fun _ => rfl) ?_
    rintro w0 ⟨z848, s849, z850, z851, z852, s853, s854⟩ hm
    refine .then ?_
    refine .reg (F' := (Fr.puts (⟨27, frTr [(1, (.pointer (some ⟨1, 0, none⟩))), (3, (.int .u16 z848)), (7, (Sl.v 1 s849)), (8, (.int .i64 z850)), (9, (.int .i64 z851))] .nil⟩ : Fr) [(10, (.bool (ilt z851 z850)))])) (H' := (⟨2, objTr [(.cells tab0 true false []), (.cells [(.int .i64 z852), (Sl.v 1 s853), (Sl.v 1 s854)] false false [])] 0 .nil, true⟩ : AHeap)) (by kernel_rfl) ?_
    refine .ghs (⟨27, frTr [(1, (.pointer (some ⟨1, 0, none⟩))), (3, (.int .u16 z848)), (7, (Sl.v 1 s849)), (8, (.int .i64 z850)), (9, (.int .i64 z851)), (10, (.bool (ilt z851 z850)))] .nil⟩ : Fr) (⟨2, objTr [(.cells tab0 true false []), (.cells [(.int .i64 z852), (Sl.v 1 s853), (Sl.v 1 s854)] false false [])] 0 .nil, true⟩ : AHeap) (.gc [] [false] [.tmp 1 false] [1, 3, 7, 8, 9, 10] (by kernel_rfl) trivial (by kernel_rfl)) ?_
    refine .then ?_
    have hq := bb_cases hm; clear hm; rcases hq with ⟨h855, hm⟩ | ⟨h855, hm⟩
    · refine .ifT (ilt z851 z850) (by kernel_rfl) h855 ?_
      refine .skip ?_
      refine .ghs (⟨27, frTr [(1, (.pointer (some ⟨1, 0, none⟩))), (3, (.int .u16 z848)), (7, (Sl.v 1 s849)), (8, (.int .i64 z850)), (9, (.int .i64 z851))] .nil⟩ : Fr) (⟨2, objTr [(.cells tab0 true false []), (.cells [(.int .i64 z852), (Sl.v 1 s853), (Sl.v 1 s854)] false false [])] 0 .nil, true⟩ : AHeap) (.gc [] [false] [.tmp 1 false] [1, 3, 7, 8, 9] (by kernel_rfl) trivial (by kernel_rfl)) ?_
      refine .join (v := v) (fun y : Int × Sl × Int × Int × Int × Sl × Sl => ((⟨27, frTr [(1, (.pointer (some ⟨1, 0, none⟩))), (3, (.int .u16 y.1)), (7, (Sl.v 1 y.2.1)), (8, (.int .i64 y.2.2.1)), (9, (.int .i64 y.2.2.2.1))] .nil⟩ : Fr), (⟨2, objTr [(.cells tab0 true false []), (.cells [(.int .i64 y.2.2.2.2.1), (Sl.v 1 y.2.2.2.2.2.1), (Sl.v 1 y.2.2.2.2.2.2)] false false [])] 0 .nil, true⟩ : AHeap))) (fun y => m53_2 pu n (l53_1 pu n w0) y.1 y.2.1 y.2.2.1 y.2.2.2.1 y.2.2.2.2.1 y.2.2.2.2.2.1 y.2.2.2.2.2.2) ?_ ?_
      · rintro ⟨z869, s870, z871, z872, z873, s874, s875⟩ hm
        unfold m53_2 at hm
        refine .reg (F' := (Fr.puts (⟨27, frTr [(1, (.pointer (some ⟨1, 0, none⟩))), (3, (.int .u16 z869)), (7, (Sl.v 1 s870)), (8, (.int .i64 z871)), (9, (.int .i64 z872))] .nil⟩ : Fr) [(25, (.int .i64 (wrapF .i64 (Int.add z872 (1 : Int))))), (9, (.int .i64 (wrapF .i64 (Int.add z872 (1 : Int)))))])) (H' := (⟨2, objTr [(.cells tab0 true false []), (.cells [(.int .i64 z873), (Sl.v 1 s874), (Sl.v 1 s875)] false false [])] 0 .nil, true⟩ : AHeap)) (by kernel_rfl) ?_
        exact ⟨(z869, s870, z871, (wrapF .i64 (Int.add z872 (1 : Int))), z873, s874, s875), hm, (.gc [] [false] [.tmp 1 false] [1, 3, 7, 8, 9] (by kernel_rfl) trivial (by kernel_rfl))⟩
      · skip
        refine .block ?_
        refine .then ?_
        have hq := oo_inv hm; clear hm; obtain ⟨k876, h877, hm⟩ := hq
        obtain rfl := toN_some h877
        have hq := bb_inv hm; clear hm; obtain ⟨h878, hm⟩ := hq
        have hq := oo_inv hm; clear hm; obtain ⟨v879, h880, hm⟩ := hq
        have hq := oo_inv hm; clear hm; obtain ⟨x881, h882, hm⟩ := hq
        obtain rfl := toI_some h882
        refine .reg (F' := (Fr.puts (⟨27, frTr [(1, (.pointer (some ⟨1, 0, none⟩))), (3, (.int .u16 z848)), (7, (Sl.v 1 s849)), (8, (.int .i64 z850)), (9, (.int .i64 (Int.ofNat k876)))] .nil⟩ : Fr) [(11, (.int .i64 (Int.ofNat k876))), (12, (fpV (k876 * 1) (Sl.cs s849))), (13, (.int .i64 x881)), (4, (.int .i64 (Int.ofNat k876))), (5, (.int .i64 x881))])) (H' := (⟨2, objTr [(.cells tab0 true false []), (.cells [(.int .i64 z852), (Sl.v 1 s853), (Sl.v 1 s854)] false false [])] 0 .nil, true⟩ : AHeap)) (evOps_cut 1 (by kernel_rfl) (evOps_data (keep (⟨2, objTr [(.cells tab0 true false []), (.cells [(.int .i64 z852), (Sl.v 1 s853), (Sl.v 1 s854)] false false [])] 0 .nil, true⟩ : AHeap) (bb (an (Nat.blt k876 (Sl.n s849)) true) (some (fpV (k876 * 1) (Sl.cs s849))) none)) (by kernel_rfl) (keep_bb h878) (okAt_of (by kernel_rfl) (by kernel_rfl)) (evOps_data (keep (⟨2, objTr [(.cells tab0 true false []), (.cells [(.int .i64 z852), (Sl.v 1 s853), (Sl.v 1 s854)] false false [])] 0 .nil, true⟩ : AHeap) (nthL (Sl.cs s849) (k876 * 1))) (by kernel_rfl) (keep_eq h880) (okAt_of (by kernel_rfl) (by kernel_rfl)) (by kernel_rfl)))) ?_
        refine .ghs (⟨27, frTr [(1, (.pointer (some ⟨1, 0, none⟩))), (3, (.int .u16 z848)), (4, (.int .i64 (Int.ofNat k876))), (5, (.int .i64 x881)), (7, (Sl.v 1 s849)), (8, (.int .i64 z850)), (9, (.int .i64 (Int.ofNat k876)))] .nil⟩ : Fr) (⟨2, objTr [(.cells tab0 true false []), (.cells [(.int .i64 z852), (Sl.v 1 s853), (Sl.v 1 s854)] false false [])] 0 .nil, true⟩ : AHeap) (.gc [] [false] [.tmp 1 false] [1, 3, 4, 5, 7, 8, 9] (by kernel_rfl) trivial (by kernel_rfl)) ?_
        refine .then ?_
        have hq := bb_inv hm; clear hm; obtain ⟨h883, hm⟩ := hq
        have hq := oo_inv hm; clear hm; obtain ⟨v884, h885, hm⟩ := hq
        have hq := oo_inv hm; clear hm; obtain ⟨x886, h887, hm⟩ := hq
        obtain rfl := toI_some h887
        refine .reg (F' := (Fr.puts (⟨27, frTr [(1, (.pointer (some ⟨1, 0, none⟩))), (3, (.int .u16 z848)), (4, (.int .i64 (Int.ofNat k876))), (5, (.int .i64 x881)), (7, (Sl.v 1 s849)), (8, (.int .i64 z850)), (9, (.int .i64 (Int.ofNat k876)))] .nil⟩ : Fr) [(14, (.int .i64 x881)), (15, (.pointer (some ⟨1, 2, none⟩))), (16, (Sl.v 1 s854)), (17, (.int .i64 (Int.ofNat k876))), (18, (fpV (k876 * 1) (Sl.cs s854))), (19, (.int .i64 x886)), (20, (.bool (nt (ieq x881 x886))))])) (H' := (⟨2, objTr [(.cells tab0 true false []), (.cells [(.int .i64 z852), (Sl.v 1 s853), (Sl.v 1 s854)] false false [])] 0 .nil, true⟩ : AHeap)) (evOps_cut 4 (by kernel_rfl) (evOps_data (keep (⟨2, objTr [(.cells tab0 true false []), (.cells [(.int .i64 z852), (Sl.v 1 s853), (Sl.v 1 s854)] false false [])] 0 .nil, true⟩ : AHeap) (bb (an (Nat.blt k876 (Sl.n s854)) true) (some (fpV (k876 * 1) (Sl.cs s854))) none)) (by kernel_rfl) (keep_bb h883) (okAt_of (by kernel_rfl) (by kernel_rfl)) (evOps_data (keep (⟨2, objTr [(.cells tab0 true false []), (.cells [(.int .i64 z852), (Sl.v 1 s853), (Sl.v 1 s854)] false false [])] 0 .nil, true⟩ : AHeap) (nthL (Sl.cs s854) (k876 * 1))) (by kernel_rfl) (keep_eq h885) (okAt_of (by kernel_rfl) (by kernel_rfl)) (by kernel_rfl)))) ?_
        refine .ghs (⟨27, frTr [(1, (.pointer (some ⟨1, 0, none⟩))), (3, (.int .u16 z848)), (4, (.int .i64 (Int.ofNat k876))), (7, (Sl.v 1 s849)), (8, (.int .i64 z850)), (9, (.int .i64 (Int.ofNat k876))), (20, (.bool (nt (ieq x881 x886))))] .nil⟩ : Fr) (⟨2, objTr [(.cells tab0 true false []), (.cells [(.int .i64 z852), (Sl.v 1 s853), (Sl.v 1 s854)] false false [])] 0 .nil, true⟩ : AHeap) (.gc [] [false] [.tmp 1 false] [1, 3, 4, 7, 8, 9, 20] (by kernel_rfl) trivial (by kernel_rfl)) ?_
        have hq := bb_cases hm; clear hm; rcases hq with ⟨h888, hm⟩ | ⟨h888, hm⟩
        · refine .ifT (nt (ieq x881 x886)) (by kernel_rfl) h888 ?_
          refine .reg (F' := (Fr.puts (⟨27, frTr [(1, (.pointer (some ⟨1, 0, none⟩))), (3, (.int .u16 z848)), (4, (.int .i64 (Int.ofNat k876))), (7, (Sl.v 1 s849)), (8, (.int .i64 z850)), (9, (.int .i64 (Int.ofNat k876))), (20, (.bool (nt (ieq x881 x886))))] .nil⟩ : Fr) [(21, (.int .u16 z848)), (22, (.int .i64 (Int.ofNat k876))), (23, (.int .u16 (shlI .u16 (1 : Int) k876))), (24, (.int .u16 (aor .u16 z848 (shlI .u16 (1 : Int) k876)))), (3, (.int .u16 (aor .u16 z848 (shlI .u16 (1 : Int) k876))))])) (H' := (⟨2, objTr [(.cells tab0 true false []), (.cells [(.int .i64 z852), (Sl.v 1 s853), (Sl.v 1 s854)] false false [])] 0 .nil, true⟩ : AHeap)) (by kernel_rfl) ?_
          exact ⟨((aor .u16 z848 (shlI .u16 (1 : Int) k876)), s849, z850, (Int.ofNat k876), z852, s853, s854), hm, (.gc [] [false] [.tmp 1 false] [1, 3, 7, 8, 9] (by kernel_rfl) trivial (by kernel_rfl))⟩
        · refine .ifF (nt (ieq x881 x886)) (by kernel_rfl) h888 ?_
          refine .skip ?_
          exact ⟨(z848, s849, z850, (Int.ofNat k876), z852, s853, s854), hm, (.gc [] [false] [.tmp 1 false] [1, 3, 7, 8, 9] (by kernel_rfl) trivial (by kernel_rfl))⟩
    · refine .ifF (ilt z851 z850) (by kernel_rfl) h855 ?_
      refine .exit ?_
      exact ⟨z848, hm, (.gc [] [false] [] [3] (by kernel_rfl) trivial (by kernel_rfl))⟩
/-- (spadille/mend.set).list -/
def o54_0 : List ROp := [
  ⟨(some 2), .assign (.const (.slice none 0 0)), 22, none, []⟩]
def c54_0 : RC := .reg [] o54_0
def o54_1 : List ROp := [
  ⟨(some 3), .assign (.const (.slice none 0 0)), 22, none, []⟩]
def c54_1 : RC := .reg [] o54_1
def o54_2 : List ROp := [
  ⟨(some 4), .move (.tmp 0), 79, none, []⟩,
  ⟨(some 5), .binOp .neq 79 (.tmp 4) (.const (.int .u16 0)) 79, 4, none, []⟩]
def c54_2 : RC := .reg [] o54_2
def c54_3 : RC := .cond (.tmp 5) .skip (.exit 0)
def c54_4 : RC := .seq c54_2 c54_3
def o54_5 : List ROp := [
  ⟨(some 10), .move (.tmp 3), 22, none, []⟩,
  ⟨(some 11), .move (.tmp 0), 79, none, []⟩,
  ⟨(some 12), .call ⟨.value (.func 73), #[(.tmp 11)], #[78]⟩, 3, none, []⟩,
  ⟨(some 13), .buildSlice 22 1 #[(0, (.tmp 12))], 22, none, []⟩,
  ⟨(some 14), .call ⟨.builtin .append, #[(.tmp 10), (.tmp 13)], #[22, 22]⟩, 22, none, []⟩,
  ⟨(some 3), .assign (.tmp 14), 22, none, []⟩]
def c54_5 : RC := .reg [] o54_5
def c54_6 : RC := .block 1 c54_5
def o54_7 : List ROp := [
  ⟨(some 6), .move (.tmp 0), 79, none, []⟩,
  ⟨(some 7), .move (.tmp 0), 79, none, []⟩,
  ⟨(some 8), .binOp .sub 79 (.tmp 7) (.const (.int .u16 1)) 79, 79, none, []⟩,
  ⟨(some 9), .binOp .and 79 (.tmp 6) (.tmp 8) 79, 79, none, []⟩,
  ⟨(some 0), .assign (.tmp 9), 79, none, []⟩]
def c54_7 : RC := .reg [] o54_7
def c54_8 : RC := .seq c54_6 c54_7
def c54_9 : RC := .seq c54_4 c54_8
def c54_10 : RC := .loop c54_9
def c54_11 : RC := .block 0 c54_10
def o54_12 : List ROp := [
  ⟨(some 15), .move (.tmp 3), 22, none, []⟩,
  ⟨(some 2), .assign (.tmp 15), 22, none, []⟩]
def c54_12 : RC := .reg [] o54_12
def c54_13 : RC := .seq c54_12 .ret
def c54_14 : RC := .seq c54_11 c54_13
def c54_15 : RC := .seq c54_1 c54_14
def c54_16 : RC := .seq c54_0 c54_15
def m54_0 (pu : PureF) (n : Nat) (n903 : Nat) (c904 : Nat) (q905 : List Value) : Option Value :=
  (bb (allL closed1 q905) (bb (an (Nat.ble (0 + n903 * 1) (len q905)) (allL closed1 (takeL (n903 * 1) (dropL 0 q905)))) (some (Sl.v 1 (Sl.mk n903 0 (takeL (n903 * 1) (dropL 0 q905))))) none) none)
def b54_1 (pu : PureF) (n : Nat) (ih0 : Int → Nat → Nat → List Value → Option Value) (z908 : Int) (n909 : Nat) (c910 : Nat) (q911 : List Value) : Option Value :=
  (bb (allL closed1 q911) (bb (nt (ieq z908 (0 : Int))) (oo (pu 73 [(.int .u16 z908)]) none fun v914 => (oo (toI .i64 v914) none fun x916 => (bb (growC 1 8 n909 c910 1 q911) (bb (allL closed1 (appL (dropL 0 q911) [(.int .i64 x916)])) (ih0 (aand .u16 z908 (wrapF .u16 (Int.sub z908 (1 : Int)))) (n909 + 1) (2 * (n909 + 1) + bb false 1 0) (appL (dropL 0 q911) [(.int .i64 x916)])) none) none))) (m54_0 pu n n909 c910 q911)) none)
def l54_1 (pu : PureF) (n : Nat) (w : Nat) : Int → Nat → Nat → List Value → Option Value :=
  Nat.rec (motive := fun _ => Int → Nat → Nat → List Value → Option Value) (fun _ _ _ _ => none) (fun _ ih0 => b54_1 pu n ih0) w
def m54_ (pu : PureF) (n : Nat) (x889 : Int) : Option Value :=
  (l54_1 pu n n x889 0 0 ([] : List Value))
def m54 (pu : PureF) (n : Nat) (args : List Value) : Option Value :=
  (ll args none fun a0 args => (ll args (oo (toI .u16 a0) none fun x889 => (m54_ pu n x889)) fun _ _ => none))
theorem r54 {call : CallF} (pu : PureF) (n : Nat) (hcall : call = callP tabs isP pu inl) {args : List Value} {v : Value} (hm : m54 pu n args = some v) (_ : ∀ x ∈ args, closed2 x = true) : args.length ≤ 16 ∧ Run tt call 1 c54_16 (Fr.made 16 args) (pureHeap tabs) (Fin tt 1 [.tmp 2] v) := by
  subst hcall
  unfold m54 at hm
  have hq := ll_uncons hm; clear hm; obtain ⟨a0, args_0, rfl, hm⟩ := hq
  have hq := ll_end hm; clear hm; obtain ⟨rfl, hm⟩ := hq
  have hq := oo_inv hm; clear hm; obtain ⟨x889, h890, hm⟩ := hq
  obtain rfl := toI_some h890
  unfold m54_ at hm
  refine ⟨by simp, ?_⟩
  refine .same (F' := (⟨16, frTr [(0, (.int .u16 x889))] .nil⟩ : Fr)) (H' := (⟨1, objTr [(.cells tab0 true false [])] 0 .nil, true⟩ : AHeap)) (by kernel_rfl) (by kernel_rfl) ?_
  refine .then ?_
  refine .reg (F' := (Fr.puts (⟨16, frTr [(0, (.int .u16 x889))] .nil⟩ : Fr) [(2, (.slice none 0 0))])) (H' := (⟨1, objTr [(.cells tab0 true false [])] 0 .nil, true⟩ : AHeap)) (by kernel_rfl) ?_
  refine .ghs (⟨16, frTr [(0, (.int .u16 x889))] .nil⟩ : Fr) (⟨1, objTr [(.cells tab0 true false [])] 0 .nil, true⟩ : AHeap) (.gc [] [false] [] [0] (by kernel_rfl) trivial (by kernel_rfl)) ?_
  refine .then ?_
  refine .reg (F' := (Fr.puts (⟨16, frTr [(0, (.int .u16 x889))] .nil⟩ : Fr) [(3, (.slice none 0 0))])) (H' := (⟨1, objTr [(.cells tab0 true false [])] 0 .nil, true⟩ : AHeap)) (by kernel_rfl) ?_
  refine .ghs (⟨16, frTr [(0, (.int .u16 x889)), (3, (.slice none 0 0))] .nil⟩ : Fr) (⟨1, objTr [(.cells tab0 true false [])] 0 .nil, true⟩ : AHeap) (.gc [] [false] [] [0, 3] (by kernel_rfl) trivial (by kernel_rfl)) ?_
  refine .join (v := v) (fun y : Nat × Nat × List Value => ((⟨16, frTr [(3, (.slice (some ⟨1, 0, some 1⟩) y.1 y.2.1))] .nil⟩ : Fr), (⟨2, objTr [(.cells tab0 true false []), (.cells y.2.2 false false [])] 0 .nil, true⟩ : AHeap))) (fun y => m54_0 pu n y.1 y.2.1 y.2.2) ?_ ?_
  · rintro ⟨n903, c904, q905⟩ hm
    unfold m54_0 at hm
    refine .then ?_
    refine .reg (F' := (Fr.puts (⟨16, frTr [(3, (.slice (some ⟨1, 0, some 1⟩) n903 c904))] .nil⟩ : Fr) [(15, (.slice (some ⟨1, 0, some 1⟩) n903 c904)), (2, (.slice (some ⟨1, 0, some 1⟩) n903 c904))])) (H' := (⟨2, objTr [(.cells tab0 true false []), (.cells q905 false false [])] 0 .nil, true⟩ : AHeap)) (by kernel_rfl) ?_
    have hq := bb_inv hm; clear hm; obtain ⟨h906, hm⟩ := hq
    refine .ghs (⟨16, frTr [(2, (.slice (some ⟨1, 0, some 1⟩) n903 c904))] .nil⟩ : Fr) (⟨2, objTr [(.cells tab0 true false []), (.cells q905 false false [])] 0 .nil, true⟩ : AHeap) (.gc [1] [false] [.tmp 2 false] [2] (by kernel_rfl) ⟨trE (by kernel_rfl) h906, trivial⟩ (by kernel_rfl)) ?_
    have hq := bb_inv hm; clear hm; obtain ⟨h907, hm⟩ := hq
    refine .ghs (Fr.puts (⟨16, frTr [(2, (.slice (some ⟨1, 0, some 1⟩) n903 c904))] .nil⟩ : Fr) [(2, (Sl.v 1 (Sl.mk n903 0 (takeL (n903 * 1) (dropL 0 q905)))))]) (⟨2, objTr [(.cells tab0 true false []), .dead] 0 .nil, true⟩ : AHeap) (.freezeC 1 2 1 (an (Nat.ble (0 + n903 * 1) (len q905)) (allL closed1 (takeL (n903 * 1) (dropL 0 q905)))) (F1 := (Fr.puts (⟨16, frTr [(2, (.slice (some ⟨1, 0, some 1⟩) n903 c904))] .nil⟩ : Fr) [(2, (Sl.v 1 (Sl.mk n903 0 (takeL (n903 * 1) (dropL 0 q905)))))])) (H1 := (⟨2, objTr [(.cells tab0 true false []), .dead] 0 .nil, true⟩ : AHeap)) (by kernel_rfl) (by kernel_rfl) h907 (GhS.id _ _)) ?_
    refine .ret ?_
    exact fin_ret (Sl.v 1 (Sl.mk n903 0 (takeL (n903 * 1) (dropL 0 q905)))) (by kernel_rfl) (by kernel_rfl) hm
  · skip
    refine .block ?_
    refine .loopM (v := v) (fun y : Int × Nat × Nat × List Value => ((⟨16, frTr [(0, (.int .u16 y.1)), (3, (.slice (some ⟨1, 0, some 1⟩) y.2.1 y.2.2.1))] .nil⟩ : Fr), (⟨2, objTr [(.cells tab0 true false []), (.cells y.2.2.2 false false [])] 0 .nil, true⟩ : AHeap))) (fun w y => l54_1 pu n w y.1 y.2.1 y.2.2.1 y.2.2.2) n ⟨(x889, 0, 0, ([] : List Value)), hm, (.thaw 3 1 (by kernel_rfl) (.gc [] [false] [.tmp 3 false] [0, 3] (by kernel_rfl) trivial (by kernel_rfl)))⟩ (fun _ => rfl) ?_
    rintro w0 ⟨z908, n909, c910, q911⟩ hm
    refine .then ?_
    refine .then ?_
    refine .reg (F' := (Fr.puts (⟨16, frTr [(0, (.int .u16 z908)), (3, (.slice (some ⟨1, 0, some 1⟩) n909 c910))] .nil⟩ : Fr) [(4, (.int .u16 z908)), (5, (.bool (nt (ieq z908 (0 : Int)))))])) (H' := (⟨2, objTr [(.cells tab0 true false []), (.cells q911 false false [])] 0 .nil, true⟩ : AHeap)) (by kernel_rfl) ?_
    have hq := bb_inv hm; clear hm; obtain ⟨h912, hm⟩ := hq
    refine .ghs (⟨16, frTr [(0, (.int .u16 z908)), (3, (.slice (some ⟨1, 0, some 1⟩) n909 c910)), (5, (.bool (nt (ieq z908 (0 : Int)))))] .nil⟩ : Fr) (⟨2, objTr [(.cells tab0 true false []), (.cells q911 false false [])] 0 .nil, true⟩ : AHeap) (.gc [1] [false] [.tmp 3 false] [0, 3, 5] (by kernel_rfl) ⟨trE (by kernel_rfl) h912, trivial⟩ (by kernel_rfl)) ?_
    have hq := bb_cases hm; clear hm; rcases hq with ⟨h913, hm⟩ | ⟨h913, hm⟩
    · refine .ifT (nt (ieq z908 (0 : Int))) (by kernel_rfl) h913 ?_
      refine .skip ?_
      refine .ghs (⟨16, frTr [(0, (.int .u16 z908)), (3, (.slice (some ⟨1, 0, some 1⟩) n909 c910))] .nil⟩ : Fr) (⟨2, objTr [(.cells tab0 true false []), (.cells q911 false false [])] 0 .nil, true⟩ : AHeap) (.gc [1] [false] [.tmp 3 false] [0, 3] (by kernel_rfl) ⟨trE (by kernel_rfl) h912, trivial⟩ (by kernel_rfl)) ?_
      refine .then ?_
      refine .block ?_
      have hq := oo_inv hm; clear hm; obtain ⟨v914, h915, hm⟩ := hq
      have hq := oo_inv hm; clear hm; obtain ⟨x916, h917, hm⟩ := hq
      obtain rfl := toI_some h917
      have hq := bb_inv hm; clear hm; obtain ⟨h918, hm⟩ := hq
      refine .reg (F' := (Fr.puts (⟨16, frTr [(0, (.int .u16 z908)), (3, (.slice (some ⟨1, 0, some 1⟩) n909 c910))] .nil⟩ : Fr) [(10, (.slice (some ⟨1, 0, some 1⟩) n909 c910)), (11, (.int .u16 z908)), (12, (.int .i64 x916)), (13, (.slice (some ⟨2, 0, some 1⟩) 1 3)), (14, (.slice (some ⟨3, 0, some 1⟩) (n909 + 1) (2 * (n909 + 1) + bb false 1 0))), (3, (.slice (some ⟨3, 0, some 1⟩) (n909 + 1) (2 * (n909 + 1) + bb false 1 0)))])) (H' := (⟨4, objTr [(.cells tab0 true false []), (.cells q911 false true []), (.cells [(.int .i64 x916)] false false []), (.cells (appL (dropL 0 q911) [(.int .i64 x916)]) false false [1])] 0 .nil, true⟩ : AHeap)) (evOps_cut 2 (by kernel_rfl) (evOps_data ((oo (pu 73 [(.int .u16 z908)]) none fun v => some (v, (⟨2, objTr [(.cells tab0 true false []), (.cells q911 false false [])] 0 .nil, true⟩ : AHeap)))) (by kernel_rfl) (call_eq h915) (okAt_of (by kernel_rfl) (by kernel_rfl)) (evOps_cut 1 (by kernel_rfl) (evOps_data (growD 1 8 n909 c910 1 1 q911 [(.int .i64 x916)] [] (⟨3, objTr [(.cells tab0 true false []), (.cells q911 false false []), (.cells [(.int .i64 x916)] false false [])] 0 .nil, true⟩ : AHeap)) (by kernel_rfl) (growD_eq h918) (okAt_of (by kernel_rfl) (by kernel_rfl)) (by kernel_rfl))))) ?_
      have hq := bb_inv hm; clear hm; obtain ⟨h919, hm⟩ := hq
      refine .ghs (⟨16, frTr [(0, (.int .u16 z908)), (3, (.slice (some ⟨1, 0, some 1⟩) (n909 + 1) (2 * (n909 + 1) + bb false 1 0)))] .nil⟩ : Fr) (⟨2, objTr [(.cells tab0 true false []), (.cells (appL (dropL 0 q911) [(.int .i64 x916)]) false false [])] 0 .nil, true⟩ : AHeap) (.gc [3] [false] [.tmp 3 false] [0, 3] (by kernel_rfl) ⟨trE (by kernel_rfl) h919, trivial⟩ (by kernel_rfl)) ?_
      refine .reg (F' := (Fr.puts (⟨16, frTr [(0, (.int .u16 z908)), (3, (.slice (some ⟨1, 0, some 1⟩) (n909 + 1) (2 * (n909 + 1) + bb false 1 0)))] .nil⟩ : Fr) [(6, (.int .u16 z908)), (7, (.int .u16 z908)), (8, (.int .u16 (wrapF .u16 (Int.sub z908 (1 : Int))))), (9, (.int .u16 (aand .u16 z908 (wrapF .u16 (Int.sub z908 (1 : Int)))))), (0, (.int .u16 (aand .u16 z908 (wrapF .u16 (Int.sub z908 (1 : Int))))))])) (H' := (⟨2, objTr [(.cells tab0 true false []), (.cells (appL (dropL 0 q911) [(.int .i64 x916)]) false false [])] 0 .nil, true⟩ : AHeap)) (by kernel_rfl) ?_
      exact ⟨((aand .u16 z908 (wrapF .u16 (Int.sub z908 (1 : Int)))), (n909 + 1), (2 * (n909 + 1) + bb false 1 0), (appL (dropL 0 q911) [(.int .i64 x916)])), hm, (.gc [1] [false] [.tmp 3 false] [0, 3] (by kernel_rfl) ⟨trE (by kernel_rfl) h919, trivial⟩ (by kernel_rfl))⟩
    · refine .ifF (nt (ieq z908 (0 : Int))) (by kernel_rfl) h913 ?_
      refine .exit ?_
      exact ⟨(n909, c910, q911), hm, (.gc [1] [false] [.tmp 3 false] [3] (by kernel_rfl) ⟨trE (by kernel_rfl) h912, trivial⟩ (by kernel_rfl))⟩
end
end Go.MendM
