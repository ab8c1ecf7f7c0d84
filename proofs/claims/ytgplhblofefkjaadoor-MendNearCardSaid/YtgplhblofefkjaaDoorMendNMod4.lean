/- Models of the program's functions, and the proofs that runs give them: MADE BY PROGRAM (wip/tools/dec.py). -/
import Derived.Test.YtgplhblofefkjaaDoorMendNMod1x

set_option maxRecDepth 100000
set_option linter.unusedVariables false
namespace Go.MendNM
open Go.Sp Go.MendN
noncomputable section
/-- spadille/spadilleref09.Near -/
def o36_0 : List ROp := [
  ⟨(some 1), .box 27 (.tmp 0), 0, none, []⟩,
  ⟨(some 2), .assign (.const (.int .i64 0)), 3, none, []⟩,
  ⟨(some 3), .assign (.const (.int .i64 0)), 28, none, []⟩]
def c36_0 : RC := .reg [] o36_0
def o36_1 : List ROp := [
  ⟨(some 10), .load 27 (.tmp 1), 27, none, []⟩,
  ⟨(some 11), .call ⟨.value (.func 34), #[(.tmp 10)], #[27]⟩, 29, none, []⟩,
  ⟨(some 9), .move (.tmp 11), 29, none, []⟩,
  ⟨(some 12), .extract (.tmp 9) 0, 22, none, []⟩,
  ⟨(some 13), .extract (.tmp 9) 1, 28, none, []⟩,
  ⟨(some 4), .assign (.tmp 12), 22, none, []⟩,
  ⟨(some 5), .assign (.tmp 13), 28, none, []⟩]
def c36_1 : RC := .reg [] o36_1
def o36_2 : List ROp := [
  ⟨(some 14), .move (.tmp 5), 28, none, []⟩,
  ⟨(some 15), .binOp .neq 28 (.tmp 14) (.const (.int .i64 0)) 28, 4, none, []⟩]
def c36_2 : RC := .reg [] o36_2
def o36_3 : List ROp := [
  ⟨(some 16), .move (.tmp 5), 28, none, []⟩,
  ⟨(some 2), .assign (.const (.int .i64 0)), 3, none, []⟩,
  ⟨(some 3), .assign (.tmp 16), 28, none, []⟩]
def c36_3 : RC := .reg [] o36_3
def c36_4 : RC := .seq c36_3 .ret
def c36_5 : RC := .cond (.tmp 15) c36_4 .skip
def c36_6 : RC := .seq c36_2 c36_5
def o36_7 : List ROp := [
  ⟨(some 6), .assign (.const (.int .i64 0)), 3, none, []⟩]
def c36_7 : RC := .reg [] o36_7
def o36_8 : List ROp := [
  ⟨(some 7), .assign (.const (.int .i64 0)), 3, none, []⟩]
def c36_8 : RC := .reg [] o36_8
def o36_9 : List ROp := [
  ⟨(some 17), .move (.tmp 7), 3, none, []⟩,
  ⟨(some 18), .move (.tmp 4), 22, none, []⟩,
  ⟨(some 19), .call ⟨.builtin .len, #[(.tmp 18)], #[22]⟩, 3, none, []⟩,
  ⟨(some 20), .binOp .lss 3 (.tmp 17) (.tmp 19) 3, 4, none, []⟩]
def c36_9 : RC := .reg [] o36_9
def c36_10 : RC := .cond (.tmp 20) .skip (.exit 0)
def c36_11 : RC := .seq c36_9 c36_10
def o36_12 : List ROp := [
  ⟨(some 23), .move (.tmp 7), 3, none, []⟩,
  ⟨(some 24), .binOp .add 3 (.tmp 23) (.const (.int .i64 1)) 3, 3, none, []⟩,
  ⟨(some 8), .assign (.tmp 24), 3, none, []⟩]
def c36_12 : RC := .reg [] o36_12
def o36_13 : List ROp := [
  ⟨(some 25), .move (.tmp 8), 3, none, []⟩,
  ⟨(some 26), .move (.tmp 4), 22, none, []⟩,
  ⟨(some 27), .call ⟨.builtin .len, #[(.tmp 26)], #[22]⟩, 3, none, []⟩,
  ⟨(some 28), .binOp .lss 3 (.tmp 25) (.tmp 27) 3, 4, none, []⟩]
def c36_13 : RC := .reg [] o36_13
def c36_14 : RC := .cond (.tmp 28) .skip (.exit 2)
def c36_15 : RC := .seq c36_13 c36_14
def o36_16 : List ROp := [
  ⟨(some 31), .move (.tmp 4), 22, none, []⟩,
  ⟨(some 32), .move (.tmp 7), 3, none, []⟩,
  ⟨(some 33), .indexAddr 22 (.tmp 31) (.tmp 32), 0, none, []⟩,
  ⟨(some 34), .load 3 (.tmp 33), 3, none, []⟩,
  ⟨(some 35), .move (.tmp 4), 22, none, []⟩,
  ⟨(some 36), .move (.tmp 8), 3, none, []⟩,
  ⟨(some 37), .indexAddr 22 (.tmp 35) (.tmp 36), 0, none, []⟩,
  ⟨(some 38), .load 3 (.tmp 37), 3, none, []⟩,
  ⟨(some 39), .binOp .gtr 3 (.tmp 34) (.tmp 38) 3, 4, none, []⟩]
def c36_16 : RC := .reg [0, 1, 2, 3, 4, 5, 6, 7, 8] o36_16
def o36_17 : List ROp := [
  ⟨(some 40), .move (.tmp 6), 3, none, []⟩,
  ⟨(some 41), .binOp .add 3 (.tmp 40) (.const (.int .i64 1)) 3, 3, none, []⟩,
  ⟨(some 6), .assign (.tmp 41), 3, none, []⟩]
def c36_17 : RC := .reg [] o36_17
def c36_18 : RC := .cond (.tmp 39) c36_17 .skip
def c36_19 : RC := .seq c36_16 c36_18
def c36_20 : RC := .block 3 c36_19
def o36_21 : List ROp := [
  ⟨(some 29), .move (.tmp 8), 3, none, []⟩,
  ⟨(some 30), .binOp .add 3 (.tmp 29) (.const (.int .i64 1)) 3, 3, none, []⟩,
  ⟨(some 8), .assign (.tmp 30), 3, none, []⟩]
def c36_21 : RC := .reg [] o36_21
def c36_22 : RC := .seq c36_20 c36_21
def c36_23 : RC := .seq c36_15 c36_22
def c36_24 : RC := .loop c36_23
def c36_25 : RC := .block 2 c36_24
def c36_26 : RC := .seq c36_12 c36_25
def c36_27 : RC := .block 1 c36_26
def o36_28 : List ROp := [
  ⟨(some 21), .move (.tmp 7), 3, none, []⟩,
  ⟨(some 22), .binOp .add 3 (.tmp 21) (.const (.int .i64 1)) 3, 3, none, []⟩,
  ⟨(some 7), .assign (.tmp 22), 3, none, []⟩]
def c36_28 : RC := .reg [] o36_28
def c36_29 : RC := .seq c36_27 c36_28
def c36_30 : RC := .seq c36_11 c36_29
def c36_31 : RC := .loop c36_30
def c36_32 : RC := .block 0 c36_31
def c36_33 : RC := .seq c36_8 c36_32
def o36_34 : List ROp := [
  ⟨(some 42), .move (.tmp 6), 3, none, []⟩,
  ⟨(some 2), .assign (.tmp 42), 3, none, []⟩,
  ⟨(some 3), .assign (.const (.int .i64 0)), 28, none, []⟩]
def c36_34 : RC := .reg [] o36_34
def c36_35 : RC := .seq c36_34 .ret
def c36_36 : RC := .seq c36_33 c36_35
def c36_37 : RC := .seq c36_7 c36_36
def c36_38 : RC := .seq c36_6 c36_37
def c36_39 : RC := .seq c36_1 c36_38
def c36_40 : RC := .seq c36_0 c36_39
def m36_0 (pu : PureF) (n : Nat) (z1087 : Int) : Option Value :=
  (some (.tuple ⟨[(.int .i64 z1087), (.int .i64 (0 : Int))]⟩))
def m36_2 (pu : PureF) (n : Nat) (ih0 : Sl → Int → Int → Option Value) (s1131 : Sl) (z1132 : Int) (z1133 : Int) : Option Value :=
  (ih0 s1131 z1132 (wrapF .i64 (Int.add z1133 (1 : Int))))
def m36_4 (pu : PureF) (n : Nat) (ih0 : Sl → Int → Int → Option Value) (ih1 : Sl → Int → Int → Int → Option Value) (s1154 : Sl) (z1155 : Int) (z1156 : Int) (z1157 : Int) : Option Value :=
  (ih1 s1154 z1155 z1156 (wrapF .i64 (Int.add z1157 (1 : Int))))
def b36_3 (pu : PureF) (n : Nat) (ih0 : Sl → Int → Int → Option Value) (ih1 : Sl → Int → Int → Int → Option Value) (s1134 : Sl) (z1135 : Int) (z1136 : Int) (z1137 : Int) : Option Value :=
  (bb (ilt z1137 (Int.ofNat (Sl.n s1134))) (oo (toN z1136) none fun k1158 => (bb (an (Nat.blt k1158 (Sl.n s1134)) true) (oo (nthL (Sl.cs s1134) (k1158 * 1)) none fun v1161 => (oo (toI .i64 v1161) none fun x1163 => (oo (toN z1137) none fun k1165 => (bb (an (Nat.blt k1165 (Sl.n s1134)) true) (oo (nthL (Sl.cs s1134) (k1165 * 1)) none fun v1168 => (oo (toI .i64 v1168) none fun x1170 => (bb (ilt x1170 x1163) (m36_4 pu n ih0 ih1 s1134 (wrapF .i64 (Int.add z1135 (1 : Int))) (Int.ofNat k1158) (Int.ofNat k1165)) (m36_4 pu n ih0 ih1 s1134 z1135 (Int.ofNat k1158) (Int.ofNat k1165))))) none)))) none)) (m36_2 pu n ih0 s1134 z1135 z1136))
def l36_3 (pu : PureF) (n : Nat) (ih0 : Sl → Int → Int → Option Value) (w : Nat) : Sl → Int → Int → Int → Option Value :=
  Nat.rec (motive := fun _ => Sl → Int → Int → Int → Option Value) (fun _ _ _ _ => none) (fun _ ih1 => b36_3 pu n ih0 ih1) w
def b36_1 (pu : PureF) (n : Nat) (ih0 : Sl → Int → Int → Option Value) (s1088 : Sl) (z1089 : Int) (z1090 : Int) : Option Value :=
  (bb (ilt z1090 (Int.ofNat (Sl.n s1088))) (l36_3 pu n ih0 n s1088 z1089 z1090 (wrapF .i64 (Int.add z1090 (1 : Int)))) (m36_0 pu n z1089))
def l36_1 (pu : PureF) (n : Nat) (w : Nat) : Sl → Int → Int → Option Value :=
  Nat.rec (motive := fun _ => Sl → Int → Int → Option Value) (fun _ _ _ => none) (fun _ ih0 => b36_1 pu n ih0) w
def m36_ (pu : PureF) (n : Nat) (x985 : Int) (s987 : Sl) (s989 : Sl) : Option Value :=
  (oo (pu 34 [(.agg ⟨[(.int .i64 x985), (Sl.v 1 s987), (Sl.v 1 s989)]⟩)]) none fun v991 => (oo (vTup v991) none fun l993 => (ll l993 none fun v995 l993 => (ll l993 none fun v996 l993 => (ll l993 (oo (toSl 1 v995) none fun s997 => (oo (toI .i64 v996) none fun x999 => (bb (nt (ieq x999 (0 : Int))) (some (.tuple ⟨[(.int .i64 (0 : Int)), (.int .i64 x999)]⟩)) (l36_1 pu n n s997 (0 : Int) (0 : Int))))) fun _ _ => none)))))
def m36 (pu : PureF) (n : Nat) (args : List Value) : Option Value :=
  (ll args none fun a0 args => (ll args (oo (vAgg a0) none fun l980 => (ll l980 none fun v982 l980 => (ll l980 none fun v983 l980 => (ll l980 none fun v984 l980 => (ll l980 (oo (toI .i64 v982) none fun x985 => (oo (toSl 1 v983) none fun s987 => (oo (toSl 1 v984) none fun s989 => (m36_ pu n x985 s987 s989)))) fun _ _ => none))))) fun _ _ => none))
theorem r36 {call : CallF} (pu : PureF) (n : Nat) (hcall : call = callP tabs isP pu inl) {args : List Value} {v : Value} (hm : m36 pu n args = some v) (_ : ∀ x ∈ args, closed2 x = true) : args.length ≤ 43 ∧ Run tt call 1 c36_40 (Fr.made 43 args) (pureHeap tabs) (Fin tt 1 [.tmp 2, .tmp 3] v) := by
  subst hcall
  unfold m36 at hm
  have hq := ll_uncons hm; clear hm; obtain ⟨a0, args_0, rfl, hm⟩ := hq
  have hq := ll_end hm; clear hm; obtain ⟨rfl, hm⟩ := hq
  have hq := oo_inv hm; clear hm; obtain ⟨l980, h981, hm⟩ := hq
  obtain rfl := vAgg_some h981
  have hq := ll_uncons hm; clear hm; obtain ⟨v982, l980_0, rfl, hm⟩ := hq
  have hq := ll_uncons hm; clear hm; obtain ⟨v983, l980_1, rfl, hm⟩ := hq
  have hq := ll_uncons hm; clear hm; obtain ⟨v984, l980_2, rfl, hm⟩ := hq
  have hq := ll_end hm; clear hm; obtain ⟨rfl, hm⟩ := hq
  have hq := oo_inv hm; clear hm; obtain ⟨x985, h986, hm⟩ := hq
  obtain rfl := toI_some h986
  have hq := oo_inv hm; clear hm; obtain ⟨s987, h988, hm⟩ := hq
  obtain rfl := toSl_some h988
  have hq := oo_inv hm; clear hm; obtain ⟨s989, h990, hm⟩ := hq
  obtain rfl := toSl_some h990
  unfold m36_ at hm
  refine ⟨by simp, ?_⟩
  refine .same (F' := (⟨43, frTr [(0, (.agg ⟨[(.int .i64 x985), (Sl.v 1 s987), (Sl.v 1 s989)]⟩))] .nil⟩ : Fr)) (H' := (⟨1, objTr [(.cells tab0 true false [])] 0 .nil, true⟩ : AHeap)) (by kernel_rfl) (by kernel_rfl) ?_
  refine .then ?_
  refine .reg (F' := (Fr.puts (⟨43, frTr [(0, (.agg ⟨[(.int .i64 x985), (Sl.v 1 s987), (Sl.v 1 s989)]⟩))] .nil⟩ : Fr) [(1, (.pointer (some ⟨1, 0, none⟩))), (2, (.int .i64 (0 : Int))), (3, (.int .i64 (0 : Int)))])) (H' := (⟨2, objTr [(.cells tab0 true false []), (.cells [(.int .i64 x985), (Sl.v 1 s987), (Sl.v 1 s989)] false false [])] 0 .nil, true⟩ : AHeap)) (by kernel_rfl) ?_
  refine .ghs (⟨43, frTr [(1, (.pointer (some ⟨1, 0, none⟩)))] .nil⟩ : Fr) (⟨2, objTr [(.cells tab0 true false []), (.cells [(.int .i64 x985), (Sl.v 1 s987), (Sl.v 1 s989)] false false [])] 0 .nil, true⟩ : AHeap) (.gc [] [false] [.tmp 1 false] [1] (by kernel_rfl) trivial (by kernel_rfl)) ?_
  refine .then ?_
  have hq := oo_inv hm; clear hm; obtain ⟨v991, h992, hm⟩ := hq
  have hq := oo_inv hm; clear hm; obtain ⟨l993, h994, hm⟩ := hq
  obtain rfl := vTup_some h994
  have hq := ll_uncons hm; clear hm; obtain ⟨v995, l993_0, rfl, hm⟩ := hq
  have hq := ll_uncons hm; clear hm; obtain ⟨v996, l993_1, rfl, hm⟩ := hq
  have hq := ll_end hm; clear hm; obtain ⟨rfl, hm⟩ := hq
  have hq := oo_inv hm; clear hm; obtain ⟨s997, h998, hm⟩ := hq
  obtain rfl := toSl_some h998
  have hq := oo_inv hm; clear hm; obtain ⟨x999, h1000, hm⟩ := hq
  obtain rfl := toI_some h1000
  refine .reg (F' := (Fr.puts (⟨43, frTr [(1, (.pointer (some ⟨1, 0, none⟩)))] .nil⟩ : Fr) [(10, (.agg ⟨[(.int .i64 x985), (Sl.v 1 s987), (Sl.v 1 s989)]⟩)), (11, (.tuple ⟨[(Sl.v 1 s997), (.int .i64 x999)]⟩)), (9, (.tuple ⟨[(Sl.v 1 s997), (.int .i64 x999)]⟩)), (12, (Sl.v 1 s997)), (13, (.int .i64 x999)), (4, (Sl.v 1 s997)), (5, (.int .i64 x999))])) (H' := (⟨2, objTr [(.cells tab0 true false []), (.cells [(.int .i64 x985), (Sl.v 1 s987), (Sl.v 1 s989)] false false [])] 0 .nil, true⟩ : AHeap)) (evOps_cut 1 (by kernel_rfl) (evOps_data ((oo (pu 34 [(.agg ⟨[(.int .i64 x985), (Sl.v 1 s987), (Sl.v 1 s989)]⟩)]) none fun v => some (v, (⟨2, objTr [(.cells tab0 true false []), (.cells [(.int .i64 x985), (Sl.v 1 s987), (Sl.v 1 s989)] false false [])] 0 .nil, true⟩ : AHeap)))) (by kernel_rfl) (call_eq h992) (okAt_of (by kernel_rfl) (by kernel_rfl)) (by kernel_rfl))) ?_
  refine .ghs (⟨43, frTr [(4, (Sl.v 1 s997)), (5, (.int .i64 x999))] .nil⟩ : Fr) (⟨1, objTr [(.cells tab0 true false [])] 0 .nil, true⟩ : AHeap) (.gc [] [false] [] [4, 5] (by kernel_rfl) trivial (by kernel_rfl)) ?_
  refine .then ?_
  refine .then ?_
  refine .reg (F' := (Fr.puts (⟨43, frTr [(4, (Sl.v 1 s997)), (5, (.int .i64 x999))] .nil⟩ : Fr) [(14, (.int .i64 x999)), (15, (.bool (nt (ieq x999 (0 : Int)))))])) (H' := (⟨1, objTr [(.cells tab0 true false [])] 0 .nil, true⟩ : AHeap)) (by kernel_rfl) ?_
  refine .ghs (⟨43, frTr [(4, (Sl.v 1 s997)), (5, (.int .i64 x999)), (15, (.bool (nt (ieq x999 (0 : Int)))))] .nil⟩ : Fr) (⟨1, objTr [(.cells tab0 true false [])] 0 .nil, true⟩ : AHeap) (.gc [] [false] [] [4, 5, 15] (by kernel_rfl) trivial (by kernel_rfl)) ?_
  have hq := bb_cases hm; clear hm; rcases hq with ⟨h1001, hm⟩ | ⟨h1001, hm⟩
  · refine .ifT (nt (ieq x999 (0 : Int))) (by kernel_rfl) h1001 ?_
    refine .then ?_
    refine .reg (F' := (Fr.puts (⟨43, frTr [(4, (Sl.v 1 s997)), (5, (.int .i64 x999)), (15, (.bool (nt (ieq x999 (0 : Int)))))] .nil⟩ : Fr) [(16, (.int .i64 x999)), (2, (.int .i64 (0 : Int))), (3, (.int .i64 x999))])) (H' := (⟨1, objTr [(.cells tab0 true false [])] 0 .nil, true⟩ : AHeap)) (by kernel_rfl) ?_
    refine .ghs (⟨43, frTr [(2, (.int .i64 (0 : Int))), (3, (.int .i64 x999))] .nil⟩ : Fr) (⟨1, objTr [(.cells tab0 true false [])] 0 .nil, true⟩ : AHeap) (.gc [] [false] [] [2, 3] (by kernel_rfl) trivial (by kernel_rfl)) ?_
    refine .ret ?_
    exact fin_ret (.tuple ⟨[(.int .i64 (0 : Int)), (.int .i64 x999)]⟩) (by kernel_rfl) (by kernel_rfl) hm
  · refine .ifF (nt (ieq x999 (0 : Int))) (by kernel_rfl) h1001 ?_
    refine .skip ?_
    refine .ghs (⟨43, frTr [(4, (Sl.v 1 s997))] .nil⟩ : Fr) (⟨1, objTr [(.cells tab0 true false [])] 0 .nil, true⟩ : AHeap) (.gc [] [false] [] [4] (by kernel_rfl) trivial (by kernel_rfl)) ?_
    refine .then ?_
    refine .reg (F' := (Fr.puts (⟨43, frTr [(4, (Sl.v 1 s997))] .nil⟩ : Fr) [(6, (.int .i64 (0 : Int)))])) (H' := (⟨1, objTr [(.cells tab0 true false [])] 0 .nil, true⟩ : AHeap)) (by kernel_rfl) ?_
    refine .ghs (⟨43, frTr [(4, (Sl.v 1 s997)), (6, (.int .i64 (0 : Int)))] .nil⟩ : Fr) (⟨1, objTr [(.cells tab0 true false [])] 0 .nil, true⟩ : AHeap) (.gc [] [false] [] [4, 6] (by kernel_rfl) trivial (by kernel_rfl)) ?_
    refine .join (v := v) (fun y : Int => ((⟨43, frTr [(6, (.int .i64 y))] .nil⟩ : Fr), (⟨1, objTr [(.cells tab0 true false [])] 0 .nil, true⟩ : AHeap))) (fun y => m36_0 pu n y) ?_ ?_
    · rintro z1087 hm
      unfold m36_0 at hm
      refine .then ?_
      refine .reg (F' := (Fr.puts (⟨43, frTr [(6, (.int .i64 z1087))] .nil⟩ : Fr) [(42, (.int .i64 z1087)), (2, (.int .i64 z1087)), (3, (.int .i64 (0 : Int)))])) (H' := (⟨1, objTr [(.cells tab0 true false [])] 0 .nil, true⟩ : AHeap)) (by kernel_rfl) ?_
      refine .ghs (⟨43, frTr [(2, (.int .i64 z1087)), (3, (.int .i64 (0 : Int)))] .nil⟩ : Fr) (⟨1, objTr [(.cells tab0 true false [])] 0 .nil, true⟩ : AHeap) (.gc [] [false] [] [2, 3] (by kernel_rfl) trivial (by kernel_rfl)) ?_
      refine .ret ?_
      exact fin_ret (.tuple ⟨[(.int .i64 z1087), (.int .i64 (0 : Int))]⟩) (by kernel_rfl) (by kernel_rfl) hm
    · skip
      refine .then ?_
      refine .reg (F' := (Fr.puts (⟨43, frTr [(4, (Sl.v 1 s997)), (6, (.int .i64 (0 : Int)))] .nil⟩ : Fr) [(7, (.int .i64 (0 : Int)))])) (H' := (⟨1, objTr [(.cells tab0 true false [])] 0 .nil, true⟩ : AHeap)) (by kernel_rfl) ?_
      refine .ghs (⟨43, frTr [(4, (Sl.v 1 s997)), (6, (.int .i64 (0 : Int))), (7, (.int .i64 (0 : Int)))] .nil⟩ : Fr) (⟨1, objTr [(.cells tab0 true false [])] 0 .nil, true⟩ : AHeap) (.gc [] [false] [] [4, 6, 7] (by kernel_rfl) trivial (by kernel_rfl)) ?_
      refine .block ?_
      refine .loopM (v := v) (fun y : Sl × Int × Int => ((⟨43, frTr [(4, (Sl.v 1 y.1)), (6, (.int .i64 y.2.1)), (7, (.int .i64 y.2.2))] .nil⟩ : Fr), (⟨1, objTr [(.cells tab0 true false [])] 0 .nil, true⟩ : AHeap))) (fun w y => l36_1 pu n w y.1 y.2.1 y.2.2) n ⟨(s997, (0 : Int), (0 : Int)), hm, (.gc [] [false] [] [4, 6, 7] (by kernel_rfl) trivial (by kernel_rfl))⟩ (fun _ => rfl) ?_
      rintro w0 ⟨s1088, z1089, z1090⟩ hm
      refine .then ?_
      refine .then ?_
      refine .reg (F' := (Fr.puts (⟨43, frTr [(4, (Sl.v 1 s1088)), (6, (.int .i64 z1089)), (7, (.int .i64 z1090))] .nil⟩ : Fr) [(17, (.int .i64 z1090)), (18, (Sl.v 1 s1088)), (19, (.int .i64 (Int.ofNat (Sl.n s1088)))), (20, (.bool (ilt z1090 (Int.ofNat (Sl.n s1088)))))])) (H' := (⟨1, objTr [(.cells tab0 true false [])] 0 .nil, true⟩ : AHeap)) (by kernel_rfl) ?_
      refine .ghs (⟨43, frTr [(4, (Sl.v 1 s1088)), (6, (.int .i64 z1089)), (7, (.int .i64 z1090)), (20, (.bool (ilt z1090 (Int.ofNat (Sl.n s1088)))))] .nil⟩ : Fr) (⟨1, objTr [(.cells tab0 true false [])] 0 .nil, true⟩ : AHeap) (.gc [] [false] [] [4, 6, 7, 20] (by kernel_rfl) trivial (by kernel_rfl)) ?_
      have hq := bb_cases hm; clear hm; rcases hq with ⟨h1091, hm⟩ | ⟨h1091, hm⟩
      · refine .ifT (ilt z1090 (Int.ofNat (Sl.n s1088))) (by kernel_rfl) h1091 ?_
        refine .skip ?_
        refine .ghs (⟨43, frTr [(4, (Sl.v 1 s1088)), (6, (.int .i64 z1089)), (7, (.int .i64 z1090))] .nil⟩ : Fr) (⟨1, objTr [(.cells tab0 true false [])] 0 .nil, true⟩ : AHeap) (.gc [] [false] [] [4, 6, 7] (by kernel_rfl) trivial (by kernel_rfl)) ?_
        refine .join (v := v) (fun y : Sl × Int × Int => ((⟨43, frTr [(4, (Sl.v 1 y.1)), (6, (.int .i64 y.2.1)), (7, (.int .i64 y.2.2))] .nil⟩ : Fr), (⟨1, objTr [(.cells tab0 true false [])] 0 .nil, true⟩ : AHeap))) (fun y => m36_2 pu n (l36_1 pu n w0) y.1 y.2.1 y.2.2) ?_ ?_
        · rintro ⟨s1131, z1132, z1133⟩ hm
          unfold m36_2 at hm
          refine .reg (F' := (Fr.puts (⟨43, frTr [(4, (Sl.v 1 s1131)), (6, (.int .i64 z1132)), (7, (.int .i64 z1133))] .nil⟩ : Fr) [(21, (.int .i64 z1133)), (22, (.int .i64 (wrapF .i64 (Int.add z1133 (1 : Int))))), (7, (.int .i64 (wrapF .i64 (Int.add z1133 (1 : Int)))))])) (H' := (⟨1, objTr [(.cells tab0 true false [])] 0 .nil, true⟩ : AHeap)) (by kernel_rfl) ?_
          exact ⟨(s1131, z1132, (wrapF .i64 (Int.add z1133 (1 : Int)))), hm, (.gc [] [false] [] [4, 6, 7] (by kernel_rfl) trivial (by kernel_rfl))⟩
        · skip
          refine .block ?_
          refine .then ?_
          refine .reg (F' := (Fr.puts (⟨43, frTr [(4, (Sl.v 1 s1088)), (6, (.int .i64 z1089)), (7, (.int .i64 z1090))] .nil⟩ : Fr) [(23, (.int .i64 z1090)), (24, (.int .i64 (wrapF .i64 (Int.add z1090 (1 : Int))))), (8, (.int .i64 (wrapF .i64 (Int.add z1090 (1 : Int)))))])) (H' := (⟨1, objTr [(.cells tab0 true false [])] 0 .nil, true⟩ : AHeap)) (by kernel_rfl) ?_
          refine .ghs (⟨43, frTr [(4, (Sl.v 1 s1088)), (6, (.int .i64 z1089)), (7, (.int .i64 z1090)), (8, (.int .i64 (wrapF .i64 (Int.add z1090 (1 : Int)))))] .nil⟩ : Fr) (⟨1, objTr [(.cells tab0 true false [])] 0 .nil, true⟩ : AHeap) (.gc [] [false] [] [4, 6, 7, 8] (by kernel_rfl) trivial (by kernel_rfl)) ?_
          refine .block ?_
          refine .loopM (v := v) (fun y : Sl × Int × Int × Int => ((⟨43, frTr [(4, (Sl.v 1 y.1)), (6, (.int .i64 y.2.1)), (7, (.int .i64 y.2.2.1)), (8, (.int .i64 y.2.2.2))] .nil⟩ : Fr), (⟨1, objTr [(.cells tab0 true false [])] 0 .nil, true⟩ : AHeap))) (fun w y => l36_3 pu n (l36_1 pu n w0) w y.1 y.2.1 y.2.2.1 y.2.2.2) n ⟨(s1088, z1089, z1090, (wrapF .i64 (Int.add z1090 (1 : Int)))), hm, (.gc [] [false] [] [4, 6, 7, 8] (by kernel_rfl) trivial (by kernel_rfl))⟩ (fun _ => rfl) ?_
          rintro w1 ⟨s1134, z1135, z1136, z1137⟩ hm
          refine .then ?_
          refine .then ?_
          refine .reg (F' := (Fr.puts (⟨43, frTr [(4, (Sl.v 1 s1134)), (6, (.int .i64 z1135)), (7, (.int .i64 z1136)), (8, (.int .i64 z1137))] .nil⟩ : Fr) [(25, (.int .i64 z1137)), (26, (Sl.v 1 s1134)), (27, (.int .i64 (Int.ofNat (Sl.n s1134)))), (28, (.bool (ilt z1137 (Int.ofNat (Sl.n s1134)))))])) (H' := (⟨1, objTr [(.cells tab0 true false [])] 0 .nil, true⟩ : AHeap)) (by kernel_rfl) ?_
          refine .ghs (⟨43, frTr [(4, (Sl.v 1 s1134)), (6, (.int .i64 z1135)), (7, (.int .i64 z1136)), (8, (.int .i64 z1137)), (28, (.bool (ilt z1137 (Int.ofNat (Sl.n s1134)))))] .nil⟩ : Fr) (⟨1, objTr [(.cells tab0 true false [])] 0 .nil, true⟩ : AHeap) (.gc [] [false] [] [4, 6, 7, 8, 28] (by kernel_rfl) trivial (by kernel_rfl)) ?_
          have hq := bb_cases hm; clear hm; rcases hq with ⟨h1138, hm⟩ | ⟨h1138, hm⟩
          · refine .ifT (ilt z1137 (Int.ofNat (Sl.n s1134))) (by kernel_rfl) h1138 ?_
            refine .skip ?_
            refine .ghs (⟨43, frTr [(4, (Sl.v 1 s1134)), (6, (.int .i64 z1135)), (7, (.int .i64 z1136)), (8, (.int .i64 z1137))] .nil⟩ : Fr) (⟨1, objTr [(.cells tab0 true false [])] 0 .nil, true⟩ : AHeap) (.gc [] [false] [] [4, 6, 7, 8] (by kernel_rfl) trivial (by kernel_rfl)) ?_
            refine .join (v := v) (fun y : Sl × Int × Int × Int => ((⟨43, frTr [(4, (Sl.v 1 y.1)), (6, (.int .i64 y.2.1)), (7, (.int .i64 y.2.2.1)), (8, (.int .i64 y.2.2.2))] .nil⟩ : Fr), (⟨1, objTr [(.cells tab0 true false [])] 0 .nil, true⟩ : AHeap))) (fun y => m36_4 pu n (l36_1 pu n w0) (l36_3 pu n (l36_1 pu n w0) w1) y.1 y.2.1 y.2.2.1 y.2.2.2) ?_ ?_
            · rintro ⟨s1154, z1155, z1156, z1157⟩ hm
              unfold m36_4 at hm
              refine .reg (F' := (Fr.puts (⟨43, frTr [(4, (Sl.v 1 s1154)), (6, (.int .i64 z1155)), (7, (.int .i64 z1156)), (8, (.int .i64 z1157))] .nil⟩ : Fr) [(29, (.int .i64 z1157)), (30, (.int .i64 (wrapF .i64 (Int.add z1157 (1 : Int))))), (8, (.int .i64 (wrapF .i64 (Int.add z1157 (1 : Int)))))])) (H' := (⟨1, objTr [(.cells tab0 true false [])] 0 .nil, true⟩ : AHeap)) (by kernel_rfl) ?_
              exact ⟨(s1154, z1155, z1156, (wrapF .i64 (Int.add z1157 (1 : Int)))), hm, (.gc [] [false] [] [4, 6, 7, 8] (by kernel_rfl) trivial (by kernel_rfl))⟩
            · skip
              refine .block ?_
              refine .then ?_
              have hq := oo_inv hm; clear hm; obtain ⟨k1158, h1159, hm⟩ := hq
              obtain rfl := toN_some h1159
              have hq := bb_inv hm; clear hm; obtain ⟨h1160, hm⟩ := hq
              have hq := oo_inv hm; clear hm; obtain ⟨v1161, h1162, hm⟩ := hq
              have hq := oo_inv hm; clear hm; obtain ⟨x1163, h1164, hm⟩ := hq
              obtain rfl := toI_some h1164
              have hq := oo_inv hm; clear hm; obtain ⟨k1165, h1166, hm⟩ := hq
              obtain rfl := toN_some h1166
              have hq := bb_inv hm; clear hm; obtain ⟨h1167, hm⟩ := hq
              have hq := oo_inv hm; clear hm; obtain ⟨v1168, h1169, hm⟩ := hq
              have hq := oo_inv hm; clear hm; obtain ⟨x1170, h1171, hm⟩ := hq
              obtain rfl := toI_some h1171
              refine .reg (F' := (Fr.puts (⟨43, frTr [(4, (Sl.v 1 s1134)), (6, (.int .i64 z1135)), (7, (.int .i64 (Int.ofNat k1158))), (8, (.int .i64 (Int.ofNat k1165)))] .nil⟩ : Fr) [(31, (Sl.v 1 s1134)), (32, (.int .i64 (Int.ofNat k1158))), (33, (fpV (k1158 * 1) (Sl.cs s1134))), (34, (.int .i64 x1163)), (35, (Sl.v 1 s1134)), (36, (.int .i64 (Int.ofNat k1165))), (37, (fpV (k1165 * 1) (Sl.cs s1134))), (38, (.int .i64 x1170)), (39, (.bool (ilt x1170 x1163)))])) (H' := (⟨1, objTr [(.cells tab0 true false [])] 0 .nil, true⟩ : AHeap)) (evOps_cut 2 (by kernel_rfl) (evOps_data (keep (⟨1, objTr [(.cells tab0 true false [])] 0 .nil, true⟩ : AHeap) (bb (an (Nat.blt k1158 (Sl.n s1134)) true) (some (fpV (k1158 * 1) (Sl.cs s1134))) none)) (by kernel_rfl) (keep_bb h1160) (okAt_of (by kernel_rfl) (by kernel_rfl)) (evOps_data (keep (⟨1, objTr [(.cells tab0 true false [])] 0 .nil, true⟩ : AHeap) (nthL (Sl.cs s1134) (k1158 * 1))) (by kernel_rfl) (keep_eq h1162) (okAt_of (by kernel_rfl) (by kernel_rfl)) (evOps_cut 2 (by kernel_rfl) (evOps_data (keep (⟨1, objTr [(.cells tab0 true false [])] 0 .nil, true⟩ : AHeap) (bb (an (Nat.blt k1165 (Sl.n s1134)) true) (some (fpV (k1165 * 1) (Sl.cs s1134))) none)) (by kernel_rfl) (keep_bb h1167) (okAt_of (by kernel_rfl) (by kernel_rfl)) (evOps_data (keep (⟨1, objTr [(.cells tab0 true false [])] 0 .nil, true⟩ : AHeap) (nthL (Sl.cs s1134) (k1165 * 1))) (by kernel_rfl) (keep_eq h1169) (okAt_of (by kernel_rfl) (by kernel_rfl)) (by kernel_rfl))))))) ?_
              refine .ghs (⟨43, frTr [(4, (Sl.v 1 s1134)), (6, (.int .i64 z1135)), (7, (.int .i64 (Int.ofNat k1158))), (8, (.int .i64 (Int.ofNat k1165))), (39, (.bool (ilt x1170 x1163)))] .nil⟩ : Fr) (⟨1, objTr [(.cells tab0 true false [])] 0 .nil, true⟩ : AHeap) (.gc [] [false] [] [4, 6, 7, 8, 39] (by kernel_rfl) trivial (by kernel_rfl)) ?_
              have hq := bb_cases hm; clear hm; rcases hq with ⟨h1172, hm⟩ | ⟨h1172, hm⟩
              · refine .ifT (ilt x1170 x1163) (by kernel_rfl) h1172 ?_
                refine .reg (F' := (Fr.puts (⟨43, frTr [(4, (Sl.v 1 s1134)), (6, (.int .i64 z1135)), (7, (.int .i64 (Int.ofNat k1158))), (8, (.int .i64 (Int.ofNat k1165))), (39, (.bool (ilt x1170 x1163)))] .nil⟩ : Fr) [(40, (.int .i64 z1135)), (41, (.int .i64 (wrapF .i64 (Int.add z1135 (1 : Int))))), (6, (.int .i64 (wrapF .i64 (Int.add z1135 (1 : Int)))))])) (H' := (⟨1, objTr [(.cells tab0 true false [])] 0 .nil, true⟩ : AHeap)) (by kernel_rfl) ?_
                exact ⟨(s1134, (wrapF .i64 (Int.add z1135 (1 : Int))), (Int.ofNat k1158), (Int.ofNat k1165)), hm, (.gc [] [false] [] [4, 6, 7, 8] (by kernel_rfl) trivial (by kernel_rfl))⟩
              · refine .ifF (ilt x1170 x1163) (by kernel_rfl) h1172 ?_
                refine .skip ?_
                exact ⟨(s1134, z1135, (Int.ofNat k1158), (Int.ofNat k1165)), hm, (.gc [] [false] [] [4, 6, 7, 8] (by kernel_rfl) trivial (by kernel_rfl))⟩
          · refine .ifF (ilt z1137 (Int.ofNat (Sl.n s1134))) (by kernel_rfl) h1138 ?_
            refine .exit ?_
            exact ⟨(s1134, z1135, z1136), hm, (.gc [] [false] [] [4, 6, 7] (by kernel_rfl) trivial (by kernel_rfl))⟩
      · refine .ifF (ilt z1090 (Int.ofNat (Sl.n s1088))) (by kernel_rfl) h1091 ?_
        refine .exit ?_
        exact ⟨z1089, hm, (.gc [] [false] [] [6] (by kernel_rfl) trivial (by kernel_rfl))⟩
/-- spadille/mend.between -/
def o60_0 : List ROp := [
  ⟨(some 6), .assign (.const (.bool false)), 4, none, []⟩]
def c60_0 : RC := .reg [] o60_0
def o60_1 : List ROp := [
  ⟨(some 7), .move (.tmp 0), 3, none, []⟩,
  ⟨(some 8), .move (.tmp 1), 3, none, []⟩,
  ⟨(some 9), .binOp .leq 3 (.tmp 7) (.tmp 8) 3, 4, none, []⟩,
  ⟨(some 10), .move (.tmp 9), 4, none, []⟩,
  ⟨(some 11), .move (.tmp 1), 3, (some ((some 10), true)), []⟩,
  ⟨(some 12), .move (.tmp 2), 3, (some ((some 10), true)), []⟩,
  ⟨(some 13), .binOp .leq 3 (.tmp 11) (.tmp 12) 3, 4, (some ((some 10), true)), []⟩,
  ⟨(some 14), .pick (.tmp 10) (.tmp 13) (.const (.bool false)), 4, none, []⟩,
  ⟨(some 6), .assign (.tmp 14), 4, none, []⟩]
def c60_1 : RC := .reg [] o60_1
def c60_2 : RC := .seq c60_1 .ret
def c60_3 : RC := .seq c60_0 c60_2
def m60_0 (pu : PureF) (n : Nat) (b1180 : Bool) : Option Value :=
  (some (.bool b1180))
def m60_ (pu : PureF) (n : Nat) (x1173 : Int) (x1175 : Int) (x1177 : Int) : Option Value :=
  (bb (nt (ilt x1175 x1173)) (m60_0 pu n (nt (ilt x1177 x1175))) (m60_0 pu n false))
def m60 (pu : PureF) (n : Nat) (args : List Value) : Option Value :=
  (ll args none fun a0 args => (ll args none fun a1 args => (ll args none fun a2 args => (ll args (oo (toI .i64 a0) none fun x1173 => (oo (toI .i64 a1) none fun x1175 => (oo (toI .i64 a2) none fun x1177 => (m60_ pu n x1173 x1175 x1177)))) fun _ _ => none))))
theorem r60 {call : CallF} (pu : PureF) (n : Nat) (hcall : call = callP tabs isP pu inl) {args : List Value} {v : Value} (hm : m60 pu n args = some v) (_ : ∀ x ∈ args, closed2 x = true) : args.length ≤ 15 ∧ Run tt call 1 c60_3 (Fr.made 15 args) (pureHeap tabs) (Fin tt 1 [.tmp 6] v) := by
  subst hcall
  unfold m60 at hm
  have hq := ll_uncons hm; clear hm; obtain ⟨a0, args_0, rfl, hm⟩ := hq
  have hq := ll_uncons hm; clear hm; obtain ⟨a1, args_1, rfl, hm⟩ := hq
  have hq := ll_uncons hm; clear hm; obtain ⟨a2, args_2, rfl, hm⟩ := hq
  have hq := ll_end hm; clear hm; obtain ⟨rfl, hm⟩ := hq
  have hq := oo_inv hm; clear hm; obtain ⟨x1173, h1174, hm⟩ := hq
  obtain rfl := toI_some h1174
  have hq := oo_inv hm; clear hm; obtain ⟨x1175, h1176, hm⟩ := hq
  obtain rfl := toI_some h1176
  have hq := oo_inv hm; clear hm; obtain ⟨x1177, h1178, hm⟩ := hq
  obtain rfl := toI_some h1178
  unfold m60_ at hm
  refine ⟨by simp, ?_⟩
  refine .same (F' := (⟨15, frTr [(0, (.int .i64 x1173)), (1, (.int .i64 x1175)), (2, (.int .i64 x1177))] .nil⟩ : Fr)) (H' := (⟨1, objTr [(.cells tab0 true false [])] 0 .nil, true⟩ : AHeap)) (by kernel_rfl) (by kernel_rfl) ?_
  refine .then ?_
  refine .reg (F' := (Fr.puts (⟨15, frTr [(0, (.int .i64 x1173)), (1, (.int .i64 x1175)), (2, (.int .i64 x1177))] .nil⟩ : Fr) [(6, (.bool false))])) (H' := (⟨1, objTr [(.cells tab0 true false [])] 0 .nil, true⟩ : AHeap)) (by kernel_rfl) ?_
  refine .ghs (⟨15, frTr [(0, (.int .i64 x1173)), (1, (.int .i64 x1175)), (2, (.int .i64 x1177))] .nil⟩ : Fr) (⟨1, objTr [(.cells tab0 true false [])] 0 .nil, true⟩ : AHeap) (.gc [] [false] [] [0, 1, 2] (by kernel_rfl) trivial (by kernel_rfl)) ?_
  refine .join (v := v) (fun y : Bool => ((⟨15, frTr [(6, (.bool y))] .nil⟩ : Fr), (⟨1, objTr [(.cells tab0 true false [])] 0 .nil, true⟩ : AHeap))) (fun y => m60_0 pu n y) ?_ ?_
  · rintro b1180 hm
    unfold m60_0 at hm
    refine .ret ?_
    exact fin_ret (.bool b1180) (by kernel_rfl) (by kernel_rfl) hm
  · skip
    have hq := bb_cases hm; clear hm; rcases hq with ⟨h1181, hm⟩ | ⟨h1181, hm⟩
    · skip
      refine .reg (F' := (Fr.puts (⟨15, frTr [(0, (.int .i64 x1173)), (1, (.int .i64 x1175)), (2, (.int .i64 x1177))] .nil⟩ : Fr) [(7, (.int .i64 x1173)), (8, (.int .i64 x1175)), (9, (.bool true)), (10, (.bool true)), (11, (.int .i64 x1175)), (12, (.int .i64 x1177)), (13, (.bool (nt (ilt x1177 x1175)))), (14, (.bool (nt (ilt x1177 x1175)))), (6, (.bool (nt (ilt x1177 x1175))))])) (H' := (⟨1, objTr [(.cells tab0 true false [])] 0 .nil, true⟩ : AHeap)) (evOps_cut 2 (by kernel_rfl) (evOps_data (some ((.bool (nt (ilt x1175 x1173))), (⟨1, objTr [(.cells tab0 true false [])] 0 .nil, true⟩ : AHeap))) (by kernel_rfl) (show _ = some ((.bool true), _) from (by rw [h1181])) (okAt_of (by kernel_rfl) (by kernel_rfl)) (by kernel_rfl))) ?_
      exact ⟨(nt (ilt x1177 x1175)), hm, (.gc [] [false] [] [6] (by kernel_rfl) trivial (by kernel_rfl))⟩
    · skip
      refine .reg (F' := (Fr.puts (⟨15, frTr [(0, (.int .i64 x1173)), (1, (.int .i64 x1175)), (2, (.int .i64 x1177))] .nil⟩ : Fr) [(7, (.int .i64 x1173)), (8, (.int .i64 x1175)), (9, (.bool false)), (10, (.bool false)), (11, (.tuple ⟨[]⟩)), (12, (.tuple ⟨[]⟩)), (13, (.tuple ⟨[]⟩)), (14, (.bool false)), (6, (.bool false))])) (H' := (⟨1, objTr [(.cells tab0 true false [])] 0 .nil, true⟩ : AHeap)) (evOps_cut 2 (by kernel_rfl) (evOps_data (some ((.bool (nt (ilt x1175 x1173))), (⟨1, objTr [(.cells tab0 true false [])] 0 .nil, true⟩ : AHeap))) (by kernel_rfl) (show _ = some ((.bool false), _) from (by rw [h1181])) (okAt_of (by kernel_rfl) (by kernel_rfl)) (by kernel_rfl))) ?_
      exact ⟨false, hm, (.gc [] [false] [] [6] (by kernel_rfl) trivial (by kernel_rfl))⟩
/-- spadille/spadilleref09.in -/
def o61_0 : List ROp := [
  ⟨(some 6), .assign (.const (.bool false)), 4, none, []⟩]
def c61_0 : RC := .reg [] o61_0
def o61_1 : List ROp := [
  ⟨(some 7), .move (.tmp 0), 3, none, []⟩,
  ⟨(some 8), .move (.tmp 1), 3, none, []⟩,
  ⟨(some 9), .binOp .geq 3 (.tmp 7) (.tmp 8) 3, 4, none, []⟩,
  ⟨(some 10), .move (.tmp 9), 4, none, []⟩,
  ⟨(some 11), .move (.tmp 0), 3, (some ((some 10), true)), []⟩,
  ⟨(some 12), .move (.tmp 2), 3, (some ((some 10), true)), []⟩,
  ⟨(some 13), .binOp .leq 3 (.tmp 11) (.tmp 12) 3, 4, (some ((some 10), true)), []⟩,
  ⟨(some 14), .pick (.tmp 10) (.tmp 13) (.const (.bool false)), 4, none, []⟩,
  ⟨(some 6), .assign (.tmp 14), 4, none, []⟩]
def c61_1 : RC := .reg [] o61_1
def c61_2 : RC := .seq c61_1 .ret
def c61_3 : RC := .seq c61_0 c61_2
def m61_0 (pu : PureF) (n : Nat) (b1189 : Bool) : Option Value :=
  (some (.bool b1189))
def m61_ (pu : PureF) (n : Nat) (x1182 : Int) (x1184 : Int) (x1186 : Int) : Option Value :=
  (bb (nt (ilt x1182 x1184)) (m61_0 pu n (nt (ilt x1186 x1182))) (m61_0 pu n false))
def m61 (pu : PureF) (n : Nat) (args : List Value) : Option Value :=
  (ll args none fun a0 args => (ll args none fun a1 args => (ll args none fun a2 args => (ll args (oo (toI .i64 a0) none fun x1182 => (oo (toI .i64 a1) none fun x1184 => (oo (toI .i64 a2) none fun x1186 => (m61_ pu n x1182 x1184 x1186)))) fun _ _ => none))))
theorem r61 {call : CallF} (pu : PureF) (n : Nat) (hcall : call = callP tabs isP pu inl) {args : List Value} {v : Value} (hm : m61 pu n args = some v) (_ : ∀ x ∈ args, closed2 x = true) : args.length ≤ 15 ∧ Run tt call 1 c61_3 (Fr.made 15 args) (pureHeap tabs) (Fin tt 1 [.tmp 6] v) := by
  subst hcall
  unfold m61 at hm
  have hq := ll_uncons hm; clear hm; obtain ⟨a0, args_0, rfl, hm⟩ := hq
  have hq := ll_uncons hm; clear hm; obtain ⟨a1, args_1, rfl, hm⟩ := hq
  have hq := ll_uncons hm; clear hm; obtain ⟨a2, args_2, rfl, hm⟩ := hq
  have hq := ll_end hm; clear hm; obtain ⟨rfl, hm⟩ := hq
  have hq := oo_inv hm; clear hm; obtain ⟨x1182, h1183, hm⟩ := hq
  obtain rfl := toI_some h1183
  have hq := oo_inv hm; clear hm; obtain ⟨x1184, h1185, hm⟩ := hq
  obtain rfl := toI_some h1185
  have hq := oo_inv hm; clear hm; obtain ⟨x1186, h1187, hm⟩ := hq
  obtain rfl := toI_some h1187
  unfold m61_ at hm
  refine ⟨by simp, ?_⟩
  refine .same (F' := (⟨15, frTr [(0, (.int .i64 x1182)), (1, (.int .i64 x1184)), (2, (.int .i64 x1186))] .nil⟩ : Fr)) (H' := (⟨1, objTr [(.cells tab0 true false [])] 0 .nil, true⟩ : AHeap)) (by kernel_rfl) (by kernel_rfl) ?_
  refine .then ?_
  refine .reg (F' := (Fr.puts (⟨15, frTr [(0, (.int .i64 x1182)), (1, (.int .i64 x1184)), (2, (.int .i64 x1186))] .nil⟩ : Fr) [(6, (.bool false))])) (H' := (⟨1, objTr [(.cells tab0 true false [])] 0 .nil, true⟩ : AHeap)) (by kernel_rfl) ?_
  refine .ghs (⟨15, frTr [(0, (.int .i64 x1182)), (1, (.int .i64 x1184)), (2, (.int .i64 x1186))] .nil⟩ : Fr) (⟨1, objTr [(.cells tab0 true false [])] 0 .nil, true⟩ : AHeap) (.gc [] [false] [] [0, 1, 2] (by kernel_rfl) trivial (by kernel_rfl)) ?_
  refine .join (v := v) (fun y : Bool => ((⟨15, frTr [(6, (.bool y))] .nil⟩ : Fr), (⟨1, objTr [(.cells tab0 true false [])] 0 .nil, true⟩ : AHeap))) (fun y => m61_0 pu n y) ?_ ?_
  · rintro b1189 hm
    unfold m61_0 at hm
    refine .ret ?_
    exact fin_ret (.bool b1189) (by kernel_rfl) (by kernel_rfl) hm
  · skip
    have hq := bb_cases hm; clear hm; rcases hq with ⟨h1190, hm⟩ | ⟨h1190, hm⟩
    · skip
      refine .reg (F' := (Fr.puts (⟨15, frTr [(0, (.int .i64 x1182)), (1, (.int .i64 x1184)), (2, (.int .i64 x1186))] .nil⟩ : Fr) [(7, (.int .i64 x1182)), (8, (.int .i64 x1184)), (9, (.bool true)), (10, (.bool true)), (11, (.int .i64 x1182)), (12, (.int .i64 x1186)), (13, (.bool (nt (ilt x1186 x1182)))), (14, (.bool (nt (ilt x1186 x1182)))), (6, (.bool (nt (ilt x1186 x1182))))])) (H' := (⟨1, objTr [(.cells tab0 true false [])] 0 .nil, true⟩ : AHeap)) (evOps_cut 2 (by kernel_rfl) (evOps_data (some ((.bool (nt (ilt x1182 x1184))), (⟨1, objTr [(.cells tab0 true false [])] 0 .nil, true⟩ : AHeap))) (by kernel_rfl) (show _ = some ((.bool true), _) from (by rw [h1190])) (okAt_of (by kernel_rfl) (by kernel_rfl)) (by kernel_rfl))) ?_
      exact ⟨(nt (ilt x1186 x1182)), hm, (.gc [] [false] [] [6] (by kernel_rfl) trivial (by kernel_rfl))⟩
    · skip
      refine .reg (F' := (Fr.puts (⟨15, frTr [(0, (.int .i64 x1182)), (1, (.int .i64 x1184)), (2, (.int .i64 x1186))] .nil⟩ : Fr) [(7, (.int .i64 x1182)), (8, (.int .i64 x1184)), (9, (.bool false)), (10, (.bool false)), (11, (.tuple ⟨[]⟩)), (12, (.tuple ⟨[]⟩)), (13, (.tuple ⟨[]⟩)), (14, (.bool false)), (6, (.bool false))])) (H' := (⟨1, objTr [(.cells tab0 true false [])] 0 .nil, true⟩ : AHeap)) (evOps_cut 2 (by kernel_rfl) (evOps_data (some ((.bool (nt (ilt x1182 x1184))), (⟨1, objTr [(.cells tab0 true false [])] 0 .nil, true⟩ : AHeap))) (by kernel_rfl) (show _ = some ((.bool false), _) from (by rw [h1190])) (okAt_of (by kernel_rfl) (by kernel_rfl)) (by kernel_rfl))) ?_
      exact ⟨false, hm, (.gc [] [false] [] [6] (by kernel_rfl) trivial (by kernel_rfl))⟩
/-- spadille/spadilleref09.times -/
def o62_0 : List ROp := [
  ⟨(some 4), .assign (.const (.int .i64 0)), 3, none, []⟩]
def c62_0 : RC := .reg [] o62_0
def o62_1 : List ROp := [
  ⟨(some 5), .assign (.const (.int .i64 0)), 3, none, []⟩]
def c62_1 : RC := .reg [] o62_1
def o62_2 : List ROp := [
  ⟨(some 6), .assign (.const (.int .i64 0)), 3, none, []⟩]
def c62_2 : RC := .reg [] o62_2
def o62_3 : List ROp := [
  ⟨(some 7), .move (.tmp 6), 3, none, []⟩,
  ⟨(some 8), .move (.tmp 0), 22, none, []⟩,
  ⟨(some 9), .call ⟨.builtin .len, #[(.tmp 8)], #[22]⟩, 3, none, []⟩,
  ⟨(some 10), .binOp .lss 3 (.tmp 7) (.tmp 9) 3, 4, none, []⟩]
def c62_3 : RC := .reg [] o62_3
def c62_4 : RC := .cond (.tmp 10) .skip (.exit 0)
def c62_5 : RC := .seq c62_3 c62_4
def o62_6 : List ROp := [
  ⟨(some 13), .move (.tmp 0), 22, none, []⟩,
  ⟨(some 14), .move (.tmp 6), 3, none, []⟩,
  ⟨(some 15), .indexAddr 22 (.tmp 13) (.tmp 14), 0, none, []⟩,
  ⟨(some 16), .load 3 (.tmp 15), 3, none, []⟩,
  ⟨(some 17), .move (.tmp 1), 3, none, []⟩,
  ⟨(some 18), .binOp .eql 3 (.tmp 16) (.tmp 17) 3, 4, none, []⟩]
def c62_6 : RC := .reg [] o62_6
def o62_7 : List ROp := [
  ⟨(some 19), .move (.tmp 5), 3, none, []⟩,
  ⟨(some 20), .binOp .add 3 (.tmp 19) (.const (.int .i64 1)) 3, 3, none, []⟩,
  ⟨(some 5), .assign (.tmp 20), 3, none, []⟩]
def c62_7 : RC := .reg [] o62_7
def c62_8 : RC := .cond (.tmp 18) c62_7 .skip
def c62_9 : RC := .seq c62_6 c62_8
def c62_10 : RC := .block 1 c62_9
def o62_11 : List ROp := [
  ⟨(some 11), .move (.tmp 6), 3, none, []⟩,
  ⟨(some 12), .binOp .add 3 (.tmp 11) (.const (.int .i64 1)) 3, 3, none, []⟩,
  ⟨(some 6), .assign (.tmp 12), 3, none, []⟩]
def c62_11 : RC := .reg [] o62_11
def c62_12 : RC := .seq c62_10 c62_11
def c62_13 : RC := .seq c62_5 c62_12
def c62_14 : RC := .loop c62_13
def c62_15 : RC := .block 0 c62_14
def c62_16 : RC := .seq c62_2 c62_15
def o62_17 : List ROp := [
  ⟨(some 21), .move (.tmp 5), 3, none, []⟩,
  ⟨(some 4), .assign (.tmp 21), 3, none, []⟩]
def c62_17 : RC := .reg [] o62_17
def c62_18 : RC := .seq c62_17 .ret
def c62_19 : RC := .seq c62_16 c62_18
def c62_20 : RC := .seq c62_1 c62_19
def c62_21 : RC := .seq c62_0 c62_20
def m62_0 (pu : PureF) (n : Nat) (z1220 : Int) : Option Value :=
  (some (.int .i64 z1220))
def m62_2 (pu : PureF) (n : Nat) (ih0 : Sl → Int → Int → Int → Option Value) (s1234 : Sl) (z1235 : Int) (z1236 : Int) (z1237 : Int) : Option Value :=
  (ih0 s1234 z1235 z1236 (wrapF .i64 (Int.add z1237 (1 : Int))))
def b62_1 (pu : PureF) (n : Nat) (ih0 : Sl → Int → Int → Int → Option Value) (s1221 : Sl) (z1222 : Int) (z1223 : Int) (z1224 : Int) : Option Value :=
  (bb (ilt z1224 (Int.ofNat (Sl.n s1221))) (oo (toN z1224) none fun k1238 => (bb (an (Nat.blt k1238 (Sl.n s1221)) true) (oo (nthL (Sl.cs s1221) (k1238 * 1)) none fun v1241 => (oo (toI .i64 v1241) none fun x1243 => (bb (ieq x1243 z1222) (m62_2 pu n ih0 s1221 z1222 (wrapF .i64 (Int.add z1223 (1 : Int))) (Int.ofNat k1238)) (m62_2 pu n ih0 s1221 z1222 z1223 (Int.ofNat k1238))))) none)) (m62_0 pu n z1223))
def l62_1 (pu : PureF) (n : Nat) (w : Nat) : Sl → Int → Int → Int → Option Value :=
  Nat.rec (motive := fun _ => Sl → Int → Int → Int → Option Value) (fun _ _ _ _ => none) (fun _ ih0 => b62_1 pu n ih0) w
def m62_ (pu : PureF) (n : Nat) (s1191 : Sl) (x1193 : Int) : Option Value :=
  (l62_1 pu n n s1191 x1193 (0 : Int) (0 : Int))
def m62 (pu : PureF) (n : Nat) (args : List Value) : Option Value :=
  (ll args none fun a0 args => (ll args none fun a1 args => (ll args (oo (toSl 1 a0) none fun s1191 => (oo (toI .i64 a1) none fun x1193 => (m62_ pu n s1191 x1193))) fun _ _ => none)))
theorem r62 {call : CallF} (pu : PureF) (n : Nat) (hcall : call = callP tabs isP pu inl) {args : List Value} {v : Value} (hm : m62 pu n args = some v) (_ : ∀ x ∈ args, closed2 x = true) : args.length ≤ 22 ∧ Run tt call 1 c62_21 (Fr.made 22 args) (pureHeap tabs) (Fin tt 1 [.tmp 4] v) := by
  subst hcall
  unfold m62 at hm
  have hq := ll_uncons hm; clear hm; obtain ⟨a0, args_0, rfl, hm⟩ := hq
  have hq := ll_uncons hm; clear hm; obtain ⟨a1, args_1, rfl, hm⟩ := hq
  have hq := ll_end hm; clear hm; obtain ⟨rfl, hm⟩ := hq
  have hq := oo_inv hm; clear hm; obtain ⟨s1191, h1192, hm⟩ := hq
  obtain rfl := toSl_some h1192
  have hq := oo_inv hm; clear hm; obtain ⟨x1193, h1194, hm⟩ := hq
  obtain rfl := toI_some h1194
  unfold m62_ at hm
  refine ⟨by simp, ?_⟩
  refine .same (F' := (⟨22, frTr [(0, (Sl.v 1 s1191)), (1, (.int .i64 x1193))] .nil⟩ : Fr)) (H' := (⟨1, objTr [(.cells tab0 true false [])] 0 .nil, true⟩ : AHeap)) (by kernel_rfl) (by kernel_rfl) ?_
  refine .then ?_
  refine .reg (F' := (Fr.puts (⟨22, frTr [(0, (Sl.v 1 s1191)), (1, (.int .i64 x1193))] .nil⟩ : Fr) [(4, (.int .i64 (0 : Int)))])) (H' := (⟨1, objTr [(.cells tab0 true false [])] 0 .nil, true⟩ : AHeap)) (by kernel_rfl) ?_
  refine .ghs (⟨22, frTr [(0, (Sl.v 1 s1191)), (1, (.int .i64 x1193))] .nil⟩ : Fr) (⟨1, objTr [(.cells tab0 true false [])] 0 .nil, true⟩ : AHeap) (.gc [] [false] [] [0, 1] (by kernel_rfl) trivial (by kernel_rfl)) ?_
  refine .then ?_
  refine .reg (F' := (Fr.puts (⟨22, frTr [(0, (Sl.v 1 s1191)), (1, (.int .i64 x1193))] .nil⟩ : Fr) [(5, (.int .i64 (0 : Int)))])) (H' := (⟨1, objTr [(.cells tab0 true false [])] 0 .nil, true⟩ : AHeap)) (by kernel_rfl) ?_
  refine .ghs (⟨22, frTr [(0, (Sl.v 1 s1191)), (1, (.int .i64 x1193)), (5, (.int .i64 (0 : Int)))] .nil⟩ : Fr) (⟨1, objTr [(.cells tab0 true false [])] 0 .nil, true⟩ : AHeap) (.gc [] [false] [] [0, 1, 5] (by kernel_rfl) trivial (by kernel_rfl)) ?_
  refine .join (v := v) (fun y : Int => ((⟨22, frTr [(5, (.int .i64 y))] .nil⟩ : Fr), (⟨1, objTr [(.cells tab0 true false [])] 0 .nil, true⟩ : AHeap))) (fun y => m62_0 pu n y) ?_ ?_
  · rintro z1220 hm
    unfold m62_0 at hm
    refine .then ?_
    refine .reg (F' := (Fr.puts (⟨22, frTr [(5, (.int .i64 z1220))] .nil⟩ : Fr) [(21, (.int .i64 z1220)), (4, (.int .i64 z1220))])) (H' := (⟨1, objTr [(.cells tab0 true false [])] 0 .nil, true⟩ : AHeap)) (by kernel_rfl) ?_
    refine .ghs (⟨22, frTr [(4, (.int .i64 z1220))] .nil⟩ : Fr) (⟨1, objTr [(.cells tab0 true false [])] 0 .nil, true⟩ : AHeap) (.gc [] [false] [] [4] (by kernel_rfl) trivial (by kernel_rfl)) ?_
    refine .ret ?_
    exact fin_ret (.int .i64 z1220) (by kernel_rfl) (by kernel_rfl) hm
  · skip
    refine .then ?_
    refine .reg (F' := (Fr.puts (⟨22, frTr [(0, (Sl.v 1 s1191)), (1, (.int .i64 x1193)), (5, (.int .i64 (0 : Int)))] .nil⟩ : Fr) [(6, (.int .i64 (0 : Int)))])) (H' := (⟨1, objTr [(.cells tab0 true false [])] 0 .nil, true⟩ : AHeap)) (by kernel_rfl) ?_
    refine .ghs (⟨22, frTr [(0, (Sl.v 1 s1191)), (1, (.int .i64 x1193)), (5, (.int .i64 (0 : Int))), (6, (.int .i64 (0 : Int)))] .nil⟩ : Fr) (⟨1, objTr [(.cells tab0 true false [])] 0 .nil, true⟩ : AHeap) (.gc [] [false] [] [0, 1, 5, 6] (by kernel_rfl) trivial (by kernel_rfl)) ?_
    refine .block ?_
    refine .loopM (v := v) (fun y : Sl × Int × Int × Int => ((⟨22, frTr [(0, (Sl.v 1 y.1)), (1, (.int .i64 y.2.1)), (5, (.int .i64 y.2.2.1)), (6, (.int .i64 y.2.2.2))] .nil⟩ : Fr), (⟨1, objTr [(.cells tab0 true false [])] 0 .nil, true⟩ : AHeap))) (fun w y => l62_1 pu n w y.1 y.2.1 y.2.2.1 y.2.2.2) n ⟨(s1191, x1193, (0 : Int), (0 : Int)), hm, (.gc [] [false] [] [0, 1, 5, 6] (by kernel_rfl) trivial (by kernel_rfl))⟩ (fun _ => rfl) ?_
    rintro w0 ⟨s1221, z1222, z1223, z1224⟩ hm
    refine .then ?_
    refine .then ?_
    refine .reg (F' := (Fr.puts (⟨22, frTr [(0, (Sl.v 1 s1221)), (1, (.int .i64 z1222)), (5, (.int .i64 z1223)), (6, (.int .i64 z1224))] .nil⟩ : Fr) [(7, (.int .i64 z1224)), (8, (Sl.v 1 s1221)), (9, (.int .i64 (Int.ofNat (Sl.n s1221)))), (10, (.bool (ilt z1224 (Int.ofNat (Sl.n s1221)))))])) (H' := (⟨1, objTr [(.cells tab0 true false [])] 0 .nil, true⟩ : AHeap)) (by kernel_rfl) ?_
    refine .ghs (⟨22, frTr [(0, (Sl.v 1 s1221)), (1, (.int .i64 z1222)), (5, (.int .i64 z1223)), (6, (.int .i64 z1224)), (10, (.bool (ilt z1224 (Int.ofNat (Sl.n s1221)))))] .nil⟩ : Fr) (⟨1, objTr [(.cells tab0 true false [])] 0 .nil, true⟩ : AHeap) (.gc [] [false] [] [0, 1, 5, 6, 10] (by kernel_rfl) trivial (by kernel_rfl)) ?_
    have hq := bb_cases hm; clear hm; rcases hq with ⟨h1225, hm⟩ | ⟨h1225, hm⟩
    · refine .ifT (ilt z1224 (Int.ofNat (Sl.n s1221))) (by kernel_rfl) h1225 ?_
      refine .skip ?_
      refine .ghs (⟨22, frTr [(0, (Sl.v 1 s1221)), (1, (.int .i64 z1222)), (5, (.int .i64 z1223)), (6, (.int .i64 z1224))] .nil⟩ : Fr) (⟨1, objTr [(.cells tab0 true false [])] 0 .nil, true⟩ : AHeap) (.gc [] [false] [] [0, 1, 5, 6] (by kernel_rfl) trivial (by kernel_rfl)) ?_
      refine .join (v := v) (fun y : Sl × Int × Int × Int => ((⟨22, frTr [(0, (Sl.v 1 y.1)), (1, (.int .i64 y.2.1)), (5, (.int .i64 y.2.2.1)), (6, (.int .i64 y.2.2.2))] .nil⟩ : Fr), (⟨1, objTr [(.cells tab0 true false [])] 0 .nil, true⟩ : AHeap))) (fun y => m62_2 pu n (l62_1 pu n w0) y.1 y.2.1 y.2.2.1 y.2.2.2) ?_ ?_
      · rintro ⟨s1234, z1235, z1236, z1237⟩ hm
        unfold m62_2 at hm
        refine .reg (F' := (Fr.puts (⟨22, frTr [(0, (Sl.v 1 s1234)), (1, (.int .i64 z1235)), (5, (.int .i64 z1236)), (6, (.int .i64 z1237))] .nil⟩ : Fr) [(11, (.int .i64 z1237)), (12, (.int .i64 (wrapF .i64 (Int.add z1237 (1 : Int))))), (6, (.int .i64 (wrapF .i64 (Int.add z1237 (1 : Int)))))])) (H' := (⟨1, objTr [(.cells tab0 true false [])] 0 .nil, true⟩ : AHeap)) (by kernel_rfl) ?_
        exact ⟨(s1234, z1235, z1236, (wrapF .i64 (Int.add z1237 (1 : Int)))), hm, (.gc [] [false] [] [0, 1, 5, 6] (by kernel_rfl) trivial (by kernel_rfl))⟩
      · skip
        refine .block ?_
        refine .then ?_
        have hq := oo_inv hm; clear hm; obtain ⟨k1238, h1239, hm⟩ := hq
        obtain rfl := toN_some h1239
        have hq := bb_inv hm; clear hm; obtain ⟨h1240, hm⟩ := hq
        have hq := oo_inv hm; clear hm; obtain ⟨v1241, h1242, hm⟩ := hq
        have hq := oo_inv hm; clear hm; obtain ⟨x1243, h1244, hm⟩ := hq
        obtain rfl := toI_some h1244
        refine .reg (F' := (Fr.puts (⟨22, frTr [(0, (Sl.v 1 s1221)), (1, (.int .i64 z1222)), (5, (.int .i64 z1223)), (6, (.int .i64 (Int.ofNat k1238)))] .nil⟩ : Fr) [(13, (Sl.v 1 s1221)), (14, (.int .i64 (Int.ofNat k1238))), (15, (fpV (k1238 * 1) (Sl.cs s1221))), (16, (.int .i64 x1243)), (17, (.int .i64 z1222)), (18, (.bool (ieq x1243 z1222)))])) (H' := (⟨1, objTr [(.cells tab0 true false [])] 0 .nil, true⟩ : AHeap)) (evOps_cut 2 (by kernel_rfl) (evOps_data (keep (⟨1, objTr [(.cells tab0 true false [])] 0 .nil, true⟩ : AHeap) (bb (an (Nat.blt k1238 (Sl.n s1221)) true) (some (fpV (k1238 * 1) (Sl.cs s1221))) none)) (by kernel_rfl) (keep_bb h1240) (okAt_of (by kernel_rfl) (by kernel_rfl)) (evOps_data (keep (⟨1, objTr [(.cells tab0 true false [])] 0 .nil, true⟩ : AHeap) (nthL (Sl.cs s1221) (k1238 * 1))) (by kernel_rfl) (keep_eq h1242) (okAt_of (by kernel_rfl) (by kernel_rfl)) (by kernel_rfl)))) ?_
        refine .ghs (⟨22, frTr [(0, (Sl.v 1 s1221)), (1, (.int .i64 z1222)), (5, (.int .i64 z1223)), (6, (.int .i64 (Int.ofNat k1238))), (18, (.bool (ieq x1243 z1222)))] .nil⟩ : Fr) (⟨1, objTr [(.cells tab0 true false [])] 0 .nil, true⟩ : AHeap) (.gc [] [false] [] [0, 1, 5, 6, 18] (by kernel_rfl) trivial (by kernel_rfl)) ?_
        have hq := bb_cases hm; clear hm; rcases hq with ⟨h1245, hm⟩ | ⟨h1245, hm⟩
        · refine .ifT (ieq x1243 z1222) (by kernel_rfl) h1245 ?_
          refine .reg (F' := (Fr.puts (⟨22, frTr [(0, (Sl.v 1 s1221)), (1, (.int .i64 z1222)), (5, (.int .i64 z1223)), (6, (.int .i64 (Int.ofNat k1238))), (18, (.bool (ieq x1243 z1222)))] .nil⟩ : Fr) [(19, (.int .i64 z1223)), (20, (.int .i64 (wrapF .i64 (Int.add z1223 (1 : Int))))), (5, (.int .i64 (wrapF .i64 (Int.add z1223 (1 : Int)))))])) (H' := (⟨1, objTr [(.cells tab0 true false [])] 0 .nil, true⟩ : AHeap)) (by kernel_rfl) ?_
          exact ⟨(s1221, z1222, (wrapF .i64 (Int.add z1223 (1 : Int))), (Int.ofNat k1238)), hm, (.gc [] [false] [] [0, 1, 5, 6] (by kernel_rfl) trivial (by kernel_rfl))⟩
        · refine .ifF (ieq x1243 z1222) (by kernel_rfl) h1245 ?_
          refine .skip ?_
          exact ⟨(s1221, z1222, z1223, (Int.ofNat k1238)), hm, (.gc [] [false] [] [0, 1, 5, 6] (by kernel_rfl) trivial (by kernel_rfl))⟩
    · refine .ifF (ilt z1224 (Int.ofNat (Sl.n s1221))) (by kernel_rfl) h1225 ?_
      refine .exit ?_
      exact ⟨z1223, hm, (.gc [] [false] [] [5] (by kernel_rfl) trivial (by kernel_rfl))⟩
/-- (spadille/mend.Tray).sources -/
def o69_0 : List ROp := [
  ⟨(some 1), .box 24 (.tmp 0), 0, none, []⟩,
  ⟨(some 2), .assign (.const (.slice none 0 0)), 22, none, []⟩]
def c69_0 : RC := .reg [] o69_0
def o69_1 : List ROp := [
  ⟨(some 3), .alloc 106, 0, none, []⟩]
def c69_1 : RC := .reg [] o69_1
def o69_2 : List ROp := [
  ⟨(some 9), .fieldAddr 24 (.tmp 1) 1, 0, none, []⟩,
  ⟨(some 10), .load 22 (.tmp 9), 22, none, []⟩,
  ⟨(some 11), .call ⟨.builtin .len, #[(.tmp 10)], #[22]⟩, 3, none, []⟩,
  ⟨(some 12), .move (.const (.int .i64 0)), 3, none, []⟩]
def c69_2 : RC := .reg [] o69_2
def o69_3 : List ROp := [
  ⟨(some 13), .binOp .lss 3 (.tmp 12) (.tmp 11) 3, 0, none, []⟩]
def c69_3 : RC := .reg [] o69_3
def c69_4 : RC := .cond (.tmp 13) .skip (.exit 0)
def o69_5 : List ROp := [
  ⟨(some 14), .move (.tmp 12), 3, none, []⟩,
  ⟨(some 15), .indexAddr 22 (.tmp 10) (.tmp 12), 0, none, []⟩,
  ⟨(some 16), .load 3 (.tmp 15), 3, none, []⟩,
  ⟨(some 4), .assign (.tmp 14), 3, none, []⟩,
  ⟨(some 5), .assign (.tmp 16), 3, none, []⟩]
def c69_5 : RC := .reg [] o69_5
def o69_6 : List ROp := [
  ⟨(some 17), .move (.tmp 5), 3, none, []⟩,
  ⟨(some 18), .move (.tmp 5), 3, none, []⟩,
  ⟨(some 19), .indexAddr 106 (.tmp 3) (.tmp 18), 0, none, []⟩,
  ⟨(some 20), .load 22 (.tmp 19), 22, none, []⟩,
  ⟨(some 21), .move (.tmp 4), 3, none, []⟩,
  ⟨(some 22), .buildSlice 22 1 #[(0, (.tmp 21))], 22, none, []⟩,
  ⟨(some 23), .call ⟨.builtin .append, #[(.tmp 20), (.tmp 22)], #[22, 22]⟩, 22, none, []⟩,
  ⟨(some 24), .indexAddr 106 (.tmp 3) (.tmp 17), 0, none, []⟩,
  ⟨none, .store 22 (.tmp 24) (.tmp 23), 0, none, []⟩]
def c69_6 : RC := .reg [] o69_6
def c69_7 : RC := .seq c69_5 c69_6
def c69_8 : RC := .block 1 c69_7
def o69_9 : List ROp := [
  ⟨(some 25), .binOp .add 3 (.tmp 12) (.const (.int .i64 1)) 3, 3, none, []⟩,
  ⟨(some 12), .move (.tmp 25), 3, none, []⟩]
def c69_9 : RC := .reg [] o69_9
def c69_10 : RC := .seq c69_8 c69_9
def c69_11 : RC := .seq c69_4 c69_10
def c69_12 : RC := .seq c69_3 c69_11
def c69_13 : RC := .loop c69_12
def c69_14 : RC := .block 0 c69_13
def c69_15 : RC := .seq c69_2 c69_14
def o69_16 : List ROp := [
  ⟨(some 6), .assign (.const (.slice none 0 0)), 22, none, []⟩]
def c69_16 : RC := .reg [] o69_16
def o69_17 : List ROp := [
  ⟨(some 26), .fieldAddr 24 (.tmp 1) 2, 0, none, []⟩,
  ⟨(some 27), .load 22 (.tmp 26), 22, none, []⟩,
  ⟨(some 28), .call ⟨.builtin .len, #[(.tmp 27)], #[22]⟩, 3, none, []⟩,
  ⟨(some 29), .move (.const (.int .i64 0)), 3, none, []⟩]
def c69_17 : RC := .reg [] o69_17
def o69_18 : List ROp := [
  ⟨(some 30), .binOp .lss 3 (.tmp 29) (.tmp 28) 3, 0, none, []⟩]
def c69_18 : RC := .reg [] o69_18
def c69_19 : RC := .cond (.tmp 30) .skip (.exit 2)
def o69_20 : List ROp := [
  ⟨(some 31), .indexAddr 22 (.tmp 27) (.tmp 29), 0, none, []⟩,
  ⟨(some 32), .load 3 (.tmp 31), 3, none, []⟩,
  ⟨(some 8), .assign (.tmp 32), 3, none, []⟩]
def c69_20 : RC := .reg [] o69_20
def o69_21 : List ROp := [
  ⟨(some 33), .move (.tmp 8), 3, none, []⟩,
  ⟨(some 34), .move (.tmp 6), 22, none, []⟩,
  ⟨(some 35), .move (.tmp 8), 3, none, []⟩,
  ⟨(some 36), .indexAddr 106 (.tmp 3) (.tmp 35), 0, none, []⟩,
  ⟨(some 37), .load 22 (.tmp 36), 22, none, []⟩,
  ⟨(some 38), .indexAddr 22 (.tmp 37) (.const (.int .i64 0)), 0, none, []⟩,
  ⟨(some 39), .load 3 (.tmp 38), 3, none, []⟩,
  ⟨(some 40), .buildSlice 22 1 #[(0, (.tmp 39))], 22, none, []⟩,
  ⟨(some 42), .move (.tmp 8), 3, none, []⟩,
  ⟨(some 43), .indexAddr 106 (.tmp 3) (.tmp 42), 0, none, []⟩,
  ⟨(some 44), .load 22 (.tmp 43), 22, none, []⟩,
  ⟨(some 45), .slice 22 (.tmp 44) (some (.const (.int .i64 1))) none none, 22, none, []⟩,
  ⟨(some 41), .call ⟨.builtin .append, #[(.tmp 34), (.tmp 40)], #[22, 22]⟩, 22, none, [(.tmp 44), (.tmp 43)]⟩,
  ⟨(some 6), .assign (.tmp 41), 22, none, []⟩,
  ⟨(some 46), .indexAddr 106 (.tmp 3) (.tmp 33), 0, none, []⟩,
  ⟨none, .store 22 (.tmp 46) (.tmp 45), 0, none, []⟩]
def c69_21 : RC := .reg [0, 1, 2, 3, 4, 5, 6, 7, 9, 10, 11, 12, 8, 13, 14, 15] o69_21
def c69_22 : RC := .seq c69_20 c69_21
def c69_23 : RC := .block 3 c69_22
def o69_24 : List ROp := [
  ⟨(some 47), .binOp .add 3 (.tmp 29) (.const (.int .i64 1)) 3, 3, none, []⟩,
  ⟨(some 29), .move (.tmp 47), 3, none, []⟩]
def c69_24 : RC := .reg [] o69_24
def c69_25 : RC := .seq c69_23 c69_24
def c69_26 : RC := .seq c69_19 c69_25
def c69_27 : RC := .seq c69_18 c69_26
def c69_28 : RC := .loop c69_27
def c69_29 : RC := .block 2 c69_28
def c69_30 : RC := .seq c69_17 c69_29
def o69_31 : List ROp := [
  ⟨(some 48), .move (.tmp 6), 22, none, []⟩,
  ⟨(some 2), .assign (.tmp 48), 22, none, []⟩]
def c69_31 : RC := .reg [] o69_31
def c69_32 : RC := .seq c69_31 .ret
def c69_33 : RC := .seq c69_30 c69_32
def c69_34 : RC := .seq c69_16 c69_33
def c69_35 : RC := .seq c69_15 c69_34
def c69_36 : RC := .seq c69_1 c69_35
def c69_37 : RC := .seq c69_0 c69_36
def m69_1 (pu : PureF) (n : Nat) (n1811 : Nat) (c1812 : Nat) (q1813 : List Value) : Option Value :=
  (bb (allL closed1 q1813) (bb (an (Nat.ble (0 + n1811 * 1) (len q1813)) (allL closed1 (takeL (n1811 * 1) (dropL 0 q1813)))) (some (Sl.v 1 (Sl.mk n1811 0 (takeL (n1811 * 1) (dropL 0 q1813))))) none) none)
def b69_2 (pu : PureF) (n : Nat) (ih0 : Nat → Nat → Sl → Int → Int → Nat → Nat → Nat → Nat → Nat → Nat → Nat → Nat → Nat → Nat → Nat → Nat → Nat → Nat → Nat → List Value → List Value → List Value → List Value → List Value → List Value → Option Value) (n2086 : Nat) (c2087 : Nat) (s2088 : Sl) (z2089 : Int) (z2090 : Int) (n2091 : Nat) (n2092 : Nat) (c2093 : Nat) (n2094 : Nat) (n2095 : Nat) (c2096 : Nat) (n2097 : Nat) (n2098 : Nat) (c2099 : Nat) (n2100 : Nat) (n2101 : Nat) (c2102 : Nat) (n2103 : Nat) (n2104 : Nat) (c2105 : Nat) (q2106 : List Value) (q2107 : List Value) (q2108 : List Value) (q2109 : List Value) (q2110 : List Value) (q2111 : List Value) : Option Value :=
  (bb (allL closed1 q2106) (bb (allL closed1 q2107) (bb (allL closed1 q2108) (bb (allL closed1 q2109) (bb (allL closed1 q2110) (bb (allL closed1 q2111) (bb (ilt z2090 z2089) (oo (toN z2090) none fun k2119 => (bb (an (Nat.blt k2119 (Sl.n s2088)) true) (oo (nthL (Sl.cs s2088) (k2119 * 1)) none fun v2122 => (oo (toI .i64 v2122) none fun x2124 => (oo (toN x2124) none fun k2126 => (bb (Nat.beq k2126 0) (bb (an (Nat.blt 0 n2092) true) (oo (nthL q2107 (n2091 + 0 * 1)) none fun v2130 => (oo (toI .i64 v2130) none fun x2132 => (bb (Nat.ble 1 n2092) (bb (growC 1 8 n2086 c2087 1 q2106) (bb (allL closed1 (appL (dropL 0 q2106) [(.int .i64 x2132)])) (ih0 (n2086 + 1) (2 * (n2086 + 1) + bb false 1 0) s2088 z2089 (wrapF .i64 (Int.add (Int.ofNat k2119) (1 : Int))) (n2091 + 1 * 1) (n2092 - 1) (2 * (c2093 / 2 - 1) + bb (orr false (Nat.beq (c2093 % 2) 1)) 1 0) n2094 n2095 c2096 n2097 n2098 c2099 n2100 n2101 c2102 n2103 n2104 c2105 (appL (dropL 0 q2106) [(.int .i64 x2132)]) q2107 q2108 q2109 q2110 q2111) none) none) none))) none) (bb (Nat.beq k2126 1) (bb (an (Nat.blt 0 n2095) true) (oo (nthL q2108 (n2094 + 0 * 1)) none fun v2131 => (oo (toI .i64 v2131) none fun x2133 => (bb (Nat.ble 1 n2095) (bb (growC 1 8 n2086 c2087 1 q2106) (bb (allL closed1 (appL (dropL 0 q2106) [(.int .i64 x2133)])) (ih0 (n2086 + 1) (2 * (n2086 + 1) + bb false 1 0) s2088 z2089 (wrapF .i64 (Int.add (Int.ofNat k2119) (1 : Int))) n2091 n2092 c2093 (n2094 + 1 * 1) (n2095 - 1) (2 * (c2096 / 2 - 1) + bb (orr false (Nat.beq (c2096 % 2) 1)) 1 0) n2097 n2098 c2099 n2100 n2101 c2102 n2103 n2104 c2105 (appL (dropL 0 q2106) [(.int .i64 x2133)]) q2107 q2108 q2109 q2110 q2111) none) none) none))) none) (bb (Nat.beq k2126 2) (bb (an (Nat.blt 0 n2098) true) (oo (nthL q2109 (n2097 + 0 * 1)) none fun v2132 => (oo (toI .i64 v2132) none fun x2134 => (bb (Nat.ble 1 n2098) (bb (growC 1 8 n2086 c2087 1 q2106) (bb (allL closed1 (appL (dropL 0 q2106) [(.int .i64 x2134)])) (ih0 (n2086 + 1) (2 * (n2086 + 1) + bb false 1 0) s2088 z2089 (wrapF .i64 (Int.add (Int.ofNat k2119) (1 : Int))) n2091 n2092 c2093 n2094 n2095 c2096 (n2097 + 1 * 1) (n2098 - 1) (2 * (c2099 / 2 - 1) + bb (orr false (Nat.beq (c2099 % 2) 1)) 1 0) n2100 n2101 c2102 n2103 n2104 c2105 (appL (dropL 0 q2106) [(.int .i64 x2134)]) q2107 q2108 q2109 q2110 q2111) none) none) none))) none) (bb (Nat.beq k2126 3) (bb (an (Nat.blt 0 n2101) true) (oo (nthL q2110 (n2100 + 0 * 1)) none fun v2133 => (oo (toI .i64 v2133) none fun x2135 => (bb (Nat.ble 1 n2101) (bb (growC 1 8 n2086 c2087 1 q2106) (bb (allL closed1 (appL (dropL 0 q2106) [(.int .i64 x2135)])) (ih0 (n2086 + 1) (2 * (n2086 + 1) + bb false 1 0) s2088 z2089 (wrapF .i64 (Int.add (Int.ofNat k2119) (1 : Int))) n2091 n2092 c2093 n2094 n2095 c2096 n2097 n2098 c2099 (n2100 + 1 * 1) (n2101 - 1) (2 * (c2102 / 2 - 1) + bb (orr false (Nat.beq (c2102 % 2) 1)) 1 0) n2103 n2104 c2105 (appL (dropL 0 q2106) [(.int .i64 x2135)]) q2107 q2108 q2109 q2110 q2111) none) none) none))) none) (bb (Nat.beq k2126 4) (bb (an (Nat.blt 0 n2104) true) (oo (nthL q2111 (n2103 + 0 * 1)) none fun v2134 => (oo (toI .i64 v2134) none fun x2136 => (bb (Nat.ble 1 n2104) (bb (growC 1 8 n2086 c2087 1 q2106) (bb (allL closed1 (appL (dropL 0 q2106) [(.int .i64 x2136)])) (ih0 (n2086 + 1) (2 * (n2086 + 1) + bb false 1 0) s2088 z2089 (wrapF .i64 (Int.add (Int.ofNat k2119) (1 : Int))) n2091 n2092 c2093 n2094 n2095 c2096 n2097 n2098 c2099 n2100 n2101 c2102 (n2103 + 1 * 1) (n2104 - 1) (2 * (c2105 / 2 - 1) + bb (orr false (Nat.beq (c2105 % 2) 1)) 1 0) (appL (dropL 0 q2106) [(.int .i64 x2136)]) q2107 q2108 q2109 q2110 q2111) none) none) none))) none) none)))))))) none)) (m69_1 pu n n2086 c2087 q2106)) none) none) none) none) none) none)
def l69_2 (pu : PureF) (n : Nat) (w : Nat) : Nat → Nat → Sl → Int → Int → Nat → Nat → Nat → Nat → Nat → Nat → Nat → Nat → Nat → Nat → Nat → Nat → Nat → Nat → Nat → List Value → List Value → List Value → List Value → List Value → List Value → Option Value :=
  Nat.rec (motive := fun _ => Nat → Nat → Sl → Int → Int → Nat → Nat → Nat → Nat → Nat → Nat → Nat → Nat → Nat → Nat → Nat → Nat → Nat → Nat → Nat → List Value → List Value → List Value → List Value → List Value → List Value → Option Value) (fun _ _ _ _ _ _ _ _ _ _ _ _ _ _ _ _ _ _ _ _ _ _ _ _ _ _ => none) (fun _ ih0 => b69_2 pu n ih0) w
def m69_0 (pu : PureF) (n : Nat) (z1459 : Int) (s1460 : Sl) (s1461 : Sl) (n1462 : Nat) (c1463 : Nat) (n1464 : Nat) (c1465 : Nat) (n1466 : Nat) (c1467 : Nat) (n1468 : Nat) (c1469 : Nat) (n1470 : Nat) (c1471 : Nat) (q1472 : List Value) (q1473 : List Value) (q1474 : List Value) (q1475 : List Value) (q1476 : List Value) : Option Value :=
  (bb (allL closed1 q1472) (bb (allL closed1 q1473) (bb (allL closed1 q1474) (bb (allL closed1 q1475) (bb (allL closed1 q1476) (l69_2 pu n n 0 0 s1461 (Int.ofNat (Sl.n s1461)) (0 : Int) 0 n1462 c1463 0 n1464 c1465 0 n1466 c1467 0 n1468 c1469 0 n1470 c1471 ([] : List Value) q1472 q1473 q1474 q1475 q1476) none) none) none) none) none)
def b69_3 (pu : PureF) (n : Nat) (ih0 : Sl → Int → Int → Int → Sl → Sl → Nat → Nat → Nat → Nat → Nat → Nat → Nat → Nat → Nat → Nat → List Value → List Value → List Value → List Value → List Value → Option Value) (s2300 : Sl) (z2301 : Int) (z2302 : Int) (z2303 : Int) (s2304 : Sl) (s2305 : Sl) (n2306 : Nat) (c2307 : Nat) (n2308 : Nat) (c2309 : Nat) (n2310 : Nat) (c2311 : Nat) (n2312 : Nat) (c2313 : Nat) (n2314 : Nat) (c2315 : Nat) (q2316 : List Value) (q2317 : List Value) (q2318 : List Value) (q2319 : List Value) (q2320 : List Value) : Option Value :=
  (bb (allL closed1 q2316) (bb (allL closed1 q2317) (bb (allL closed1 q2318) (bb (allL closed1 q2319) (bb (allL closed1 q2320) (bb (ilt z2302 z2301) (oo (toN z2302) none fun k2327 => (bb (an (Nat.blt k2327 (Sl.n s2300)) true) (oo (nthL (Sl.cs s2300) (k2327 * 1)) none fun v2330 => (oo (toI .i64 v2330) none fun x2332 => (oo (toN x2332) none fun k2334 => (bb (Nat.beq k2334 0) (bb (growC 1 8 n2306 c2307 1 q2316) (bb (allL closed1 (appL (dropL 0 q2316) [(.int .i64 (Int.ofNat k2327))])) (ih0 s2300 z2301 (wrapF .i64 (Int.add (Int.ofNat k2327) (1 : Int))) z2303 s2304 s2305 (n2306 + 1) (2 * (n2306 + 1) + bb false 1 0) n2308 c2309 n2310 c2311 n2312 c2313 n2314 c2315 (appL (dropL 0 q2316) [(.int .i64 (Int.ofNat k2327))]) q2317 q2318 q2319 q2320) none) none) (bb (Nat.beq k2334 1) (bb (growC 1 8 n2308 c2309 1 q2317) (bb (allL closed1 (appL (dropL 0 q2317) [(.int .i64 (Int.ofNat k2327))])) (ih0 s2300 z2301 (wrapF .i64 (Int.add (Int.ofNat k2327) (1 : Int))) z2303 s2304 s2305 n2306 c2307 (n2308 + 1) (2 * (n2308 + 1) + bb false 1 0) n2310 c2311 n2312 c2313 n2314 c2315 q2316 (appL (dropL 0 q2317) [(.int .i64 (Int.ofNat k2327))]) q2318 q2319 q2320) none) none) (bb (Nat.beq k2334 2) (bb (growC 1 8 n2310 c2311 1 q2318) (bb (allL closed1 (appL (dropL 0 q2318) [(.int .i64 (Int.ofNat k2327))])) (ih0 s2300 z2301 (wrapF .i64 (Int.add (Int.ofNat k2327) (1 : Int))) z2303 s2304 s2305 n2306 c2307 n2308 c2309 (n2310 + 1) (2 * (n2310 + 1) + bb false 1 0) n2312 c2313 n2314 c2315 q2316 q2317 (appL (dropL 0 q2318) [(.int .i64 (Int.ofNat k2327))]) q2319 q2320) none) none) (bb (Nat.beq k2334 3) (bb (growC 1 8 n2312 c2313 1 q2319) (bb (allL closed1 (appL (dropL 0 q2319) [(.int .i64 (Int.ofNat k2327))])) (ih0 s2300 z2301 (wrapF .i64 (Int.add (Int.ofNat k2327) (1 : Int))) z2303 s2304 s2305 n2306 c2307 n2308 c2309 n2310 c2311 (n2312 + 1) (2 * (n2312 + 1) + bb false 1 0) n2314 c2315 q2316 q2317 q2318 (appL (dropL 0 q2319) [(.int .i64 (Int.ofNat k2327))]) q2320) none) none) (bb (Nat.beq k2334 4) (bb (growC 1 8 n2314 c2315 1 q2320) (bb (allL closed1 (appL (dropL 0 q2320) [(.int .i64 (Int.ofNat k2327))])) (ih0 s2300 z2301 (wrapF .i64 (Int.add (Int.ofNat k2327) (1 : Int))) z2303 s2304 s2305 n2306 c2307 n2308 c2309 n2310 c2311 n2312 c2313 (n2314 + 1) (2 * (n2314 + 1) + bb false 1 0) q2316 q2317 q2318 q2319 (appL (dropL 0 q2320) [(.int .i64 (Int.ofNat k2327))])) none) none) none)))))))) none)) (m69_0 pu n z2303 s2304 s2305 n2306 c2307 n2308 c2309 n2310 c2311 n2312 c2313 n2314 c2315 q2316 q2317 q2318 q2319 q2320)) none) none) none) none) none)
def l69_3 (pu : PureF) (n : Nat) (w : Nat) : Sl → Int → Int → Int → Sl → Sl → Nat → Nat → Nat → Nat → Nat → Nat → Nat → Nat → Nat → Nat → List Value → List Value → List Value → List Value → List Value → Option Value :=
  Nat.rec (motive := fun _ => Sl → Int → Int → Int → Sl → Sl → Nat → Nat → Nat → Nat → Nat → Nat → Nat → Nat → Nat → Nat → List Value → List Value → List Value → List Value → List Value → Option Value) (fun _ _ _ _ _ _ _ _ _ _ _ _ _ _ _ _ _ _ _ _ _ => none) (fun _ ih0 => b69_3 pu n ih0) w
def m69_ (pu : PureF) (n : Nat) (x1251 : Int) (s1253 : Sl) (s1255 : Sl) : Option Value :=
  (l69_3 pu n n s1253 (Int.ofNat (Sl.n s1253)) (0 : Int) x1251 s1253 s1255 0 0 0 0 0 0 0 0 0 0 ([] : List Value) ([] : List Value) ([] : List Value) ([] : List Value) ([] : List Value))
def m69 (pu : PureF) (n : Nat) (args : List Value) : Option Value :=
  (ll args none fun a0 args => (ll args (oo (vAgg a0) none fun l1246 => (ll l1246 none fun v1248 l1246 => (ll l1246 none fun v1249 l1246 => (ll l1246 none fun v1250 l1246 => (ll l1246 (oo (toI .i64 v1248) none fun x1251 => (oo (toSl 1 v1249) none fun s1253 => (oo (toSl 1 v1250) none fun s1255 => (m69_ pu n x1251 s1253 s1255)))) fun _ _ => none))))) fun _ _ => none))
theorem r69 {call : CallF} (pu : PureF) (n : Nat) (hcall : call = callP tabs isP pu inl) {args : List Value} {v : Value} (hm : m69 pu n args = some v) (_ : ∀ x ∈ args, closed2 x = true) : args.length ≤ 49 ∧ Run tt call 1 c69_37 (Fr.made 49 args) (pureHeap tabs) (Fin tt 1 [.tmp 2] v) := by
  subst hcall
  unfold m69 at hm
  have hq := ll_uncons hm; clear hm; obtain ⟨a0, args_0, rfl, hm⟩ := hq
  have hq := ll_end hm; clear hm; obtain ⟨rfl, hm⟩ := hq
  have hq := oo_inv hm; clear hm; obtain ⟨l1246, h1247, hm⟩ := hq
  obtain rfl := vAgg_some h1247
  have hq := ll_uncons hm; clear hm; obtain ⟨v1248, l1246_0, rfl, hm⟩ := hq
  have hq := ll_uncons hm; clear hm; obtain ⟨v1249, l1246_1, rfl, hm⟩ := hq
  have hq := ll_uncons hm; clear hm; obtain ⟨v1250, l1246_2, rfl, hm⟩ := hq
  have hq := ll_end hm; clear hm; obtain ⟨rfl, hm⟩ := hq
  have hq := oo_inv hm; clear hm; obtain ⟨x1251, h1252, hm⟩ := hq
  obtain rfl := toI_some h1252
  have hq := oo_inv hm; clear hm; obtain ⟨s1253, h1254, hm⟩ := hq
  obtain rfl := toSl_some h1254
  have hq := oo_inv hm; clear hm; obtain ⟨s1255, h1256, hm⟩ := hq
  obtain rfl := toSl_some h1256
  unfold m69_ at hm
  refine ⟨by simp, ?_⟩
  refine .same (F' := (⟨49, frTr [(0, (.agg ⟨[(.int .i64 x1251), (Sl.v 1 s1253), (Sl.v 1 s1255)]⟩))] .nil⟩ : Fr)) (H' := (⟨1, objTr [(.cells tab0 true false [])] 0 .nil, true⟩ : AHeap)) (by kernel_rfl) (by kernel_rfl) ?_
  refine .then ?_
  refine .reg (F' := (Fr.puts (⟨49, frTr [(0, (.agg ⟨[(.int .i64 x1251), (Sl.v 1 s1253), (Sl.v 1 s1255)]⟩))] .nil⟩ : Fr) [(1, (.pointer (some ⟨1, 0, none⟩))), (2, (.slice none 0 0))])) (H' := (⟨2, objTr [(.cells tab0 true false []), (.cells [(.int .i64 x1251), (Sl.v 1 s1253), (Sl.v 1 s1255)] false false [])] 0 .nil, true⟩ : AHeap)) (by kernel_rfl) ?_
  refine .ghs (⟨49, frTr [(1, (.pointer (some ⟨1, 0, none⟩)))] .nil⟩ : Fr) (⟨2, objTr [(.cells tab0 true false []), (.cells [(.int .i64 x1251), (Sl.v 1 s1253), (Sl.v 1 s1255)] false false [])] 0 .nil, true⟩ : AHeap) (.gc [] [false] [.tmp 1 false] [1] (by kernel_rfl) trivial (by kernel_rfl)) ?_
  refine .then ?_
  refine .reg (F' := (Fr.puts (⟨49, frTr [(1, (.pointer (some ⟨1, 0, none⟩)))] .nil⟩ : Fr) [(3, (.pointer (some ⟨2, 0, none⟩)))])) (H' := (⟨3, objTr [(.cells tab0 true false []), (.cells [(.int .i64 x1251), (Sl.v 1 s1253), (Sl.v 1 s1255)] false false []), (.cells [(.slice none 0 0), (.slice none 0 0), (.slice none 0 0), (.slice none 0 0), (.slice none 0 0)] false false [])] 0 .nil, true⟩ : AHeap)) (by kernel_rfl) ?_
  refine .ghs (⟨49, frTr [(1, (.pointer (some ⟨1, 0, none⟩))), (3, (.pointer (some ⟨2, 0, none⟩)))] .nil⟩ : Fr) (⟨3, objTr [(.cells tab0 true false []), (.cells [(.int .i64 x1251), (Sl.v 1 s1253), (Sl.v 1 s1255)] false false []), (.cells [(.slice none 0 0), (.slice none 0 0), (.slice none 0 0), (.slice none 0 0), (.slice none 0 0)] false false [])] 0 .nil, true⟩ : AHeap) (.gc [] [false] [.tmp 1 false, .tmp 3 false] [1, 3] (by kernel_rfl) trivial (by kernel_rfl)) ?_
  refine .join (v := v) (fun y : Int × Sl × Sl × Nat × Nat × Nat × Nat × Nat × Nat × Nat × Nat × Nat × Nat × List Value × List Value × List Value × List Value × List Value => ((⟨49, frTr [(1, (.pointer (some ⟨1, 0, none⟩))), (3, (.pointer (some ⟨2, 0, none⟩)))] .nil⟩ : Fr), (⟨8, objTr [(.cells tab0 true false []), (.cells [(.int .i64 y.1), (Sl.v 1 y.2.1), (Sl.v 1 y.2.2.1)] false false []), (.cells [(.slice (some ⟨3, 0, some 1⟩) y.2.2.2.1 y.2.2.2.2.1), (.slice (some ⟨4, 0, some 1⟩) y.2.2.2.2.2.1 y.2.2.2.2.2.2.1), (.slice (some ⟨5, 0, some 1⟩) y.2.2.2.2.2.2.2.1 y.2.2.2.2.2.2.2.2.1), (.slice (some ⟨6, 0, some 1⟩) y.2.2.2.2.2.2.2.2.2.1 y.2.2.2.2.2.2.2.2.2.2.1), (.slice (some ⟨7, 0, some 1⟩) y.2.2.2.2.2.2.2.2.2.2.2.1 y.2.2.2.2.2.2.2.2.2.2.2.2.1)] false false []), (.cells y.2.2.2.2.2.2.2.2.2.2.2.2.2.1 false false []), (.cells y.2.2.2.2.2.2.2.2.2.2.2.2.2.2.1 false false []), (.cells y.2.2.2.2.2.2.2.2.2.2.2.2.2.2.2.1 false false []), (.cells y.2.2.2.2.2.2.2.2.2.2.2.2.2.2.2.2.1 false false []), (.cells y.2.2.2.2.2.2.2.2.2.2.2.2.2.2.2.2.2 false false [])] 0 .nil, true⟩ : AHeap))) (fun y => m69_0 pu n y.1 y.2.1 y.2.2.1 y.2.2.2.1 y.2.2.2.2.1 y.2.2.2.2.2.1 y.2.2.2.2.2.2.1 y.2.2.2.2.2.2.2.1 y.2.2.2.2.2.2.2.2.1 y.2.2.2.2.2.2.2.2.2.1 y.2.2.2.2.2.2.2.2.2.2.1 y.2.2.2.2.2.2.2.2.2.2.2.1 y.2.2.2.2.2.2.2.2.2.2.2.2.1 y.2.2.2.2.2.2.2.2.2.2.2.2.2.1 y.2.2.2.2.2.2.2.2.2.2.2.2.2.2.1 y.2.2.2.2.2.2.2.2.2.2.2.2.2.2.2.1 y.2.2.2.2.2.2.2.2.2.2.2.2.2.2.2.2.1 y.2.2.2.2.2.2.2.2.2.2.2.2.2.2.2.2.2) ?_ ?_
  · rintro ⟨z1459, s1460, s1461, n1462, c1463, n1464, c1465, n1466, c1467, n1468, c1469, n1470, c1471, q1472, q1473, q1474, q1475, q1476⟩ hm
    unfold m69_0 at hm
    refine .then ?_
    refine .reg (F' := (Fr.puts (⟨49, frTr [(1, (.pointer (some ⟨1, 0, none⟩))), (3, (.pointer (some ⟨2, 0, none⟩)))] .nil⟩ : Fr) [(6, (.slice none 0 0))])) (H' := (⟨8, objTr [(.cells tab0 true false []), (.cells [(.int .i64 z1459), (Sl.v 1 s1460), (Sl.v 1 s1461)] false false []), (.cells [(.slice (some ⟨3, 0, some 1⟩) n1462 c1463), (.slice (some ⟨4, 0, some 1⟩) n1464 c1465), (.slice (some ⟨5, 0, some 1⟩) n1466 c1467), (.slice (some ⟨6, 0, some 1⟩) n1468 c1469), (.slice (some ⟨7, 0, some 1⟩) n1470 c1471)] false false []), (.cells q1472 false false []), (.cells q1473 false false []), (.cells q1474 false false []), (.cells q1475 false false []), (.cells q1476 false false [])] 0 .nil, true⟩ : AHeap)) (by kernel_rfl) ?_
    have hq := bb_inv hm; clear hm; obtain ⟨h1477, hm⟩ := hq
    have hq := bb_inv hm; clear hm; obtain ⟨h1478, hm⟩ := hq
    have hq := bb_inv hm; clear hm; obtain ⟨h1479, hm⟩ := hq
    have hq := bb_inv hm; clear hm; obtain ⟨h1480, hm⟩ := hq
    have hq := bb_inv hm; clear hm; obtain ⟨h1481, hm⟩ := hq
    refine .ghs (⟨49, frTr [(1, (.pointer (some ⟨1, 0, none⟩))), (3, (.pointer (some ⟨2, 0, none⟩))), (6, (.slice none 0 0))] .nil⟩ : Fr) (⟨8, objTr [(.cells tab0 true false []), (.cells [(.int .i64 z1459), (Sl.v 1 s1460), (Sl.v 1 s1461)] false false []), (.cells [(.slice (some ⟨3, 0, some 1⟩) n1462 c1463), (.slice (some ⟨4, 0, some 1⟩) n1464 c1465), (.slice (some ⟨5, 0, some 1⟩) n1466 c1467), (.slice (some ⟨6, 0, some 1⟩) n1468 c1469), (.slice (some ⟨7, 0, some 1⟩) n1470 c1471)] false false []), (.cells q1472 false false []), (.cells q1473 false false []), (.cells q1474 false false []), (.cells q1475 false false []), (.cells q1476 false false [])] 0 .nil, true⟩ : AHeap) (.gc [3, 4, 5, 6, 7] [false] [.tmp 1 false, .tmp 3 true, .cell 2 0 false, .cell 2 1 false, .cell 2 2 false, .cell 2 3 false, .cell 2 4 false] [1, 3, 6] (by kernel_rfl) ⟨trE (by kernel_rfl) h1477, trE (by kernel_rfl) h1478, trE (by kernel_rfl) h1479, trE (by kernel_rfl) h1480, trE (by kernel_rfl) h1481, trivial⟩ (by kernel_rfl)) ?_
    refine .join (v := v) (fun y : Nat × Nat × List Value => ((⟨49, frTr [(6, (.slice (some ⟨1, 0, some 1⟩) y.1 y.2.1))] .nil⟩ : Fr), (⟨2, objTr [(.cells tab0 true false []), (.cells y.2.2 false false [])] 0 .nil, true⟩ : AHeap))) (fun y => m69_1 pu n y.1 y.2.1 y.2.2) ?_ ?_
    · rintro ⟨n1811, c1812, q1813⟩ hm
      unfold m69_1 at hm
      refine .then ?_
      refine .reg (F' := (Fr.puts (⟨49, frTr [(6, (.slice (some ⟨1, 0, some 1⟩) n1811 c1812))] .nil⟩ : Fr) [(48, (.slice (some ⟨1, 0, some 1⟩) n1811 c1812)), (2, (.slice (some ⟨1, 0, some 1⟩) n1811 c1812))])) (H' := (⟨2, objTr [(.cells tab0 true false []), (.cells q1813 false false [])] 0 .nil, true⟩ : AHeap)) (by kernel_rfl) ?_
      have hq := bb_inv hm; clear hm; obtain ⟨h1814, hm⟩ := hq
      refine .ghs (⟨49, frTr [(2, (.slice (some ⟨1, 0, some 1⟩) n1811 c1812))] .nil⟩ : Fr) (⟨2, objTr [(.cells tab0 true false []), (.cells q1813 false false [])] 0 .nil, true⟩ : AHeap) (.gc [1] [false] [.tmp 2 false] [2] (by kernel_rfl) ⟨trE (by kernel_rfl) h1814, trivial⟩ (by kernel_rfl)) ?_
      have hq := bb_inv hm; clear hm; obtain ⟨h1815, hm⟩ := hq
      refine .ghs (Fr.puts (⟨49, frTr [(2, (.slice (some ⟨1, 0, some 1⟩) n1811 c1812))] .nil⟩ : Fr) [(2, (Sl.v 1 (Sl.mk n1811 0 (takeL (n1811 * 1) (dropL 0 q1813)))))]) (⟨2, objTr [(.cells tab0 true false []), .dead] 0 .nil, true⟩ : AHeap) (.freezeC 1 2 1 (an (Nat.ble (0 + n1811 * 1) (len q1813)) (allL closed1 (takeL (n1811 * 1) (dropL 0 q1813)))) (F1 := (Fr.puts (⟨49, frTr [(2, (.slice (some ⟨1, 0, some 1⟩) n1811 c1812))] .nil⟩ : Fr) [(2, (Sl.v 1 (Sl.mk n1811 0 (takeL (n1811 * 1) (dropL 0 q1813)))))])) (H1 := (⟨2, objTr [(.cells tab0 true false []), .dead] 0 .nil, true⟩ : AHeap)) (by kernel_rfl) (by kernel_rfl) h1815 (GhS.id _ _)) ?_
      refine .ret ?_
      exact fin_ret (Sl.v 1 (Sl.mk n1811 0 (takeL (n1811 * 1) (dropL 0 q1813)))) (by kernel_rfl) (by kernel_rfl) hm
    · skip
      refine .then ?_
      refine .reg (F' := (Fr.puts (⟨49, frTr [(1, (.pointer (some ⟨1, 0, none⟩))), (3, (.pointer (some ⟨2, 0, none⟩))), (6, (.slice none 0 0))] .nil⟩ : Fr) [(26, (.pointer (some ⟨1, 2, none⟩))), (27, (Sl.v 1 s1461)), (28, (.int .i64 (Int.ofNat (Sl.n s1461)))), (29, (.int .i64 (0 : Int)))])) (H' := (⟨8, objTr [(.cells tab0 true false []), (.cells [(.int .i64 z1459), (Sl.v 1 s1460), (Sl.v 1 s1461)] false false []), (.cells [(.slice (some ⟨3, 0, some 1⟩) n1462 c1463), (.slice (some ⟨4, 0, some 1⟩) n1464 c1465), (.slice (some ⟨5, 0, some 1⟩) n1466 c1467), (.slice (some ⟨6, 0, some 1⟩) n1468 c1469), (.slice (some ⟨7, 0, some 1⟩) n1470 c1471)] false false []), (.cells q1472 false false []), (.cells q1473 false false []), (.cells q1474 false false []), (.cells q1475 false false []), (.cells q1476 false false [])] 0 .nil, true⟩ : AHeap)) (by kernel_rfl) ?_
      refine .ghs (⟨49, frTr [(3, (.pointer (some ⟨1, 0, none⟩))), (6, (.slice none 0 0)), (27, (Sl.v 1 s1461)), (28, (.int .i64 (Int.ofNat (Sl.n s1461)))), (29, (.int .i64 (0 : Int)))] .nil⟩ : Fr) (⟨7, objTr [(.cells tab0 true false []), (.cells [(.slice (some ⟨2, 0, some 1⟩) n1462 c1463), (.slice (some ⟨3, 0, some 1⟩) n1464 c1465), (.slice (some ⟨4, 0, some 1⟩) n1466 c1467), (.slice (some ⟨5, 0, some 1⟩) n1468 c1469), (.slice (some ⟨6, 0, some 1⟩) n1470 c1471)] false false []), (.cells q1472 false false []), (.cells q1473 false false []), (.cells q1474 false false []), (.cells q1475 false false []), (.cells q1476 false false [])] 0 .nil, true⟩ : AHeap) (.gc [3, 4, 5, 6, 7] [false] [.tmp 3 true, .cell 1 0 false, .cell 1 1 false, .cell 1 2 false, .cell 1 3 false, .cell 1 4 false] [3, 6, 27, 28, 29] (by kernel_rfl) ⟨trE (by kernel_rfl) h1477, trE (by kernel_rfl) h1478, trE (by kernel_rfl) h1479, trE (by kernel_rfl) h1480, trE (by kernel_rfl) h1481, trivial⟩ (by kernel_rfl)) ?_
      refine .block ?_
      refine .loopM (v := v) (fun y : Nat × Nat × Sl × Int × Int × Nat × Nat × Nat × Nat × Nat × Nat × Nat × Nat × Nat × Nat × Nat × Nat × Nat × Nat × Nat × List Value × List Value × List Value × List Value × List Value × List Value => ((⟨49, frTr [(3, (.pointer (some ⟨1, 0, none⟩))), (6, (.slice (some ⟨2, 0, some 1⟩) y.1 y.2.1)), (27, (Sl.v 1 y.2.2.1)), (28, (.int .i64 y.2.2.2.1)), (29, (.int .i64 y.2.2.2.2.1))] .nil⟩ : Fr), (⟨8, objTr [(.cells tab0 true false []), (.cells [(.slice (some ⟨3, y.2.2.2.2.2.1, some 1⟩) y.2.2.2.2.2.2.1 y.2.2.2.2.2.2.2.1), (.slice (some ⟨4, y.2.2.2.2.2.2.2.2.1, some 1⟩) y.2.2.2.2.2.2.2.2.2.1 y.2.2.2.2.2.2.2.2.2.2.1), (.slice (some ⟨5, y.2.2.2.2.2.2.2.2.2.2.2.1, some 1⟩) y.2.2.2.2.2.2.2.2.2.2.2.2.1 y.2.2.2.2.2.2.2.2.2.2.2.2.2.1), (.slice (some ⟨6, y.2.2.2.2.2.2.2.2.2.2.2.2.2.2.1, some 1⟩) y.2.2.2.2.2.2.2.2.2.2.2.2.2.2.2.1 y.2.2.2.2.2.2.2.2.2.2.2.2.2.2.2.2.1), (.slice (some ⟨7, y.2.2.2.2.2.2.2.2.2.2.2.2.2.2.2.2.2.1, some 1⟩) y.2.2.2.2.2.2.2.2.2.2.2.2.2.2.2.2.2.2.1 y.2.2.2.2.2.2.2.2.2.2.2.2.2.2.2.2.2.2.2.1)] false false []), (.cells y.2.2.2.2.2.2.2.2.2.2.2.2.2.2.2.2.2.2.2.2.1 false false []), (.cells y.2.2.2.2.2.2.2.2.2.2.2.2.2.2.2.2.2.2.2.2.2.1 false false []), (.cells y.2.2.2.2.2.2.2.2.2.2.2.2.2.2.2.2.2.2.2.2.2.2.1 false false []), (.cells y.2.2.2.2.2.2.2.2.2.2.2.2.2.2.2.2.2.2.2.2.2.2.2.1 false false []), (.cells y.2.2.2.2.2.2.2.2.2.2.2.2.2.2.2.2.2.2.2.2.2.2.2.2.1 false false []), (.cells y.2.2.2.2.2.2.2.2.2.2.2.2.2.2.2.2.2.2.2.2.2.2.2.2.2 false false [])] 0 .nil, true⟩ : AHeap))) (fun w y => l69_2 pu n w y.1 y.2.1 y.2.2.1 y.2.2.2.1 y.2.2.2.2.1 y.2.2.2.2.2.1 y.2.2.2.2.2.2.1 y.2.2.2.2.2.2.2.1 y.2.2.2.2.2.2.2.2.1 y.2.2.2.2.2.2.2.2.2.1 y.2.2.2.2.2.2.2.2.2.2.1 y.2.2.2.2.2.2.2.2.2.2.2.1 y.2.2.2.2.2.2.2.2.2.2.2.2.1 y.2.2.2.2.2.2.2.2.2.2.2.2.2.1 y.2.2.2.2.2.2.2.2.2.2.2.2.2.2.1 y.2.2.2.2.2.2.2.2.2.2.2.2.2.2.2.1 y.2.2.2.2.2.2.2.2.2.2.2.2.2.2.2.2.1 y.2.2.2.2.2.2.2.2.2.2.2.2.2.2.2.2.2.1 y.2.2.2.2.2.2.2.2.2.2.2.2.2.2.2.2.2.2.1 y.2.2.2.2.2.2.2.2.2.2.2.2.2.2.2.2.2.2.2.1 y.2.2.2.2.2.2.2.2.2.2.2.2.2.2.2.2.2.2.2.2.1 y.2.2.2.2.2.2.2.2.2.2.2.2.2.2.2.2.2.2.2.2.2.1 y.2.2.2.2.2.2.2.2.2.2.2.2.2.2.2.2.2.2.2.2.2.2.1 y.2.2.2.2.2.2.2.2.2.2.2.2.2.2.2.2.2.2.2.2.2.2.2.1 y.2.2.2.2.2.2.2.2.2.2.2.2.2.2.2.2.2.2.2.2.2.2.2.2.1 y.2.2.2.2.2.2.2.2.2.2.2.2.2.2.2.2.2.2.2.2.2.2.2.2.2) n ⟨(0, 0, s1461, (Int.ofNat (Sl.n s1461)), (0 : Int), 0, n1462, c1463, 0, n1464, c1465, 0, n1466, c1467, 0, n1468, c1469, 0, n1470, c1471, ([] : List Value), q1472, q1473, q1474, q1475, q1476), hm, (.thaw 6 1 (by kernel_rfl) (.gc [2, 3, 4, 5, 6] [false] [.tmp 3 true, .tmp 6 false, .cell 1 0 false, .cell 1 1 false, .cell 1 2 false, .cell 1 3 false, .cell 1 4 false] [3, 6, 27, 28, 29] (by kernel_rfl) ⟨trE (by kernel_rfl) h1477, trE (by kernel_rfl) h1478, trE (by kernel_rfl) h1479, trE (by kernel_rfl) h1480, trE (by kernel_rfl) h1481, trivial⟩ (by kernel_rfl)))⟩ (fun _ => rfl) ?_
      rintro w0 ⟨n2086, c2087, s2088, z2089, z2090, n2091, n2092, c2093, n2094, n2095, c2096, n2097, n2098, c2099, n2100, n2101, c2102, n2103, n2104, c2105, q2106, q2107, q2108, q2109, q2110, q2111⟩ hm
      refine .then ?_
      refine .reg (F' := (Fr.puts (⟨49, frTr [(3, (.pointer (some ⟨1, 0, none⟩))), (6, (.slice (some ⟨2, 0, some 1⟩) n2086 c2087)), (27, (Sl.v 1 s2088)), (28, (.int .i64 z2089)), (29, (.int .i64 z2090))] .nil⟩ : Fr) [(30, (.bool (ilt z2090 z2089)))])) (H' := (⟨8, objTr [(.cells tab0 true false []), (.cells [(.slice (some ⟨3, n2091, some 1⟩) n2092 c2093), (.slice (some ⟨4, n2094, some 1⟩) n2095 c2096), (.slice (some ⟨5, n2097, some 1⟩) n2098 c2099), (.slice (some ⟨6, n2100, some 1⟩) n2101 c2102), (.slice (some ⟨7, n2103, some 1⟩) n2104 c2105)] false false []), (.cells q2106 false false []), (.cells q2107 false false []), (.cells q2108 false false []), (.cells q2109 false false []), (.cells q2110 false false []), (.cells q2111 false false [])] 0 .nil, true⟩ : AHeap)) (by kernel_rfl) ?_
      have hq := bb_inv hm; clear hm; obtain ⟨h2112, hm⟩ := hq
      have hq := bb_inv hm; clear hm; obtain ⟨h2113, hm⟩ := hq
      have hq := bb_inv hm; clear hm; obtain ⟨h2114, hm⟩ := hq
      have hq := bb_inv hm; clear hm; obtain ⟨h2115, hm⟩ := hq
      have hq := bb_inv hm; clear hm; obtain ⟨h2116, hm⟩ := hq
      have hq := bb_inv hm; clear hm; obtain ⟨h2117, hm⟩ := hq
      refine .ghs (⟨49, frTr [(3, (.pointer (some ⟨1, 0, none⟩))), (6, (.slice (some ⟨2, 0, some 1⟩) n2086 c2087)), (27, (Sl.v 1 s2088)), (28, (.int .i64 z2089)), (29, (.int .i64 z2090)), (30, (.bool (ilt z2090 z2089)))] .nil⟩ : Fr) (⟨8, objTr [(.cells tab0 true false []), (.cells [(.slice (some ⟨3, n2091, some 1⟩) n2092 c2093), (.slice (some ⟨4, n2094, some 1⟩) n2095 c2096), (.slice (some ⟨5, n2097, some 1⟩) n2098 c2099), (.slice (some ⟨6, n2100, some 1⟩) n2101 c2102), (.slice (some ⟨7, n2103, some 1⟩) n2104 c2105)] false false []), (.cells q2106 false false []), (.cells q2107 false false []), (.cells q2108 false false []), (.cells q2109 false false []), (.cells q2110 false false []), (.cells q2111 false false [])] 0 .nil, true⟩ : AHeap) (.gc [2, 3, 4, 5, 6, 7] [false] [.tmp 3 true, .tmp 6 false, .cell 1 0 false, .cell 1 1 false, .cell 1 2 false, .cell 1 3 false, .cell 1 4 false] [3, 6, 27, 28, 29, 30] (by kernel_rfl) ⟨trE (by kernel_rfl) h2112, trE (by kernel_rfl) h2113, trE (by kernel_rfl) h2114, trE (by kernel_rfl) h2115, trE (by kernel_rfl) h2116, trE (by kernel_rfl) h2117, trivial⟩ (by kernel_rfl)) ?_
      refine .then ?_
      have hq := bb_cases hm; clear hm; rcases hq with ⟨h2118, hm⟩ | ⟨h2118, hm⟩
      · refine .ifT (ilt z2090 z2089) (by kernel_rfl) h2118 ?_
        refine .skip ?_
        refine .ghs (⟨49, frTr [(3, (.pointer (some ⟨1, 0, none⟩))), (6, (.slice (some ⟨2, 0, some 1⟩) n2086 c2087)), (27, (Sl.v 1 s2088)), (28, (.int .i64 z2089)), (29, (.int .i64 z2090))] .nil⟩ : Fr) (⟨8, objTr [(.cells tab0 true false []), (.cells [(.slice (some ⟨3, n2091, some 1⟩) n2092 c2093), (.slice (some ⟨4, n2094, some 1⟩) n2095 c2096), (.slice (some ⟨5, n2097, some 1⟩) n2098 c2099), (.slice (some ⟨6, n2100, some 1⟩) n2101 c2102), (.slice (some ⟨7, n2103, some 1⟩) n2104 c2105)] false false []), (.cells q2106 false false []), (.cells q2107 false false []), (.cells q2108 false false []), (.cells q2109 false false []), (.cells q2110 false false []), (.cells q2111 false false [])] 0 .nil, true⟩ : AHeap) (.gc [2, 3, 4, 5, 6, 7] [false] [.tmp 3 true, .tmp 6 false, .cell 1 0 false, .cell 1 1 false, .cell 1 2 false, .cell 1 3 false, .cell 1 4 false] [3, 6, 27, 28, 29] (by kernel_rfl) ⟨trE (by kernel_rfl) h2112, trE (by kernel_rfl) h2113, trE (by kernel_rfl) h2114, trE (by kernel_rfl) h2115, trE (by kernel_rfl) h2116, trE (by kernel_rfl) h2117, trivial⟩ (by kernel_rfl)) ?_
        refine .then ?_
        refine .block ?_
        refine .then ?_
        have hq := oo_inv hm; clear hm; obtain ⟨k2119, h2120, hm⟩ := hq
        obtain rfl := toN_some h2120
        have hq := bb_inv hm; clear hm; obtain ⟨h2121, hm⟩ := hq
        have hq := oo_inv hm; clear hm; obtain ⟨v2122, h2123, hm⟩ := hq
        have hq := oo_inv hm; clear hm; obtain ⟨x2124, h2125, hm⟩ := hq
        obtain rfl := toI_some h2125
        refine .reg (F' := (Fr.puts (⟨49, frTr [(3, (.pointer (some ⟨1, 0, none⟩))), (6, (.slice (some ⟨2, 0, some 1⟩) n2086 c2087)), (27, (Sl.v 1 s2088)), (28, (.int .i64 z2089)), (29, (.int .i64 (Int.ofNat k2119)))] .nil⟩ : Fr) [(31, (fpV (k2119 * 1) (Sl.cs s2088))), (32, (.int .i64 x2124)), (8, (.int .i64 x2124))])) (H' := (⟨8, objTr [(.cells tab0 true false []), (.cells [(.slice (some ⟨3, n2091, some 1⟩) n2092 c2093), (.slice (some ⟨4, n2094, some 1⟩) n2095 c2096), (.slice (some ⟨5, n2097, some 1⟩) n2098 c2099), (.slice (some ⟨6, n2100, some 1⟩) n2101 c2102), (.slice (some ⟨7, n2103, some 1⟩) n2104 c2105)] false false []), (.cells q2106 false false []), (.cells q2107 false false []), (.cells q2108 false false []), (.cells q2109 false false []), (.cells q2110 false false []), (.cells q2111 false false [])] 0 .nil, true⟩ : AHeap)) (evOps_data (keep (⟨8, objTr [(.cells tab0 true false []), (.cells [(.slice (some ⟨3, n2091, some 1⟩) n2092 c2093), (.slice (some ⟨4, n2094, some 1⟩) n2095 c2096), (.slice (some ⟨5, n2097, some 1⟩) n2098 c2099), (.slice (some ⟨6, n2100, some 1⟩) n2101 c2102), (.slice (some ⟨7, n2103, some 1⟩) n2104 c2105)] false false []), (.cells q2106 false false []), (.cells q2107 false false []), (.cells q2108 false false []), (.cells q2109 false false []), (.cells q2110 false false []), (.cells q2111 false false [])] 0 .nil, true⟩ : AHeap) (bb (an (Nat.blt k2119 (Sl.n s2088)) true) (some (fpV (k2119 * 1) (Sl.cs s2088))) none)) (by kernel_rfl) (keep_bb h2121) (okAt_of (by kernel_rfl) (by kernel_rfl)) (evOps_data (keep (⟨8, objTr [(.cells tab0 true false []), (.cells [(.slice (some ⟨3, n2091, some 1⟩) n2092 c2093), (.slice (some ⟨4, n2094, some 1⟩) n2095 c2096), (.slice (some ⟨5, n2097, some 1⟩) n2098 c2099), (.slice (some ⟨6, n2100, some 1⟩) n2101 c2102), (.slice (some ⟨7, n2103, some 1⟩) n2104 c2105)] false false []), (.cells q2106 false false []), (.cells q2107 false false []), (.cells q2108 false false []), (.cells q2109 false false []), (.cells q2110 false false []), (.cells q2111 false false [])] 0 .nil, true⟩ : AHeap) (nthL (Sl.cs s2088) (k2119 * 1))) (by kernel_rfl) (keep_eq h2123) (okAt_of (by kernel_rfl) (by kernel_rfl)) (by kernel_rfl))) ?_
        refine .ghs (⟨49, frTr [(3, (.pointer (some ⟨1, 0, none⟩))), (6, (.slice (some ⟨2, 0, some 1⟩) n2086 c2087)), (8, (.int .i64 x2124)), (27, (Sl.v 1 s2088)), (28, (.int .i64 z2089)), (29, (.int .i64 (Int.ofNat k2119)))] .nil⟩ : Fr) (⟨8, objTr [(.cells tab0 true false []), (.cells [(.slice (some ⟨3, n2091, some 1⟩) n2092 c2093), (.slice (some ⟨4, n2094, some 1⟩) n2095 c2096), (.slice (some ⟨5, n2097, some 1⟩) n2098 c2099), (.slice (some ⟨6, n2100, some 1⟩) n2101 c2102), (.slice (some ⟨7, n2103, some 1⟩) n2104 c2105)] false false []), (.cells q2106 false false []), (.cells q2107 false false []), (.cells q2108 false false []), (.cells q2109 false false []), (.cells q2110 false false []), (.cells q2111 false false [])] 0 .nil, true⟩ : AHeap) (.gc [2, 3, 4, 5, 6, 7] [false] [.tmp 3 true, .tmp 6 false, .cell 1 0 false, .cell 1 1 false, .cell 1 2 false, .cell 1 3 false, .cell 1 4 false] [3, 6, 8, 27, 28, 29] (by kernel_rfl) ⟨trE (by kernel_rfl) h2112, trE (by kernel_rfl) h2113, trE (by kernel_rfl) h2114, trE (by kernel_rfl) h2115, trE (by kernel_rfl) h2116, trE (by kernel_rfl) h2117, trivial⟩ (by kernel_rfl)) ?_
        have hq := oo_inv hm; clear hm; obtain ⟨k2126, h2127, hm⟩ := hq
        obtain rfl := toN_some h2127
        have hq := bb_cases hm; clear hm; rcases hq with ⟨h2128, hm⟩ | ⟨h2128, hm⟩
        · skip
          obtain rfl := Nat.eq_of_beq_eq_true h2128
          have hq := bb_inv hm; clear hm; obtain ⟨h2129, hm⟩ := hq
          have hq := oo_inv hm; clear hm; obtain ⟨v2130, h2131, hm⟩ := hq
          have hq := oo_inv hm; clear hm; obtain ⟨x2132, h2133, hm⟩ := hq
          obtain rfl := toI_some h2133
          have hq := bb_inv hm; clear hm; obtain ⟨h2134, hm⟩ := hq
          have hq := bb_inv hm; clear hm; obtain ⟨h2135, hm⟩ := hq
          refine .reg (F' := (Fr.puts (⟨49, frTr [(3, (.pointer (some ⟨1, 0, none⟩))), (6, (.slice (some ⟨2, 0, some 1⟩) n2086 c2087)), (8, (.int .i64 (Int.ofNat 0))), (27, (Sl.v 1 s2088)), (28, (.int .i64 z2089)), (29, (.int .i64 (Int.ofNat k2119)))] .nil⟩ : Fr) [(33, (.int .i64 (Int.ofNat 0))), (34, (.slice (some ⟨2, 0, some 1⟩) n2086 c2087)), (35, (.int .i64 (Int.ofNat 0))), (36, (.pointer (some ⟨1, 0, none⟩))), (37, (.slice (some ⟨3, n2091, some 1⟩) n2092 c2093)), (38, (.pointer (some ⟨3, (n2091 + 0 * 1), none⟩))), (39, (.int .i64 x2132)), (40, (.slice (some ⟨8, 0, some 1⟩) 1 3)), (42, (.int .i64 (Int.ofNat 0))), (43, (.pointer (some ⟨1, 0, none⟩))), (44, (.slice (some ⟨3, n2091, some 1⟩) n2092 c2093)), (45, (.slice (some ⟨3, (n2091 + 1 * 1), some 1⟩) (n2092 - 1) (2 * (c2093 / 2 - 1) + bb (orr false (Nat.beq (c2093 % 2) 1)) 1 0))), (41, (.slice (some ⟨9, 0, some 1⟩) (n2086 + 1) (2 * (n2086 + 1) + bb false 1 0))), (6, (.slice (some ⟨9, 0, some 1⟩) (n2086 + 1) (2 * (n2086 + 1) + bb false 1 0))), (46, (.pointer (some ⟨1, 0, none⟩)))])) (H' := (⟨10, objTr [(.cells tab0 true false []), (.cells [(.slice (some ⟨3, (n2091 + 1 * 1), some 1⟩) (n2092 - 1) (2 * (c2093 / 2 - 1) + bb (orr false (Nat.beq (c2093 % 2) 1)) 1 0)), (.slice (some ⟨4, n2094, some 1⟩) n2095 c2096), (.slice (some ⟨5, n2097, some 1⟩) n2098 c2099), (.slice (some ⟨6, n2100, some 1⟩) n2101 c2102), (.slice (some ⟨7, n2103, some 1⟩) n2104 c2105)] false false []), (.cells q2106 false true []), (.cells q2107 false false []), (.cells q2108 false false []), (.cells q2109 false false []), (.cells q2110 false false []), (.cells q2111 false false []), (.cells [(.int .i64 x2132)] false false []), (.cells (appL (dropL 0 q2106) [(.int .i64 x2132)]) false false [2])] 0 .nil, true⟩ : AHeap)) (evOps_cut 5 (by kernel_rfl) (evOps_data (keep (⟨8, objTr [(.cells tab0 true false []), (.cells [(.slice (some ⟨3, n2091, some 1⟩) n2092 c2093), (.slice (some ⟨4, n2094, some 1⟩) n2095 c2096), (.slice (some ⟨5, n2097, some 1⟩) n2098 c2099), (.slice (some ⟨6, n2100, some 1⟩) n2101 c2102), (.slice (some ⟨7, n2103, some 1⟩) n2104 c2105)] false false []), (.cells q2106 false false []), (.cells q2107 false false []), (.cells q2108 false false []), (.cells q2109 false false []), (.cells q2110 false false []), (.cells q2111 false false [])] 0 .nil, true⟩ : AHeap) (bb (an (Nat.blt 0 n2092) true) (some (.pointer (some ⟨3, (n2091 + 0 * 1), none⟩))) none)) (by kernel_rfl) (keep_bb h2129) (okAt_of (by kernel_rfl) (by kernel_rfl)) (evOps_data (keep (⟨8, objTr [(.cells tab0 true false []), (.cells [(.slice (some ⟨3, n2091, some 1⟩) n2092 c2093), (.slice (some ⟨4, n2094, some 1⟩) n2095 c2096), (.slice (some ⟨5, n2097, some 1⟩) n2098 c2099), (.slice (some ⟨6, n2100, some 1⟩) n2101 c2102), (.slice (some ⟨7, n2103, some 1⟩) n2104 c2105)] false false []), (.cells q2106 false false []), (.cells q2107 false false []), (.cells q2108 false false []), (.cells q2109 false false []), (.cells q2110 false false []), (.cells q2111 false false [])] 0 .nil, true⟩ : AHeap) (nthL q2107 (n2091 + 0 * 1))) (by kernel_rfl) (keep_eq h2131) (okAt_of (by kernel_rfl) (by kernel_rfl)) (evOps_cut 4 (by kernel_rfl) (evOps_data (keep (⟨9, objTr [(.cells tab0 true false []), (.cells [(.slice (some ⟨3, n2091, some 1⟩) n2092 c2093), (.slice (some ⟨4, n2094, some 1⟩) n2095 c2096), (.slice (some ⟨5, n2097, some 1⟩) n2098 c2099), (.slice (some ⟨6, n2100, some 1⟩) n2101 c2102), (.slice (some ⟨7, n2103, some 1⟩) n2104 c2105)] false false []), (.cells q2106 false false []), (.cells q2107 false false []), (.cells q2108 false false []), (.cells q2109 false false []), (.cells q2110 false false []), (.cells q2111 false false []), (.cells [(.int .i64 x2132)] false false [])] 0 .nil, true⟩ : AHeap) (oo (bb (Nat.ble 1 n2092) (some 1) none) none fun l => some (sliceAt 3 (n2091 + l * 1) 1 (n2092 - l) (c2093 / 2 - l) (orr false (Nat.beq (c2093 % 2) 1))))) (by kernel_rfl) (show _ = some ((.slice (some ⟨3, (n2091 + 1 * 1), some 1⟩) (n2092 - 1) (2 * (c2093 / 2 - 1) + bb (orr false (Nat.beq (c2093 % 2) 1)) 1 0)), (⟨9, objTr [(.cells tab0 true false []), (.cells [(.slice (some ⟨3, n2091, some 1⟩) n2092 c2093), (.slice (some ⟨4, n2094, some 1⟩) n2095 c2096), (.slice (some ⟨5, n2097, some 1⟩) n2098 c2099), (.slice (some ⟨6, n2100, some 1⟩) n2101 c2102), (.slice (some ⟨7, n2103, some 1⟩) n2104 c2105)] false false []), (.cells q2106 false false []), (.cells q2107 false false []), (.cells q2108 false false []), (.cells q2109 false false []), (.cells q2110 false false []), (.cells q2111 false false []), (.cells [(.int .i64 x2132)] false false [])] 0 .nil, true⟩ : AHeap)) from (keep_sl h2134).trans (by kernel_rfl)) (okAt_of (by kernel_rfl) (by kernel_rfl)) (evOps_data (growD 1 8 n2086 c2087 1 2 q2106 [(.int .i64 x2132)] [] (⟨9, objTr [(.cells tab0 true false []), (.cells [(.slice (some ⟨3, n2091, some 1⟩) n2092 c2093), (.slice (some ⟨4, n2094, some 1⟩) n2095 c2096), (.slice (some ⟨5, n2097, some 1⟩) n2098 c2099), (.slice (some ⟨6, n2100, some 1⟩) n2101 c2102), (.slice (some ⟨7, n2103, some 1⟩) n2104 c2105)] false false []), (.cells q2106 false false []), (.cells q2107 false false []), (.cells q2108 false false []), (.cells q2109 false false []), (.cells q2110 false false []), (.cells q2111 false false []), (.cells [(.int .i64 x2132)] false false [])] 0 .nil, true⟩ : AHeap)) (by kernel_rfl) (growD_eq h2135) (okAt_of (by kernel_rfl) (by kernel_rfl)) (by kernel_rfl))))))) ?_
          have hq := bb_inv hm; clear hm; obtain ⟨h2140, hm⟩ := hq
          refine .ghs (⟨49, frTr [(3, (.pointer (some ⟨1, 0, none⟩))), (6, (.slice (some ⟨2, 0, some 1⟩) (n2086 + 1) (2 * (n2086 + 1) + bb false 1 0))), (27, (Sl.v 1 s2088)), (28, (.int .i64 z2089)), (29, (.int .i64 (Int.ofNat k2119)))] .nil⟩ : Fr) (⟨8, objTr [(.cells tab0 true false []), (.cells [(.slice (some ⟨3, (n2091 + 1 * 1), some 1⟩) (n2092 - 1) (2 * (c2093 / 2 - 1) + bb (orr false (Nat.beq (c2093 % 2) 1)) 1 0)), (.slice (some ⟨4, n2094, some 1⟩) n2095 c2096), (.slice (some ⟨5, n2097, some 1⟩) n2098 c2099), (.slice (some ⟨6, n2100, some 1⟩) n2101 c2102), (.slice (some ⟨7, n2103, some 1⟩) n2104 c2105)] false false []), (.cells (appL (dropL 0 q2106) [(.int .i64 x2132)]) false false []), (.cells q2107 false false []), (.cells q2108 false false []), (.cells q2109 false false []), (.cells q2110 false false []), (.cells q2111 false false [])] 0 .nil, true⟩ : AHeap) (.gc [9, 3, 4, 5, 6, 7] [false] [.tmp 3 true, .tmp 6 false, .cell 1 0 false, .cell 1 1 false, .cell 1 2 false, .cell 1 3 false, .cell 1 4 false] [3, 6, 27, 28, 29] (by kernel_rfl) ⟨trE (by kernel_rfl) h2140, trE (by kernel_rfl) h2113, trE (by kernel_rfl) h2114, trE (by kernel_rfl) h2115, trE (by kernel_rfl) h2116, trE (by kernel_rfl) h2117, trivial⟩ (by kernel_rfl)) ?_
          refine .reg (F' := (Fr.puts (⟨49, frTr [(3, (.pointer (some ⟨1, 0, none⟩))), (6, (.slice (some ⟨2, 0, some 1⟩) (n2086 + 1) (2 * (n2086 + 1) + bb false 1 0))), (27, (Sl.v 1 s2088)), (28, (.int .i64 z2089)), (29, (.int .i64 (Int.ofNat k2119)))] .nil⟩ : Fr) [(47, (.int .i64 (wrapF .i64 (Int.add (Int.ofNat k2119) (1 : Int))))), (29, (.int .i64 (wrapF .i64 (Int.add (Int.ofNat k2119) (1 : Int)))))])) (H' := (⟨8, objTr [(.cells tab0 true false []), (.cells [(.slice (some ⟨3, (n2091 + 1 * 1), some 1⟩) (n2092 - 1) (2 * (c2093 / 2 - 1) + bb (orr false (Nat.beq (c2093 % 2) 1)) 1 0)), (.slice (some ⟨4, n2094, some 1⟩) n2095 c2096), (.slice (some ⟨5, n2097, some 1⟩) n2098 c2099), (.slice (some ⟨6, n2100, some 1⟩) n2101 c2102), (.slice (some ⟨7, n2103, some 1⟩) n2104 c2105)] false false []), (.cells (appL (dropL 0 q2106) [(.int .i64 x2132)]) false false []), (.cells q2107 false false []), (.cells q2108 false false []), (.cells q2109 false false []), (.cells q2110 false false []), (.cells q2111 false false [])] 0 .nil, true⟩ : AHeap)) (by kernel_rfl) ?_
          exact ⟨((n2086 + 1), (2 * (n2086 + 1) + bb false 1 0), s2088, z2089, (wrapF .i64 (Int.add (Int.ofNat k2119) (1 : Int))), (n2091 + 1 * 1), (n2092 - 1), (2 * (c2093 / 2 - 1) + bb (orr false (Nat.beq (c2093 % 2) 1)) 1 0), n2094, n2095, c2096, n2097, n2098, c2099, n2100, n2101, c2102, n2103, n2104, c2105, (appL (dropL 0 q2106) [(.int .i64 x2132)]), q2107, q2108, q2109, q2110, q2111), hm, (.gc [2, 3, 4, 5, 6, 7] [false] [.tmp 3 true, .tmp 6 false, .cell 1 0 false, .cell 1 1 false, .cell 1 2 false, .cell 1 3 false, .cell 1 4 false] [3, 6, 27, 28, 29] (by kernel_rfl) ⟨trE (by kernel_rfl) h2140, trE (by kernel_rfl) h2113, trE (by kernel_rfl) h2114, trE (by kernel_rfl) h2115, trE (by kernel_rfl) h2116, trE (by kernel_rfl) h2117, trivial⟩ (by kernel_rfl))⟩
        · skip
          have hq := bb_cases hm; clear hm; rcases hq with ⟨h2129, hm⟩ | ⟨h2129, hm⟩
          · skip
            obtain rfl := Nat.eq_of_beq_eq_true h2129
            have hq := bb_inv hm; clear hm; obtain ⟨h2130, hm⟩ := hq
            have hq := oo_inv hm; clear hm; obtain ⟨v2131, h2132, hm⟩ := hq
            have hq := oo_inv hm; clear hm; obtain ⟨x2133, h2134, hm⟩ := hq
            obtain rfl := toI_some h2134
            have hq := bb_inv hm; clear hm; obtain ⟨h2135, hm⟩ := hq
            have hq := bb_inv hm; clear hm; obtain ⟨h2136, hm⟩ := hq
            refine .reg (F' := (Fr.puts (⟨49, frTr [(3, (.pointer (some ⟨1, 0, none⟩))), (6, (.slice (some ⟨2, 0, some 1⟩) n2086 c2087)), (8, (.int .i64 (Int.ofNat 1))), (27, (Sl.v 1 s2088)), (28, (.int .i64 z2089)), (29, (.int .i64 (Int.ofNat k2119)))] .nil⟩ : Fr) [(33, (.int .i64 (Int.ofNat 1))), (34, (.slice (some ⟨2, 0, some 1⟩) n2086 c2087)), (35, (.int .i64 (Int.ofNat 1))), (36, (.pointer (some ⟨1, 1, none⟩))), (37, (.slice (some ⟨4, n2094, some 1⟩) n2095 c2096)), (38, (.pointer (some ⟨4, (n2094 + 0 * 1), none⟩))), (39, (.int .i64 x2133)), (40, (.slice (some ⟨8, 0, some 1⟩) 1 3)), (42, (.int .i64 (Int.ofNat 1))), (43, (.pointer (some ⟨1, 1, none⟩))), (44, (.slice (some ⟨4, n2094, some 1⟩) n2095 c2096)), (45, (.slice (some ⟨4, (n2094 + 1 * 1), some 1⟩) (n2095 - 1) (2 * (c2096 / 2 - 1) + bb (orr false (Nat.beq (c2096 % 2) 1)) 1 0))), (41, (.slice (some ⟨9, 0, some 1⟩) (n2086 + 1) (2 * (n2086 + 1) + bb false 1 0))), (6, (.slice (some ⟨9, 0, some 1⟩) (n2086 + 1) (2 * (n2086 + 1) + bb false 1 0))), (46, (.pointer (some ⟨1, 1, none⟩)))])) (H' := (⟨10, objTr [(.cells tab0 true false []), (.cells [(.slice (some ⟨3, n2091, some 1⟩) n2092 c2093), (.slice (some ⟨4, (n2094 + 1 * 1), some 1⟩) (n2095 - 1) (2 * (c2096 / 2 - 1) + bb (orr false (Nat.beq (c2096 % 2) 1)) 1 0)), (.slice (some ⟨5, n2097, some 1⟩) n2098 c2099), (.slice (some ⟨6, n2100, some 1⟩) n2101 c2102), (.slice (some ⟨7, n2103, some 1⟩) n2104 c2105)] false false []), (.cells q2106 false true []), (.cells q2107 false false []), (.cells q2108 false false []), (.cells q2109 false false []), (.cells q2110 false false []), (.cells q2111 false false []), (.cells [(.int .i64 x2133)] false false []), (.cells (appL (dropL 0 q2106) [(.int .i64 x2133)]) false false [2])] 0 .nil, true⟩ : AHeap)) (evOps_cut 5 (by kernel_rfl) (evOps_data (keep (⟨8, objTr [(.cells tab0 true false []), (.cells [(.slice (some ⟨3, n2091, some 1⟩) n2092 c2093), (.slice (some ⟨4, n2094, some 1⟩) n2095 c2096), (.slice (some ⟨5, n2097, some 1⟩) n2098 c2099), (.slice (some ⟨6, n2100, some 1⟩) n2101 c2102), (.slice (some ⟨7, n2103, some 1⟩) n2104 c2105)] false false []), (.cells q2106 false false []), (.cells q2107 false false []), (.cells q2108 false false []), (.cells q2109 false false []), (.cells q2110 false false []), (.cells q2111 false false [])] 0 .nil, true⟩ : AHeap) (bb (an (Nat.blt 0 n2095) true) (some (.pointer (some ⟨4, (n2094 + 0 * 1), none⟩))) none)) (by kernel_rfl) (keep_bb h2130) (okAt_of (by kernel_rfl) (by kernel_rfl)) (evOps_data (keep (⟨8, objTr [(.cells tab0 true false []), (.cells [(.slice (some ⟨3, n2091, some 1⟩) n2092 c2093), (.slice (some ⟨4, n2094, some 1⟩) n2095 c2096), (.slice (some ⟨5, n2097, some 1⟩) n2098 c2099), (.slice (some ⟨6, n2100, some 1⟩) n2101 c2102), (.slice (some ⟨7, n2103, some 1⟩) n2104 c2105)] false false []), (.cells q2106 false false []), (.cells q2107 false false []), (.cells q2108 false false []), (.cells q2109 false false []), (.cells q2110 false false []), (.cells q2111 false false [])] 0 .nil, true⟩ : AHeap) (nthL q2108 (n2094 + 0 * 1))) (by kernel_rfl) (keep_eq h2132) (okAt_of (by kernel_rfl) (by kernel_rfl)) (evOps_cut 4 (by kernel_rfl) (evOps_data (keep (⟨9, objTr [(.cells tab0 true false []), (.cells [(.slice (some ⟨3, n2091, some 1⟩) n2092 c2093), (.slice (some ⟨4, n2094, some 1⟩) n2095 c2096), (.slice (some ⟨5, n2097, some 1⟩) n2098 c2099), (.slice (some ⟨6, n2100, some 1⟩) n2101 c2102), (.slice (some ⟨7, n2103, some 1⟩) n2104 c2105)] false false []), (.cells q2106 false false []), (.cells q2107 false false []), (.cells q2108 false false []), (.cells q2109 false false []), (.cells q2110 false false []), (.cells q2111 false false []), (.cells [(.int .i64 x2133)] false false [])] 0 .nil, true⟩ : AHeap) (oo (bb (Nat.ble 1 n2095) (some 1) none) none fun l => some (sliceAt 4 (n2094 + l * 1) 1 (n2095 - l) (c2096 / 2 - l) (orr false (Nat.beq (c2096 % 2) 1))))) (by kernel_rfl) (show _ = some ((.slice (some ⟨4, (n2094 + 1 * 1), some 1⟩) (n2095 - 1) (2 * (c2096 / 2 - 1) + bb (orr false (Nat.beq (c2096 % 2) 1)) 1 0)), (⟨9, objTr [(.cells tab0 true false []), (.cells [(.slice (some ⟨3, n2091, some 1⟩) n2092 c2093), (.slice (some ⟨4, n2094, some 1⟩) n2095 c2096), (.slice (some ⟨5, n2097, some 1⟩) n2098 c2099), (.slice (some ⟨6, n2100, some 1⟩) n2101 c2102), (.slice (some ⟨7, n2103, some 1⟩) n2104 c2105)] false false []), (.cells q2106 false false []), (.cells q2107 false false []), (.cells q2108 false false []), (.cells q2109 false false []), (.cells q2110 false false []), (.cells q2111 false false []), (.cells [(.int .i64 x2133)] false false [])] 0 .nil, true⟩ : AHeap)) from (keep_sl h2135).trans (by kernel_rfl)) (okAt_of (by kernel_rfl) (by kernel_rfl)) (evOps_data (growD 1 8 n2086 c2087 1 2 q2106 [(.int .i64 x2133)] [] (⟨9, objTr [(.cells tab0 true false []), (.cells [(.slice (some ⟨3, n2091, some 1⟩) n2092 c2093), (.slice (some ⟨4, n2094, some 1⟩) n2095 c2096), (.slice (some ⟨5, n2097, some 1⟩) n2098 c2099), (.slice (some ⟨6, n2100, some 1⟩) n2101 c2102), (.slice (some ⟨7, n2103, some 1⟩) n2104 c2105)] false false []), (.cells q2106 false false []), (.cells q2107 false false []), (.cells q2108 false false []), (.cells q2109 false false []), (.cells q2110 false false []), (.cells q2111 false false []), (.cells [(.int .i64 x2133)] false false [])] 0 .nil, true⟩ : AHeap)) (by kernel_rfl) (growD_eq h2136) (okAt_of (by kernel_rfl) (by kernel_rfl)) (by kernel_rfl))))))) ?_
            have hq := bb_inv hm; clear hm; obtain ⟨h2141, hm⟩ := hq
            refine .ghs (⟨49, frTr [(3, (.pointer (some ⟨1, 0, none⟩))), (6, (.slice (some ⟨2, 0, some 1⟩) (n2086 + 1) (2 * (n2086 + 1) + bb false 1 0))), (27, (Sl.v 1 s2088)), (28, (.int .i64 z2089)), (29, (.int .i64 (Int.ofNat k2119)))] .nil⟩ : Fr) (⟨8, objTr [(.cells tab0 true false []), (.cells [(.slice (some ⟨3, n2091, some 1⟩) n2092 c2093), (.slice (some ⟨4, (n2094 + 1 * 1), some 1⟩) (n2095 - 1) (2 * (c2096 / 2 - 1) + bb (orr false (Nat.beq (c2096 % 2) 1)) 1 0)), (.slice (some ⟨5, n2097, some 1⟩) n2098 c2099), (.slice (some ⟨6, n2100, some 1⟩) n2101 c2102), (.slice (some ⟨7, n2103, some 1⟩) n2104 c2105)] false false []), (.cells (appL (dropL 0 q2106) [(.int .i64 x2133)]) false false []), (.cells q2107 false false []), (.cells q2108 false false []), (.cells q2109 false false []), (.cells q2110 false false []), (.cells q2111 false false [])] 0 .nil, true⟩ : AHeap) (.gc [9, 3, 4, 5, 6, 7] [false] [.tmp 3 true, .tmp 6 false, .cell 1 0 false, .cell 1 1 false, .cell 1 2 false, .cell 1 3 false, .cell 1 4 false] [3, 6, 27, 28, 29] (by kernel_rfl) ⟨trE (by kernel_rfl) h2141, trE (by kernel_rfl) h2113, trE (by kernel_rfl) h2114, trE (by kernel_rfl) h2115, trE (by kernel_rfl) h2116, trE (by kernel_rfl) h2117, trivial⟩ (by kernel_rfl)) ?_
            refine .reg (F' := (Fr.puts (⟨49, frTr [(3, (.pointer (some ⟨1, 0, none⟩))), (6, (.slice (some ⟨2, 0, some 1⟩) (n2086 + 1) (2 * (n2086 + 1) + bb false 1 0))), (27, (Sl.v 1 s2088)), (28, (.int .i64 z2089)), (29, (.int .i64 (Int.ofNat k2119)))] .nil⟩ : Fr) [(47, (.int .i64 (wrapF .i64 (Int.add (Int.ofNat k2119) (1 : Int))))), (29, (.int .i64 (wrapF .i64 (Int.add (Int.ofNat k2119) (1 : Int)))))])) (H' := (⟨8, objTr [(.cells tab0 true false []), (.cells [(.slice (some ⟨3, n2091, some 1⟩) n2092 c2093), (.slice (some ⟨4, (n2094 + 1 * 1), some 1⟩) (n2095 - 1) (2 * (c2096 / 2 - 1) + bb (orr false (Nat.beq (c2096 % 2) 1)) 1 0)), (.slice (some ⟨5, n2097, some 1⟩) n2098 c2099), (.slice (some ⟨6, n2100, some 1⟩) n2101 c2102), (.slice (some ⟨7, n2103, some 1⟩) n2104 c2105)] false false []), (.cells (appL (dropL 0 q2106) [(.int .i64 x2133)]) false false []), (.cells q2107 false false []), (.cells q2108 false false []), (.cells q2109 false false []), (.cells q2110 false false []), (.cells q2111 false false [])] 0 .nil, true⟩ : AHeap)) (by kernel_rfl) ?_
            exact ⟨((n2086 + 1), (2 * (n2086 + 1) + bb false 1 0), s2088, z2089, (wrapF .i64 (Int.add (Int.ofNat k2119) (1 : Int))), n2091, n2092, c2093, (n2094 + 1 * 1), (n2095 - 1), (2 * (c2096 / 2 - 1) + bb (orr false (Nat.beq (c2096 % 2) 1)) 1 0), n2097, n2098, c2099, n2100, n2101, c2102, n2103, n2104, c2105, (appL (dropL 0 q2106) [(.int .i64 x2133)]), q2107, q2108, q2109, q2110, q2111), hm, (.gc [2, 3, 4, 5, 6, 7] [false] [.tmp 3 true, .tmp 6 false, .cell 1 0 false, .cell 1 1 false, .cell 1 2 false, .cell 1 3 false, .cell 1 4 false] [3, 6, 27, 28, 29] (by kernel_rfl) ⟨trE (by kernel_rfl) h2141, trE (by kernel_rfl) h2113, trE (by kernel_rfl) h2114, trE (by kernel_rfl) h2115, trE (by kernel_rfl) h2116, trE (by kernel_rfl) h2117, trivial⟩ (by kernel_rfl))⟩
          · skip
            have hq := bb_cases hm; clear hm; rcases hq with ⟨h2130, hm⟩ | ⟨h2130, hm⟩
            · skip
              obtain rfl := Nat.eq_of_beq_eq_true h2130
              have hq := bb_inv hm; clear hm; obtain ⟨h2131, hm⟩ := hq
              have hq := oo_inv hm; clear hm; obtain ⟨v2132, h2133, hm⟩ := hq
              have hq := oo_inv hm; clear hm; obtain ⟨x2134, h2135, hm⟩ := hq
              obtain rfl := toI_some h2135
              have hq := bb_inv hm; clear hm; obtain ⟨h2136, hm⟩ := hq
              have hq := bb_inv hm; clear hm; obtain ⟨h2137, hm⟩ := hq
              refine .reg (F' := (Fr.puts (⟨49, frTr [(3, (.pointer (some ⟨1, 0, none⟩))), (6, (.slice (some ⟨2, 0, some 1⟩) n2086 c2087)), (8, (.int .i64 (Int.ofNat 2))), (27, (Sl.v 1 s2088)), (28, (.int .i64 z2089)), (29, (.int .i64 (Int.ofNat k2119)))] .nil⟩ : Fr) [(33, (.int .i64 (Int.ofNat 2))), (34, (.slice (some ⟨2, 0, some 1⟩) n2086 c2087)), (35, (.int .i64 (Int.ofNat 2))), (36, (.pointer (some ⟨1, 2, none⟩))), (37, (.slice (some ⟨5, n2097, some 1⟩) n2098 c2099)), (38, (.pointer (some ⟨5, (n2097 + 0 * 1), none⟩))), (39, (.int .i64 x2134)), (40, (.slice (some ⟨8, 0, some 1⟩) 1 3)), (42, (.int .i64 (Int.ofNat 2))), (43, (.pointer (some ⟨1, 2, none⟩))), (44, (.slice (some ⟨5, n2097, some 1⟩) n2098 c2099)), (45, (.slice (some ⟨5, (n2097 + 1 * 1), some 1⟩) (n2098 - 1) (2 * (c2099 / 2 - 1) + bb (orr false (Nat.beq (c2099 % 2) 1)) 1 0))), (41, (.slice (some ⟨9, 0, some 1⟩) (n2086 + 1) (2 * (n2086 + 1) + bb false 1 0))), (6, (.slice (some ⟨9, 0, some 1⟩) (n2086 + 1) (2 * (n2086 + 1) + bb false 1 0))), (46, (.pointer (some ⟨1, 2, none⟩)))])) (H' := (⟨10, objTr [(.cells tab0 true false []), (.cells [(.slice (some ⟨3, n2091, some 1⟩) n2092 c2093), (.slice (some ⟨4, n2094, some 1⟩) n2095 c2096), (.slice (some ⟨5, (n2097 + 1 * 1), some 1⟩) (n2098 - 1) (2 * (c2099 / 2 - 1) + bb (orr false (Nat.beq (c2099 % 2) 1)) 1 0)), (.slice (some ⟨6, n2100, some 1⟩) n2101 c2102), (.slice (some ⟨7, n2103, some 1⟩) n2104 c2105)] false false []), (.cells q2106 false true []), (.cells q2107 false false []), (.cells q2108 false false []), (.cells q2109 false false []), (.cells q2110 false false []), (.cells q2111 false false []), (.cells [(.int .i64 x2134)] false false []), (.cells (appL (dropL 0 q2106) [(.int .i64 x2134)]) false false [2])] 0 .nil, true⟩ : AHeap)) (evOps_cut 5 (by kernel_rfl) (evOps_data (keep (⟨8, objTr [(.cells tab0 true false []), (.cells [(.slice (some ⟨3, n2091, some 1⟩) n2092 c2093), (.slice (some ⟨4, n2094, some 1⟩) n2095 c2096), (.slice (some ⟨5, n2097, some 1⟩) n2098 c2099), (.slice (some ⟨6, n2100, some 1⟩) n2101 c2102), (.slice (some ⟨7, n2103, some 1⟩) n2104 c2105)] false false []), (.cells q2106 false false []), (.cells q2107 false false []), (.cells q2108 false false []), (.cells q2109 false false []), (.cells q2110 false false []), (.cells q2111 false false [])] 0 .nil, true⟩ : AHeap) (bb (an (Nat.blt 0 n2098) true) (some (.pointer (some ⟨5, (n2097 + 0 * 1), none⟩))) none)) (by kernel_rfl) (keep_bb h2131) (okAt_of (by kernel_rfl) (by kernel_rfl)) (evOps_data (keep (⟨8, objTr [(.cells tab0 true false []), (.cells [(.slice (some ⟨3, n2091, some 1⟩) n2092 c2093), (.slice (some ⟨4, n2094, some 1⟩) n2095 c2096), (.slice (some ⟨5, n2097, some 1⟩) n2098 c2099), (.slice (some ⟨6, n2100, some 1⟩) n2101 c2102), (.slice (some ⟨7, n2103, some 1⟩) n2104 c2105)] false false []), (.cells q2106 false false []), (.cells q2107 false false []), (.cells q2108 false false []), (.cells q2109 false false []), (.cells q2110 false false []), (.cells q2111 false false [])] 0 .nil, true⟩ : AHeap) (nthL q2109 (n2097 + 0 * 1))) (by kernel_rfl) (keep_eq h2133) (okAt_of (by kernel_rfl) (by kernel_rfl)) (evOps_cut 4 (by kernel_rfl) (evOps_data (keep (⟨9, objTr [(.cells tab0 true false []), (.cells [(.slice (some ⟨3, n2091, some 1⟩) n2092 c2093), (.slice (some ⟨4, n2094, some 1⟩) n2095 c2096), (.slice (some ⟨5, n2097, some 1⟩) n2098 c2099), (.slice (some ⟨6, n2100, some 1⟩) n2101 c2102), (.slice (some ⟨7, n2103, some 1⟩) n2104 c2105)] false false []), (.cells q2106 false false []), (.cells q2107 false false []), (.cells q2108 false false []), (.cells q2109 false false []), (.cells q2110 false false []), (.cells q2111 false false []), (.cells [(.int .i64 x2134)] false false [])] 0 .nil, true⟩ : AHeap) (oo (bb (Nat.ble 1 n2098) (some 1) none) none fun l => some (sliceAt 5 (n2097 + l * 1) 1 (n2098 - l) (c2099 / 2 - l) (orr false (Nat.beq (c2099 % 2) 1))))) (by kernel_rfl) (show _ = some ((.slice (some ⟨5, (n2097 + 1 * 1), some 1⟩) (n2098 - 1) (2 * (c2099 / 2 - 1) + bb (orr false (Nat.beq (c2099 % 2) 1)) 1 0)), (⟨9, objTr [(.cells tab0 true false []), (.cells [(.slice (some ⟨3, n2091, some 1⟩) n2092 c2093), (.slice (some ⟨4, n2094, some 1⟩) n2095 c2096), (.slice (some ⟨5, n2097, some 1⟩) n2098 c2099), (.slice (some ⟨6, n2100, some 1⟩) n2101 c2102), (.slice (some ⟨7, n2103, some 1⟩) n2104 c2105)] false false []), (.cells q2106 false false []), (.cells q2107 false false []), (.cells q2108 false false []), (.cells q2109 false false []), (.cells q2110 false false []), (.cells q2111 false false []), (.cells [(.int .i64 x2134)] false false [])] 0 .nil, true⟩ : AHeap)) from (keep_sl h2136).trans (by kernel_rfl)) (okAt_of (by kernel_rfl) (by kernel_rfl)) (evOps_data (growD 1 8 n2086 c2087 1 2 q2106 [(.int .i64 x2134)] [] (⟨9, objTr [(.cells tab0 true false []), (.cells [(.slice (some ⟨3, n2091, some 1⟩) n2092 c2093), (.slice (some ⟨4, n2094, some 1⟩) n2095 c2096), (.slice (some ⟨5, n2097, some 1⟩) n2098 c2099), (.slice (some ⟨6, n2100, some 1⟩) n2101 c2102), (.slice (some ⟨7, n2103, some 1⟩) n2104 c2105)] false false []), (.cells q2106 false false []), (.cells q2107 false false []), (.cells q2108 false false []), (.cells q2109 false false []), (.cells q2110 false false []), (.cells q2111 false false []), (.cells [(.int .i64 x2134)] false false [])] 0 .nil, true⟩ : AHeap)) (by kernel_rfl) (growD_eq h2137) (okAt_of (by kernel_rfl) (by kernel_rfl)) (by kernel_rfl))))))) ?_
              have hq := bb_inv hm; clear hm; obtain ⟨h2142, hm⟩ := hq
              refine .ghs (⟨49, frTr [(3, (.pointer (some ⟨1, 0, none⟩))), (6, (.slice (some ⟨2, 0, some 1⟩) (n2086 + 1) (2 * (n2086 + 1) + bb false 1 0))), (27, (Sl.v 1 s2088)), (28, (.int .i64 z2089)), (29, (.int .i64 (Int.ofNat k2119)))] .nil⟩ : Fr) (⟨8, objTr [(.cells tab0 true false []), (.cells [(.slice (some ⟨3, n2091, some 1⟩) n2092 c2093), (.slice (some ⟨4, n2094, some 1⟩) n2095 c2096), (.slice (some ⟨5, (n2097 + 1 * 1), some 1⟩) (n2098 - 1) (2 * (c2099 / 2 - 1) + bb (orr false (Nat.beq (c2099 % 2) 1)) 1 0)), (.slice (some ⟨6, n2100, some 1⟩) n2101 c2102), (.slice (some ⟨7, n2103, some 1⟩) n2104 c2105)] false false []), (.cells (appL (dropL 0 q2106) [(.int .i64 x2134)]) false false []), (.cells q2107 false false []), (.cells q2108 false false []), (.cells q2109 false false []), (.cells q2110 false false []), (.cells q2111 false false [])] 0 .nil, true⟩ : AHeap) (.gc [9, 3, 4, 5, 6, 7] [false] [.tmp 3 true, .tmp 6 false, .cell 1 0 false, .cell 1 1 false, .cell 1 2 false, .cell 1 3 false, .cell 1 4 false] [3, 6, 27, 28, 29] (by kernel_rfl) ⟨trE (by kernel_rfl) h2142, trE (by kernel_rfl) h2113, trE (by kernel_rfl) h2114, trE (by kernel_rfl) h2115, trE (by kernel_rfl) h2116, trE (by kernel_rfl) h2117, trivial⟩ (by kernel_rfl)) ?_
              refine .reg (F' := (Fr.puts (⟨49, frTr [(3, (.pointer (some ⟨1, 0, none⟩))), (6, (.slice (some ⟨2, 0, some 1⟩) (n2086 + 1) (2 * (n2086 + 1) + bb false 1 0))), (27, (Sl.v 1 s2088)), (28, (.int .i64 z2089)), (29, (.int .i64 (Int.ofNat k2119)))] .nil⟩ : Fr) [(47, (.int .i64 (wrapF .i64 (Int.add (Int.ofNat k2119) (1 : Int))))), (29, (.int .i64 (wrapF .i64 (Int.add (Int.ofNat k2119) (1 : Int)))))])) (H' := (⟨8, objTr [(.cells tab0 true false []), (.cells [(.slice (some ⟨3, n2091, some 1⟩) n2092 c2093), (.slice (some ⟨4, n2094, some 1⟩) n2095 c2096), (.slice (some ⟨5, (n2097 + 1 * 1), some 1⟩) (n2098 - 1) (2 * (c2099 / 2 - 1) + bb (orr false (Nat.beq (c2099 % 2) 1)) 1 0)), (.slice (some ⟨6, n2100, some 1⟩) n2101 c2102), (.slice (some ⟨7, n2103, some 1⟩) n2104 c2105)] false false []), (.cells (appL (dropL 0 q2106) [(.int .i64 x2134)]) false false []), (.cells q2107 false false []), (.cells q2108 false false []), (.cells q2109 false false []), (.cells q2110 false false []), (.cells q2111 false false [])] 0 .nil, true⟩ : AHeap)) (by kernel_rfl) ?_
              exact ⟨((n2086 + 1), (2 * (n2086 + 1) + bb false 1 0), s2088, z2089, (wrapF .i64 (Int.add (Int.ofNat k2119) (1 : Int))), n2091, n2092, c2093, n2094, n2095, c2096, (n2097 + 1 * 1), (n2098 - 1), (2 * (c2099 / 2 - 1) + bb (orr false (Nat.beq (c2099 % 2) 1)) 1 0), n2100, n2101, c2102, n2103, n2104, c2105, (appL (dropL 0 q2106) [(.int .i64 x2134)]), q2107, q2108, q2109, q2110, q2111), hm, (.gc [2, 3, 4, 5, 6, 7] [false] [.tmp 3 true, .tmp 6 false, .cell 1 0 false, .cell 1 1 false, .cell 1 2 false, .cell 1 3 false, .cell 1 4 false] [3, 6, 27, 28, 29] (by kernel_rfl) ⟨trE (by kernel_rfl) h2142, trE (by kernel_rfl) h2113, trE (by kernel_rfl) h2114, trE (by kernel_rfl) h2115, trE (by kernel_rfl) h2116, trE (by kernel_rfl) h2117, trivial⟩ (by kernel_rfl))⟩
            · skip
              have hq := bb_cases hm; clear hm; rcases hq with ⟨h2131, hm⟩ | ⟨h2131, hm⟩
              · skip
                obtain rfl := Nat.eq_of_beq_eq_true h2131
                have hq := bb_inv hm; clear hm; obtain ⟨h2132, hm⟩ := hq
                have hq := oo_inv hm; clear hm; obtain ⟨v2133, h2134, hm⟩ := hq
                have hq := oo_inv hm; clear hm; obtain ⟨x2135, h2136, hm⟩ := hq
                obtain rfl := toI_some h2136
                have hq := bb_inv hm; clear hm; obtain ⟨h2137, hm⟩ := hq
                have hq := bb_inv hm; clear hm; obtain ⟨h2138, hm⟩ := hq
                refine .reg (F' := (Fr.puts (⟨49, frTr [(3, (.pointer (some ⟨1, 0, none⟩))), (6, (.slice (some ⟨2, 0, some 1⟩) n2086 c2087)), (8, (.int .i64 (Int.ofNat 3))), (27, (Sl.v 1 s2088)), (28, (.int .i64 z2089)), (29, (.int .i64 (Int.ofNat k2119)))] .nil⟩ : Fr) [(33, (.int .i64 (Int.ofNat 3))), (34, (.slice (some ⟨2, 0, some 1⟩) n2086 c2087)), (35, (.int .i64 (Int.ofNat 3))), (36, (.pointer (some ⟨1, 3, none⟩))), (37, (.slice (some ⟨6, n2100, some 1⟩) n2101 c2102)), (38, (.pointer (some ⟨6, (n2100 + 0 * 1), none⟩))), (39, (.int .i64 x2135)), (40, (.slice (some ⟨8, 0, some 1⟩) 1 3)), (42, (.int .i64 (Int.ofNat 3))), (43, (.pointer (some ⟨1, 3, none⟩))), (44, (.slice (some ⟨6, n2100, some 1⟩) n2101 c2102)), (45, (.slice (some ⟨6, (n2100 + 1 * 1), some 1⟩) (n2101 - 1) (2 * (c2102 / 2 - 1) + bb (orr false (Nat.beq (c2102 % 2) 1)) 1 0))), (41, (.slice (some ⟨9, 0, some 1⟩) (n2086 + 1) (2 * (n2086 + 1) + bb false 1 0))), (6, (.slice (some ⟨9, 0, some 1⟩) (n2086 + 1) (2 * (n2086 + 1) + bb false 1 0))), (46, (.pointer (some ⟨1, 3, none⟩)))])) (H' := (⟨10, objTr [(.cells tab0 true false []), (.cells [(.slice (some ⟨3, n2091, some 1⟩) n2092 c2093), (.slice (some ⟨4, n2094, some 1⟩) n2095 c2096), (.slice (some ⟨5, n2097, some 1⟩) n2098 c2099), (.slice (some ⟨6, (n2100 + 1 * 1), some 1⟩) (n2101 - 1) (2 * (c2102 / 2 - 1) + bb (orr false (Nat.beq (c2102 % 2) 1)) 1 0)), (.slice (some ⟨7, n2103, some 1⟩) n2104 c2105)] false false []), (.cells q2106 false true []), (.cells q2107 false false []), (.cells q2108 false false []), (.cells q2109 false false []), (.cells q2110 false false []), (.cells q2111 false false []), (.cells [(.int .i64 x2135)] false false []), (.cells (appL (dropL 0 q2106) [(.int .i64 x2135)]) false false [2])] 0 .nil, true⟩ : AHeap)) (evOps_cut 5 (by kernel_rfl) (evOps_data (keep (⟨8, objTr [(.cells tab0 true false []), (.cells [(.slice (some ⟨3, n2091, some 1⟩) n2092 c2093), (.slice (some ⟨4, n2094, some 1⟩) n2095 c2096), (.slice (some ⟨5, n2097, some 1⟩) n2098 c2099), (.slice (some ⟨6, n2100, some 1⟩) n2101 c2102), (.slice (some ⟨7, n2103, some 1⟩) n2104 c2105)] false false []), (.cells q2106 false false []), (.cells q2107 false false []), (.cells q2108 false false []), (.cells q2109 false false []), (.cells q2110 false false []), (.cells q2111 false false [])] 0 .nil, true⟩ : AHeap) (bb (an (Nat.blt 0 n2101) true) (some (.pointer (some ⟨6, (n2100 + 0 * 1), none⟩))) none)) (by kernel_rfl) (keep_bb h2132) (okAt_of (by kernel_rfl) (by kernel_rfl)) (evOps_data (keep (⟨8, objTr [(.cells tab0 true false []), (.cells [(.slice (some ⟨3, n2091, some 1⟩) n2092 c2093), (.slice (some ⟨4, n2094, some 1⟩) n2095 c2096), (.slice (some ⟨5, n2097, some 1⟩) n2098 c2099), (.slice (some ⟨6, n2100, some 1⟩) n2101 c2102), (.slice (some ⟨7, n2103, some 1⟩) n2104 c2105)] false false []), (.cells q2106 false false []), (.cells q2107 false false []), (.cells q2108 false false []), (.cells q2109 false false []), (.cells q2110 false false []), (.cells q2111 false false [])] 0 .nil, true⟩ : AHeap) (nthL q2110 (n2100 + 0 * 1))) (by kernel_rfl) (keep_eq h2134) (okAt_of (by kernel_rfl) (by kernel_rfl)) (evOps_cut 4 (by kernel_rfl) (evOps_data (keep (⟨9, objTr [(.cells tab0 true false []), (.cells [(.slice (some ⟨3, n2091, some 1⟩) n2092 c2093), (.slice (some ⟨4, n2094, some 1⟩) n2095 c2096), (.slice (some ⟨5, n2097, some 1⟩) n2098 c2099), (.slice (some ⟨6, n2100, some 1⟩) n2101 c2102), (.slice (some ⟨7, n2103, some 1⟩) n2104 c2105)] false false []), (.cells q2106 false false []), (.cells q2107 false false []), (.cells q2108 false false []), (.cells q2109 false false []), (.cells q2110 false false []), (.cells q2111 false false []), (.cells [(.int .i64 x2135)] false false [])] 0 .nil, true⟩ : AHeap) (oo (bb (Nat.ble 1 n2101) (some 1) none) none fun l => some (sliceAt 6 (n2100 + l * 1) 1 (n2101 - l) (c2102 / 2 - l) (orr false (Nat.beq (c2102 % 2) 1))))) (by kernel_rfl) (show _ = some ((.slice (some ⟨6, (n2100 + 1 * 1), some 1⟩) (n2101 - 1) (2 * (c2102 / 2 - 1) + bb (orr false (Nat.beq (c2102 % 2) 1)) 1 0)), (⟨9, objTr [(.cells tab0 true false []), (.cells [(.slice (some ⟨3, n2091, some 1⟩) n2092 c2093), (.slice (some ⟨4, n2094, some 1⟩) n2095 c2096), (.slice (some ⟨5, n2097, some 1⟩) n2098 c2099), (.slice (some ⟨6, n2100, some 1⟩) n2101 c2102), (.slice (some ⟨7, n2103, some 1⟩) n2104 c2105)] false false []), (.cells q2106 false false []), (.cells q2107 false false []), (.cells q2108 false false []), (.cells q2109 false false []), (.cells q2110 false false []), (.cells q2111 false false []), (.cells [(.int .i64 x2135)] false false [])] 0 .nil, true⟩ : AHeap)) from (keep_sl h2137).trans (by kernel_rfl)) (okAt_of (by kernel_rfl) (by kernel_rfl)) (evOps_data (growD 1 8 n2086 c2087 1 2 q2106 [(.int .i64 x2135)] [] (⟨9, objTr [(.cells tab0 true false []), (.cells [(.slice (some ⟨3, n2091, some 1⟩) n2092 c2093), (.slice (some ⟨4, n2094, some 1⟩) n2095 c2096), (.slice (some ⟨5, n2097, some 1⟩) n2098 c2099), (.slice (some ⟨6, n2100, some 1⟩) n2101 c2102), (.slice (some ⟨7, n2103, some 1⟩) n2104 c2105)] false false []), (.cells q2106 false false []), (.cells q2107 false false []), (.cells q2108 false false []), (.cells q2109 false false []), (.cells q2110 false false []), (.cells q2111 false false []), (.cells [(.int .i64 x2135)] false false [])] 0 .nil, true⟩ : AHeap)) (by kernel_rfl) (growD_eq h2138) (okAt_of (by kernel_rfl) (by kernel_rfl)) (by kernel_rfl))))))) ?_
                have hq := bb_inv hm; clear hm; obtain ⟨h2143, hm⟩ := hq
                refine .ghs (⟨49, frTr [(3, (.pointer (some ⟨1, 0, none⟩))), (6, (.slice (some ⟨2, 0, some 1⟩) (n2086 + 1) (2 * (n2086 + 1) + bb false 1 0))), (27, (Sl.v 1 s2088)), (28, (.int .i64 z2089)), (29, (.int .i64 (Int.ofNat k2119)))] .nil⟩ : Fr) (⟨8, objTr [(.cells tab0 true false []), (.cells [(.slice (some ⟨3, n2091, some 1⟩) n2092 c2093), (.slice (some ⟨4, n2094, some 1⟩) n2095 c2096), (.slice (some ⟨5, n2097, some 1⟩) n2098 c2099), (.slice (some ⟨6, (n2100 + 1 * 1), some 1⟩) (n2101 - 1) (2 * (c2102 / 2 - 1) + bb (orr false (Nat.beq (c2102 % 2) 1)) 1 0)), (.slice (some ⟨7, n2103, some 1⟩) n2104 c2105)] false false []), (.cells (appL (dropL 0 q2106) [(.int .i64 x2135)]) false false []), (.cells q2107 false false []), (.cells q2108 false false []), (.cells q2109 false false []), (.cells q2110 false false []), (.cells q2111 false false [])] 0 .nil, true⟩ : AHeap) (.gc [9, 3, 4, 5, 6, 7] [false] [.tmp 3 true, .tmp 6 false, .cell 1 0 false, .cell 1 1 false, .cell 1 2 false, .cell 1 3 false, .cell 1 4 false] [3, 6, 27, 28, 29] (by kernel_rfl) ⟨trE (by kernel_rfl) h2143, trE (by kernel_rfl) h2113, trE (by kernel_rfl) h2114, trE (by kernel_rfl) h2115, trE (by kernel_rfl) h2116, trE (by kernel_rfl) h2117, trivial⟩ (by kernel_rfl)) ?_
                refine .reg (F' := (Fr.puts (⟨49, frTr [(3, (.pointer (some ⟨1, 0, none⟩))), (6, (.slice (some ⟨2, 0, some 1⟩) (n2086 + 1) (2 * (n2086 + 1) + bb false 1 0))), (27, (Sl.v 1 s2088)), (28, (.int .i64 z2089)), (29, (.int .i64 (Int.ofNat k2119)))] .nil⟩ : Fr) [(47, (.int .i64 (wrapF .i64 (Int.add (Int.ofNat k2119) (1 : Int))))), (29, (.int .i64 (wrapF .i64 (Int.add (Int.ofNat k2119) (1 : Int)))))])) (H' := (⟨8, objTr [(.cells tab0 true false []), (.cells [(.slice (some ⟨3, n2091, some 1⟩) n2092 c2093), (.slice (some ⟨4, n2094, some 1⟩) n2095 c2096), (.slice (some ⟨5, n2097, some 1⟩) n2098 c2099), (.slice (some ⟨6, (n2100 + 1 * 1), some 1⟩) (n2101 - 1) (2 * (c2102 / 2 - 1) + bb (orr false (Nat.beq (c2102 % 2) 1)) 1 0)), (.slice (some ⟨7, n2103, some 1⟩) n2104 c2105)] false false []), (.cells (appL (dropL 0 q2106) [(.int .i64 x2135)]) false false []), (.cells q2107 false false []), (.cells q2108 false false []), (.cells q2109 false false []), (.cells q2110 false false []), (.cells q2111 false false [])] 0 .nil, true⟩ : AHeap)) (by kernel_rfl) ?_
                exact ⟨((n2086 + 1), (2 * (n2086 + 1) + bb false 1 0), s2088, z2089, (wrapF .i64 (Int.add (Int.ofNat k2119) (1 : Int))), n2091, n2092, c2093, n2094, n2095, c2096, n2097, n2098, c2099, (n2100 + 1 * 1), (n2101 - 1), (2 * (c2102 / 2 - 1) + bb (orr false (Nat.beq (c2102 % 2) 1)) 1 0), n2103, n2104, c2105, (appL (dropL 0 q2106) [(.int .i64 x2135)]), q2107, q2108, q2109, q2110, q2111), hm, (.gc [2, 3, 4, 5, 6, 7] [false] [.tmp 3 true, .tmp 6 false, .cell 1 0 false, .cell 1 1 false, .cell 1 2 false, .cell 1 3 false, .cell 1 4 false] [3, 6, 27, 28, 29] (by kernel_rfl) ⟨trE (by kernel_rfl) h2143, trE (by kernel_rfl) h2113, trE (by kernel_rfl) h2114, trE (by kernel_rfl) h2115, trE (by kernel_rfl) h2116, trE (by kernel_rfl) h2117, trivial⟩ (by kernel_rfl))⟩
              · skip
                have hq := bb_cases hm; clear hm; rcases hq with ⟨h2132, hm⟩ | ⟨h2132, hm⟩
                · skip
                  obtain rfl := Nat.eq_of_beq_eq_true h2132
                  have hq := bb_inv hm; clear hm; obtain ⟨h2133, hm⟩ := hq
                  have hq := oo_inv hm; clear hm; obtain ⟨v2134, h2135, hm⟩ := hq
                  have hq := oo_inv hm; clear hm; obtain ⟨x2136, h2137, hm⟩ := hq
                  obtain rfl := toI_some h2137
                  have hq := bb_inv hm; clear hm; obtain ⟨h2138, hm⟩ := hq
                  have hq := bb_inv hm; clear hm; obtain ⟨h2139, hm⟩ := hq
                  refine .reg (F' := (Fr.puts (⟨49, frTr [(3, (.pointer (some ⟨1, 0, none⟩))), (6, (.slice (some ⟨2, 0, some 1⟩) n2086 c2087)), (8, (.int .i64 (Int.ofNat 4))), (27, (Sl.v 1 s2088)), (28, (.int .i64 z2089)), (29, (.int .i64 (Int.ofNat k2119)))] .nil⟩ : Fr) [(33, (.int .i64 (Int.ofNat 4))), (34, (.slice (some ⟨2, 0, some 1⟩) n2086 c2087)), (35, (.int .i64 (Int.ofNat 4))), (36, (.pointer (some ⟨1, 4, none⟩))), (37, (.slice (some ⟨7, n2103, some 1⟩) n2104 c2105)), (38, (.pointer (some ⟨7, (n2103 + 0 * 1), none⟩))), (39, (.int .i64 x2136)), (40, (.slice (some ⟨8, 0, some 1⟩) 1 3)), (42, (.int .i64 (Int.ofNat 4))), (43, (.pointer (some ⟨1, 4, none⟩))), (44, (.slice (some ⟨7, n2103, some 1⟩) n2104 c2105)), (45, (.slice (some ⟨7, (n2103 + 1 * 1), some 1⟩) (n2104 - 1) (2 * (c2105 / 2 - 1) + bb (orr false (Nat.beq (c2105 % 2) 1)) 1 0))), (41, (.slice (some ⟨9, 0, some 1⟩) (n2086 + 1) (2 * (n2086 + 1) + bb false 1 0))), (6, (.slice (some ⟨9, 0, some 1⟩) (n2086 + 1) (2 * (n2086 + 1) + bb false 1 0))), (46, (.pointer (some ⟨1, 4, none⟩)))])) (H' := (⟨10, objTr [(.cells tab0 true false []), (.cells [(.slice (some ⟨3, n2091, some 1⟩) n2092 c2093), (.slice (some ⟨4, n2094, some 1⟩) n2095 c2096), (.slice (some ⟨5, n2097, some 1⟩) n2098 c2099), (.slice (some ⟨6, n2100, some 1⟩) n2101 c2102), (.slice (some ⟨7, (n2103 + 1 * 1), some 1⟩) (n2104 - 1) (2 * (c2105 / 2 - 1) + bb (orr false (Nat.beq (c2105 % 2) 1)) 1 0))] false false []), (.cells q2106 false true []), (.cells q2107 false false []), (.cells q2108 false false []), (.cells q2109 false false []), (.cells q2110 false false []), (.cells q2111 false false []), (.cells [(.int .i64 x2136)] false false []), (.cells (appL (dropL 0 q2106) [(.int .i64 x2136)]) false false [2])] 0 .nil, true⟩ : AHeap)) (evOps_cut 5 (by kernel_rfl) (evOps_data (keep (⟨8, objTr [(.cells tab0 true false []), (.cells [(.slice (some ⟨3, n2091, some 1⟩) n2092 c2093), (.slice (some ⟨4, n2094, some 1⟩) n2095 c2096), (.slice (some ⟨5, n2097, some 1⟩) n2098 c2099), (.slice (some ⟨6, n2100, some 1⟩) n2101 c2102), (.slice (some ⟨7, n2103, some 1⟩) n2104 c2105)] false false []), (.cells q2106 false false []), (.cells q2107 false false []), (.cells q2108 false false []), (.cells q2109 false false []), (.cells q2110 false false []), (.cells q2111 false false [])] 0 .nil, true⟩ : AHeap) (bb (an (Nat.blt 0 n2104) true) (some (.pointer (some ⟨7, (n2103 + 0 * 1), none⟩))) none)) (by kernel_rfl) (keep_bb h2133) (okAt_of (by kernel_rfl) (by kernel_rfl)) (evOps_data (keep (⟨8, objTr [(.cells tab0 true false []), (.cells [(.slice (some ⟨3, n2091, some 1⟩) n2092 c2093), (.slice (some ⟨4, n2094, some 1⟩) n2095 c2096), (.slice (some ⟨5, n2097, some 1⟩) n2098 c2099), (.slice (some ⟨6, n2100, some 1⟩) n2101 c2102), (.slice (some ⟨7, n2103, some 1⟩) n2104 c2105)] false false []), (.cells q2106 false false []), (.cells q2107 false false []), (.cells q2108 false false []), (.cells q2109 false false []), (.cells q2110 false false []), (.cells q2111 false false [])] 0 .nil, true⟩ : AHeap) (nthL q2111 (n2103 + 0 * 1))) (by kernel_rfl) (keep_eq h2135) (okAt_of (by kernel_rfl) (by kernel_rfl)) (evOps_cut 4 (by kernel_rfl) (evOps_data (keep (⟨9, objTr [(.cells tab0 true false []), (.cells [(.slice (some ⟨3, n2091, some 1⟩) n2092 c2093), (.slice (some ⟨4, n2094, some 1⟩) n2095 c2096), (.slice (some ⟨5, n2097, some 1⟩) n2098 c2099), (.slice (some ⟨6, n2100, some 1⟩) n2101 c2102), (.slice (some ⟨7, n2103, some 1⟩) n2104 c2105)] false false []), (.cells q2106 false false []), (.cells q2107 false false []), (.cells q2108 false false []), (.cells q2109 false false []), (.cells q2110 false false []), (.cells q2111 false false []), (.cells [(.int .i64 x2136)] false false [])] 0 .nil, true⟩ : AHeap) (oo (bb (Nat.ble 1 n2104) (some 1) none) none fun l => some (sliceAt 7 (n2103 + l * 1) 1 (n2104 - l) (c2105 / 2 - l) (orr false (Nat.beq (c2105 % 2) 1))))) (by kernel_rfl) (show _ = some ((.slice (some ⟨7, (n2103 + 1 * 1), some 1⟩) (n2104 - 1) (2 * (c2105 / 2 - 1) + bb (orr false (Nat.beq (c2105 % 2) 1)) 1 0)), (⟨9, objTr [(.cells tab0 true false []), (.cells [(.slice (some ⟨3, n2091, some 1⟩) n2092 c2093), (.slice (some ⟨4, n2094, some 1⟩) n2095 c2096), (.slice (some ⟨5, n2097, some 1⟩) n2098 c2099), (.slice (some ⟨6, n2100, some 1⟩) n2101 c2102), (.slice (some ⟨7, n2103, some 1⟩) n2104 c2105)] false false []), (.cells q2106 false false []), (.cells q2107 false false []), (.cells q2108 false false []), (.cells q2109 false false []), (.cells q2110 false false []), (.cells q2111 false false []), (.cells [(.int .i64 x2136)] false false [])] 0 .nil, true⟩ : AHeap)) from (keep_sl h2138).trans (by kernel_rfl)) (okAt_of (by kernel_rfl) (by kernel_rfl)) (evOps_data (growD 1 8 n2086 c2087 1 2 q2106 [(.int .i64 x2136)] [] (⟨9, objTr [(.cells tab0 true false []), (.cells [(.slice (some ⟨3, n2091, some 1⟩) n2092 c2093), (.slice (some ⟨4, n2094, some 1⟩) n2095 c2096), (.slice (some ⟨5, n2097, some 1⟩) n2098 c2099), (.slice (some ⟨6, n2100, some 1⟩) n2101 c2102), (.slice (some ⟨7, n2103, some 1⟩) n2104 c2105)] false false []), (.cells q2106 false false []), (.cells q2107 false false []), (.cells q2108 false false []), (.cells q2109 false false []), (.cells q2110 false false []), (.cells q2111 false false []), (.cells [(.int .i64 x2136)] false false [])] 0 .nil, true⟩ : AHeap)) (by kernel_rfl) (growD_eq h2139) (okAt_of (by kernel_rfl) (by kernel_rfl)) (by kernel_rfl))))))) ?_
                  have hq := bb_inv hm; clear hm; obtain ⟨h2144, hm⟩ := hq
                  refine .ghs (⟨49, frTr [(3, (.pointer (some ⟨1, 0, none⟩))), (6, (.slice (some ⟨2, 0, some 1⟩) (n2086 + 1) (2 * (n2086 + 1) + bb false 1 0))), (27, (Sl.v 1 s2088)), (28, (.int .i64 z2089)), (29, (.int .i64 (Int.ofNat k2119)))] .nil⟩ : Fr) (⟨8, objTr [(.cells tab0 true false []), (.cells [(.slice (some ⟨3, n2091, some 1⟩) n2092 c2093), (.slice (some ⟨4, n2094, some 1⟩) n2095 c2096), (.slice (some ⟨5, n2097, some 1⟩) n2098 c2099), (.slice (some ⟨6, n2100, some 1⟩) n2101 c2102), (.slice (some ⟨7, (n2103 + 1 * 1), some 1⟩) (n2104 - 1) (2 * (c2105 / 2 - 1) + bb (orr false (Nat.beq (c2105 % 2) 1)) 1 0))] false false []), (.cells (appL (dropL 0 q2106) [(.int .i64 x2136)]) false false []), (.cells q2107 false false []), (.cells q2108 false false []), (.cells q2109 false false []), (.cells q2110 false false []), (.cells q2111 false false [])] 0 .nil, true⟩ : AHeap) (.gc [9, 3, 4, 5, 6, 7] [false] [.tmp 3 true, .tmp 6 false, .cell 1 0 false, .cell 1 1 false, .cell 1 2 false, .cell 1 3 false, .cell 1 4 false] [3, 6, 27, 28, 29] (by kernel_rfl) ⟨trE (by kernel_rfl) h2144, trE (by kernel_rfl) h2113, trE (by kernel_rfl) h2114, trE (by kernel_rfl) h2115, trE (by kernel_rfl) h2116, trE (by kernel_rfl) h2117, trivial⟩ (by kernel_rfl)) ?_
                  refine .reg (F' := (Fr.puts (⟨49, frTr [(3, (.pointer (some ⟨1, 0, none⟩))), (6, (.slice (some ⟨2, 0, some 1⟩) (n2086 + 1) (2 * (n2086 + 1) + bb false 1 0))), (27, (Sl.v 1 s2088)), (28, (.int .i64 z2089)), (29, (.int .i64 (Int.ofNat k2119)))] .nil⟩ : Fr) [(47, (.int .i64 (wrapF .i64 (Int.add (Int.ofNat k2119) (1 : Int))))), (29, (.int .i64 (wrapF .i64 (Int.add (Int.ofNat k2119) (1 : Int)))))])) (H' := (⟨8, objTr [(.cells tab0 true false []), (.cells [(.slice (some ⟨3, n2091, some 1⟩) n2092 c2093), (.slice (some ⟨4, n2094, some 1⟩) n2095 c2096), (.slice (some ⟨5, n2097, some 1⟩) n2098 c2099), (.slice (some ⟨6, n2100, some 1⟩) n2101 c2102), (.slice (some ⟨7, (n2103 + 1 * 1), some 1⟩) (n2104 - 1) (2 * (c2105 / 2 - 1) + bb (orr false (Nat.beq (c2105 % 2) 1)) 1 0))] false false []), (.cells (appL (dropL 0 q2106) [(.int .i64 x2136)]) false false []), (.cells q2107 false false []), (.cells q2108 false false []), (.cells q2109 false false []), (.cells q2110 false false []), (.cells q2111 false false [])] 0 .nil, true⟩ : AHeap)) (by kernel_rfl) ?_
                  exact ⟨((n2086 + 1), (2 * (n2086 + 1) + bb false 1 0), s2088, z2089, (wrapF .i64 (Int.add (Int.ofNat k2119) (1 : Int))), n2091, n2092, c2093, n2094, n2095, c2096, n2097, n2098, c2099, n2100, n2101, c2102, (n2103 + 1 * 1), (n2104 - 1), (2 * (c2105 / 2 - 1) + bb (orr false (Nat.beq (c2105 % 2) 1)) 1 0), (appL (dropL 0 q2106) [(.int .i64 x2136)]), q2107, q2108, q2109, q2110, q2111), hm, (.gc [2, 3, 4, 5, 6, 7] [false] [.tmp 3 true, .tmp 6 false, .cell 1 0 false, .cell 1 1 false, .cell 1 2 false, .cell 1 3 false, .cell 1 4 false] [3, 6, 27, 28, 29] (by kernel_rfl) ⟨trE (by kernel_rfl) h2144, trE (by kernel_rfl) h2113, trE (by kernel_rfl) h2114, trE (by kernel_rfl) h2115, trE (by kernel_rfl) h2116, trE (by kernel_rfl) h2117, trivial⟩ (by kernel_rfl))⟩
                · skip
                  cases hm
      · refine .ifF (ilt z2090 z2089) (by kernel_rfl) h2118 ?_
        refine .exit ?_
        exact ⟨(n2086, c2087, q2106), hm, (.gc [2] [false] [.tmp 6 false] [6] (by kernel_rfl) ⟨trE (by kernel_rfl) h2112, trivial⟩ (by kernel_rfl))⟩
  · skip
    refine .then ?_
    refine .reg (F' := (Fr.puts (⟨49, frTr [(1, (.pointer (some ⟨1, 0, none⟩))), (3, (.pointer (some ⟨2, 0, none⟩)))] .nil⟩ : Fr) [(9, (.pointer (some ⟨1, 1, none⟩))), (10, (Sl.v 1 s1253)), (11, (.int .i64 (Int.ofNat (Sl.n s1253)))), (12, (.int .i64 (0 : Int)))])) (H' := (⟨3, objTr [(.cells tab0 true false []), (.cells [(.int .i64 x1251), (Sl.v 1 s1253), (Sl.v 1 s1255)] false false []), (.cells [(.slice none 0 0), (.slice none 0 0), (.slice none 0 0), (.slice none 0 0), (.slice none 0 0)] false false [])] 0 .nil, true⟩ : AHeap)) (by kernel_rfl) ?_
    refine .ghs (⟨49, frTr [(1, (.pointer (some ⟨1, 0, none⟩))), (3, (.pointer (some ⟨2, 0, none⟩))), (10, (Sl.v 1 s1253)), (11, (.int .i64 (Int.ofNat (Sl.n s1253)))), (12, (.int .i64 (0 : Int)))] .nil⟩ : Fr) (⟨3, objTr [(.cells tab0 true false []), (.cells [(.int .i64 x1251), (Sl.v 1 s1253), (Sl.v 1 s1255)] false false []), (.cells [(.slice none 0 0), (.slice none 0 0), (.slice none 0 0), (.slice none 0 0), (.slice none 0 0)] false false [])] 0 .nil, true⟩ : AHeap) (.gc [] [false] [.tmp 1 false, .tmp 3 false] [1, 3, 10, 11, 12] (by kernel_rfl) trivial (by kernel_rfl)) ?_
    refine .block ?_
    refine .loopM (v := v) (fun y : Sl × Int × Int × Int × Sl × Sl × Nat × Nat × Nat × Nat × Nat × Nat × Nat × Nat × Nat × Nat × List Value × List Value × List Value × List Value × List Value => ((⟨49, frTr [(1, (.pointer (some ⟨1, 0, none⟩))), (3, (.pointer (some ⟨2, 0, none⟩))), (10, (Sl.v 1 y.1)), (11, (.int .i64 y.2.1)), (12, (.int .i64 y.2.2.1))] .nil⟩ : Fr), (⟨8, objTr [(.cells tab0 true false []), (.cells [(.int .i64 y.2.2.2.1), (Sl.v 1 y.2.2.2.2.1), (Sl.v 1 y.2.2.2.2.2.1)] false false []), (.cells [(.slice (some ⟨3, 0, some 1⟩) y.2.2.2.2.2.2.1 y.2.2.2.2.2.2.2.1), (.slice (some ⟨4, 0, some 1⟩) y.2.2.2.2.2.2.2.2.1 y.2.2.2.2.2.2.2.2.2.1), (.slice (some ⟨5, 0, some 1⟩) y.2.2.2.2.2.2.2.2.2.2.1 y.2.2.2.2.2.2.2.2.2.2.2.1), (.slice (some ⟨6, 0, some 1⟩) y.2.2.2.2.2.2.2.2.2.2.2.2.1 y.2.2.2.2.2.2.2.2.2.2.2.2.2.1), (.slice (some ⟨7, 0, some 1⟩) y.2.2.2.2.2.2.2.2.2.2.2.2.2.2.1 y.2.2.2.2.2.2.2.2.2.2.2.2.2.2.2.1)] false false []), (.cells y.2.2.2.2.2.2.2.2.2.2.2.2.2.2.2.2.1 false false []), (.cells y.2.2.2.2.2.2.2.2.2.2.2.2.2.2.2.2.2.1 false false []), (.cells y.2.2.2.2.2.2.2.2.2.2.2.2.2.2.2.2.2.2.1 false false []), (.cells y.2.2.2.2.2.2.2.2.2.2.2.2.2.2.2.2.2.2.2.1 false false []), (.cells y.2.2.2.2.2.2.2.2.2.2.2.2.2.2.2.2.2.2.2.2 false false [])] 0 .nil, true⟩ : AHeap))) (fun w y => l69_3 pu n w y.1 y.2.1 y.2.2.1 y.2.2.2.1 y.2.2.2.2.1 y.2.2.2.2.2.1 y.2.2.2.2.2.2.1 y.2.2.2.2.2.2.2.1 y.2.2.2.2.2.2.2.2.1 y.2.2.2.2.2.2.2.2.2.1 y.2.2.2.2.2.2.2.2.2.2.1 y.2.2.2.2.2.2.2.2.2.2.2.1 y.2.2.2.2.2.2.2.2.2.2.2.2.1 y.2.2.2.2.2.2.2.2.2.2.2.2.2.1 y.2.2.2.2.2.2.2.2.2.2.2.2.2.2.1 y.2.2.2.2.2.2.2.2.2.2.2.2.2.2.2.1 y.2.2.2.2.2.2.2.2.2.2.2.2.2.2.2.2.1 y.2.2.2.2.2.2.2.2.2.2.2.2.2.2.2.2.2.1 y.2.2.2.2.2.2.2.2.2.2.2.2.2.2.2.2.2.2.1 y.2.2.2.2.2.2.2.2.2.2.2.2.2.2.2.2.2.2.2.1 y.2.2.2.2.2.2.2.2.2.2.2.2.2.2.2.2.2.2.2.2) n ⟨(s1253, (Int.ofNat (Sl.n s1253)), (0 : Int), x1251, s1253, s1255, 0, 0, 0, 0, 0, 0, 0, 0, 0, 0, ([] : List Value), ([] : List Value), ([] : List Value), ([] : List Value), ([] : List Value)), hm, (.thawC 2 0 1 [(.slice none 0 0), (.slice none 0 0), (.slice none 0 0), (.slice none 0 0), (.slice none 0 0)] (imm := false) (spent := false) (anc := []) (by kernel_rfl) (by kernel_rfl) (by kernel_rfl) (by kernel_rfl) (.thawC 2 1 1 [(.slice (some ⟨3, 0, some 1⟩) 0 0), (.slice none 0 0), (.slice none 0 0), (.slice none 0 0), (.slice none 0 0)] (imm := false) (spent := false) (anc := []) (by kernel_rfl) (by kernel_rfl) (by kernel_rfl) (by kernel_rfl) (.thawC 2 2 1 [(.slice (some ⟨3, 0, some 1⟩) 0 0), (.slice (some ⟨4, 0, some 1⟩) 0 0), (.slice none 0 0), (.slice none 0 0), (.slice none 0 0)] (imm := false) (spent := false) (anc := []) (by kernel_rfl) (by kernel_rfl) (by kernel_rfl) (by kernel_rfl) (.thawC 2 3 1 [(.slice (some ⟨3, 0, some 1⟩) 0 0), (.slice (some ⟨4, 0, some 1⟩) 0 0), (.slice (some ⟨5, 0, some 1⟩) 0 0), (.slice none 0 0), (.slice none 0 0)] (imm := false) (spent := false) (anc := []) (by kernel_rfl) (by kernel_rfl) (by kernel_rfl) (by kernel_rfl) (.thawC 2 4 1 [(.slice (some ⟨3, 0, some 1⟩) 0 0), (.slice (some ⟨4, 0, some 1⟩) 0 0), (.slice (some ⟨5, 0, some 1⟩) 0 0), (.slice (some ⟨6, 0, some 1⟩) 0 0), (.slice none 0 0)] (imm := false) (spent := false) (anc := []) (by kernel_rfl) (by kernel_rfl) (by kernel_rfl) (by kernel_rfl) (.gc [] [false] [.tmp 1 false, .tmp 3 true, .cell 2 0 false, .cell 2 1 false, .cell 2 2 false, .cell 2 3 false, .cell 2 4 false] [1, 3, 10, 11, 12] (by kernel_rfl) trivial (by kernel_rfl)))))))⟩ (fun _ => rfl) ?_
    rintro w0 ⟨s2300, z2301, z2302, z2303, s2304, s2305, n2306, c2307, n2308, c2309, n2310, c2311, n2312, c2313, n2314, c2315, q2316, q2317, q2318, q2319, q2320⟩ hm
    refine .then ?_
    refine .reg (F' := (Fr.puts (⟨49, frTr [(1, (.pointer (some ⟨1, 0, none⟩))), (3, (.pointer (some ⟨2, 0, none⟩))), (10, (Sl.v 1 s2300)), (11, (.int .i64 z2301)), (12, (.int .i64 z2302))] .nil⟩ : Fr) [(13, (.bool (ilt z2302 z2301)))])) (H' := (⟨8, objTr [(.cells tab0 true false []), (.cells [(.int .i64 z2303), (Sl.v 1 s2304), (Sl.v 1 s2305)] false false []), (.cells [(.slice (some ⟨3, 0, some 1⟩) n2306 c2307), (.slice (some ⟨4, 0, some 1⟩) n2308 c2309), (.slice (some ⟨5, 0, some 1⟩) n2310 c2311), (.slice (some ⟨6, 0, some 1⟩) n2312 c2313), (.slice (some ⟨7, 0, some 1⟩) n2314 c2315)] false false []), (.cells q2316 false false []), (.cells q2317 false false []), (.cells q2318 false false []), (.cells q2319 false false []), (.cells q2320 false false [])] 0 .nil, true⟩ : AHeap)) (by kernel_rfl) ?_
    have hq := bb_inv hm; clear hm; obtain ⟨h2321, hm⟩ := hq
    have hq := bb_inv hm; clear hm; obtain ⟨h2322, hm⟩ := hq
    have hq := bb_inv hm; clear hm; obtain ⟨h2323, hm⟩ := hq
    have hq := bb_inv hm; clear hm; obtain ⟨h2324, hm⟩ := hq
    have hq := bb_inv hm; clear hm; obtain ⟨h2325, hm⟩ := hq
    refine .ghs (⟨49, frTr [(1, (.pointer (some ⟨1, 0, none⟩))), (3, (.pointer (some ⟨2, 0, none⟩))), (10, (Sl.v 1 s2300)), (11, (.int .i64 z2301)), (12, (.int .i64 z2302)), (13, (.bool (ilt z2302 z2301)))] .nil⟩ : Fr) (⟨8, objTr [(.cells tab0 true false []), (.cells [(.int .i64 z2303), (Sl.v 1 s2304), (Sl.v 1 s2305)] false false []), (.cells [(.slice (some ⟨3, 0, some 1⟩) n2306 c2307), (.slice (some ⟨4, 0, some 1⟩) n2308 c2309), (.slice (some ⟨5, 0, some 1⟩) n2310 c2311), (.slice (some ⟨6, 0, some 1⟩) n2312 c2313), (.slice (some ⟨7, 0, some 1⟩) n2314 c2315)] false false []), (.cells q2316 false false []), (.cells q2317 false false []), (.cells q2318 false false []), (.cells q2319 false false []), (.cells q2320 false false [])] 0 .nil, true⟩ : AHeap) (.gc [3, 4, 5, 6, 7] [false] [.tmp 1 false, .tmp 3 true, .cell 2 0 false, .cell 2 1 false, .cell 2 2 false, .cell 2 3 false, .cell 2 4 false] [1, 3, 10, 11, 12, 13] (by kernel_rfl) ⟨trE (by kernel_rfl) h2321, trE (by kernel_rfl) h2322, trE (by kernel_rfl) h2323, trE (by kernel_rfl) h2324, trE (by kernel_rfl) h2325, trivial⟩ (by kernel_rfl)) ?_
    refine .then ?_
    have hq := bb_cases hm; clear hm; rcases hq with ⟨h2326, hm⟩ | ⟨h2326, hm⟩
    · refine .ifT (ilt z2302 z2301) (by kernel_rfl) h2326 ?_
      refine .skip ?_
      refine .ghs (⟨49, frTr [(1, (.pointer (some ⟨1, 0, none⟩))), (3, (.pointer (some ⟨2, 0, none⟩))), (10, (Sl.v 1 s2300)), (11, (.int .i64 z2301)), (12, (.int .i64 z2302))] .nil⟩ : Fr) (⟨8, objTr [(.cells tab0 true false []), (.cells [(.int .i64 z2303), (Sl.v 1 s2304), (Sl.v 1 s2305)] false false []), (.cells [(.slice (some ⟨3, 0, some 1⟩) n2306 c2307), (.slice (some ⟨4, 0, some 1⟩) n2308 c2309), (.slice (some ⟨5, 0, some 1⟩) n2310 c2311), (.slice (some ⟨6, 0, some 1⟩) n2312 c2313), (.slice (some ⟨7, 0, some 1⟩) n2314 c2315)] false false []), (.cells q2316 false false []), (.cells q2317 false false []), (.cells q2318 false false []), (.cells q2319 false false []), (.cells q2320 false false [])] 0 .nil, true⟩ : AHeap) (.gc [3, 4, 5, 6, 7] [false] [.tmp 1 false, .tmp 3 true, .cell 2 0 false, .cell 2 1 false, .cell 2 2 false, .cell 2 3 false, .cell 2 4 false] [1, 3, 10, 11, 12] (by kernel_rfl) ⟨trE (by kernel_rfl) h2321, trE (by kernel_rfl) h2322, trE (by kernel_rfl) h2323, trE (by kernel_rfl) h2324, trE (by kernel_rfl) h2325, trivial⟩ (by kernel_rfl)) ?_
      refine .then ?_
      refine .block ?_
      refine .then ?_
      have hq := oo_inv hm; clear hm; obtain ⟨k2327, h2328, hm⟩ := hq
      obtain rfl := toN_some h2328
      have hq := bb_inv hm; clear hm; obtain ⟨h2329, hm⟩ := hq
      have hq := oo_inv hm; clear hm; obtain ⟨v2330, h2331, hm⟩ := hq
      have hq := oo_inv hm; clear hm; obtain ⟨x2332, h2333, hm⟩ := hq
      obtain rfl := toI_some h2333
      refine .reg (F' := (Fr.puts (⟨49, frTr [(1, (.pointer (some ⟨1, 0, none⟩))), (3, (.pointer (some ⟨2, 0, none⟩))), (10, (Sl.v 1 s2300)), (11, (.int .i64 z2301)), (12, (.int .i64 (Int.ofNat k2327)))] .nil⟩ : Fr) [(14, (.int .i64 (Int.ofNat k2327))), (15, (fpV (k2327 * 1) (Sl.cs s2300))), (16, (.int .i64 x2332)), (4, (.int .i64 (Int.ofNat k2327))), (5, (.int .i64 x2332))])) (H' := (⟨8, objTr [(.cells tab0 true false []), (.cells [(.int .i64 z2303), (Sl.v 1 s2304), (Sl.v 1 s2305)] false false []), (.cells [(.slice (some ⟨3, 0, some 1⟩) n2306 c2307), (.slice (some ⟨4, 0, some 1⟩) n2308 c2309), (.slice (some ⟨5, 0, some 1⟩) n2310 c2311), (.slice (some ⟨6, 0, some 1⟩) n2312 c2313), (.slice (some ⟨7, 0, some 1⟩) n2314 c2315)] false false []), (.cells q2316 false false []), (.cells q2317 false false []), (.cells q2318 false false []), (.cells q2319 false false []), (.cells q2320 false false [])] 0 .nil, true⟩ : AHeap)) (evOps_cut 1 (by kernel_rfl) (evOps_data (keep (⟨8, objTr [(.cells tab0 true false []), (.cells [(.int .i64 z2303), (Sl.v 1 s2304), (Sl.v 1 s2305)] false false []), (.cells [(.slice (some ⟨3, 0, some 1⟩) n2306 c2307), (.slice (some ⟨4, 0, some 1⟩) n2308 c2309), (.slice (some ⟨5, 0, some 1⟩) n2310 c2311), (.slice (some ⟨6, 0, some 1⟩) n2312 c2313), (.slice (some ⟨7, 0, some 1⟩) n2314 c2315)] false false []), (.cells q2316 false false []), (.cells q2317 false false []), (.cells q2318 false false []), (.cells q2319 false false []), (.cells q2320 false false [])] 0 .nil, true⟩ : AHeap) (bb (an (Nat.blt k2327 (Sl.n s2300)) true) (some (fpV (k2327 * 1) (Sl.cs s2300))) none)) (by kernel_rfl) (keep_bb h2329) (okAt_of (by kernel_rfl) (by kernel_rfl)) (evOps_data (keep (⟨8, objTr [(.cells tab0 true false []), (.cells [(.int .i64 z2303), (Sl.v 1 s2304), (Sl.v 1 s2305)] false false []), (.cells [(.slice (some ⟨3, 0, some 1⟩) n2306 c2307), (.slice (some ⟨4, 0, some 1⟩) n2308 c2309), (.slice (some ⟨5, 0, some 1⟩) n2310 c2311), (.slice (some ⟨6, 0, some 1⟩) n2312 c2313), (.slice (some ⟨7, 0, some 1⟩) n2314 c2315)] false false []), (.cells q2316 false false []), (.cells q2317 false false []), (.cells q2318 false false []), (.cells q2319 false false []), (.cells q2320 false false [])] 0 .nil, true⟩ : AHeap) (nthL (Sl.cs s2300) (k2327 * 1))) (by kernel_rfl) (keep_eq h2331) (okAt_of (by kernel_rfl) (by kernel_rfl)) (by kernel_rfl)))) ?_
      refine .ghs (⟨49, frTr [(1, (.pointer (some ⟨1, 0, none⟩))), (3, (.pointer (some ⟨2, 0, none⟩))), (4, (.int .i64 (Int.ofNat k2327))), (5, (.int .i64 x2332)), (10, (Sl.v 1 s2300)), (11, (.int .i64 z2301)), (12, (.int .i64 (Int.ofNat k2327)))] .nil⟩ : Fr) (⟨8, objTr [(.cells tab0 true false []), (.cells [(.int .i64 z2303), (Sl.v 1 s2304), (Sl.v 1 s2305)] false false []), (.cells [(.slice (some ⟨3, 0, some 1⟩) n2306 c2307), (.slice (some ⟨4, 0, some 1⟩) n2308 c2309), (.slice (some ⟨5, 0, some 1⟩) n2310 c2311), (.slice (some ⟨6, 0, some 1⟩) n2312 c2313), (.slice (some ⟨7, 0, some 1⟩) n2314 c2315)] false false []), (.cells q2316 false false []), (.cells q2317 false false []), (.cells q2318 false false []), (.cells q2319 false false []), (.cells q2320 false false [])] 0 .nil, true⟩ : AHeap) (.gc [3, 4, 5, 6, 7] [false] [.tmp 1 false, .tmp 3 true, .cell 2 0 false, .cell 2 1 false, .cell 2 2 false, .cell 2 3 false, .cell 2 4 false] [1, 3, 4, 5, 10, 11, 12] (by kernel_rfl) ⟨trE (by kernel_rfl) h2321, trE (by kernel_rfl) h2322, trE (by kernel_rfl) h2323, trE (by kernel_rfl) h2324, trE (by kernel_rfl) h2325, trivial⟩ (by kernel_rfl)) ?_
      have hq := oo_inv hm; clear hm; obtain ⟨k2334, h2335, hm⟩ := hq
      obtain rfl := toN_some h2335
      have hq := bb_cases hm; clear hm; rcases hq with ⟨h2336, hm⟩ | ⟨h2336, hm⟩
      · skip
        obtain rfl := Nat.eq_of_beq_eq_true h2336
        have hq := bb_inv hm; clear hm; obtain ⟨h2337, hm⟩ := hq
        refine .reg (F' := (Fr.puts (⟨49, frTr [(1, (.pointer (some ⟨1, 0, none⟩))), (3, (.pointer (some ⟨2, 0, none⟩))), (4, (.int .i64 (Int.ofNat k2327))), (5, (.int .i64 (Int.ofNat 0))), (10, (Sl.v 1 s2300)), (11, (.int .i64 z2301)), (12, (.int .i64 (Int.ofNat k2327)))] .nil⟩ : Fr) [(17, (.int .i64 (Int.ofNat 0))), (18, (.int .i64 (Int.ofNat 0))), (19, (.pointer (some ⟨2, 0, none⟩))), (20, (.slice (some ⟨3, 0, some 1⟩) n2306 c2307)), (21, (.int .i64 (Int.ofNat k2327))), (22, (.slice (some ⟨8, 0, some 1⟩) 1 3)), (23, (.slice (some ⟨9, 0, some 1⟩) (n2306 + 1) (2 * (n2306 + 1) + bb false 1 0))), (24, (.pointer (some ⟨2, 0, none⟩)))])) (H' := (⟨10, objTr [(.cells tab0 true false []), (.cells [(.int .i64 z2303), (Sl.v 1 s2304), (Sl.v 1 s2305)] false false []), (.cells [(.slice (some ⟨9, 0, some 1⟩) (n2306 + 1) (2 * (n2306 + 1) + bb false 1 0)), (.slice (some ⟨4, 0, some 1⟩) n2308 c2309), (.slice (some ⟨5, 0, some 1⟩) n2310 c2311), (.slice (some ⟨6, 0, some 1⟩) n2312 c2313), (.slice (some ⟨7, 0, some 1⟩) n2314 c2315)] false false []), (.cells q2316 false true []), (.cells q2317 false false []), (.cells q2318 false false []), (.cells q2319 false false []), (.cells q2320 false false []), (.cells [(.int .i64 (Int.ofNat k2327))] false false []), (.cells (appL (dropL 0 q2316) [(.int .i64 (Int.ofNat k2327))]) false false [3])] 0 .nil, true⟩ : AHeap)) (evOps_cut 6 (by kernel_rfl) (evOps_data (growD 1 8 n2306 c2307 1 3 q2316 [(.int .i64 (Int.ofNat k2327))] [] (⟨9, objTr [(.cells tab0 true false []), (.cells [(.int .i64 z2303), (Sl.v 1 s2304), (Sl.v 1 s2305)] false false []), (.cells [(.slice (some ⟨3, 0, some 1⟩) n2306 c2307), (.slice (some ⟨4, 0, some 1⟩) n2308 c2309), (.slice (some ⟨5, 0, some 1⟩) n2310 c2311), (.slice (some ⟨6, 0, some 1⟩) n2312 c2313), (.slice (some ⟨7, 0, some 1⟩) n2314 c2315)] false false []), (.cells q2316 false false []), (.cells q2317 false false []), (.cells q2318 false false []), (.cells q2319 false false []), (.cells q2320 false false []), (.cells [(.int .i64 (Int.ofNat k2327))] false false [])] 0 .nil, true⟩ : AHeap)) (by kernel_rfl) (growD_eq h2337) (okAt_of (by kernel_rfl) (by kernel_rfl)) (by kernel_rfl))) ?_
        have hq := bb_inv hm; clear hm; obtain ⟨h2342, hm⟩ := hq
        refine .ghs (⟨49, frTr [(1, (.pointer (some ⟨1, 0, none⟩))), (3, (.pointer (some ⟨2, 0, none⟩))), (10, (Sl.v 1 s2300)), (11, (.int .i64 z2301)), (12, (.int .i64 (Int.ofNat k2327)))] .nil⟩ : Fr) (⟨8, objTr [(.cells tab0 true false []), (.cells [(.int .i64 z2303), (Sl.v 1 s2304), (Sl.v 1 s2305)] false false []), (.cells [(.slice (some ⟨3, 0, some 1⟩) (n2306 + 1) (2 * (n2306 + 1) + bb false 1 0)), (.slice (some ⟨4, 0, some 1⟩) n2308 c2309), (.slice (some ⟨5, 0, some 1⟩) n2310 c2311), (.slice (some ⟨6, 0, some 1⟩) n2312 c2313), (.slice (some ⟨7, 0, some 1⟩) n2314 c2315)] false false []), (.cells (appL (dropL 0 q2316) [(.int .i64 (Int.ofNat k2327))]) false false []), (.cells q2317 false false []), (.cells q2318 false false []), (.cells q2319 false false []), (.cells q2320 false false [])] 0 .nil, true⟩ : AHeap) (.gc [9, 4, 5, 6, 7] [false] [.tmp 1 false, .tmp 3 true, .cell 2 0 false, .cell 2 1 false, .cell 2 2 false, .cell 2 3 false, .cell 2 4 false] [1, 3, 10, 11, 12] (by kernel_rfl) ⟨trE (by kernel_rfl) h2342, trE (by kernel_rfl) h2322, trE (by kernel_rfl) h2323, trE (by kernel_rfl) h2324, trE (by kernel_rfl) h2325, trivial⟩ (by kernel_rfl)) ?_
        refine .reg (F' := (Fr.puts (⟨49, frTr [(1, (.pointer (some ⟨1, 0, none⟩))), (3, (.pointer (some ⟨2, 0, none⟩))), (10, (Sl.v 1 s2300)), (11, (.int .i64 z2301)), (12, (.int .i64 (Int.ofNat k2327)))] .nil⟩ : Fr) [(25, (.int .i64 (wrapF .i64 (Int.add (Int.ofNat k2327) (1 : Int))))), (12, (.int .i64 (wrapF .i64 (Int.add (Int.ofNat k2327) (1 : Int)))))])) (H' := (⟨8, objTr [(.cells tab0 true false []), (.cells [(.int .i64 z2303), (Sl.v 1 s2304), (Sl.v 1 s2305)] false false []), (.cells [(.slice (some ⟨3, 0, some 1⟩) (n2306 + 1) (2 * (n2306 + 1) + bb false 1 0)), (.slice (some ⟨4, 0, some 1⟩) n2308 c2309), (.slice (some ⟨5, 0, some 1⟩) n2310 c2311), (.slice (some ⟨6, 0, some 1⟩) n2312 c2313), (.slice (some ⟨7, 0, some 1⟩) n2314 c2315)] false false []), (.cells (appL (dropL 0 q2316) [(.int .i64 (Int.ofNat k2327))]) false false []), (.cells q2317 false false []), (.cells q2318 false false []), (.cells q2319 false false []), (.cells q2320 false false [])] 0 .nil, true⟩ : AHeap)) (by kernel_rfl) ?_
        exact ⟨(s2300, z2301, (wrapF .i64 (Int.add (Int.ofNat k2327) (1 : Int))), z2303, s2304, s2305, (n2306 + 1), (2 * (n2306 + 1) + bb false 1 0), n2308, c2309, n2310, c2311, n2312, c2313, n2314, c2315, (appL (dropL 0 q2316) [(.int .i64 (Int.ofNat k2327))]), q2317, q2318, q2319, q2320), hm, (.gc [3, 4, 5, 6, 7] [false] [.tmp 1 false, .tmp 3 true, .cell 2 0 false, .cell 2 1 false, .cell 2 2 false, .cell 2 3 false, .cell 2 4 false] [1, 3, 10, 11, 12] (by kernel_rfl) ⟨trE (by kernel_rfl) h2342, trE (by kernel_rfl) h2322, trE (by kernel_rfl) h2323, trE (by kernel_rfl) h2324, trE (by kernel_rfl) h2325, trivial⟩ (by kernel_rfl))⟩
      · skip
        have hq := bb_cases hm; clear hm; rcases hq with ⟨h2337, hm⟩ | ⟨h2337, hm⟩
        · skip
          obtain rfl := Nat.eq_of_beq_eq_true h2337
          have hq := bb_inv hm; clear hm; obtain ⟨h2338, hm⟩ := hq
          refine .reg (F' := (Fr.puts (⟨49, frTr [(1, (.pointer (some ⟨1, 0, none⟩))), (3, (.pointer (some ⟨2, 0, none⟩))), (4, (.int .i64 (Int.ofNat k2327))), (5, (.int .i64 (Int.ofNat 1))), (10, (Sl.v 1 s2300)), (11, (.int .i64 z2301)), (12, (.int .i64 (Int.ofNat k2327)))] .nil⟩ : Fr) [(17, (.int .i64 (Int.ofNat 1))), (18, (.int .i64 (Int.ofNat 1))), (19, (.pointer (some ⟨2, 1, none⟩))), (20, (.slice (some ⟨4, 0, some 1⟩) n2308 c2309)), (21, (.int .i64 (Int.ofNat k2327))), (22, (.slice (some ⟨8, 0, some 1⟩) 1 3)), (23, (.slice (some ⟨9, 0, some 1⟩) (n2308 + 1) (2 * (n2308 + 1) + bb false 1 0))), (24, (.pointer (some ⟨2, 1, none⟩)))])) (H' := (⟨10, objTr [(.cells tab0 true false []), (.cells [(.int .i64 z2303), (Sl.v 1 s2304), (Sl.v 1 s2305)] false false []), (.cells [(.slice (some ⟨3, 0, some 1⟩) n2306 c2307), (.slice (some ⟨9, 0, some 1⟩) (n2308 + 1) (2 * (n2308 + 1) + bb false 1 0)), (.slice (some ⟨5, 0, some 1⟩) n2310 c2311), (.slice (some ⟨6, 0, some 1⟩) n2312 c2313), (.slice (some ⟨7, 0, some 1⟩) n2314 c2315)] false false []), (.cells q2316 false false []), (.cells q2317 false true []), (.cells q2318 false false []), (.cells q2319 false false []), (.cells q2320 false false []), (.cells [(.int .i64 (Int.ofNat k2327))] false false []), (.cells (appL (dropL 0 q2317) [(.int .i64 (Int.ofNat k2327))]) false false [4])] 0 .nil, true⟩ : AHeap)) (evOps_cut 6 (by kernel_rfl) (evOps_data (growD 1 8 n2308 c2309 1 4 q2317 [(.int .i64 (Int.ofNat k2327))] [] (⟨9, objTr [(.cells tab0 true false []), (.cells [(.int .i64 z2303), (Sl.v 1 s2304), (Sl.v 1 s2305)] false false []), (.cells [(.slice (some ⟨3, 0, some 1⟩) n2306 c2307), (.slice (some ⟨4, 0, some 1⟩) n2308 c2309), (.slice (some ⟨5, 0, some 1⟩) n2310 c2311), (.slice (some ⟨6, 0, some 1⟩) n2312 c2313), (.slice (some ⟨7, 0, some 1⟩) n2314 c2315)] false false []), (.cells q2316 false false []), (.cells q2317 false false []), (.cells q2318 false false []), (.cells q2319 false false []), (.cells q2320 false false []), (.cells [(.int .i64 (Int.ofNat k2327))] false false [])] 0 .nil, true⟩ : AHeap)) (by kernel_rfl) (growD_eq h2338) (okAt_of (by kernel_rfl) (by kernel_rfl)) (by kernel_rfl))) ?_
          have hq := bb_inv hm; clear hm; obtain ⟨h2343, hm⟩ := hq
          refine .ghs (⟨49, frTr [(1, (.pointer (some ⟨1, 0, none⟩))), (3, (.pointer (some ⟨2, 0, none⟩))), (10, (Sl.v 1 s2300)), (11, (.int .i64 z2301)), (12, (.int .i64 (Int.ofNat k2327)))] .nil⟩ : Fr) (⟨8, objTr [(.cells tab0 true false []), (.cells [(.int .i64 z2303), (Sl.v 1 s2304), (Sl.v 1 s2305)] false false []), (.cells [(.slice (some ⟨3, 0, some 1⟩) n2306 c2307), (.slice (some ⟨4, 0, some 1⟩) (n2308 + 1) (2 * (n2308 + 1) + bb false 1 0)), (.slice (some ⟨5, 0, some 1⟩) n2310 c2311), (.slice (some ⟨6, 0, some 1⟩) n2312 c2313), (.slice (some ⟨7, 0, some 1⟩) n2314 c2315)] false false []), (.cells q2316 false false []), (.cells (appL (dropL 0 q2317) [(.int .i64 (Int.ofNat k2327))]) false false []), (.cells q2318 false false []), (.cells q2319 false false []), (.cells q2320 false false [])] 0 .nil, true⟩ : AHeap) (.gc [3, 9, 5, 6, 7] [false] [.tmp 1 false, .tmp 3 true, .cell 2 0 false, .cell 2 1 false, .cell 2 2 false, .cell 2 3 false, .cell 2 4 false] [1, 3, 10, 11, 12] (by kernel_rfl) ⟨trE (by kernel_rfl) h2321, trE (by kernel_rfl) h2343, trE (by kernel_rfl) h2323, trE (by kernel_rfl) h2324, trE (by kernel_rfl) h2325, trivial⟩ (by kernel_rfl)) ?_
          refine .reg (F' := (Fr.puts (⟨49, frTr [(1, (.pointer (some ⟨1, 0, none⟩))), (3, (.pointer (some ⟨2, 0, none⟩))), (10, (Sl.v 1 s2300)), (11, (.int .i64 z2301)), (12, (.int .i64 (Int.ofNat k2327)))] .nil⟩ : Fr) [(25, (.int .i64 (wrapF .i64 (Int.add (Int.ofNat k2327) (1 : Int))))), (12, (.int .i64 (wrapF .i64 (Int.add (Int.ofNat k2327) (1 : Int)))))])) (H' := (⟨8, objTr [(.cells tab0 true false []), (.cells [(.int .i64 z2303), (Sl.v 1 s2304), (Sl.v 1 s2305)] false false []), (.cells [(.slice (some ⟨3, 0, some 1⟩) n2306 c2307), (.slice (some ⟨4, 0, some 1⟩) (n2308 + 1) (2 * (n2308 + 1) + bb false 1 0)), (.slice (some ⟨5, 0, some 1⟩) n2310 c2311), (.slice (some ⟨6, 0, some 1⟩) n2312 c2313), (.slice (some ⟨7, 0, some 1⟩) n2314 c2315)] false false []), (.cells q2316 false false []), (.cells (appL (dropL 0 q2317) [(.int .i64 (Int.ofNat k2327))]) false false []), (.cells q2318 false false []), (.cells q2319 false false []), (.cells q2320 false false [])] 0 .nil, true⟩ : AHeap)) (by kernel_rfl) ?_
          exact ⟨(s2300, z2301, (wrapF .i64 (Int.add (Int.ofNat k2327) (1 : Int))), z2303, s2304, s2305, n2306, c2307, (n2308 + 1), (2 * (n2308 + 1) + bb false 1 0), n2310, c2311, n2312, c2313, n2314, c2315, q2316, (appL (dropL 0 q2317) [(.int .i64 (Int.ofNat k2327))]), q2318, q2319, q2320), hm, (.gc [3, 4, 5, 6, 7] [false] [.tmp 1 false, .tmp 3 true, .cell 2 0 false, .cell 2 1 false, .cell 2 2 false, .cell 2 3 false, .cell 2 4 false] [1, 3, 10, 11, 12] (by kernel_rfl) ⟨trE (by kernel_rfl) h2321, trE (by kernel_rfl) h2343, trE (by kernel_rfl) h2323, trE (by kernel_rfl) h2324, trE (by kernel_rfl) h2325, trivial⟩ (by kernel_rfl))⟩
        · skip
          have hq := bb_cases hm; clear hm; rcases hq with ⟨h2338, hm⟩ | ⟨h2338, hm⟩
          · skip
            obtain rfl := Nat.eq_of_beq_eq_true h2338
            have hq := bb_inv hm; clear hm; obtain ⟨h2339, hm⟩ := hq
            refine .reg (F' := (Fr.puts (⟨49, frTr [(1, (.pointer (some ⟨1, 0, none⟩))), (3, (.pointer (some ⟨2, 0, none⟩))), (4, (.int .i64 (Int.ofNat k2327))), (5, (.int .i64 (Int.ofNat 2))), (10, (Sl.v 1 s2300)), (11, (.int .i64 z2301)), (12, (.int .i64 (Int.ofNat k2327)))] .nil⟩ : Fr) [(17, (.int .i64 (Int.ofNat 2))), (18, (.int .i64 (Int.ofNat 2))), (19, (.pointer (some ⟨2, 2, none⟩))), (20, (.slice (some ⟨5, 0, some 1⟩) n2310 c2311)), (21, (.int .i64 (Int.ofNat k2327))), (22, (.slice (some ⟨8, 0, some 1⟩) 1 3)), (23, (.slice (some ⟨9, 0, some 1⟩) (n2310 + 1) (2 * (n2310 + 1) + bb false 1 0))), (24, (.pointer (some ⟨2, 2, none⟩)))])) (H' := (⟨10, objTr [(.cells tab0 true false []), (.cells [(.int .i64 z2303), (Sl.v 1 s2304), (Sl.v 1 s2305)] false false []), (.cells [(.slice (some ⟨3, 0, some 1⟩) n2306 c2307), (.slice (some ⟨4, 0, some 1⟩) n2308 c2309), (.slice (some ⟨9, 0, some 1⟩) (n2310 + 1) (2 * (n2310 + 1) + bb false 1 0)), (.slice (some ⟨6, 0, some 1⟩) n2312 c2313), (.slice (some ⟨7, 0, some 1⟩) n2314 c2315)] false false []), (.cells q2316 false false []), (.cells q2317 false false []), (.cells q2318 false true []), (.cells q2319 false false []), (.cells q2320 false false []), (.cells [(.int .i64 (Int.ofNat k2327))] false false []), (.cells (appL (dropL 0 q2318) [(.int .i64 (Int.ofNat k2327))]) false false [5])] 0 .nil, true⟩ : AHeap)) (evOps_cut 6 (by kernel_rfl) (evOps_data (growD 1 8 n2310 c2311 1 5 q2318 [(.int .i64 (Int.ofNat k2327))] [] (⟨9, objTr [(.cells tab0 true false []), (.cells [(.int .i64 z2303), (Sl.v 1 s2304), (Sl.v 1 s2305)] false false []), (.cells [(.slice (some ⟨3, 0, some 1⟩) n2306 c2307), (.slice (some ⟨4, 0, some 1⟩) n2308 c2309), (.slice (some ⟨5, 0, some 1⟩) n2310 c2311), (.slice (some ⟨6, 0, some 1⟩) n2312 c2313), (.slice (some ⟨7, 0, some 1⟩) n2314 c2315)] false false []), (.cells q2316 false false []), (.cells q2317 false false []), (.cells q2318 false false []), (.cells q2319 false false []), (.cells q2320 false false []), (.cells [(.int .i64 (Int.ofNat k2327))] false false [])] 0 .nil, true⟩ : AHeap)) (by kernel_rfl) (growD_eq h2339) (okAt_of (by kernel_rfl) (by kernel_rfl)) (by kernel_rfl))) ?_
            have hq := bb_inv hm; clear hm; obtain ⟨h2344, hm⟩ := hq
            refine .ghs (⟨49, frTr [(1, (.pointer (some ⟨1, 0, none⟩))), (3, (.pointer (some ⟨2, 0, none⟩))), (10, (Sl.v 1 s2300)), (11, (.int .i64 z2301)), (12, (.int .i64 (Int.ofNat k2327)))] .nil⟩ : Fr) (⟨8, objTr [(.cells tab0 true false []), (.cells [(.int .i64 z2303), (Sl.v 1 s2304), (Sl.v 1 s2305)] false false []), (.cells [(.slice (some ⟨3, 0, some 1⟩) n2306 c2307), (.slice (some ⟨4, 0, some 1⟩) n2308 c2309), (.slice (some ⟨5, 0, some 1⟩) (n2310 + 1) (2 * (n2310 + 1) + bb false 1 0)), (.slice (some ⟨6, 0, some 1⟩) n2312 c2313), (.slice (some ⟨7, 0, some 1⟩) n2314 c2315)] false false []), (.cells q2316 false false []), (.cells q2317 false false []), (.cells (appL (dropL 0 q2318) [(.int .i64 (Int.ofNat k2327))]) false false []), (.cells q2319 false false []), (.cells q2320 false false [])] 0 .nil, true⟩ : AHeap) (.gc [3, 4, 9, 6, 7] [false] [.tmp 1 false, .tmp 3 true, .cell 2 0 false, .cell 2 1 false, .cell 2 2 false, .cell 2 3 false, .cell 2 4 false] [1, 3, 10, 11, 12] (by kernel_rfl) ⟨trE (by kernel_rfl) h2321, trE (by kernel_rfl) h2322, trE (by kernel_rfl) h2344, trE (by kernel_rfl) h2324, trE (by kernel_rfl) h2325, trivial⟩ (by kernel_rfl)) ?_
            refine .reg (F' := (Fr.puts (⟨49, frTr [(1, (.pointer (some ⟨1, 0, none⟩))), (3, (.pointer (some ⟨2, 0, none⟩))), (10, (Sl.v 1 s2300)), (11, (.int .i64 z2301)), (12, (.int .i64 (Int.ofNat k2327)))] .nil⟩ : Fr) [(25, (.int .i64 (wrapF .i64 (Int.add (Int.ofNat k2327) (1 : Int))))), (12, (.int .i64 (wrapF .i64 (Int.add (Int.ofNat k2327) (1 : Int)))))])) (H' := (⟨8, objTr [(.cells tab0 true false []), (.cells [(.int .i64 z2303), (Sl.v 1 s2304), (Sl.v 1 s2305)] false false []), (.cells [(.slice (some ⟨3, 0, some 1⟩) n2306 c2307), (.slice (some ⟨4, 0, some 1⟩) n2308 c2309), (.slice (some ⟨5, 0, some 1⟩) (n2310 + 1) (2 * (n2310 + 1) + bb false 1 0)), (.slice (some ⟨6, 0, some 1⟩) n2312 c2313), (.slice (some ⟨7, 0, some 1⟩) n2314 c2315)] false false []), (.cells q2316 false false []), (.cells q2317 false false []), (.cells (appL (dropL 0 q2318) [(.int .i64 (Int.ofNat k2327))]) false false []), (.cells q2319 false false []), (.cells q2320 false false [])] 0 .nil, true⟩ : AHeap)) (by kernel_rfl) ?_
            exact ⟨(s2300, z2301, (wrapF .i64 (Int.add (Int.ofNat k2327) (1 : Int))), z2303, s2304, s2305, n2306, c2307, n2308, c2309, (n2310 + 1), (2 * (n2310 + 1) + bb false 1 0), n2312, c2313, n2314, c2315, q2316, q2317, (appL (dropL 0 q2318) [(.int .i64 (Int.ofNat k2327))]), q2319, q2320), hm, (.gc [3, 4, 5, 6, 7] [false] [.tmp 1 false, .tmp 3 true, .cell 2 0 false, .cell 2 1 false, .cell 2 2 false, .cell 2 3 false, .cell 2 4 false] [1, 3, 10, 11, 12] (by kernel_rfl) ⟨trE (by kernel_rfl) h2321, trE (by kernel_rfl) h2322, trE (by kernel_rfl) h2344, trE (by kernel_rfl) h2324, trE (by kernel_rfl) h2325, trivial⟩ (by kernel_rfl))⟩
          · skip
            have hq := bb_cases hm; clear hm; rcases hq with ⟨h2339, hm⟩ | ⟨h2339, hm⟩
            · skip
              obtain rfl := Nat.eq_of_beq_eq_true h2339
              have hq := bb_inv hm; clear hm; obtain ⟨h2340, hm⟩ := hq
              refine .reg (F' := (Fr.puts (⟨49, frTr [(1, (.pointer (some ⟨1, 0, none⟩))), (3, (.pointer (some ⟨2, 0, none⟩))), (4, (.int .i64 (Int.ofNat k2327))), (5, (.int .i64 (Int.ofNat 3))), (10, (Sl.v 1 s2300)), (11, (.int .i64 z2301)), (12, (.int .i64 (Int.ofNat k2327)))] .nil⟩ : Fr) [(17, (.int .i64 (Int.ofNat 3))), (18, (.int .i64 (Int.ofNat 3))), (19, (.pointer (some ⟨2, 3, none⟩))), (20, (.slice (some ⟨6, 0, some 1⟩) n2312 c2313)), (21, (.int .i64 (Int.ofNat k2327))), (22, (.slice (some ⟨8, 0, some 1⟩) 1 3)), (23, (.slice (some ⟨9, 0, some 1⟩) (n2312 + 1) (2 * (n2312 + 1) + bb false 1 0))), (24, (.pointer (some ⟨2, 3, none⟩)))])) (H' := (⟨10, objTr [(.cells tab0 true false []), (.cells [(.int .i64 z2303), (Sl.v 1 s2304), (Sl.v 1 s2305)] false false []), (.cells [(.slice (some ⟨3, 0, some 1⟩) n2306 c2307), (.slice (some ⟨4, 0, some 1⟩) n2308 c2309), (.slice (some ⟨5, 0, some 1⟩) n2310 c2311), (.slice (some ⟨9, 0, some 1⟩) (n2312 + 1) (2 * (n2312 + 1) + bb false 1 0)), (.slice (some ⟨7, 0, some 1⟩) n2314 c2315)] false false []), (.cells q2316 false false []), (.cells q2317 false false []), (.cells q2318 false false []), (.cells q2319 false true []), (.cells q2320 false false []), (.cells [(.int .i64 (Int.ofNat k2327))] false false []), (.cells (appL (dropL 0 q2319) [(.int .i64 (Int.ofNat k2327))]) false false [6])] 0 .nil, true⟩ : AHeap)) (evOps_cut 6 (by kernel_rfl) (evOps_data (growD 1 8 n2312 c2313 1 6 q2319 [(.int .i64 (Int.ofNat k2327))] [] (⟨9, objTr [(.cells tab0 true false []), (.cells [(.int .i64 z2303), (Sl.v 1 s2304), (Sl.v 1 s2305)] false false []), (.cells [(.slice (some ⟨3, 0, some 1⟩) n2306 c2307), (.slice (some ⟨4, 0, some 1⟩) n2308 c2309), (.slice (some ⟨5, 0, some 1⟩) n2310 c2311), (.slice (some ⟨6, 0, some 1⟩) n2312 c2313), (.slice (some ⟨7, 0, some 1⟩) n2314 c2315)] false false []), (.cells q2316 false false []), (.cells q2317 false false []), (.cells q2318 false false []), (.cells q2319 false false []), (.cells q2320 false false []), (.cells [(.int .i64 (Int.ofNat k2327))] false false [])] 0 .nil, true⟩ : AHeap)) (by kernel_rfl) (growD_eq h2340) (okAt_of (by kernel_rfl) (by kernel_rfl)) (by kernel_rfl))) ?_
              have hq := bb_inv hm; clear hm; obtain ⟨h2345, hm⟩ := hq
              refine .ghs (⟨49, frTr [(1, (.pointer (some ⟨1, 0, none⟩))), (3, (.pointer (some ⟨2, 0, none⟩))), (10, (Sl.v 1 s2300)), (11, (.int .i64 z2301)), (12, (.int .i64 (Int.ofNat k2327)))] .nil⟩ : Fr) (⟨8, objTr [(.cells tab0 true false []), (.cells [(.int .i64 z2303), (Sl.v 1 s2304), (Sl.v 1 s2305)] false false []), (.cells [(.slice (some ⟨3, 0, some 1⟩) n2306 c2307), (.slice (some ⟨4, 0, some 1⟩) n2308 c2309), (.slice (some ⟨5, 0, some 1⟩) n2310 c2311), (.slice (some ⟨6, 0, some 1⟩) (n2312 + 1) (2 * (n2312 + 1) + bb false 1 0)), (.slice (some ⟨7, 0, some 1⟩) n2314 c2315)] false false []), (.cells q2316 false false []), (.cells q2317 false false []), (.cells q2318 false false []), (.cells (appL (dropL 0 q2319) [(.int .i64 (Int.ofNat k2327))]) false false []), (.cells q2320 false false [])] 0 .nil, true⟩ : AHeap) (.gc [3, 4, 5, 9, 7] [false] [.tmp 1 false, .tmp 3 true, .cell 2 0 false, .cell 2 1 false, .cell 2 2 false, .cell 2 3 false, .cell 2 4 false] [1, 3, 10, 11, 12] (by kernel_rfl) ⟨trE (by kernel_rfl) h2321, trE (by kernel_rfl) h2322, trE (by kernel_rfl) h2323, trE (by kernel_rfl) h2345, trE (by kernel_rfl) h2325, trivial⟩ (by kernel_rfl)) ?_
              refine .reg (F' := (Fr.puts (⟨49, frTr [(1, (.pointer (some ⟨1, 0, none⟩))), (3, (.pointer (some ⟨2, 0, none⟩))), (10, (Sl.v 1 s2300)), (11, (.int .i64 z2301)), (12, (.int .i64 (Int.ofNat k2327)))] .nil⟩ : Fr) [(25, (.int .i64 (wrapF .i64 (Int.add (Int.ofNat k2327) (1 : Int))))), (12, (.int .i64 (wrapF .i64 (Int.add (Int.ofNat k2327) (1 : Int)))))])) (H' := (⟨8, objTr [(.cells tab0 true false []), (.cells [(.int .i64 z2303), (Sl.v 1 s2304), (Sl.v 1 s2305)] false false []), (.cells [(.slice (some ⟨3, 0, some 1⟩) n2306 c2307), (.slice (some ⟨4, 0, some 1⟩) n2308 c2309), (.slice (some ⟨5, 0, some 1⟩) n2310 c2311), (.slice (some ⟨6, 0, some 1⟩) (n2312 + 1) (2 * (n2312 + 1) + bb false 1 0)), (.slice (some ⟨7, 0, some 1⟩) n2314 c2315)] false false []), (.cells q2316 false false []), (.cells q2317 false false []), (.cells q2318 false false []), (.cells (appL (dropL 0 q2319) [(.int .i64 (Int.ofNat k2327))]) false false []), (.cells q2320 false false [])] 0 .nil, true⟩ : AHeap)) (by kernel_rfl) ?_
              exact ⟨(s2300, z2301, (wrapF .i64 (Int.add (Int.ofNat k2327) (1 : Int))), z2303, s2304, s2305, n2306, c2307, n2308, c2309, n2310, c2311, (n2312 + 1), (2 * (n2312 + 1) + bb false 1 0), n2314, c2315, q2316, q2317, q2318, (appL (dropL 0 q2319) [(.int .i64 (Int.ofNat k2327))]), q2320), hm, (.gc [3, 4, 5, 6, 7] [false] [.tmp 1 false, .tmp 3 true, .cell 2 0 false, .cell 2 1 false, .cell 2 2 false, .cell 2 3 false, .cell 2 4 false] [1, 3, 10, 11, 12] (by kernel_rfl) ⟨trE (by kernel_rfl) h2321, trE (by kernel_rfl) h2322, trE (by kernel_rfl) h2323, trE (by kernel_rfl) h2345, trE (by kernel_rfl) h2325, trivial⟩ (by kernel_rfl))⟩
            · skip
              have hq := bb_cases hm; clear hm; rcases hq with ⟨h2340, hm⟩ | ⟨h2340, hm⟩
              · skip
                obtain rfl := Nat.eq_of_beq_eq_true h2340
                have hq := bb_inv hm; clear hm; obtain ⟨h2341, hm⟩ := hq
                refine .reg (F' := (Fr.puts (⟨49, frTr [(1, (.pointer (some ⟨1, 0, none⟩))), (3, (.pointer (some ⟨2, 0, none⟩))), (4, (.int .i64 (Int.ofNat k2327))), (5, (.int .i64 (Int.ofNat 4))), (10, (Sl.v 1 s2300)), (11, (.int .i64 z2301)), (12, (.int .i64 (Int.ofNat k2327)))] .nil⟩ : Fr) [(17, (.int .i64 (Int.ofNat 4))), (18, (.int .i64 (Int.ofNat 4))), (19, (.pointer (some ⟨2, 4, none⟩))), (20, (.slice (some ⟨7, 0, some 1⟩) n2314 c2315)), (21, (.int .i64 (Int.ofNat k2327))), (22, (.slice (some ⟨8, 0, some 1⟩) 1 3)), (23, (.slice (some ⟨9, 0, some 1⟩) (n2314 + 1) (2 * (n2314 + 1) + bb false 1 0))), (24, (.pointer (some ⟨2, 4, none⟩)))])) (H' := (⟨10, objTr [(.cells tab0 true false []), (.cells [(.int .i64 z2303), (Sl.v 1 s2304), (Sl.v 1 s2305)] false false []), (.cells [(.slice (some ⟨3, 0, some 1⟩) n2306 c2307), (.slice (some ⟨4, 0, some 1⟩) n2308 c2309), (.slice (some ⟨5, 0, some 1⟩) n2310 c2311), (.slice (some ⟨6, 0, some 1⟩) n2312 c2313), (.slice (some ⟨9, 0, some 1⟩) (n2314 + 1) (2 * (n2314 + 1) + bb false 1 0))] false false []), (.cells q2316 false false []), (.cells q2317 false false []), (.cells q2318 false false []), (.cells q2319 false false []), (.cells q2320 false true []), (.cells [(.int .i64 (Int.ofNat k2327))] false false []), (.cells (appL (dropL 0 q2320) [(.int .i64 (Int.ofNat k2327))]) false false [7])] 0 .nil, true⟩ : AHeap)) (evOps_cut 6 (by kernel_rfl) (evOps_data (growD 1 8 n2314 c2315 1 7 q2320 [(.int .i64 (Int.ofNat k2327))] [] (⟨9, objTr [(.cells tab0 true false []), (.cells [(.int .i64 z2303), (Sl.v 1 s2304), (Sl.v 1 s2305)] false false []), (.cells [(.slice (some ⟨3, 0, some 1⟩) n2306 c2307), (.slice (some ⟨4, 0, some 1⟩) n2308 c2309), (.slice (some ⟨5, 0, some 1⟩) n2310 c2311), (.slice (some ⟨6, 0, some 1⟩) n2312 c2313), (.slice (some ⟨7, 0, some 1⟩) n2314 c2315)] false false []), (.cells q2316 false false []), (.cells q2317 false false []), (.cells q2318 false false []), (.cells q2319 false false []), (.cells q2320 false false []), (.cells [(.int .i64 (Int.ofNat k2327))] false false [])] 0 .nil, true⟩ : AHeap)) (by kernel_rfl) (growD_eq h2341) (okAt_of (by kernel_rfl) (by kernel_rfl)) (by kernel_rfl))) ?_
                have hq := bb_inv hm; clear hm; obtain ⟨h2346, hm⟩ := hq
                refine .ghs (⟨49, frTr [(1, (.pointer (some ⟨1, 0, none⟩))), (3, (.pointer (some ⟨2, 0, none⟩))), (10, (Sl.v 1 s2300)), (11, (.int .i64 z2301)), (12, (.int .i64 (Int.ofNat k2327)))] .nil⟩ : Fr) (⟨8, objTr [(.cells tab0 true false []), (.cells [(.int .i64 z2303), (Sl.v 1 s2304), (Sl.v 1 s2305)] false false []), (.cells [(.slice (some ⟨3, 0, some 1⟩) n2306 c2307), (.slice (some ⟨4, 0, some 1⟩) n2308 c2309), (.slice (some ⟨5, 0, some 1⟩) n2310 c2311), (.slice (some ⟨6, 0, some 1⟩) n2312 c2313), (.slice (some ⟨7, 0, some 1⟩) (n2314 + 1) (2 * (n2314 + 1) + bb false 1 0))] false false []), (.cells q2316 false false []), (.cells q2317 false false []), (.cells q2318 false false []), (.cells q2319 false false []), (.cells (appL (dropL 0 q2320) [(.int .i64 (Int.ofNat k2327))]) false false [])] 0 .nil, true⟩ : AHeap) (.gc [3, 4, 5, 6, 9] [false] [.tmp 1 false, .tmp 3 true, .cell 2 0 false, .cell 2 1 false, .cell 2 2 false, .cell 2 3 false, .cell 2 4 false] [1, 3, 10, 11, 12] (by kernel_rfl) ⟨trE (by kernel_rfl) h2321, trE (by kernel_rfl) h2322, trE (by kernel_rfl) h2323, trE (by kernel_rfl) h2324, trE (by kernel_rfl) h2346, trivial⟩ (by kernel_rfl)) ?_
                refine .reg (F' := (Fr.puts (⟨49, frTr [(1, (.pointer (some ⟨1, 0, none⟩))), (3, (.pointer (some ⟨2, 0, none⟩))), (10, (Sl.v 1 s2300)), (11, (.int .i64 z2301)), (12, (.int .i64 (Int.ofNat k2327)))] .nil⟩ : Fr) [(25, (.int .i64 (wrapF .i64 (Int.add (Int.ofNat k2327) (1 : Int))))), (12, (.int .i64 (wrapF .i64 (Int.add (Int.ofNat k2327) (1 : Int)))))])) (H' := (⟨8, objTr [(.cells tab0 true false []), (.cells [(.int .i64 z2303), (Sl.v 1 s2304), (Sl.v 1 s2305)] false false []), (.cells [(.slice (some ⟨3, 0, some 1⟩) n2306 c2307), (.slice (some ⟨4, 0, some 1⟩) n2308 c2309), (.slice (some ⟨5, 0, some 1⟩) n2310 c2311), (.slice (some ⟨6, 0, some 1⟩) n2312 c2313), (.slice (some ⟨7, 0, some 1⟩) (n2314 + 1) (2 * (n2314 + 1) + bb false 1 0))] false false []), (.cells q2316 false false []), (.cells q2317 false false []), (.cells q2318 false false []), (.cells q2319 false false []), (.cells (appL (dropL 0 q2320) [(.int .i64 (Int.ofNat k2327))]) false false [])] 0 .nil, true⟩ : AHeap)) (by kernel_rfl) ?_
                exact ⟨(s2300, z2301, (wrapF .i64 (Int.add (Int.ofNat k2327) (1 : Int))), z2303, s2304, s2305, n2306, c2307, n2308, c2309, n2310, c2311, n2312, c2313, (n2314 + 1), (2 * (n2314 + 1) + bb false 1 0), q2316, q2317, q2318, q2319, (appL (dropL 0 q2320) [(.int .i64 (Int.ofNat k2327))])), hm, (.gc [3, 4, 5, 6, 7] [false] [.tmp 1 false, .tmp 3 true, .cell 2 0 false, .cell 2 1 false, .cell 2 2 false, .cell 2 3 false, .cell 2 4 false] [1, 3, 10, 11, 12] (by kernel_rfl) ⟨trE (by kernel_rfl) h2321, trE (by kernel_rfl) h2322, trE (by kernel_rfl) h2323, trE (by kernel_rfl) h2324, trE (by kernel_rfl) h2346, trivial⟩ (by kernel_rfl))⟩
              · skip
                cases hm
    · refine .ifF (ilt z2302 z2301) (by kernel_rfl) h2326 ?_
      refine .exit ?_
      exact ⟨(z2303, s2304, s2305, n2306, c2307, n2308, c2309, n2310, c2311, n2312, c2313, n2314, c2315, q2316, q2317, q2318, q2319, q2320), hm, (.gc [3, 4, 5, 6, 7] [false] [.tmp 1 false, .tmp 3 true, .cell 2 0 false, .cell 2 1 false, .cell 2 2 false, .cell 2 3 false, .cell 2 4 false] [1, 3] (by kernel_rfl) ⟨trE (by kernel_rfl) h2321, trE (by kernel_rfl) h2322, trE (by kernel_rfl) h2323, trE (by kernel_rfl) h2324, trE (by kernel_rfl) h2325, trivial⟩ (by kernel_rfl))⟩
end
end Go.MendNM
