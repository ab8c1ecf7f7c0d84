/- Models of the program's functions, and the proofs that runs give them: MADE BY PROGRAM (wip/tools/dec.py). -/
import Derived.Test.YtjjcahbfhfngdaaHpTMod1x
import Derived.Test.YtjjcahbfhfngdaaHpTMod2

set_option maxRecDepth 100000
set_option maxHeartbeats 20000000
set_option linter.unusedVariables false
namespace Go.HpTM
open Go.Sp Go.HpT
noncomputable section
def m35_0 (pu : PureF) (n : Nat) (z0 : Int) (z1 : Int) : Option Value :=
  (some (.tuple ⟨[(.int .i64 z0), (.int .i64 z1)]⟩))
def b35_1 (pu : PureF) (n : Nat) (ih0 : Int → Int → Option Value) (z0 : Int) (z1 : Int) : Option Value :=
  (bb (ilt z0 z1) (ih0 (wrapF .i64 (Int.add z0 (1 : Int))) (wrapF .i64 (Int.sub z1 (wrapF .i64 (Int.add z0 (1 : Int)))))) (m35_0 pu n z0 z1))
def l35_1 (pu : PureF) (n : Nat) (w : Nat) : Int → Int → Option Value :=
  Nat.rec (motive := fun _ => Int → Int → Option Value) (fun _ _ => none) (fun _ ih0 => b35_1 pu n ih0) w
def m35_ (pu : PureF) (n : Nat) (x0 : Int) : Option Value :=
  (l35_1 pu n n (0 : Int) x0)
def m35 (pu : PureF) (n : Nat) (args : List Value) : Option Value :=
  (ll args none fun a0 args => (ll args (oo (toI .i64 a0) none fun x0 => (m35_ pu n x0)) fun _ _ => none))
theorem w35_0 (pu : PureF) (n : Nat) (z0 : Int) (z1 : Int) {v : Value} (hm : m35_0 pu n z0 z1 = some v) : Run tt (callP tabs isP pu (inl pu)) 0 c35_14 (fr 15 [(2, (zI z0)), (3, (zI z1))]) (hp 0 []) (Fin tt 0 [.tmp 2, .tmp 3] v) := by
  unfold m35_0 at hm
  refine .then ?_
  refine .rK ?_
  refine .ghs (fr 15 [(2, (zI z0)), (3, (zI z1))]) (hp 0 []) (.k0 [] [] [2, 3]) ?_
  refine .ret ?_
  exact fin_ret (.tuple ⟨[(zI z0), (zI z1)]⟩) (by kernel_rfl) (by kernel_rfl) hm
theorem r35 {call : CallF} (pu : PureF) (n : Nat) (hcall : call = callP tabs isP pu (inl pu)) {args : List Value} {v : Value} (hm : m35 pu n args = some v) (_ : ∀ x ∈ args, closed2 x = true) : args.length ≤ 15 ∧ Run tt call 0 c35_16 (Fr.made 15 args) (pureHeap tabs) (Fin tt 0 [.tmp 2, .tmp 3] v) := by
  subst hcall
  unfold m35 at hm
  replace hm := ll_uncons hm; obtain ⟨a0, args_0, rfl, hm⟩ := hm
  replace hm := ll_end hm; obtain ⟨rfl, hm⟩ := hm
  replace hm := inv_toI hm; obtain ⟨x0, rfl, hm⟩ := hm
  unfold m35_ at hm
  refine ⟨by simp, ?_⟩
  refine .same (F' := (fr 15 [(0, (zI x0))])) (H' := (hp 0 [])) (by kernel_rfl) (by kernel_rfl) ?_
  refine .then ?_
  refine .rK ?_
  refine .ghs (fr 15 [(0, (zI x0)), (2, (zI (0 : Int)))]) (hp 0 []) (.k0 [] [] [0, 2]) ?_
  refine .join (v := v) (fun y : Int × Int => ((fr 15 [(2, (zI y.1)), (3, (zI y.2))]), (hp 0 []))) (fun y => m35_0 pu n y.1 y.2) ?_ ?_
  · rintro ⟨z0, z1⟩ hm
    exact w35_0 pu n z0 z1 hm
  · refine .then ?_
    refine .rK ?_
    refine .ghs (fr 15 [(2, (zI (0 : Int))), (3, (zI x0))]) (hp 0 []) (.k0 [] [] [2, 3]) ?_
    refine .block ?_
    refine .loopM (v := v) (fun y : Int × Int => ((fr 15 [(2, (zI y.1)), (3, (zI y.2))]), (hp 0 []))) (fun w y => l35_1 pu n w y.1 y.2) n ⟨((0 : Int), x0), hm, (.k0 [] [] [2, 3])⟩ (fun _ => rfl) ?_
    rintro w0 ⟨z2, z3⟩ hm
    replace hm : b35_1 pu n (l35_1 pu n w0) z2 z3 = some v := hm
    unfold b35_1 at hm
    refine .then ?_
    refine .then ?_
    refine .rK ?_
    refine .ghs (fr 15 [(2, (zI z2)), (3, (zI z3)), (7, (zB (ilt z2 z3)))]) (hp 0 []) (.k0 [] [] [2, 3, 7]) ?_
    replace hm := bb_cases hm; rcases hm with ⟨h0, hm⟩ | ⟨h0, hm⟩
    · refine .ifT (ilt z2 z3) (by kernel_rfl) h0 ?_
      refine .skip ?_
      refine .ghs (fr 15 [(2, (zI z2)), (3, (zI z3))]) (hp 0 []) (.k0 [] [] [2, 3]) ?_
      refine .block ?_
      refine .then ?_
      refine .rK ?_
      refine .ghs (fr 15 [(2, (zI (wrapF .i64 (Int.add z2 (1 : Int))))), (3, (zI z3))]) (hp 0 []) (.k0 [] [] [2, 3]) ?_
      refine .rK ?_
      exact ⟨((wrapF .i64 (Int.add z2 (1 : Int))), (wrapF .i64 (Int.sub z3 (wrapF .i64 (Int.add z2 (1 : Int)))))), hm, (.k0 [] [] [2, 3])⟩
    · refine .ifF (ilt z2 z3) (by kernel_rfl) h0 ?_
      refine .exit ?_
      exact ⟨(z2, z3), hm, (.k0 [] [] [2, 3])⟩
def m36_0 (pu : PureF) (n : Nat) (z0 : Int) : Option Value :=
  (some (.int .i64 z0))
def b36_1 (pu : PureF) (n : Nat) (ih0 : Int → Int → Int → Int → Int → Int → Int → Int → Int → Int → Int → Int → Int → Int → Int → Int → Int → Int → Int → Int → Int → Int → Int → Int → Option Value) (z0 : Int) (z1 : Int) (z2 : Int) (z3 : Int) (z4 : Int) (z5 : Int) (z6 : Int) (z7 : Int) (z8 : Int) (z9 : Int) (z10 : Int) (z11 : Int) (z12 : Int) (z13 : Int) (z14 : Int) (z15 : Int) (z16 : Int) (z17 : Int) (z18 : Int) (z19 : Int) (z20 : Int) (z21 : Int) (z22 : Int) (z23 : Int) : Option Value :=
  (bb (ilt z23 (22 : Int)) (oo (toN z23) none fun k1 => (bb (Nat.blt k1 22) (oo (nthL ([(.int .i64 z1), (.int .i64 z2), (.int .i64 z3), (.int .i64 z4), (.int .i64 z5), (.int .i64 z6), (.int .i64 z7), (.int .i64 z8), (.int .i64 z9), (.int .i64 z10), (.int .i64 z11), (.int .i64 z12), (.int .i64 z13), (.int .i64 z14), (.int .i64 z15), (.int .i64 z16), (.int .i64 z17), (.int .i64 z18), (.int .i64 z19), (.int .i64 z20), (.int .i64 z21), (.int .i64 z22)] : List Value) (k1 * 1)) none fun v0 => (oo (toI .i64 v0) none fun x0 => (ih0 (wrapF .i64 (Int.add z0 (wrapF .i64 (Int.mul (Int.ofNat k1) x0)))) z1 z2 z3 z4 z5 z6 z7 z8 z9 z10 z11 z12 z13 z14 z15 z16 z17 z18 z19 z20 z21 z22 (wrapF .i64 (Int.add (Int.ofNat k1) (1 : Int)))))) none)) (m36_0 pu n z0))
def l36_1 (pu : PureF) (n : Nat) (w : Nat) : Int → Int → Int → Int → Int → Int → Int → Int → Int → Int → Int → Int → Int → Int → Int → Int → Int → Int → Int → Int → Int → Int → Int → Int → Option Value :=
  Nat.rec (motive := fun _ => Int → Int → Int → Int → Int → Int → Int → Int → Int → Int → Int → Int → Int → Int → Int → Int → Int → Int → Int → Int → Int → Int → Int → Int → Option Value) (fun _ _ _ _ _ _ _ _ _ _ _ _ _ _ _ _ _ _ _ _ _ _ _ _ => none) (fun _ ih0 => b36_1 pu n ih0) w
def m36_ (pu : PureF) (n : Nat) (x0 : Int) (x1 : Int) (x2 : Int) (x3 : Int) (x4 : Int) (x5 : Int) (x6 : Int) (x7 : Int) (x8 : Int) (x9 : Int) (x10 : Int) (x11 : Int) (x12 : Int) (x13 : Int) (x14 : Int) (x15 : Int) (x16 : Int) (x17 : Int) (x18 : Int) (x19 : Int) (x20 : Int) (x21 : Int) : Option Value :=
  (l36_1 pu n n (0 : Int) x0 x1 x2 x3 x4 x5 x6 x7 x8 x9 x10 x11 x12 x13 x14 x15 x16 x17 x18 x19 x20 x21 (0 : Int))
def m36 (pu : PureF) (n : Nat) (args : List Value) : Option Value :=
  (ll args none fun a0 args => (ll args (oo (vAgg a0) none fun l0 => (ll l0 none fun v0 l0 => (ll l0 none fun v1 l0 => (ll l0 none fun v2 l0 => (ll l0 none fun v3 l0 => (ll l0 none fun v4 l0 => (ll l0 none fun v5 l0 => (ll l0 none fun v6 l0 => (ll l0 none fun v7 l0 => (ll l0 none fun v8 l0 => (ll l0 none fun v9 l0 => (ll l0 none fun v10 l0 => (ll l0 none fun v11 l0 => (ll l0 none fun v12 l0 => (ll l0 none fun v13 l0 => (ll l0 none fun v14 l0 => (ll l0 none fun v15 l0 => (ll l0 none fun v16 l0 => (ll l0 none fun v17 l0 => (ll l0 none fun v18 l0 => (ll l0 none fun v19 l0 => (ll l0 none fun v20 l0 => (ll l0 none fun v21 l0 => (ll l0 (oo (toI .i64 v0) none fun x0 => (oo (toI .i64 v1) none fun x1 => (oo (toI .i64 v2) none fun x2 => (oo (toI .i64 v3) none fun x3 => (oo (toI .i64 v4) none fun x4 => (oo (toI .i64 v5) none fun x5 => (oo (toI .i64 v6) none fun x6 => (oo (toI .i64 v7) none fun x7 => (oo (toI .i64 v8) none fun x8 => (oo (toI .i64 v9) none fun x9 => (oo (toI .i64 v10) none fun x10 => (oo (toI .i64 v11) none fun x11 => (oo (toI .i64 v12) none fun x12 => (oo (toI .i64 v13) none fun x13 => (oo (toI .i64 v14) none fun x14 => (oo (toI .i64 v15) none fun x15 => (oo (toI .i64 v16) none fun x16 => (oo (toI .i64 v17) none fun x17 => (oo (toI .i64 v18) none fun x18 => (oo (toI .i64 v19) none fun x19 => (oo (toI .i64 v20) none fun x20 => (oo (toI .i64 v21) none fun x21 => (m36_ pu n x0 x1 x2 x3 x4 x5 x6 x7 x8 x9 x10 x11 x12 x13 x14 x15 x16 x17 x18 x19 x20 x21))))))))))))))))))))))) fun _ _ => none)))))))))))))))))))))))) fun _ _ => none))
theorem w36_0 (pu : PureF) (n : Nat) (z0 : Int) {v : Value} (hm : m36_0 pu n z0 = some v) : Run tt (callP tabs isP pu (inl pu)) 0 c36_17 (fr 18 [(3, (zI z0))]) (hp 0 []) (Fin tt 0 [.tmp 2] v) := by
  unfold m36_0 at hm
  refine .then ?_
  refine .rK ?_
  refine .ghs (fr 18 [(2, (zI z0))]) (hp 0 []) (.k0 [] [] [2]) ?_
  refine .ret ?_
  exact fin_ret (zI z0) (by kernel_rfl) (by kernel_rfl) hm
theorem r36 {call : CallF} (pu : PureF) (n : Nat) (hcall : call = callP tabs isP pu (inl pu)) {args : List Value} {v : Value} (hm : m36 pu n args = some v) (_ : ∀ x ∈ args, closed2 x = true) : args.length ≤ 18 ∧ Run tt call 0 c36_20 (Fr.made 18 args) (pureHeap tabs) (Fin tt 0 [.tmp 2] v) := by
  subst hcall
  unfold m36 at hm
  replace hm := ll_uncons hm; obtain ⟨a0, args_0, rfl, hm⟩ := hm
  replace hm := ll_end hm; obtain ⟨rfl, hm⟩ := hm
  replace hm := inv_vAgg hm; obtain ⟨l0, rfl, hm⟩ := hm
  replace hm := ll_uncons hm; obtain ⟨v0, l1734_0, rfl, hm⟩ := hm
  replace hm := ll_uncons hm; obtain ⟨v1, l1734_1, rfl, hm⟩ := hm
  replace hm := ll_uncons hm; obtain ⟨v2, l1734_2, rfl, hm⟩ := hm
  replace hm := ll_uncons hm; obtain ⟨v3, l1734_3, rfl, hm⟩ := hm
  replace hm := ll_uncons hm; obtain ⟨v4, l1734_4, rfl, hm⟩ := hm
  replace hm := ll_uncons hm; obtain ⟨v5, l1734_5, rfl, hm⟩ := hm
  replace hm := ll_uncons hm; obtain ⟨v6, l1734_6, rfl, hm⟩ := hm
  replace hm := ll_uncons hm; obtain ⟨v7, l1734_7, rfl, hm⟩ := hm
  replace hm := ll_uncons hm; obtain ⟨v8, l1734_8, rfl, hm⟩ := hm
  replace hm := ll_uncons hm; obtain ⟨v9, l1734_9, rfl, hm⟩ := hm
  replace hm := ll_uncons hm; obtain ⟨v10, l1734_10, rfl, hm⟩ := hm
  replace hm := ll_uncons hm; obtain ⟨v11, l1734_11, rfl, hm⟩ := hm
  replace hm := ll_uncons hm; obtain ⟨v12, l1734_12, rfl, hm⟩ := hm
  replace hm := ll_uncons hm; obtain ⟨v13, l1734_13, rfl, hm⟩ := hm
  replace hm := ll_uncons hm; obtain ⟨v14, l1734_14, rfl, hm⟩ := hm
  replace hm := ll_uncons hm; obtain ⟨v15, l1734_15, rfl, hm⟩ := hm
  replace hm := ll_uncons hm; obtain ⟨v16, l1734_16, rfl, hm⟩ := hm
  replace hm := ll_uncons hm; obtain ⟨v17, l1734_17, rfl, hm⟩ := hm
  replace hm := ll_uncons hm; obtain ⟨v18, l1734_18, rfl, hm⟩ := hm
  replace hm := ll_uncons hm; obtain ⟨v19, l1734_19, rfl, hm⟩ := hm
  replace hm := ll_uncons hm; obtain ⟨v20, l1734_20, rfl, hm⟩ := hm
  replace hm := ll_uncons hm; obtain ⟨v21, l1734_21, rfl, hm⟩ := hm
  replace hm := ll_end hm; obtain ⟨rfl, hm⟩ := hm
  replace hm := inv_toI hm; obtain ⟨x0, rfl, hm⟩ := hm
  replace hm := inv_toI hm; obtain ⟨x1, rfl, hm⟩ := hm
  replace hm := inv_toI hm; obtain ⟨x2, rfl, hm⟩ := hm
  replace hm := inv_toI hm; obtain ⟨x3, rfl, hm⟩ := hm
  replace hm := inv_toI hm; obtain ⟨x4, rfl, hm⟩ := hm
  replace hm := inv_toI hm; obtain ⟨x5, rfl, hm⟩ := hm
  replace hm := inv_toI hm; obtain ⟨x6, rfl, hm⟩ := hm
  replace hm := inv_toI hm; obtain ⟨x7, rfl, hm⟩ := hm
  replace hm := inv_toI hm; obtain ⟨x8, rfl, hm⟩ := hm
  replace hm := inv_toI hm; obtain ⟨x9, rfl, hm⟩ := hm
  replace hm := inv_toI hm; obtain ⟨x10, rfl, hm⟩ := hm
  replace hm := inv_toI hm; obtain ⟨x11, rfl, hm⟩ := hm
  replace hm := inv_toI hm; obtain ⟨x12, rfl, hm⟩ := hm
  replace hm := inv_toI hm; obtain ⟨x13, rfl, hm⟩ := hm
  replace hm := inv_toI hm; obtain ⟨x14, rfl, hm⟩ := hm
  replace hm := inv_toI hm; obtain ⟨x15, rfl, hm⟩ := hm
  replace hm := inv_toI hm; obtain ⟨x16, rfl, hm⟩ := hm
  replace hm := inv_toI hm; obtain ⟨x17, rfl, hm⟩ := hm
  replace hm := inv_toI hm; obtain ⟨x18, rfl, hm⟩ := hm
  replace hm := inv_toI hm; obtain ⟨x19, rfl, hm⟩ := hm
  replace hm := inv_toI hm; obtain ⟨x20, rfl, hm⟩ := hm
  replace hm := inv_toI hm; obtain ⟨x21, rfl, hm⟩ := hm
  unfold m36_ at hm
  refine ⟨by simp, ?_⟩
  refine .same (F' := (fr 18 [(0, (.agg ⟨[(zI x0), (zI x1), (zI x2), (zI x3), (zI x4), (zI x5), (zI x6), (zI x7), (zI x8), (zI x9), (zI x10), (zI x11), (zI x12), (zI x13), (zI x14), (zI x15), (zI x16), (zI x17), (zI x18), (zI x19), (zI x20), (zI x21)]⟩))])) (H' := (hp 0 [])) (by kernel_rfl) (by kernel_rfl) ?_
  refine .then ?_
  refine .rK ?_
  refine .ghs (fr 18 [(1, (pt 0 0))]) (hp 1 [(oC [(zI x0), (zI x1), (zI x2), (zI x3), (zI x4), (zI x5), (zI x6), (zI x7), (zI x8), (zI x9), (zI x10), (zI x11), (zI x12), (zI x13), (zI x14), (zI x15), (zI x16), (zI x17), (zI x18), (zI x19), (zI x20), (zI x21)])]) (.k0 [] [.tmp 1 false] [1]) ?_
  refine .then ?_
  refine .rK ?_
  refine .ghs (fr 18 [(1, (pt 0 0)), (3, (zI (0 : Int)))]) (hp 1 [(oC [(zI x0), (zI x1), (zI x2), (zI x3), (zI x4), (zI x5), (zI x6), (zI x7), (zI x8), (zI x9), (zI x10), (zI x11), (zI x12), (zI x13), (zI x14), (zI x15), (zI x16), (zI x17), (zI x18), (zI x19), (zI x20), (zI x21)])]) (.k0 [] [.tmp 1 false] [1, 3]) ?_
  refine .join (v := v) (fun y : Int => ((fr 18 [(3, (zI y))]), (hp 0 []))) (fun y => m36_0 pu n y) ?_ ?_
  · rintro z0 hm
    exact w36_0 pu n z0 hm
  · refine .then ?_
    refine .rK ?_
    refine .ghs (fr 18 [(3, (zI (0 : Int))), (6, (.agg ⟨[(zI x0), (zI x1), (zI x2), (zI x3), (zI x4), (zI x5), (zI x6), (zI x7), (zI x8), (zI x9), (zI x10), (zI x11), (zI x12), (zI x13), (zI x14), (zI x15), (zI x16), (zI x17), (zI x18), (zI x19), (zI x20), (zI x21)]⟩)), (7, (zI (0 : Int)))]) (hp 0 []) (.k0 [] [] [3, 6, 7]) ?_
    refine .block ?_
    refine .loopM (v := v) (fun y : Int × Int × Int × Int × Int × Int × Int × Int × Int × Int × Int × Int × Int × Int × Int × Int × Int × Int × Int × Int × Int × Int × Int × Int => ((fr 18 [(3, (zI y.1)), (6, (.agg ⟨[(zI y.2.1), (zI y.2.2.1), (zI y.2.2.2.1), (zI y.2.2.2.2.1), (zI y.2.2.2.2.2.1), (zI y.2.2.2.2.2.2.1), (zI y.2.2.2.2.2.2.2.1), (zI y.2.2.2.2.2.2.2.2.1), (zI y.2.2.2.2.2.2.2.2.2.1), (zI y.2.2.2.2.2.2.2.2.2.2.1), (zI y.2.2.2.2.2.2.2.2.2.2.2.1), (zI y.2.2.2.2.2.2.2.2.2.2.2.2.1), (zI y.2.2.2.2.2.2.2.2.2.2.2.2.2.1), (zI y.2.2.2.2.2.2.2.2.2.2.2.2.2.2.1), (zI y.2.2.2.2.2.2.2.2.2.2.2.2.2.2.2.1), (zI y.2.2.2.2.2.2.2.2.2.2.2.2.2.2.2.2.1), (zI y.2.2.2.2.2.2.2.2.2.2.2.2.2.2.2.2.2.1), (zI y.2.2.2.2.2.2.2.2.2.2.2.2.2.2.2.2.2.2.1), (zI y.2.2.2.2.2.2.2.2.2.2.2.2.2.2.2.2.2.2.2.1), (zI y.2.2.2.2.2.2.2.2.2.2.2.2.2.2.2.2.2.2.2.2.1), (zI y.2.2.2.2.2.2.2.2.2.2.2.2.2.2.2.2.2.2.2.2.2.1), (zI y.2.2.2.2.2.2.2.2.2.2.2.2.2.2.2.2.2.2.2.2.2.2.1)]⟩)), (7, (zI y.2.2.2.2.2.2.2.2.2.2.2.2.2.2.2.2.2.2.2.2.2.2.2))]), (hp 0 []))) (fun w y => l36_1 pu n w y.1 y.2.1 y.2.2.1 y.2.2.2.1 y.2.2.2.2.1 y.2.2.2.2.2.1 y.2.2.2.2.2.2.1 y.2.2.2.2.2.2.2.1 y.2.2.2.2.2.2.2.2.1 y.2.2.2.2.2.2.2.2.2.1 y.2.2.2.2.2.2.2.2.2.2.1 y.2.2.2.2.2.2.2.2.2.2.2.1 y.2.2.2.2.2.2.2.2.2.2.2.2.1 y.2.2.2.2.2.2.2.2.2.2.2.2.2.1 y.2.2.2.2.2.2.2.2.2.2.2.2.2.2.1 y.2.2.2.2.2.2.2.2.2.2.2.2.2.2.2.1 y.2.2.2.2.2.2.2.2.2.2.2.2.2.2.2.2.1 y.2.2.2.2.2.2.2.2.2.2.2.2.2.2.2.2.2.1 y.2.2.2.2.2.2.2.2.2.2.2.2.2.2.2.2.2.2.1 y.2.2.2.2.2.2.2.2.2.2.2.2.2.2.2.2.2.2.2.1 y.2.2.2.2.2.2.2.2.2.2.2.2.2.2.2.2.2.2.2.2.1 y.2.2.2.2.2.2.2.2.2.2.2.2.2.2.2.2.2.2.2.2.2.1 y.2.2.2.2.2.2.2.2.2.2.2.2.2.2.2.2.2.2.2.2.2.2.1 y.2.2.2.2.2.2.2.2.2.2.2.2.2.2.2.2.2.2.2.2.2.2.2) n ⟨((0 : Int), x0, x1, x2, x3, x4, x5, x6, x7, x8, x9, x10, x11, x12, x13, x14, x15, x16, x17, x18, x19, x20, x21, (0 : Int)), hm, (.k0 [] [] [3, 6, 7])⟩ (fun _ => rfl) ?_
    rintro w0 ⟨z1, z2, z3, z4, z5, z6, z7, z8, z9, z10, z11, z12, z13, z14, z15, z16, z17, z18, z19, z20, z21, z22, z23, z24⟩ hm
    replace hm : b36_1 pu n (l36_1 pu n w0) z1 z2 z3 z4 z5 z6 z7 z8 z9 z10 z11 z12 z13 z14 z15 z16 z17 z18 z19 z20 z21 z22 z23 z24 = some v := hm
    unfold b36_1 at hm
    refine .then ?_
    refine .rK ?_
    refine .ghs (fr 18 [(3, (zI z1)), (6, (.agg ⟨[(zI z2), (zI z3), (zI z4), (zI z5), (zI z6), (zI z7), (zI z8), (zI z9), (zI z10), (zI z11), (zI z12), (zI z13), (zI z14), (zI z15), (zI z16), (zI z17), (zI z18), (zI z19), (zI z20), (zI z21), (zI z22), (zI z23)]⟩)), (7, (zI z24)), (8, (zB (ilt z24 (22 : Int))))]) (hp 0 []) (.k0 [] [] [3, 6, 7, 8]) ?_
    refine .then ?_
    replace hm := bb_cases hm; rcases hm with ⟨h0, hm⟩ | ⟨h0, hm⟩
    · refine .ifT (ilt z24 (22 : Int)) (by kernel_rfl) h0 ?_
      refine .skip ?_
      refine .ghs (fr 18 [(3, (zI z1)), (6, (.agg ⟨[(zI z2), (zI z3), (zI z4), (zI z5), (zI z6), (zI z7), (zI z8), (zI z9), (zI z10), (zI z11), (zI z12), (zI z13), (zI z14), (zI z15), (zI z16), (zI z17), (zI z18), (zI z19), (zI z20), (zI z21), (zI z22), (zI z23)]⟩)), (7, (zI z24))]) (hp 0 []) (.k0 [] [] [3, 6, 7]) ?_
      refine .then ?_
      refine .block ?_
      refine .then ?_
      replace hm := oo_inv hm; obtain ⟨k1, h1, hm⟩ := hm
      obtain rfl := toN_some h1
      replace hm := bb_inv hm; obtain ⟨h2, hm⟩ := hm
      replace hm := oo_inv hm; obtain ⟨v22, h3, hm⟩ := hm
      replace hm := inv_toI hm; obtain ⟨x22, rfl, hm⟩ := hm
      refine .reg (eC 1 (keep (hp 0 []) (bb (Nat.blt k1 22) (nthL ([(zI z2), (zI z3), (zI z4), (zI z5), (zI z6), (zI z7), (zI z8), (zI z9), (zI z10), (zI z11), (zI z12), (zI z13), (zI z14), (zI z15), (zI z16), (zI z17), (zI z18), (zI z19), (zI z20), (zI z21), (zI z22), (zI z23)] : List Value) (k1 * 1)) none)) (keep_bbo h2 h3) (eE)) ?_
      refine .ghs (fr 18 [(3, (zI z1)), (4, (zI (Int.ofNat k1))), (5, (zI x22)), (6, (.agg ⟨[(zI z2), (zI z3), (zI z4), (zI z5), (zI z6), (zI z7), (zI z8), (zI z9), (zI z10), (zI z11), (zI z12), (zI z13), (zI z14), (zI z15), (zI z16), (zI z17), (zI z18), (zI z19), (zI z20), (zI z21), (zI z22), (zI z23)]⟩)), (7, (zI (Int.ofNat k1)))]) (hp 0 []) (.k0 [] [] [3, 4, 5, 6, 7]) ?_
      refine .rK ?_
      refine .ghs (fr 18 [(3, (zI (wrapF .i64 (Int.add z1 (wrapF .i64 (Int.mul (Int.ofNat k1) x22)))))), (6, (.agg ⟨[(zI z2), (zI z3), (zI z4), (zI z5), (zI z6), (zI z7), (zI z8), (zI z9), (zI z10), (zI z11), (zI z12), (zI z13), (zI z14), (zI z15), (zI z16), (zI z17), (zI z18), (zI z19), (zI z20), (zI z21), (zI z22), (zI z23)]⟩)), (7, (zI (Int.ofNat k1)))]) (hp 0 []) (.k0 [] [] [3, 6, 7]) ?_
      refine .rK ?_
      exact ⟨((wrapF .i64 (Int.add z1 (wrapF .i64 (Int.mul (Int.ofNat k1) x22)))), z2, z3, z4, z5, z6, z7, z8, z9, z10, z11, z12, z13, z14, z15, z16, z17, z18, z19, z20, z21, z22, z23, (wrapF .i64 (Int.add (Int.ofNat k1) (1 : Int)))), hm, (.k0 [] [] [3, 6, 7])⟩
    · refine .ifF (ilt z24 (22 : Int)) (by kernel_rfl) h0 ?_
      refine .exit ?_
      exact ⟨z1, hm, (.k0 [] [] [3])⟩
def b43_0 (pu : PureF) (n : Nat) (ih0 : Int → List Value → List Value → Option Value) (z0 : Int) (q0 : List Value) (q1 : List Value) : Option Value :=
  (bb (allL closed1 q0) (bb (allL closed1 q1) (bb (Nat.ble (0 + 22) (len q0)) (oo (pu 34 [(.agg ⟨(takeL 22 (dropL 0 q0))⟩)]) none fun v0 => (oo (vBool v0) none fun b0 => (bb (allL closed2 [(.agg ⟨(takeL 22 (dropL 0 q0))⟩)]) (bb (nt b0) (bb (Nat.ble (0 + 22) (len q0)) (oo (pu 30 [(.agg ⟨(takeL 22 (dropL 0 q0))⟩)]) none fun v1 => (oo (vAgg v1) none fun q2 => (bb (an (Nat.beq (len q2) 22) (allL closed1 q2)) (bb (allL closed2 [(.agg ⟨(takeL 22 (dropL 0 q0))⟩)]) (bb (Nat.beq (len q2) 22) (bb (an (Nat.ble (0 + len q2) (len q0)) (allL scalarB q2)) (bb (allL closed1 (setL q2 0 q0)) (ih0 (wrapF .i64 (Int.add z0 (1 : Int))) (setL q2 0 q0) q1) none) none) none) none) none))) none) (bb (Nat.ble (0 + 22) (len q0)) (bb (Nat.beq (len (takeL 22 (dropL 0 q0))) 22) (bb (an (Nat.ble (0 + len (takeL 22 (dropL 0 q0))) (len q1)) (allL scalarB (takeL 22 (dropL 0 q0)))) (bb (allL closed1 (setL (takeL 22 (dropL 0 q0)) 0 q1)) (bb (Nat.ble (0 + 22) (len (setL (takeL 22 (dropL 0 q0)) 0 q1))) (bb (closedV (.tuple ⟨[(.int .i64 z0), (.agg ⟨(takeL 22 (dropL 0 (setL (takeL 22 (dropL 0 q0)) 0 q1)))⟩)]⟩)) (some (.tuple ⟨[(.int .i64 z0), (.agg ⟨(takeL 22 (dropL 0 (setL (takeL 22 (dropL 0 q0)) 0 q1)))⟩)]⟩)) none) none) none) none) none) none)) none))) none) none) none)
def l43_0 (pu : PureF) (n : Nat) (w : Nat) : Int → List Value → List Value → Option Value :=
  Nat.rec (motive := fun _ => Int → List Value → List Value → Option Value) (fun _ _ _ => none) (fun _ ih0 => b43_0 pu n ih0) w
def m43_ (pu : PureF) (n : Nat) (q0 : List Value) : Option Value :=
  (bb (allL closed1 q0) (bb (allL closed1 zA53) (bb (Nat.ble (0 + 22) (len q0)) (oo (pu 34 [(.agg ⟨(takeL 22 (dropL 0 q0))⟩)]) none fun v0 => (oo (vBool v0) none fun b0 => (bb (allL closed2 [(.agg ⟨(takeL 22 (dropL 0 q0))⟩)]) (bb (nt b0) (bb (Nat.ble (0 + 22) (len q0)) (oo (pu 30 [(.agg ⟨(takeL 22 (dropL 0 q0))⟩)]) none fun v1 => (oo (vAgg v1) none fun q1 => (bb (an (Nat.beq (len q1) 22) (allL closed1 q1)) (bb (allL closed2 [(.agg ⟨(takeL 22 (dropL 0 q0))⟩)]) (bb (Nat.beq (len q1) 22) (bb (an (Nat.ble (0 + len q1) (len q0)) (allL scalarB q1)) (bb (allL closed1 (setL q1 0 q0)) (l43_0 pu n n (1 : Int) (setL q1 0 q0) zA53) none) none) none) none) none))) none) (bb (Nat.ble (0 + 22) (len q0)) (bb (Nat.beq (len (takeL 22 (dropL 0 q0))) 22) (bb (an (Nat.ble (0 + len (takeL 22 (dropL 0 q0))) (len zA53)) (allL scalarB (takeL 22 (dropL 0 q0)))) (bb (allL closed1 (setL (takeL 22 (dropL 0 q0)) 0 zA53)) (bb (Nat.ble (0 + 22) (len (setL (takeL 22 (dropL 0 q0)) 0 zA53))) (bb (closedV (.tuple ⟨[(.int .i64 (0 : Int)), (.agg ⟨(takeL 22 (dropL 0 (setL (takeL 22 (dropL 0 q0)) 0 zA53)))⟩)]⟩)) (some (.tuple ⟨[(.int .i64 (0 : Int)), (.agg ⟨(takeL 22 (dropL 0 (setL (takeL 22 (dropL 0 q0)) 0 zA53)))⟩)]⟩)) none) none) none) none) none) none)) none))) none) none) none)
def m43 (pu : PureF) (n : Nat) (args : List Value) : Option Value :=
  (ll args none fun a0 args => (ll args (oo (vAgg a0) none fun q0 => (bb (an (Nat.beq (len q0) 22) (allL closed1 q0)) (m43_ pu n q0) none)) fun _ _ => none))
theorem r43 {call : CallF} (pu : PureF) (n : Nat) (hcall : call = callP tabs isP pu (inl pu)) {args : List Value} {v : Value} (hm : m43 pu n args = some v) (_ : ∀ x ∈ args, closed2 x = true) : args.length ≤ 14 ∧ Run tt call 0 c43_26 (Fr.made 14 args) (pureHeap tabs) (Fin tt 0 [.tmp 2, .cell 3 53] v) := by
  subst hcall
  unfold m43 at hm
  replace hm := ll_uncons hm; obtain ⟨a0, args_0, rfl, hm⟩ := hm
  replace hm := ll_end hm; obtain ⟨rfl, hm⟩ := hm
  replace hm := inv_vAgg hm; obtain ⟨q0, rfl, hm⟩ := hm
  replace hm := bb_inv hm; obtain ⟨h0, hm⟩ := hm
  unfold m43_ at hm
  refine ⟨by simp, ?_⟩
  refine .same (F' := (fr 14 [(0, (.agg ⟨q0⟩))])) (H' := (hp 0 [])) (by kernel_rfl) (by kernel_rfl) ?_
  refine .then ?_
  refine .rK ?_
  replace hm := bb_inv hm; obtain ⟨h1, hm⟩ := hm
  replace hm := bb_inv hm; obtain ⟨h2, hm⟩ := hm
  refine .ghs (fr 14 [(1, (pt 0 0)), (3, (pt 1 0))]) (hp 2 [(oC q0), (oC zA53)]) (.k [0, 1] [] [.tmp 1 false, .tmp 3 false] [1, 3] ⟨trE (by kernel_rfl) h1, trE (by kernel_rfl) h2, trivial⟩) ?_
  refine .scopeM (v := v) (fun y : Int × List Value × List Value => ((fr 14 [(1, (pt 0 0)), (3, (pt 1 0)), (4, (zI y.1))]), (hp 2 [(oC y.2.1), (oC y.2.2)]))) (fun w y => l43_0 pu n w y.1 y.2.1 y.2.2) n (fun _ => rfl) ?_ ?_
  · refine .then ?_
    refine .rK ?_
    refine .ghs (fr 14 [(1, (pt 0 0)), (3, (pt 1 0)), (4, (zI (0 : Int)))]) (hp 2 [(oC q0), (oC zA53)]) (.k [0, 1] [] [.tmp 1 false, .tmp 3 false] [1, 3, 4] ⟨trE (by kernel_rfl) h1, trE (by kernel_rfl) h2, trivial⟩) ?_
    refine .then ?_
    refine .label ?_
    refine .ghs (fr 14 [(1, (pt 0 0)), (3, (pt 1 0)), (4, (zI (0 : Int)))]) (hp 2 [(oC q0), (oC zA53)]) (.k [0, 1] [] [.tmp 1 false, .tmp 3 false] [1, 3, 4] ⟨trE (by kernel_rfl) h1, trE (by kernel_rfl) h2, trivial⟩) ?_
    refine .then ?_
    refine .then ?_
    replace hm := bb_inv hm; obtain ⟨h3, hm⟩ := hm
    replace hm := oo_inv hm; obtain ⟨v0, h4, hm⟩ := hm
    replace hm := inv_vBool hm; obtain ⟨b0, rfl, hm⟩ := hm
    replace hm := bb_inv hm; obtain ⟨h5, hm⟩ := hm
    refine .reg (eD (keep (hp 2 [(oC q0), (oC zA53)]) (bb (Nat.ble (0 + 22) (len q0)) (some (.agg ⟨(takeL 22 (dropL 0 q0))⟩)) none)) (keep_bb h3) (eD (bb (allL closed2 [(.agg ⟨(takeL 22 (dropL 0 q0))⟩)]) (oo (pu 34 [(.agg ⟨(takeL 22 (dropL 0 q0))⟩)]) none fun v => some (v, (hp 2 [(oC q0), (oC zA53)]))) (oo (mapO (purify (hp 2 [(oC q0), (oC zA53)])) [(.agg ⟨(takeL 22 (dropL 0 q0))⟩)]) none fun l1 => oo (pu 34 l1) none fun v => bb (plainT v) (some (v, (hp 2 [(oC q0), (oC zA53)]))) none)) (callc_eq h5 h4) (eE))) ?_
    refine .ghs (fr 14 [(1, (pt 0 0)), (3, (pt 1 0)), (4, (zI (0 : Int))), (7, (zB (nt b0)))]) (hp 2 [(oC q0), (oC zA53)]) (.k [0, 1] [] [.tmp 1 false, .tmp 3 false] [1, 3, 4, 7] ⟨trE (by kernel_rfl) h1, trE (by kernel_rfl) h2, trivial⟩) ?_
    replace hm := bb_cases hm; rcases hm with ⟨h6, hm⟩ | ⟨h6, hm⟩
    · refine .ifT (nt b0) (by kernel_rfl) h6 ?_
      refine .then ?_
      replace hm := bb_inv hm; obtain ⟨h7, hm⟩ := hm
      replace hm := oo_inv hm; obtain ⟨v1, h8, hm⟩ := hm
      replace hm := inv_vAgg hm; obtain ⟨q1, rfl, hm⟩ := hm
      replace hm := bb_inv hm; obtain ⟨h9, hm⟩ := hm
      replace hm := bb_inv hm; obtain ⟨h10, hm⟩ := hm
      replace hm := bb_inv hm; obtain ⟨h11, hm⟩ := hm
      replace hm := bb_inv hm; obtain ⟨h12, hm⟩ := hm
      refine .reg (eD (keep (hp 2 [(oC q0), (oC zA53)]) (bb (Nat.ble (0 + 22) (len q0)) (some (.agg ⟨(takeL 22 (dropL 0 q0))⟩)) none)) (keep_bb h7) (eD (bb (allL closed2 [(.agg ⟨(takeL 22 (dropL 0 q0))⟩)]) (oo (pu 30 [(.agg ⟨(takeL 22 (dropL 0 q0))⟩)]) none fun v => some (v, (hp 2 [(oC q0), (oC zA53)]))) (oo (mapO (purify (hp 2 [(oC q0), (oC zA53)])) [(.agg ⟨(takeL 22 (dropL 0 q0))⟩)]) none fun l1 => oo (pu 30 l1) none fun v => bb (plainT v) (some (v, (hp 2 [(oC q0), (oC zA53)]))) none)) (callc_eq h10 h8) (eD (done (bb (Nat.beq (len q1) 22) (bb (an (Nat.ble (0 + len q1) (len q0)) (allL scalarB q1)) (some (hp 2 [(oC (setL q1 0 q0)), (oC zA53)])) none) none) undef) (done_bb2 h11 h12) (eE)))) ?_
      replace hm := bb_inv hm; obtain ⟨h13, hm⟩ := hm
      refine .ghs (fr 14 [(1, (pt 0 0)), (3, (pt 1 0)), (4, (zI (0 : Int)))]) (hp 2 [(oC (setL q1 0 q0)), (oC zA53)]) (.k [0, 1] [] [.tmp 1 false, .tmp 3 false] [1, 3, 4] ⟨trE (by kernel_rfl) h13, trE (by kernel_rfl) h2, trivial⟩) ?_
      refine .then ?_
      refine .rK ?_
      refine .ghs (fr 14 [(1, (pt 0 0)), (3, (pt 1 0)), (4, (zI (1 : Int)))]) (hp 2 [(oC (setL q1 0 q0)), (oC zA53)]) (.k [0, 1] [] [.tmp 1 false, .tmp 3 false] [1, 3, 4] ⟨trE (by kernel_rfl) h13, trE (by kernel_rfl) h2, trivial⟩) ?_
      refine .goto ?_
      exact ⟨rfl, ((1 : Int), (setL q1 0 q0), zA53), hm, (.k [0, 1] [] [.tmp 1 false, .tmp 3 false] [1, 3, 4] ⟨trE (by kernel_rfl) h13, trE (by kernel_rfl) h2, trivial⟩)⟩
    · refine .ifF (nt b0) (by kernel_rfl) h6 ?_
      refine .skip ?_
      refine .ghs (fr 14 [(1, (pt 0 0)), (3, (pt 1 0)), (4, (zI (0 : Int)))]) (hp 2 [(oC q0), (oC zA53)]) (.k [0, 1] [] [.tmp 1 false, .tmp 3 false] [1, 3, 4] ⟨trE (by kernel_rfl) h1, trE (by kernel_rfl) h2, trivial⟩) ?_
      refine .then ?_
      replace hm := bb_inv hm; obtain ⟨h14, hm⟩ := hm
      replace hm := bb_inv hm; obtain ⟨h15, hm⟩ := hm
      replace hm := bb_inv hm; obtain ⟨h16, hm⟩ := hm
      refine .reg (eC 1 (keep (hp 2 [(oC q0), (oC zA53)]) (bb (Nat.ble (0 + 22) (len q0)) (some (.agg ⟨(takeL 22 (dropL 0 q0))⟩)) none)) (keep_bb h14) (eC 1 (done (bb (Nat.beq (len (takeL 22 (dropL 0 q0))) 22) (bb (an (Nat.ble (0 + len (takeL 22 (dropL 0 q0))) (len zA53)) (allL scalarB (takeL 22 (dropL 0 q0)))) (some (hp 2 [(oC q0), (oC (setL (takeL 22 (dropL 0 q0)) 0 zA53))])) none) none) undef) (done_bb2 h15 h16) (eE))) ?_
      replace hm := bb_inv hm; obtain ⟨h17, hm⟩ := hm
      refine .ghs (fr 14 [(2, (zI (0 : Int))), (3, (pt 0 0))]) (hp 1 [(oC (setL (takeL 22 (dropL 0 q0)) 0 zA53))]) (.k [1] [] [.tmp 3 false] [2, 3] ⟨trE (by kernel_rfl) h17, trivial⟩) ?_
      refine .ret ?_
      replace hm := bb_inv hm; obtain ⟨h18, hm⟩ := hm
      replace hm := bb_inv hm; obtain ⟨h19, hm⟩ := hm
      exact fin_ret (.tuple ⟨[(zI (0 : Int)), (.agg ⟨(takeL 22 (dropL 0 (setL (takeL 22 (dropL 0 q0)) 0 zA53)))⟩)]⟩) (aresults_of (aresultsL_cons (show aresult _ _ _ _ = some (zI (0 : Int)) from (by kernel_rfl)) (aresultsL_cons (show aresult _ _ _ _ = some (.agg ⟨(takeL 22 (dropL 0 (setL (takeL 22 (dropL 0 q0)) 0 zA53)))⟩) from (eq_bb (c := (Nat.ble (0 + 22) (len (setL (takeL 22 (dropL 0 q0)) 0 zA53)))) (by kernel_rfl) h18)) rfl)) (by kernel_rfl)) h19 hm
  · rintro w0 ⟨z0, q2, q3⟩ hm
    replace hm : b43_0 pu n (l43_0 pu n w0) z0 q2 q3 = some v := hm
    unfold b43_0 at hm
    refine .then ?_
    refine .skip ?_
    replace hm := bb_inv hm; obtain ⟨h20, hm⟩ := hm
    replace hm := bb_inv hm; obtain ⟨h21, hm⟩ := hm
    refine .ghs (fr 14 [(1, (pt 0 0)), (3, (pt 1 0)), (4, (zI z0))]) (hp 2 [(oC q2), (oC q3)]) (.k [0, 1] [] [.tmp 1 false, .tmp 3 false] [1, 3, 4] ⟨trE (by kernel_rfl) h20, trE (by kernel_rfl) h21, trivial⟩) ?_
    refine .then ?_
    refine .then ?_
    replace hm := bb_inv hm; obtain ⟨h22, hm⟩ := hm
    replace hm := oo_inv hm; obtain ⟨v2, h23, hm⟩ := hm
    replace hm := inv_vBool hm; obtain ⟨b1, rfl, hm⟩ := hm
    replace hm := bb_inv hm; obtain ⟨h24, hm⟩ := hm
    refine .reg (eD (keep (hp 2 [(oC q2), (oC q3)]) (bb (Nat.ble (0 + 22) (len q2)) (some (.agg ⟨(takeL 22 (dropL 0 q2))⟩)) none)) (keep_bb h22) (eD (bb (allL closed2 [(.agg ⟨(takeL 22 (dropL 0 q2))⟩)]) (oo (pu 34 [(.agg ⟨(takeL 22 (dropL 0 q2))⟩)]) none fun v => some (v, (hp 2 [(oC q2), (oC q3)]))) (oo (mapO (purify (hp 2 [(oC q2), (oC q3)])) [(.agg ⟨(takeL 22 (dropL 0 q2))⟩)]) none fun l1 => oo (pu 34 l1) none fun v => bb (plainT v) (some (v, (hp 2 [(oC q2), (oC q3)]))) none)) (callc_eq h24 h23) (eE))) ?_
    refine .ghs (fr 14 [(1, (pt 0 0)), (3, (pt 1 0)), (4, (zI z0)), (7, (zB (nt b1)))]) (hp 2 [(oC q2), (oC q3)]) (.k [0, 1] [] [.tmp 1 false, .tmp 3 false] [1, 3, 4, 7] ⟨trE (by kernel_rfl) h20, trE (by kernel_rfl) h21, trivial⟩) ?_
    replace hm := bb_cases hm; rcases hm with ⟨h25, hm⟩ | ⟨h25, hm⟩
    · refine .ifT (nt b1) (by kernel_rfl) h25 ?_
      refine .then ?_
      replace hm := bb_inv hm; obtain ⟨h26, hm⟩ := hm
      replace hm := oo_inv hm; obtain ⟨v3, h27, hm⟩ := hm
      replace hm := inv_vAgg hm; obtain ⟨q4, rfl, hm⟩ := hm
      replace hm := bb_inv hm; obtain ⟨h28, hm⟩ := hm
      replace hm := bb_inv hm; obtain ⟨h29, hm⟩ := hm
      replace hm := bb_inv hm; obtain ⟨h30, hm⟩ := hm
      replace hm := bb_inv hm; obtain ⟨h31, hm⟩ := hm
      refine .reg (eD (keep (hp 2 [(oC q2), (oC q3)]) (bb (Nat.ble (0 + 22) (len q2)) (some (.agg ⟨(takeL 22 (dropL 0 q2))⟩)) none)) (keep_bb h26) (eD (bb (allL closed2 [(.agg ⟨(takeL 22 (dropL 0 q2))⟩)]) (oo (pu 30 [(.agg ⟨(takeL 22 (dropL 0 q2))⟩)]) none fun v => some (v, (hp 2 [(oC q2), (oC q3)]))) (oo (mapO (purify (hp 2 [(oC q2), (oC q3)])) [(.agg ⟨(takeL 22 (dropL 0 q2))⟩)]) none fun l1 => oo (pu 30 l1) none fun v => bb (plainT v) (some (v, (hp 2 [(oC q2), (oC q3)]))) none)) (callc_eq h29 h27) (eD (done (bb (Nat.beq (len q4) 22) (bb (an (Nat.ble (0 + len q4) (len q2)) (allL scalarB q4)) (some (hp 2 [(oC (setL q4 0 q2)), (oC q3)])) none) none) undef) (done_bb2 h30 h31) (eE)))) ?_
      replace hm := bb_inv hm; obtain ⟨h32, hm⟩ := hm
      refine .ghs (fr 14 [(1, (pt 0 0)), (3, (pt 1 0)), (4, (zI z0))]) (hp 2 [(oC (setL q4 0 q2)), (oC q3)]) (.k [0, 1] [] [.tmp 1 false, .tmp 3 false] [1, 3, 4] ⟨trE (by kernel_rfl) h32, trE (by kernel_rfl) h21, trivial⟩) ?_
      refine .then ?_
      refine .rK ?_
      refine .ghs (fr 14 [(1, (pt 0 0)), (3, (pt 1 0)), (4, (zI (wrapF .i64 (Int.add z0 (1 : Int)))))]) (hp 2 [(oC (setL q4 0 q2)), (oC q3)]) (.k [0, 1] [] [.tmp 1 false, .tmp 3 false] [1, 3, 4] ⟨trE (by kernel_rfl) h32, trE (by kernel_rfl) h21, trivial⟩) ?_
      refine .goto ?_
      exact ⟨rfl, ((wrapF .i64 (Int.add z0 (1 : Int))), (setL q4 0 q2), q3), hm, (.k [0, 1] [] [.tmp 1 false, .tmp 3 false] [1, 3, 4] ⟨trE (by kernel_rfl) h32, trE (by kernel_rfl) h21, trivial⟩)⟩
    · refine .ifF (nt b1) (by kernel_rfl) h25 ?_
      refine .skip ?_
      refine .ghs (fr 14 [(1, (pt 0 0)), (3, (pt 1 0)), (4, (zI z0))]) (hp 2 [(oC q2), (oC q3)]) (.k [0, 1] [] [.tmp 1 false, .tmp 3 false] [1, 3, 4] ⟨trE (by kernel_rfl) h20, trE (by kernel_rfl) h21, trivial⟩) ?_
      refine .then ?_
      replace hm := bb_inv hm; obtain ⟨h33, hm⟩ := hm
      replace hm := bb_inv hm; obtain ⟨h34, hm⟩ := hm
      replace hm := bb_inv hm; obtain ⟨h35, hm⟩ := hm
      refine .reg (eC 1 (keep (hp 2 [(oC q2), (oC q3)]) (bb (Nat.ble (0 + 22) (len q2)) (some (.agg ⟨(takeL 22 (dropL 0 q2))⟩)) none)) (keep_bb h33) (eC 1 (done (bb (Nat.beq (len (takeL 22 (dropL 0 q2))) 22) (bb (an (Nat.ble (0 + len (takeL 22 (dropL 0 q2))) (len q3)) (allL scalarB (takeL 22 (dropL 0 q2)))) (some (hp 2 [(oC q2), (oC (setL (takeL 22 (dropL 0 q2)) 0 q3))])) none) none) undef) (done_bb2 h34 h35) (eE))) ?_
      replace hm := bb_inv hm; obtain ⟨h36, hm⟩ := hm
      refine .ghs (fr 14 [(2, (zI z0)), (3, (pt 0 0))]) (hp 1 [(oC (setL (takeL 22 (dropL 0 q2)) 0 q3))]) (.k [1] [] [.tmp 3 false] [2, 3] ⟨trE (by kernel_rfl) h36, trivial⟩) ?_
      refine .ret ?_
      replace hm := bb_inv hm; obtain ⟨h37, hm⟩ := hm
      replace hm := bb_inv hm; obtain ⟨h38, hm⟩ := hm
      exact fin_ret (.tuple ⟨[(zI z0), (.agg ⟨(takeL 22 (dropL 0 (setL (takeL 22 (dropL 0 q2)) 0 q3)))⟩)]⟩) (aresults_of (aresultsL_cons (show aresult _ _ _ _ = some (zI z0) from (by kernel_rfl)) (aresultsL_cons (show aresult _ _ _ _ = some (.agg ⟨(takeL 22 (dropL 0 (setL (takeL 22 (dropL 0 q2)) 0 q3)))⟩) from (eq_bb (c := (Nat.ble (0 + 22) (len (setL (takeL 22 (dropL 0 q2)) 0 q3)))) (by kernel_rfl) h37)) rfl)) (by kernel_rfl)) h38 hm
def m57_0 (pu : PureF) (n : Nat) (z0 : Int) : Option Value :=
  (some (.int .i64 z0))
def b57_1 (pu : PureF) (n : Nat) (ih0 : Int → Nat → Nat → Int → Int → List Value → Option Value) (z0 : Int) (n0 : Nat) (c0 : Nat) (z1 : Int) (z2 : Int) (q0 : List Value) : Option Value :=
  (bb (allL closed1 q0) (bb (ilt z2 z1) (oo (toN z2) none fun k1 => (bb (an (Nat.blt k1 n0) true) (oo (nthL q0 (1 + k1 * 1)) none fun v0 => (oo (toI .i64 v0) none fun x0 => (ih0 (wrapF .i64 (Int.add z0 x0)) n0 c0 z1 (wrapF .i64 (Int.add (Int.ofNat k1) (1 : Int))) q0))) none)) (m57_0 pu n z0)) none)
def l57_1 (pu : PureF) (n : Nat) (w : Nat) : Int → Nat → Nat → Int → Int → List Value → Option Value :=
  Nat.rec (motive := fun _ => Int → Nat → Nat → Int → Int → List Value → Option Value) (fun _ _ _ _ _ _ => none) (fun _ ih0 => b57_1 pu n ih0) w
def m57_ (pu : PureF) (n : Nat) (q0 : List Value) : Option Value :=
  (bb (allL closed1 q0) (bb (Nat.ble (0 + 22 * 1) (len q0)) (l57_1 pu n n (0 : Int) 21 43 (21 : Int) (0 : Int) q0) none) none)
def m57 (pu : PureF) (n : Nat) (args : List Value) : Option Value :=
  (ll args none fun a0 args => (ll args (oo (vAgg a0) none fun q0 => (bb (an (Nat.beq (len q0) 22) (allL closed1 q0)) (m57_ pu n q0) none)) fun _ _ => none))
theorem w57_0 (pu : PureF) (n : Nat) (z0 : Int) {v : Value} (hm : m57_0 pu n z0 = some v) : Run tt (callP tabs isP pu (inl pu)) 0 c57_17 (fr 17 [(3, (zI z0))]) (hp 0 []) (Fin tt 0 [.tmp 2] v) := by
  unfold m57_0 at hm
  refine .then ?_
  refine .rK ?_
  refine .ghs (fr 17 [(2, (zI z0))]) (hp 0 []) (.k0 [] [] [2]) ?_
  refine .ret ?_
  exact fin_ret (zI z0) (by kernel_rfl) (by kernel_rfl) hm
theorem r57 {call : CallF} (pu : PureF) (n : Nat) (hcall : call = callP tabs isP pu (inl pu)) {args : List Value} {v : Value} (hm : m57 pu n args = some v) (_ : ∀ x ∈ args, closed2 x = true) : args.length ≤ 17 ∧ Run tt call 0 c57_20 (Fr.made 17 args) (pureHeap tabs) (Fin tt 0 [.tmp 2] v) := by
  subst hcall
  unfold m57 at hm
  replace hm := ll_uncons hm; obtain ⟨a0, args_0, rfl, hm⟩ := hm
  replace hm := ll_end hm; obtain ⟨rfl, hm⟩ := hm
  replace hm := inv_vAgg hm; obtain ⟨q0, rfl, hm⟩ := hm
  replace hm := bb_inv hm; obtain ⟨h0, hm⟩ := hm
  unfold m57_ at hm
  refine ⟨by simp, ?_⟩
  refine .same (F' := (fr 17 [(0, (.agg ⟨q0⟩))])) (H' := (hp 0 [])) (by kernel_rfl) (by kernel_rfl) ?_
  refine .then ?_
  refine .rK ?_
  replace hm := bb_inv hm; obtain ⟨h1, hm⟩ := hm
  refine .ghs (fr 17 [(1, (pt 0 0))]) (hp 1 [(oC q0)]) (.k [0] [] [.tmp 1 false] [1] ⟨trE (by kernel_rfl) h1, trivial⟩) ?_
  refine .then ?_
  refine .rK ?_
  refine .ghs (fr 17 [(1, (pt 0 0)), (3, (zI (0 : Int)))]) (hp 1 [(oC q0)]) (.k [0] [] [.tmp 1 false] [1, 3] ⟨trE (by kernel_rfl) h1, trivial⟩) ?_
  refine .join (v := v) (fun y : Int => ((fr 17 [(3, (zI y))]), (hp 0 []))) (fun y => m57_0 pu n y) ?_ ?_
  · rintro z0 hm
    exact w57_0 pu n z0 hm
  · refine .then ?_
    replace hm := bb_inv hm; obtain ⟨h2, hm⟩ := hm
    refine .reg (eD (keep (hp 1 [(oC q0)]) (bb (Nat.ble (0 + 22 * 1) (len q0)) (some (sc 0 1 1 21 43)) none)) (keep_bb h2) (eE)) ?_
    refine .ghs (fr 17 [(3, (zI (0 : Int))), (6, (sc 0 1 1 21 43)), (7, (zI (21 : Int))), (8, (zI (0 : Int)))]) (hp 1 [(oC q0)]) (.k [0] [] [.tmp 6 false] [3, 6, 7, 8] ⟨trE (by kernel_rfl) h1, trivial⟩) ?_
    refine .block ?_
    refine .loopM (v := v) (fun y : Int × Nat × Nat × Int × Int × List Value => ((fr 17 [(3, (zI y.1)), (6, (sc 0 1 1 y.2.1 y.2.2.1)), (7, (zI y.2.2.2.1)), (8, (zI y.2.2.2.2.1))]), (hp 1 [(oC y.2.2.2.2.2)]))) (fun w y => l57_1 pu n w y.1 y.2.1 y.2.2.1 y.2.2.2.1 y.2.2.2.2.1 y.2.2.2.2.2) n ⟨((0 : Int), 21, 43, (21 : Int), (0 : Int), q0), hm, (.k [0] [] [.tmp 6 false] [3, 6, 7, 8] ⟨trE (by kernel_rfl) h1, trivial⟩)⟩ (fun _ => rfl) ?_
    rintro w0 ⟨z1, n0, c0, z2, z3, q1⟩ hm
    replace hm : b57_1 pu n (l57_1 pu n w0) z1 n0 c0 z2 z3 q1 = some v := hm
    unfold b57_1 at hm
    refine .then ?_
    refine .rK ?_
    replace hm := bb_inv hm; obtain ⟨h3, hm⟩ := hm
    refine .ghs (fr 17 [(3, (zI z1)), (6, (sc 0 1 1 n0 c0)), (7, (zI z2)), (8, (zI z3)), (9, (zB (ilt z3 z2)))]) (hp 1 [(oC q1)]) (.k [0] [] [.tmp 6 false] [3, 6, 7, 8, 9] ⟨trE (by kernel_rfl) h3, trivial⟩) ?_
    refine .then ?_
    replace hm := bb_cases hm; rcases hm with ⟨h4, hm⟩ | ⟨h4, hm⟩
    · refine .ifT (ilt z3 z2) (by kernel_rfl) h4 ?_
      refine .skip ?_
      refine .ghs (fr 17 [(3, (zI z1)), (6, (sc 0 1 1 n0 c0)), (7, (zI z2)), (8, (zI z3))]) (hp 1 [(oC q1)]) (.k [0] [] [.tmp 6 false] [3, 6, 7, 8] ⟨trE (by kernel_rfl) h3, trivial⟩) ?_
      refine .then ?_
      refine .block ?_
      refine .then ?_
      replace hm := oo_inv hm; obtain ⟨k1, h5, hm⟩ := hm
      obtain rfl := toN_some h5
      replace hm := bb_inv hm; obtain ⟨h6, hm⟩ := hm
      replace hm := oo_inv hm; obtain ⟨v0, h7, hm⟩ := hm
      replace hm := inv_toI hm; obtain ⟨x0, rfl, hm⟩ := hm
      refine .reg (eD (keep (hp 1 [(oC q1)]) (bb (an (Nat.blt k1 n0) true) (some (.pointer (some ⟨0, (1 + k1 * 1), none⟩))) none)) (keep_bb h6) (eD (keep (hp 1 [(oC q1)]) (nthL q1 (1 + k1 * 1))) (keep_eq h7) (eE))) ?_
      refine .ghs (fr 17 [(3, (zI z1)), (5, (zI x0)), (6, (sc 0 1 1 n0 c0)), (7, (zI z2)), (8, (zI (Int.ofNat k1)))]) (hp 1 [(oC q1)]) (.k [0] [] [.tmp 6 false] [3, 5, 6, 7, 8] ⟨trE (by kernel_rfl) h3, trivial⟩) ?_
      refine .rK ?_
      refine .ghs (fr 17 [(3, (zI (wrapF .i64 (Int.add z1 x0)))), (6, (sc 0 1 1 n0 c0)), (7, (zI z2)), (8, (zI (Int.ofNat k1)))]) (hp 1 [(oC q1)]) (.k [0] [] [.tmp 6 false] [3, 6, 7, 8] ⟨trE (by kernel_rfl) h3, trivial⟩) ?_
      refine .rK ?_
      exact ⟨((wrapF .i64 (Int.add z1 x0)), n0, c0, z2, (wrapF .i64 (Int.add (Int.ofNat k1) (1 : Int))), q1), hm, (.k [0] [] [.tmp 6 false] [3, 6, 7, 8] ⟨trE (by kernel_rfl) h3, trivial⟩)⟩
    · refine .ifF (ilt z3 z2) (by kernel_rfl) h4 ?_
      refine .exit ?_
      exact ⟨z1, hm, (.k0 [] [] [3])⟩
def b10410_0 (pu : PureF) (n : Nat) (ih0 : Nat → Nat → Int → Int → List Value → Option Value) (n0 : Nat) (c0 : Nat) (z0 : Int) (z1 : Int) (q0 : List Value) : Option Value :=
  (bb (allL closed1 q0) (bb (ilt z0 z1) (oo (toN z1) none fun k1 => (bb (an (Nat.blt k1 n0) true) (oo (nthL q0 (0 + k1 * 1)) none fun v0 => (oo (toI .i64 v0) none fun x0 => (oo (toN z0) none fun k2 => (bb (an (Nat.blt k2 n0) true) (oo (nthL q0 (0 + k2 * 1)) none fun v1 => (oo (toI .i64 v1) none fun x1 => (bb (an (Nat.blt k2 n0) true) (bb (an (Nat.ble ((0 + k2 * 1) + 1) (len q0)) true) (bb (an (Nat.blt k1 n0) true) (bb (an (Nat.ble ((0 + k1 * 1) + 1) (len (setL ([(.int .i64 x0)] : List Value) (0 + k2 * 1) q0))) true) (bb (allL closed1 (setL ([(.int .i64 x1)] : List Value) (0 + k1 * 1) (setL ([(.int .i64 x0)] : List Value) (0 + k2 * 1) q0))) (ih0 n0 c0 (wrapF .i64 (Int.add (Int.ofNat k2) (1 : Int))) (wrapF .i64 (Int.sub (Int.ofNat k1) (1 : Int))) (setL ([(.int .i64 x1)] : List Value) (0 + k1 * 1) (setL ([(.int .i64 x0)] : List Value) (0 + k2 * 1) q0))) none) none) none) none) none))) none)))) none)) (some (.tuple ⟨[(.tuple ⟨[]⟩), (.agg ⟨q0⟩)]⟩))) none)
def l10410_0 (pu : PureF) (n : Nat) (w : Nat) : Nat → Nat → Int → Int → List Value → Option Value :=
  Nat.rec (motive := fun _ => Nat → Nat → Int → Int → List Value → Option Value) (fun _ _ _ _ _ => none) (fun _ ih0 => b10410_0 pu n ih0) w
def m10410_ (pu : PureF) (n : Nat) (n0 : Nat) (c0 : Nat) (q0 : List Value) : Option Value :=
  (bb (allL closed1 q0) (l10410_0 pu n n n0 c0 (0 : Int) (wrapF .i64 (Int.sub (Int.ofNat n0) (1 : Int))) q0) none)
def m10410 (pu : PureF) (n : Nat) (args : List Value) : Option Value :=
  (ll args none fun a0 args => (ll args none fun o0 args => (ll args (oo (toSc 0 0 1 a0) none fun y0 => (oo (vAgg o0) none fun q0 => (m10410_ pu n (NC.n y0) (NC.c y0) q0))) fun _ _ => none)))
theorem q10410 (pu : PureF) (n : Nat) (n0 : Nat) (c0 : Nat) (q0 : List Value) {v : Value} (hm : m10410_ pu n n0 c0 q0 = some v) : Run tt (callP tabs isP pu (inl pu)) 1 c41_11 (fr 28 [(0, (sc 0 0 1 n0 c0))]) (hp 1 [(oC q0)]) (FinO tt 0 1 [] v) := by
  unfold m10410_ at hm
  refine .then ?_
  refine .rK ?_
  replace hm := bb_inv hm; obtain ⟨h0, hm⟩ := hm
  refine .ghs (fr 28 [(0, (sc 0 0 1 n0 c0)), (2, (zI (0 : Int))), (3, (zI (wrapF .i64 (Int.sub (Int.ofNat n0) (1 : Int)))))]) (hp 1 [(oC q0)]) (.k [0] [false] [] [0, 2, 3] ⟨trE (by kernel_rfl) h0, trivial⟩) ?_
  refine .block ?_
  refine .loopM (v := v) (fun y : Nat × Nat × Int × Int × List Value => ((fr 28 [(0, (sc 0 0 1 y.1 y.2.1)), (2, (zI y.2.2.1)), (3, (zI y.2.2.2.1))]), (hp 1 [(oC y.2.2.2.2)]))) (fun w y => l10410_0 pu n w y.1 y.2.1 y.2.2.1 y.2.2.2.1 y.2.2.2.2) n ⟨(n0, c0, (0 : Int), (wrapF .i64 (Int.sub (Int.ofNat n0) (1 : Int))), q0), hm, (.k [0] [false] [] [0, 2, 3] ⟨trE (by kernel_rfl) h0, trivial⟩)⟩ (fun _ => rfl) ?_
  rintro w0 ⟨n1, c1, z0, z1, q1⟩ hm
  replace hm : b10410_0 pu n (l10410_0 pu n w0) n1 c1 z0 z1 q1 = some v := hm
  unfold b10410_0 at hm
  refine .then ?_
  refine .then ?_
  refine .rK ?_
  replace hm := bb_inv hm; obtain ⟨h1, hm⟩ := hm
  refine .ghs (fr 28 [(0, (sc 0 0 1 n1 c1)), (2, (zI z0)), (3, (zI z1)), (9, (zB (ilt z0 z1)))]) (hp 1 [(oC q1)]) (.k [0] [false] [] [0, 2, 3, 9] ⟨trE (by kernel_rfl) h1, trivial⟩) ?_
  replace hm := bb_cases hm; rcases hm with ⟨h2, hm⟩ | ⟨h2, hm⟩
  · refine .ifT (ilt z0 z1) (by kernel_rfl) h2 ?_
    refine .skip ?_
    refine .ghs (fr 28 [(0, (sc 0 0 1 n1 c1)), (2, (zI z0)), (3, (zI z1))]) (hp 1 [(oC q1)]) (.k [0] [false] [] [0, 2, 3] ⟨trE (by kernel_rfl) h1, trivial⟩) ?_
    refine .then ?_
    refine .block ?_
    replace hm := oo_inv hm; obtain ⟨k1, h3, hm⟩ := hm
    obtain rfl := toN_some h3
    replace hm := bb_inv hm; obtain ⟨h4, hm⟩ := hm
    replace hm := oo_inv hm; obtain ⟨v0, h5, hm⟩ := hm
    replace hm := inv_toI hm; obtain ⟨x0, rfl, hm⟩ := hm
    replace hm := oo_inv hm; obtain ⟨k2, h6, hm⟩ := hm
    obtain rfl := toN_some h6
    replace hm := bb_inv hm; obtain ⟨h7, hm⟩ := hm
    replace hm := oo_inv hm; obtain ⟨v1, h8, hm⟩ := hm
    replace hm := inv_toI hm; obtain ⟨x1, rfl, hm⟩ := hm
    replace hm := bb_inv hm; obtain ⟨h9, hm⟩ := hm
    replace hm := bb_inv hm; obtain ⟨h10, hm⟩ := hm
    replace hm := bb_inv hm; obtain ⟨h11, hm⟩ := hm
    replace hm := bb_inv hm; obtain ⟨h12, hm⟩ := hm
    refine .reg (eN 11 (Fr.puts (fr 28 [(0, (sc 0 0 1 n1 c1)), (2, (zI (Int.ofNat k2))), (3, (zI (Int.ofNat k1)))]) [(14, (sc 0 0 1 n1 c1)), (15, (zI (Int.ofNat k2))), (16, (sc 0 0 1 n1 c1)), (17, (zI (Int.ofNat k1))), (18, (sc 0 0 1 n1 c1)), (19, (zI (Int.ofNat k1))), (20, (.pointer (some ⟨0, (0 + k1 * 1), none⟩))), (21, (zI x0)), (22, (sc 0 0 1 n1 c1)), (23, (zI (Int.ofNat k2))), (24, (.pointer (some ⟨0, (0 + k2 * 1), none⟩)))]) (hp 1 [(oC q1)]) (eC 6 (keep (hp 1 [(oC q1)]) (bb (an (Nat.blt k1 n1) true) (some (.pointer (some ⟨0, (0 + k1 * 1), none⟩))) none)) (keep_bb h4) (eD (keep (hp 1 [(oC q1)]) (nthL q1 (0 + k1 * 1))) (keep_eq h5) (eC 2 (keep (hp 1 [(oC q1)]) (bb (an (Nat.blt k2 n1) true) (some (.pointer (some ⟨0, (0 + k2 * 1), none⟩))) none)) (keep_bb h7) (by kernel_rfl)))) (eD (keep (hp 1 [(oC q1)]) (nthL q1 (0 + k2 * 1))) (keep_eq h8) (eD (keep (hp 1 [(oC q1)]) (bb (an (Nat.blt k2 n1) true) (some (.pointer (some ⟨0, (0 + k2 * 1), none⟩))) none)) (keep_bb h9) (eD (done (bb (an (Nat.ble ((0 + k2 * 1) + 1) (len q1)) true) (some (hp 1 [(oC (setL ([(zI x0)] : List Value) (0 + k2 * 1) q1))])) none) undef) (done_bb h10) (eD (keep (hp 1 [(oC (setL ([(zI x0)] : List Value) (0 + k2 * 1) q1))]) (bb (an (Nat.blt k1 n1) true) (some (.pointer (some ⟨0, (0 + k1 * 1), none⟩))) none)) (keep_bb h11) (eD (done (bb (an (Nat.ble ((0 + k1 * 1) + 1) (len (setL ([(zI x0)] : List Value) (0 + k2 * 1) q1))) true) (some (hp 1 [(oC (setL ([(zI x1)] : List Value) (0 + k1 * 1) (setL ([(zI x0)] : List Value) (0 + k2 * 1) q1)))])) none) undef) (done_bb h12) (eE))))))) ?_
    replace hm := bb_inv hm; obtain ⟨h13, hm⟩ := hm
    refine .ghs (fr 28 [(0, (sc 0 0 1 n1 c1)), (2, (zI (Int.ofNat k2))), (3, (zI (Int.ofNat k1)))]) (hp 1 [(oC (setL ([(zI x1)] : List Value) (0 + k1 * 1) (setL ([(zI x0)] : List Value) (0 + k2 * 1) q1)))]) (.k [0] [false] [] [0, 2, 3] ⟨trE (by kernel_rfl) h13, trivial⟩) ?_
    refine .rK ?_
    exact ⟨(n1, c1, (wrapF .i64 (Int.add (Int.ofNat k2) (1 : Int))), (wrapF .i64 (Int.sub (Int.ofNat k1) (1 : Int))), (setL ([(zI x1)] : List Value) (0 + k1 * 1) (setL ([(zI x0)] : List Value) (0 + k2 * 1) q1))), hm, (.k [0] [false] [] [0, 2, 3] ⟨trE (by kernel_rfl) h13, trivial⟩)⟩
  · refine .ifF (ilt z0 z1) (by kernel_rfl) h2 ?_
    refine .exit ?_
    refine .ghs (fr 28 []) (hp 1 [(oC q1)]) (.k [0] [false] [] [] ⟨trE (by kernel_rfl) h1, trivial⟩) ?_
    exact finO_end (.tuple ⟨[]⟩) [(oC q1)] (by kernel_rfl) hm (Nat.le_of_ble_eq_true rfl) (ooAt_cons (pO_c _) ooAt_nil)
theorem r10410 {call : CallF} (pu : PureF) (n : Nat) (hcall : call = callP tabs isP pu (inl pu)) {args : List Value} {os : List AObj} {z : Value} (ha : args.length = 1) (hk : os.length = 1) (hpl : ∀ o ∈ os, plainO o) (hm : m10410 pu n (args ++ os.map encO) = some z) : args.length ≤ 28 ∧ Run tt call (tabs.length + 1) c41_11 (Fr.made 28 args) (subHeap tabs os) (FinO tt tabs.length 1 [] z) := by
  subst hcall
  have hq := len_cons ha; clear ha; obtain ⟨a0, args, rfl, ha⟩ := hq
  obtain rfl := len_nil ha
  have hq := len_cons hk; clear hk; obtain ⟨b0, os, rfl, hk⟩ := hq
  have hp0 : plainO b0 := hpl b0 (by simp)
  obtain rfl := len_nil hk
  replace hm : m10410 pu n [a0, encO b0] = some z := hm
  unfold m10410 at hm
  replace hm : (oo (toSc 0 0 1 a0) none fun y0 => (oo (vAgg (encO b0)) none fun q0 => (m10410_ pu n (NC.n y0) (NC.c y0) q0))) = some z := hm
  replace hm := oo_inv hm; obtain ⟨y0, h0, hm⟩ := hm
  obtain rfl := toSc_some h0
  replace hm := oo_inv hm; obtain ⟨q0, h1, hm⟩ := hm
  obtain rfl := vAgg_enc hp0 h1
  refine ⟨by simp, ?_⟩
  exact .same (F' := (fr 28 [(0, (sc 0 0 1 (NC.n y0) (NC.c y0)))])) (H' := (hp 1 [(oC q0)])) (by kernel_rfl) (by kernel_rfl) (q10410 pu n (NC.n y0) (NC.c y0) q0 hm)
end
end Go.HpTM
set_option maxRecDepth 100000
namespace Go.HpTM
open Go.Sp Go.HpT
noncomputable section
def L : Nat := 1000000
def disp (pu : PureF) : PureF := fun g args =>
  bb (Nat.beq g 4) (m4 pu L args) (bb (Nat.beq g 11) (m11 pu L args) (bb (Nat.beq g 13) (m13 pu L args) (bb (Nat.beq g 14) (m14 pu L args) (bb (Nat.beq g 16) (m16 pu L args) (bb (Nat.beq g 17) (m17 pu L args) (bb (Nat.beq g 33) (m33 pu L args) (bb (Nat.beq g 29) (m29 pu L args) (bb (Nat.beq g 30) (m30 pu L args) (bb (Nat.beq g 31) (m31 pu L args) (bb (Nat.beq g 34) (m34 pu L args) (bb (Nat.beq g 35) (m35 pu L args) (bb (Nat.beq g 36) (m36 pu L args) (bb (Nat.beq g 43) (m43 pu L args) (bb (Nat.beq g 57) (m57 pu L args) (bb (Nat.beq g 10410) (m10410 pu L args) (bb (Nat.beq g 6) (orc6 args) (bb (Nat.beq g 58) (orc58 args) (none))))))))))))))))))
def puN : Nat → PureF := fun n => Nat.rec (motive := fun _ => PureF) (fun _ _ => none) (fun _ ih => disp ih) n
end
end Go.HpTM
