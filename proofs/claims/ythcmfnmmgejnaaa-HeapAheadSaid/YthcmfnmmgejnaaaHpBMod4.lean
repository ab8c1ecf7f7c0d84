/- Models of the program's functions, and the proofs that runs give them: MADE BY PROGRAM (wip/tools/dec.py). -/
import Derived.Test.YthcmfnmmgejnaaaHpBMod1x

set_option maxRecDepth 100000
set_option maxHeartbeats 20000000
set_option linter.unusedVariables false
namespace Go.HpBM
open Go.Sp Go.HpB
noncomputable section
def m42_0 (pu : PureF) (n : Nat) (b0 : Bool) : Option Value :=
  (some (.bool b0))
def m42_ (pu : PureF) (n : Nat) (x0 : Int) (x1 : Int) (x2 : Int) : Option Value :=
  (bb (nt (ilt x1 x0)) (m42_0 pu n (nt (ilt x2 x1))) (m42_0 pu n false))
def m42 (pu : PureF) (n : Nat) (args : List Value) : Option Value :=
  (ll args none fun a0 args => (ll args none fun a1 args => (ll args none fun a2 args => (ll args (oo (toI .i64 a0) none fun x0 => (oo (toI .i64 a1) none fun x1 => (oo (toI .i64 a2) none fun x2 => (m42_ pu n x0 x1 x2)))) fun _ _ => none))))
theorem w42_0 (pu : PureF) (n : Nat) (b0 : Bool) {v : Value} (hm : m42_0 pu n b0 = some v) : Run tt (callP tabs isP pu (inl pu)) 0 .ret (fr 15 [(6, (zB b0))]) (hp 0 []) (Fin tt 0 [.tmp 6] v) := by
  unfold m42_0 at hm
  refine .ret ?_
  exact fin_ret (zB b0) (by kernel_rfl) (by kernel_rfl) hm
theorem r42 {call : CallF} (pu : PureF) (n : Nat) (hcall : call = callP tabs isP pu (inl pu)) {args : List Value} {v : Value} (hm : m42 pu n args = some v) (_ : ∀ x ∈ args, closed2 x = true) : args.length ≤ 15 ∧ Run tt call 0 c42_3 (Fr.made 15 args) (pureHeap tabs) (Fin tt 0 [.tmp 6] v) := by
  subst hcall
  unfold m42 at hm
  replace hm := ll_uncons hm; obtain ⟨a0, args_0, rfl, hm⟩ := hm
  replace hm := ll_uncons hm; obtain ⟨a1, args_1, rfl, hm⟩ := hm
  replace hm := ll_uncons hm; obtain ⟨a2, args_2, rfl, hm⟩ := hm
  replace hm := ll_end hm; obtain ⟨rfl, hm⟩ := hm
  replace hm := inv_toI hm; obtain ⟨x0, rfl, hm⟩ := hm
  replace hm := inv_toI hm; obtain ⟨x1, rfl, hm⟩ := hm
  replace hm := inv_toI hm; obtain ⟨x2, rfl, hm⟩ := hm
  unfold m42_ at hm
  refine ⟨by simp, ?_⟩
  refine .same (F' := (fr 15 [(0, (zI x0)), (1, (zI x1)), (2, (zI x2))])) (H' := (hp 0 [])) (by kernel_rfl) (by kernel_rfl) ?_
  refine .then ?_
  refine .rK ?_
  refine .ghs (fr 15 [(0, (zI x0)), (1, (zI x1)), (2, (zI x2))]) (hp 0 []) (.k0 [] [] [0, 1, 2]) ?_
  refine .join (v := v) (fun y : Bool => ((fr 15 [(6, (zB y))]), (hp 0 []))) (fun y => m42_0 pu n y) ?_ ?_
  · rintro b0 hm
    exact w42_0 pu n b0 hm
  · replace hm := bb_cases hm; rcases hm with ⟨h0, hm⟩ | ⟨h0, hm⟩
    · refine .reg (eC 2 (some ((zB (nt (ilt x1 x0))), (hp 0 []))) (show _ = some ((zB true), _) from (by rw [h0])) (eE)) ?_
      exact ⟨(nt (ilt x2 x1)), hm, (.k0 [] [] [6])⟩
    · refine .reg (eC 2 (some ((zB (nt (ilt x1 x0))), (hp 0 []))) (show _ = some ((zB false), _) from (by rw [h0])) (eE)) ?_
      exact ⟨false, hm, (.k0 [] [] [6])⟩
def m43_0 (pu : PureF) (n : Nat) (z0 : Int) (z1 : Int) : Option Value :=
  (some (.tuple ⟨[(.int .i64 z0), (.int .i64 z1)]⟩))
def b43_1 (pu : PureF) (n : Nat) (ih0 : Int → Int → Option Value) (z0 : Int) (z1 : Int) : Option Value :=
  (bb (ilt z0 z1) (ih0 (wrapF .i64 (Int.add z0 (1 : Int))) (wrapF .i64 (Int.sub z1 (wrapF .i64 (Int.add z0 (1 : Int)))))) (m43_0 pu n z0 z1))
def l43_1 (pu : PureF) (n : Nat) (w : Nat) : Int → Int → Option Value :=
  Nat.rec (motive := fun _ => Int → Int → Option Value) (fun _ _ => none) (fun _ ih0 => b43_1 pu n ih0) w
def m43_ (pu : PureF) (n : Nat) (x0 : Int) : Option Value :=
  (l43_1 pu n n (0 : Int) x0)
def m43 (pu : PureF) (n : Nat) (args : List Value) : Option Value :=
  (ll args none fun a0 args => (ll args (oo (toI .i64 a0) none fun x0 => (m43_ pu n x0)) fun _ _ => none))
theorem w43_0 (pu : PureF) (n : Nat) (z0 : Int) (z1 : Int) {v : Value} (hm : m43_0 pu n z0 z1 = some v) : Run tt (callP tabs isP pu (inl pu)) 0 c43_14 (fr 15 [(2, (zI z0)), (3, (zI z1))]) (hp 0 []) (Fin tt 0 [.tmp 2, .tmp 3] v) := by
  unfold m43_0 at hm
  refine .then ?_
  refine .rK ?_
  refine .ghs (fr 15 [(2, (zI z0)), (3, (zI z1))]) (hp 0 []) (.k0 [] [] [2, 3]) ?_
  refine .ret ?_
  exact fin_ret (.tuple ⟨[(zI z0), (zI z1)]⟩) (by kernel_rfl) (by kernel_rfl) hm
theorem r43 {call : CallF} (pu : PureF) (n : Nat) (hcall : call = callP tabs isP pu (inl pu)) {args : List Value} {v : Value} (hm : m43 pu n args = some v) (_ : ∀ x ∈ args, closed2 x = true) : args.length ≤ 15 ∧ Run tt call 0 c43_16 (Fr.made 15 args) (pureHeap tabs) (Fin tt 0 [.tmp 2, .tmp 3] v) := by
  subst hcall
  unfold m43 at hm
  replace hm := ll_uncons hm; obtain ⟨a0, args_0, rfl, hm⟩ := hm
  replace hm := ll_end hm; obtain ⟨rfl, hm⟩ := hm
  replace hm := inv_toI hm; obtain ⟨x0, rfl, hm⟩ := hm
  unfold m43_ at hm
  refine ⟨by simp, ?_⟩
  refine .same (F' := (fr 15 [(0, (zI x0))])) (H' := (hp 0 [])) (by kernel_rfl) (by kernel_rfl) ?_
  refine .then ?_
  refine .rK ?_
  refine .ghs (fr 15 [(0, (zI x0)), (2, (zI (0 : Int)))]) (hp 0 []) (.k0 [] [] [0, 2]) ?_
  refine .join (v := v) (fun y : Int × Int => ((fr 15 [(2, (zI y.1)), (3, (zI y.2))]), (hp 0 []))) (fun y => m43_0 pu n y.1 y.2) ?_ ?_
  · rintro ⟨z0, z1⟩ hm
    exact w43_0 pu n z0 z1 hm
  · refine .then ?_
    refine .rK ?_
    refine .ghs (fr 15 [(2, (zI (0 : Int))), (3, (zI x0))]) (hp 0 []) (.k0 [] [] [2, 3]) ?_
    refine .block ?_
    refine .loopM (v := v) (fun y : Int × Int => ((fr 15 [(2, (zI y.1)), (3, (zI y.2))]), (hp 0 []))) (fun w y => l43_1 pu n w y.1 y.2) n ⟨((0 : Int), x0), hm, (.k0 [] [] [2, 3])⟩ (fun _ => rfl) ?_
    rintro w0 ⟨z2, z3⟩ hm
    replace hm : b43_1 pu n (l43_1 pu n w0) z2 z3 = some v := hm
    unfold b43_1 at hm
    refine .then ?_
    refine .then ?_
    refine .rK ?_
    refine .ghs (fr 15 [(2, (zI z2)), (3, (zI z3)), (7, (zB (ilt z2 z3)))]) (hp 0 []) (.k0 [] [] [2, 3, 7]) ?_
    replace hm := bb_cases hm; rcases hm with ⟨h0, hm⟩ | ⟨h0, hm⟩
    · refine .ifT (ilt z2 z3) (by kernel_rfl) h0 ?_
      refine .skip ?_
      refine .ghs (fr 15 [(2, (zI z2)), (3, (zI z3))]) (hp 0 []) (.k0 [] [] [2, 3]) ?_
      refine .block ?_
      refine .then ?_
      refine .rK ?_
      refine .ghs (fr 15 [(2, (zI (wrapF .i64 (Int.add z2 (1 : Int))))), (3, (zI z3))]) (hp 0 []) (.k0 [] [] [2, 3]) ?_
      refine .rK ?_
      exact ⟨((wrapF .i64 (Int.add z2 (1 : Int))), (wrapF .i64 (Int.sub z3 (wrapF .i64 (Int.add z2 (1 : Int)))))), hm, (.k0 [] [] [2, 3])⟩
    · refine .ifF (ilt z2 z3) (by kernel_rfl) h0 ?_
      refine .exit ?_
      exact ⟨(z2, z3), hm, (.k0 [] [] [2, 3])⟩
def m44_0 (pu : PureF) (n : Nat) (z0 : Int) : Option Value :=
  (some (.int .i64 z0))
def b44_1 (pu : PureF) (n : Nat) (ih0 : Int → Int → Int → Int → Int → Int → Int → Int → Int → Int → Int → Int → Int → Int → Int → Int → Int → Int → Int → Int → Int → Int → Int → Int → Option Value) (z0 : Int) (z1 : Int) (z2 : Int) (z3 : Int) (z4 : Int) (z5 : Int) (z6 : Int) (z7 : Int) (z8 : Int) (z9 : Int) (z10 : Int) (z11 : Int) (z12 : Int) (z13 : Int) (z14 : Int) (z15 : Int) (z16 : Int) (z17 : Int) (z18 : Int) (z19 : Int) (z20 : Int) (z21 : Int) (z22 : Int) (z23 : Int) : Option Value :=
  (bb (ilt z23 (22 : Int)) (oo (toN z23) none fun k1 => (bb (Nat.blt k1 22) (oo (nthL ([(.int .i64 z1), (.int .i64 z2), (.int .i64 z3), (.int .i64 z4), (.int .i64 z5), (.int .i64 z6), (.int .i64 z7), (.int .i64 z8), (.int .i64 z9), (.int .i64 z10), (.int .i64 z11), (.int .i64 z12), (.int .i64 z13), (.int .i64 z14), (.int .i64 z15), (.int .i64 z16), (.int .i64 z17), (.int .i64 z18), (.int .i64 z19), (.int .i64 z20), (.int .i64 z21), (.int .i64 z22)] : List Value) (k1 * 1)) none fun v0 => (oo (toI .i64 v0) none fun x0 => (ih0 (wrapF .i64 (Int.add z0 (wrapF .i64 (Int.mul (Int.ofNat k1) x0)))) z1 z2 z3 z4 z5 z6 z7 z8 z9 z10 z11 z12 z13 z14 z15 z16 z17 z18 z19 z20 z21 z22 (wrapF .i64 (Int.add (Int.ofNat k1) (1 : Int)))))) none)) (m44_0 pu n z0))
def l44_1 (pu : PureF) (n : Nat) (w : Nat) : Int → Int → Int → Int → Int → Int → Int → Int → Int → Int → Int → Int → Int → Int → Int → Int → Int → Int → Int → Int → Int → Int → Int → Int → Option Value :=
  Nat.rec (motive := fun _ => Int → Int → Int → Int → Int → Int → Int → Int → Int → Int → Int → Int → Int → Int → Int → Int → Int → Int → Int → Int → Int → Int → Int → Int → Option Value) (fun _ _ _ _ _ _ _ _ _ _ _ _ _ _ _ _ _ _ _ _ _ _ _ _ => none) (fun _ ih0 => b44_1 pu n ih0) w
def m44_ (pu : PureF) (n : Nat) (x0 : Int) (x1 : Int) (x2 : Int) (x3 : Int) (x4 : Int) (x5 : Int) (x6 : Int) (x7 : Int) (x8 : Int) (x9 : Int) (x10 : Int) (x11 : Int) (x12 : Int) (x13 : Int) (x14 : Int) (x15 : Int) (x16 : Int) (x17 : Int) (x18 : Int) (x19 : Int) (x20 : Int) (x21 : Int) : Option Value :=
  (l44_1 pu n n (0 : Int) x0 x1 x2 x3 x4 x5 x6 x7 x8 x9 x10 x11 x12 x13 x14 x15 x16 x17 x18 x19 x20 x21 (0 : Int))
def m44 (pu : PureF) (n : Nat) (args : List Value) : Option Value :=
  (ll args none fun a0 args => (ll args (oo (vAgg a0) none fun l0 => (ll l0 none fun v0 l0 => (ll l0 none fun v1 l0 => (ll l0 none fun v2 l0 => (ll l0 none fun v3 l0 => (ll l0 none fun v4 l0 => (ll l0 none fun v5 l0 => (ll l0 none fun v6 l0 => (ll l0 none fun v7 l0 => (ll l0 none fun v8 l0 => (ll l0 none fun v9 l0 => (ll l0 none fun v10 l0 => (ll l0 none fun v11 l0 => (ll l0 none fun v12 l0 => (ll l0 none fun v13 l0 => (ll l0 none fun v14 l0 => (ll l0 none fun v15 l0 => (ll l0 none fun v16 l0 => (ll l0 none fun v17 l0 => (ll l0 none fun v18 l0 => (ll l0 none fun v19 l0 => (ll l0 none fun v20 l0 => (ll l0 none fun v21 l0 => (ll l0 (oo (toI .i64 v0) none fun x0 => (oo (toI .i64 v1) none fun x1 => (oo (toI .i64 v2) none fun x2 => (oo (toI .i64 v3) none fun x3 => (oo (toI .i64 v4) none fun x4 => (oo (toI .i64 v5) none fun x5 => (oo (toI .i64 v6) none fun x6 => (oo (toI .i64 v7) none fun x7 => (oo (toI .i64 v8) none fun x8 => (oo (toI .i64 v9) none fun x9 => (oo (toI .i64 v10) none fun x10 => (oo (toI .i64 v11) none fun x11 => (oo (toI .i64 v12) none fun x12 => (oo (toI .i64 v13) none fun x13 => (oo (toI .i64 v14) none fun x14 => (oo (toI .i64 v15) none fun x15 => (oo (toI .i64 v16) none fun x16 => (oo (toI .i64 v17) none fun x17 => (oo (toI .i64 v18) none fun x18 => (oo (toI .i64 v19) none fun x19 => (oo (toI .i64 v20) none fun x20 => (oo (toI .i64 v21) none fun x21 => (m44_ pu n x0 x1 x2 x3 x4 x5 x6 x7 x8 x9 x10 x11 x12 x13 x14 x15 x16 x17 x18 x19 x20 x21))))))))))))))))))))))) fun _ _ => none)))))))))))))))))))))))) fun _ _ => none))
theorem w44_0 (pu : PureF) (n : Nat) (z0 : Int) {v : Value} (hm : m44_0 pu n z0 = some v) : Run tt (callP tabs isP pu (inl pu)) 0 c44_17 (fr 18 [(3, (zI z0))]) (hp 0 []) (Fin tt 0 [.tmp 2] v) := by
  unfold m44_0 at hm
  refine .then ?_
  refine .rK ?_
  refine .ghs (fr 18 [(2, (zI z0))]) (hp 0 []) (.k0 [] [] [2]) ?_
  refine .ret ?_
  exact fin_ret (zI z0) (by kernel_rfl) (by kernel_rfl) hm
theorem r44 {call : CallF} (pu : PureF) (n : Nat) (hcall : call = callP tabs isP pu (inl pu)) {args : List Value} {v : Value} (hm : m44 pu n args = some v) (_ : ∀ x ∈ args, closed2 x = true) : args.length ≤ 18 ∧ Run tt call 0 c44_20 (Fr.made 18 args) (pureHeap tabs) (Fin tt 0 [.tmp 2] v) := by
  subst hcall
  unfold m44 at hm
  replace hm := ll_uncons hm; obtain ⟨a0, args_0, rfl, hm⟩ := hm
  replace hm := ll_end hm; obtain ⟨rfl, hm⟩ := hm
  replace hm := inv_vAgg hm; obtain ⟨l0, rfl, hm⟩ := hm
  replace hm := ll_uncons hm; obtain ⟨v0, l230577_0, rfl, hm⟩ := hm
  replace hm := ll_uncons hm; obtain ⟨v1, l230577_1, rfl, hm⟩ := hm
  replace hm := ll_uncons hm; obtain ⟨v2, l230577_2, rfl, hm⟩ := hm
  replace hm := ll_uncons hm; obtain ⟨v3, l230577_3, rfl, hm⟩ := hm
  replace hm := ll_uncons hm; obtain ⟨v4, l230577_4, rfl, hm⟩ := hm
  replace hm := ll_uncons hm; obtain ⟨v5, l230577_5, rfl, hm⟩ := hm
  replace hm := ll_uncons hm; obtain ⟨v6, l230577_6, rfl, hm⟩ := hm
  replace hm := ll_uncons hm; obtain ⟨v7, l230577_7, rfl, hm⟩ := hm
  replace hm := ll_uncons hm; obtain ⟨v8, l230577_8, rfl, hm⟩ := hm
  replace hm := ll_uncons hm; obtain ⟨v9, l230577_9, rfl, hm⟩ := hm
  replace hm := ll_uncons hm; obtain ⟨v10, l230577_10, rfl, hm⟩ := hm
  replace hm := ll_uncons hm; obtain ⟨v11, l230577_11, rfl, hm⟩ := hm
  replace hm := ll_uncons hm; obtain ⟨v12, l230577_12, rfl, hm⟩ := hm
  replace hm := ll_uncons hm; obtain ⟨v13, l230577_13, rfl, hm⟩ := hm
  replace hm := ll_uncons hm; obtain ⟨v14, l230577_14, rfl, hm⟩ := hm
  replace hm := ll_uncons hm; obtain ⟨v15, l230577_15, rfl, hm⟩ := hm
  replace hm := ll_uncons hm; obtain ⟨v16, l230577_16, rfl, hm⟩ := hm
  replace hm := ll_uncons hm; obtain ⟨v17, l230577_17, rfl, hm⟩ := hm
  replace hm := ll_uncons hm; obtain ⟨v18, l230577_18, rfl, hm⟩ := hm
  replace hm := ll_uncons hm; obtain ⟨v19, l230577_19, rfl, hm⟩ := hm
  replace hm := ll_uncons hm; obtain ⟨v20, l230577_20, rfl, hm⟩ := hm
  replace hm := ll_uncons hm; obtain ⟨v21, l230577_21, rfl, hm⟩ := hm
  replace hm := ll_end hm; obtain ⟨rfl, hm⟩ := hm
  replace hm := inv_toI hm; obtain ⟨x0, rfl, hm⟩ := hm
  replace hm := inv_toI hm; obtain ⟨x1, rfl, hm⟩ := hm
  replace hm := inv_toI hm; obtain ⟨x2, rfl, hm⟩ := hm
  replace hm := inv_toI hm; obtain ⟨x3, rfl, hm⟩ := hm
  replace hm := inv_toI hm; obtain ⟨x4, rfl, hm⟩ := hm
  replace hm := inv_toI hm; obtain ⟨x5, rfl, hm⟩ := hm
  replace hm := inv_toI hm; obtain ⟨x6, rfl, hm⟩ := hm
  replace hm := inv_toI hm; obtain ⟨x7, rfl, hm⟩ := hm
  replace hm := inv_toI hm; obtain ⟨x8, rfl, hm⟩ := hm
  replace hm := inv_toI hm; obtain ⟨x9, rfl, hm⟩ := hm
  replace hm := inv_toI hm; obtain ⟨x10, rfl, hm⟩ := hm
  replace hm := inv_toI hm; obtain ⟨x11, rfl, hm⟩ := hm
  replace hm := inv_toI hm; obtain ⟨x12, rfl, hm⟩ := hm
  replace hm := inv_toI hm; obtain ⟨x13, rfl, hm⟩ := hm
  replace hm := inv_toI hm; obtain ⟨x14, rfl, hm⟩ := hm
  replace hm := inv_toI hm; obtain ⟨x15, rfl, hm⟩ := hm
  replace hm := inv_toI hm; obtain ⟨x16, rfl, hm⟩ := hm
  replace hm := inv_toI hm; obtain ⟨x17, rfl, hm⟩ := hm
  replace hm := inv_toI hm; obtain ⟨x18, rfl, hm⟩ := hm
  replace hm := inv_toI hm; obtain ⟨x19, rfl, hm⟩ := hm
  replace hm := inv_toI hm; obtain ⟨x20, rfl, hm⟩ := hm
  replace hm := inv_toI hm; obtain ⟨x21, rfl, hm⟩ := hm
  unfold m44_ at hm
  refine ⟨by simp, ?_⟩
  refine .same (F' := (fr 18 [(0, (.agg ⟨[(zI x0), (zI x1), (zI x2), (zI x3), (zI x4), (zI x5), (zI x6), (zI x7), (zI x8), (zI x9), (zI x10), (zI x11), (zI x12), (zI x13), (zI x14), (zI x15), (zI x16), (zI x17), (zI x18), (zI x19), (zI x20), (zI x21)]⟩))])) (H' := (hp 0 [])) (by kernel_rfl) (by kernel_rfl) ?_
  refine .then ?_
  refine .rK ?_
  refine .ghs (fr 18 [(1, (pt 0 0))]) (hp 1 [(oC [(zI x0), (zI x1), (zI x2), (zI x3), (zI x4), (zI x5), (zI x6), (zI x7), (zI x8), (zI x9), (zI x10), (zI x11), (zI x12), (zI x13), (zI x14), (zI x15), (zI x16), (zI x17), (zI x18), (zI x19), (zI x20), (zI x21)])]) (.k0 [] [.tmp 1 false] [1]) ?_
  refine .then ?_
  refine .rK ?_
  refine .ghs (fr 18 [(1, (pt 0 0)), (3, (zI (0 : Int)))]) (hp 1 [(oC [(zI x0), (zI x1), (zI x2), (zI x3), (zI x4), (zI x5), (zI x6), (zI x7), (zI x8), (zI x9), (zI x10), (zI x11), (zI x12), (zI x13), (zI x14), (zI x15), (zI x16), (zI x17), (zI x18), (zI x19), (zI x20), (zI x21)])]) (.k0 [] [.tmp 1 false] [1, 3]) ?_
  refine .join (v := v) (fun y : Int => ((fr 18 [(3, (zI y))]), (hp 0 []))) (fun y => m44_0 pu n y) ?_ ?_
  · rintro z0 hm
    exact w44_0 pu n z0 hm
  · refine .then ?_
    refine .rK ?_
    refine .ghs (fr 18 [(3, (zI (0 : Int))), (6, (.agg ⟨[(zI x0), (zI x1), (zI x2), (zI x3), (zI x4), (zI x5), (zI x6), (zI x7), (zI x8), (zI x9), (zI x10), (zI x11), (zI x12), (zI x13), (zI x14), (zI x15), (zI x16), (zI x17), (zI x18), (zI x19), (zI x20), (zI x21)]⟩)), (7, (zI (0 : Int)))]) (hp 0 []) (.k0 [] [] [3, 6, 7]) ?_
    refine .block ?_
    refine .loopM (v := v) (fun y : Int × Int × Int × Int × Int × Int × Int × Int × Int × Int × Int × Int × Int × Int × Int × Int × Int × Int × Int × Int × Int × Int × Int × Int => ((fr 18 [(3, (zI y.1)), (6, (.agg ⟨[(zI y.2.1), (zI y.2.2.1), (zI y.2.2.2.1), (zI y.2.2.2.2.1), (zI y.2.2.2.2.2.1), (zI y.2.2.2.2.2.2.1), (zI y.2.2.2.2.2.2.2.1), (zI y.2.2.2.2.2.2.2.2.1), (zI y.2.2.2.2.2.2.2.2.2.1), (zI y.2.2.2.2.2.2.2.2.2.2.1), (zI y.2.2.2.2.2.2.2.2.2.2.2.1), (zI y.2.2.2.2.2.2.2.2.2.2.2.2.1), (zI y.2.2.2.2.2.2.2.2.2.2.2.2.2.1), (zI y.2.2.2.2.2.2.2.2.2.2.2.2.2.2.1), (zI y.2.2.2.2.2.2.2.2.2.2.2.2.2.2.2.1), (zI y.2.2.2.2.2.2.2.2.2.2.2.2.2.2.2.2.1), (zI y.2.2.2.2.2.2.2.2.2.2.2.2.2.2.2.2.2.1), (zI y.2.2.2.2.2.2.2.2.2.2.2.2.2.2.2.2.2.2.1), (zI y.2.2.2.2.2.2.2.2.2.2.2.2.2.2.2.2.2.2.2.1), (zI y.2.2.2.2.2.2.2.2.2.2.2.2.2.2.2.2.2.2.2.2.1), (zI y.2.2.2.2.2.2.2.2.2.2.2.2.2.2.2.2.2.2.2.2.2.1), (zI y.2.2.2.2.2.2.2.2.2.2.2.2.2.2.2.2.2.2.2.2.2.2.1)]⟩)), (7, (zI y.2.2.2.2.2.2.2.2.2.2.2.2.2.2.2.2.2.2.2.2.2.2.2))]), (hp 0 []))) (fun w y => l44_1 pu n w y.1 y.2.1 y.2.2.1 y.2.2.2.1 y.2.2.2.2.1 y.2.2.2.2.2.1 y.2.2.2.2.2.2.1 y.2.2.2.2.2.2.2.1 y.2.2.2.2.2.2.2.2.1 y.2.2.2.2.2.2.2.2.2.1 y.2.2.2.2.2.2.2.2.2.2.1 y.2.2.2.2.2.2.2.2.2.2.2.1 y.2.2.2.2.2.2.2.2.2.2.2.2.1 y.2.2.2.2.2.2.2.2.2.2.2.2.2.1 y.2.2.2.2.2.2.2.2.2.2.2.2.2.2.1 y.2.2.2.2.2.2.2.2.2.2.2.2.2.2.2.1 y.2.2.2.2.2.2.2.2.2.2.2.2.2.2.2.2.1 y.2.2.2.2.2.2.2.2.2.2.2.2.2.2.2.2.2.1 y.2.2.2.2.2.2.2.2.2.2.2.2.2.2.2.2.2.2.1 y.2.2.2.2.2.2.2.2.2.2.2.2.2.2.2.2.2.2.2.1 y.2.2.2.2.2.2.2.2.2.2.2.2.2.2.2.2.2.2.2.2.1 y.2.2.2.2.2.2.2.2.2.2.2.2.2.2.2.2.2.2.2.2.2.1 y.2.2.2.2.2.2.2.2.2.2.2.2.2.2.2.2.2.2.2.2.2.2.1 y.2.2.2.2.2.2.2.2.2.2.2.2.2.2.2.2.2.2.2.2.2.2.2) n ⟨((0 : Int), x0, x1, x2, x3, x4, x5, x6, x7, x8, x9, x10, x11, x12, x13, x14, x15, x16, x17, x18, x19, x20, x21, (0 : Int)), hm, (.k0 [] [] [3, 6, 7])⟩ (fun _ => rfl) ?_
    rintro w0 ⟨z1, z2, z3, z4, z5, z6, z7, z8, z9, z10, z11, z12, z13, z14, z15, z16, z17, z18, z19, z20, z21, z22, z23, z24⟩ hm
    replace hm : b44_1 pu n (l44_1 pu n w0) z1 z2 z3 z4 z5 z6 z7 z8 z9 z10 z11 z12 z13 z14 z15 z16 z17 z18 z19 z20 z21 z22 z23 z24 = some v := hm
    unfold b44_1 at hm
    refine .then ?_
    refine .rK ?_
    refine .ghs (fr 18 [(3, (zI z1)), (6, (.agg ⟨[(zI z2), (zI z3), (zI z4), (zI z5), (zI z6), (zI z7), (zI z8), (zI z9), (zI z10), (zI z11), (zI z12), (zI z13), (zI z14), (zI z15), (zI z16), (zI z17), (zI z18), (zI z19), (zI z20), (zI z21), (zI z22), (zI z23)]⟩)), (7, (zI z24)), (8, (zB (ilt z24 (22 : Int))))]) (hp 0 []) (.k0 [] [] [3, 6, 7, 8]) ?_
    refine .then ?_
    replace hm := bb_cases hm; rcases hm with ⟨h0, hm⟩ | ⟨h0, hm⟩
    · refine .ifT (ilt z24 (22 : Int)) (by kernel_rfl) h0 ?_
      refine .skip ?_
      refine .ghs (fr 18 [(3, (zI z1)), (6, (.agg ⟨[(zI z2), (zI z3), (zI z4), (zI z5), (zI z6), (zI z7), (zI z8), (zI z9), (zI z10), (zI z11), (zI z12), (zI z13), (zI z14), (zI z15), (zI z16), (zI z17), (zI z18), (zI z19), (zI z20), (zI z21), (zI z22), (zI z23)]⟩)), (7, (zI z24))]) (hp 0 []) (.k0 [] [] [3, 6, 7]) ?_
      refine .then ?_
      refine .block ?_
      refine .then ?_
      replace hm := oo_inv hm; obtain ⟨k1, h1, hm⟩ := hm
      obtain rfl := toN_some h1
      replace hm := bb_inv hm; obtain ⟨h2, hm⟩ := hm
      replace hm := oo_inv hm; obtain ⟨v22, h3, hm⟩ := hm
      replace hm := inv_toI hm; obtain ⟨x22, rfl, hm⟩ := hm
      refine .reg (eC 1 (keep (hp 0 []) (bb (Nat.blt k1 22) (nthL ([(zI z2), (zI z3), (zI z4), (zI z5), (zI z6), (zI z7), (zI z8), (zI z9), (zI z10), (zI z11), (zI z12), (zI z13), (zI z14), (zI z15), (zI z16), (zI z17), (zI z18), (zI z19), (zI z20), (zI z21), (zI z22), (zI z23)] : List Value) (k1 * 1)) none)) (keep_bbo h2 h3) (eE)) ?_
      refine .ghs (fr 18 [(3, (zI z1)), (4, (zI (Int.ofNat k1))), (5, (zI x22)), (6, (.agg ⟨[(zI z2), (zI z3), (zI z4), (zI z5), (zI z6), (zI z7), (zI z8), (zI z9), (zI z10), (zI z11), (zI z12), (zI z13), (zI z14), (zI z15), (zI z16), (zI z17), (zI z18), (zI z19), (zI z20), (zI z21), (zI z22), (zI z23)]⟩)), (7, (zI (Int.ofNat k1)))]) (hp 0 []) (.k0 [] [] [3, 4, 5, 6, 7]) ?_
      refine .rK ?_
      refine .ghs (fr 18 [(3, (zI (wrapF .i64 (Int.add z1 (wrapF .i64 (Int.mul (Int.ofNat k1) x22)))))), (6, (.agg ⟨[(zI z2), (zI z3), (zI z4), (zI z5), (zI z6), (zI z7), (zI z8), (zI z9), (zI z10), (zI z11), (zI z12), (zI z13), (zI z14), (zI z15), (zI z16), (zI z17), (zI z18), (zI z19), (zI z20), (zI z21), (zI z22), (zI z23)]⟩)), (7, (zI (Int.ofNat k1)))]) (hp 0 []) (.k0 [] [] [3, 6, 7]) ?_
      refine .rK ?_
      exact ⟨((wrapF .i64 (Int.add z1 (wrapF .i64 (Int.mul (Int.ofNat k1) x22)))), z2, z3, z4, z5, z6, z7, z8, z9, z10, z11, z12, z13, z14, z15, z16, z17, z18, z19, z20, z21, z22, z23, (wrapF .i64 (Int.add (Int.ofNat k1) (1 : Int)))), hm, (.k0 [] [] [3, 6, 7])⟩
    · refine .ifF (ilt z24 (22 : Int)) (by kernel_rfl) h0 ?_
      refine .exit ?_
      exact ⟨z1, hm, (.k0 [] [] [3])⟩
def m53_0 (pu : PureF) (n : Nat) (s0 : Sl) (s1 : Sl) : Option Value :=
  (bb (ilt (Int.ofNat (Sl.n s0)) (Int.ofNat (Sl.n s1))) (some (.int .i64 (-1 : Int))) (some (.int .i64 (0 : Int))))
def b53_1 (pu : PureF) (n : Nat) (ih0 : Sl → Sl → Sl → Int → Int → Option Value) (s0 : Sl) (s1 : Sl) (s2 : Sl) (z0 : Int) (z1 : Int) : Option Value :=
  (bb (ilt z1 z0) (oo (toN z1) none fun k1 => (bb (an (Nat.blt k1 (Sl.n s2)) true) (oo (nthL (Sl.cs s2) (k1 * 1)) none fun v0 => (oo (toI .i64 v0) none fun x0 => (bb (nt (ilt (Int.ofNat k1) (Int.ofNat (Sl.n s1)))) (some (.int .i64 (1 : Int))) (bb (an (Nat.blt k1 (Sl.n s1)) true) (oo (nthL (Sl.cs s1) (k1 * 1)) none fun v1 => (oo (toI .i64 v1) none fun x1 => (oo (pu 66 [(.int .i64 x0), (.int .i64 x1)]) none fun v2 => (oo (toI .i64 v2) none fun x2 => (bb (nt (ieq x2 (0 : Int))) (some (.int .i64 x2)) (ih0 s0 s1 s2 z0 (wrapF .i64 (Int.add (Int.ofNat k1) (1 : Int))))))))) none)))) none)) (m53_0 pu n s0 s1))
def l53_1 (pu : PureF) (n : Nat) (w : Nat) : Sl → Sl → Sl → Int → Int → Option Value :=
  Nat.rec (motive := fun _ => Sl → Sl → Sl → Int → Int → Option Value) (fun _ _ _ _ _ => none) (fun _ ih0 => b53_1 pu n ih0) w
def m53_ (pu : PureF) (n : Nat) (s0 : Sl) (s1 : Sl) : Option Value :=
  (l53_1 pu n n s0 s1 s0 (Int.ofNat (Sl.n s0)) (0 : Int))
def m53 (pu : PureF) (n : Nat) (args : List Value) : Option Value :=
  (ll args none fun a0 args => (ll args none fun a1 args => (ll args (oo (toSl 1 a0) none fun s0 => (oo (toSl 1 a1) none fun s1 => (m53_ pu n s0 s1))) fun _ _ => none)))
theorem w53_0 (pu : PureF) (n : Nat) (s0 : Sl) (s1 : Sl) {v : Value} (hm : m53_0 pu n s0 s1 = some v) : Run tt (callP tabs isP pu (inl pu)) 0 c53_36 (fr 36 [(0, (Sl.v 1 s0)), (1, (Sl.v 1 s1))]) (hp 0 []) (Fin tt 0 [.tmp 4] v) := by
  unfold m53_0 at hm
  refine .then ?_
  refine .then ?_
  refine .rK ?_
  refine .ghs (fr 36 [(35, (zB (ilt (Int.ofNat (Sl.n s0)) (Int.ofNat (Sl.n s1)))))]) (hp 0 []) (.k0 [] [] [35]) ?_
  replace hm := bb_cases hm; rcases hm with ⟨h0, hm⟩ | ⟨h0, hm⟩
  · refine .ifT (ilt (Int.ofNat (Sl.n s0)) (Int.ofNat (Sl.n s1))) (by kernel_rfl) h0 ?_
    refine .then ?_
    refine .rK ?_
    refine .ghs (fr 36 [(4, (zI (-1 : Int)))]) (hp 0 []) (.k0 [] [] [4]) ?_
    refine .ret ?_
    exact fin_ret (zI (-1 : Int)) (by kernel_rfl) (by kernel_rfl) hm
  · refine .ifF (ilt (Int.ofNat (Sl.n s0)) (Int.ofNat (Sl.n s1))) (by kernel_rfl) h0 ?_
    refine .skip ?_
    refine .ghs (fr 36 []) (hp 0 []) (.k0 [] [] []) ?_
    refine .then ?_
    refine .rK ?_
    refine .ghs (fr 36 [(4, (zI (0 : Int)))]) (hp 0 []) (.k0 [] [] [4]) ?_
    refine .ret ?_
    exact fin_ret (zI (0 : Int)) (by kernel_rfl) (by kernel_rfl) hm
theorem r53 {call : CallF} (pu : PureF) (n : Nat) (hcall : call = callP tabs isP pu (inl pu)) {args : List Value} {v : Value} (hm : m53 pu n args = some v) (_ : ∀ x ∈ args, closed2 x = true) : args.length ≤ 36 ∧ Run tt call 0 c53_38 (Fr.made 36 args) (pureHeap tabs) (Fin tt 0 [.tmp 4] v) := by
  subst hcall
  unfold m53 at hm
  replace hm := ll_uncons hm; obtain ⟨a0, args_0, rfl, hm⟩ := hm
  replace hm := ll_uncons hm; obtain ⟨a1, args_1, rfl, hm⟩ := hm
  replace hm := ll_end hm; obtain ⟨rfl, hm⟩ := hm
  replace hm := inv_toSl hm; obtain ⟨s0, rfl, hm⟩ := hm
  replace hm := inv_toSl hm; obtain ⟨s1, rfl, hm⟩ := hm
  unfold m53_ at hm
  refine ⟨by simp, ?_⟩
  refine .same (F' := (fr 36 [(0, (Sl.v 1 s0)), (1, (Sl.v 1 s1))])) (H' := (hp 0 [])) (by kernel_rfl) (by kernel_rfl) ?_
  refine .then ?_
  refine .rK ?_
  refine .ghs (fr 36 [(0, (Sl.v 1 s0)), (1, (Sl.v 1 s1))]) (hp 0 []) (.k0 [] [] [0, 1]) ?_
  refine .join (v := v) (fun y : Sl × Sl => ((fr 36 [(0, (Sl.v 1 y.1)), (1, (Sl.v 1 y.2))]), (hp 0 []))) (fun y => m53_0 pu n y.1 y.2) ?_ ?_
  · rintro ⟨s2, s3⟩ hm
    exact w53_0 pu n s2 s3 hm
  · refine .then ?_
    refine .rK ?_
    refine .ghs (fr 36 [(0, (Sl.v 1 s0)), (1, (Sl.v 1 s1)), (9, (Sl.v 1 s0)), (10, (zI (Int.ofNat (Sl.n s0)))), (11, (zI (0 : Int)))]) (hp 0 []) (.k0 [] [] [0, 1, 9, 10, 11]) ?_
    refine .block ?_
    refine .loopM (v := v) (fun y : Sl × Sl × Sl × Int × Int => ((fr 36 [(0, (Sl.v 1 y.1)), (1, (Sl.v 1 y.2.1)), (9, (Sl.v 1 y.2.2.1)), (10, (zI y.2.2.2.1)), (11, (zI y.2.2.2.2))]), (hp 0 []))) (fun w y => l53_1 pu n w y.1 y.2.1 y.2.2.1 y.2.2.2.1 y.2.2.2.2) n ⟨(s0, s1, s0, (Int.ofNat (Sl.n s0)), (0 : Int)), hm, (.k0 [] [] [0, 1, 9, 10, 11])⟩ (fun _ => rfl) ?_
    rintro w0 ⟨s4, s5, s6, z0, z1⟩ hm
    replace hm : b53_1 pu n (l53_1 pu n w0) s4 s5 s6 z0 z1 = some v := hm
    unfold b53_1 at hm
    refine .then ?_
    refine .rK ?_
    refine .ghs (fr 36 [(0, (Sl.v 1 s4)), (1, (Sl.v 1 s5)), (9, (Sl.v 1 s6)), (10, (zI z0)), (11, (zI z1)), (12, (zB (ilt z1 z0)))]) (hp 0 []) (.k0 [] [] [0, 1, 9, 10, 11, 12]) ?_
    refine .then ?_
    replace hm := bb_cases hm; rcases hm with ⟨h0, hm⟩ | ⟨h0, hm⟩
    · refine .ifT (ilt z1 z0) (by kernel_rfl) h0 ?_
      refine .skip ?_
      refine .ghs (fr 36 [(0, (Sl.v 1 s4)), (1, (Sl.v 1 s5)), (9, (Sl.v 1 s6)), (10, (zI z0)), (11, (zI z1))]) (hp 0 []) (.k0 [] [] [0, 1, 9, 10, 11]) ?_
      refine .then ?_
      refine .block ?_
      refine .then ?_
      replace hm := oo_inv hm; obtain ⟨k1, h1, hm⟩ := hm
      obtain rfl := toN_some h1
      replace hm := bb_inv hm; obtain ⟨h2, hm⟩ := hm
      replace hm := oo_inv hm; obtain ⟨v0, h3, hm⟩ := hm
      replace hm := inv_toI hm; obtain ⟨x0, rfl, hm⟩ := hm
      refine .reg (eC 1 (keep (hp 0 []) (bb (an (Nat.blt k1 (Sl.n s6)) true) (some (fpV (k1 * 1) (Sl.cs s6))) none)) (keep_bb h2) (eD (keep (hp 0 []) (nthL (Sl.cs s6) (k1 * 1))) (keep_eq h3) (eE))) ?_
      refine .ghs (fr 36 [(0, (Sl.v 1 s4)), (1, (Sl.v 1 s5)), (5, (zI (Int.ofNat k1))), (6, (zI x0)), (9, (Sl.v 1 s6)), (10, (zI z0)), (11, (zI (Int.ofNat k1)))]) (hp 0 []) (.k0 [] [] [0, 1, 5, 6, 9, 10, 11]) ?_
      refine .then ?_
      refine .then ?_
      refine .rK ?_
      refine .ghs (fr 36 [(0, (Sl.v 1 s4)), (1, (Sl.v 1 s5)), (5, (zI (Int.ofNat k1))), (6, (zI x0)), (9, (Sl.v 1 s6)), (10, (zI z0)), (11, (zI (Int.ofNat k1))), (19, (zB (nt (ilt (Int.ofNat k1) (Int.ofNat (Sl.n s5))))))]) (hp 0 []) (.k0 [] [] [0, 1, 5, 6, 9, 10, 11, 19]) ?_
      replace hm := bb_cases hm; rcases hm with ⟨h4, hm⟩ | ⟨h4, hm⟩
      · refine .ifT (nt (ilt (Int.ofNat k1) (Int.ofNat (Sl.n s5)))) (by kernel_rfl) h4 ?_
        refine .then ?_
        refine .rK ?_
        refine .ghs (fr 36 [(4, (zI (1 : Int)))]) (hp 0 []) (.k0 [] [] [4]) ?_
        refine .ret ?_
        exact fin_ret (zI (1 : Int)) (by kernel_rfl) (by kernel_rfl) hm
      · refine .ifF (nt (ilt (Int.ofNat k1) (Int.ofNat (Sl.n s5)))) (by kernel_rfl) h4 ?_
        refine .skip ?_
        refine .ghs (fr 36 [(0, (Sl.v 1 s4)), (1, (Sl.v 1 s5)), (5, (zI (Int.ofNat k1))), (6, (zI x0)), (9, (Sl.v 1 s6)), (10, (zI z0)), (11, (zI (Int.ofNat k1)))]) (hp 0 []) (.k0 [] [] [0, 1, 5, 6, 9, 10, 11]) ?_
        refine .then ?_
        replace hm := bb_inv hm; obtain ⟨h5, hm⟩ := hm
        replace hm := oo_inv hm; obtain ⟨v1, h6, hm⟩ := hm
        replace hm := inv_toI hm; obtain ⟨x1, rfl, hm⟩ := hm
        refine .reg (eC 2 (keep (hp 0 []) (bb (an (Nat.blt k1 (Sl.n s5)) true) (some (fpV (k1 * 1) (Sl.cs s5))) none)) (keep_bb h5) (eD (keep (hp 0 []) (nthL (Sl.cs s5) (k1 * 1))) (keep_eq h6) (eE))) ?_
        refine .ghs (fr 36 [(0, (Sl.v 1 s4)), (1, (Sl.v 1 s5)), (6, (zI x0)), (7, (zI x1)), (9, (Sl.v 1 s6)), (10, (zI z0)), (11, (zI (Int.ofNat k1)))]) (hp 0 []) (.k0 [] [] [0, 1, 6, 7, 9, 10, 11]) ?_
        refine .then ?_
        replace hm := oo_inv hm; obtain ⟨v2, h7, hm⟩ := hm
        replace hm := inv_toI hm; obtain ⟨x2, rfl, hm⟩ := hm
        refine .reg (eC 2 ((oo (pu 66 [(zI x0), (zI x1)]) none fun v => some (v, (hp 0 [])))) (call_eq h7) (eE)) ?_
        refine .ghs (fr 36 [(0, (Sl.v 1 s4)), (1, (Sl.v 1 s5)), (8, (zI x2)), (9, (Sl.v 1 s6)), (10, (zI z0)), (11, (zI (Int.ofNat k1)))]) (hp 0 []) (.k0 [] [] [0, 1, 8, 9, 10, 11]) ?_
        refine .then ?_
        refine .rK ?_
        refine .ghs (fr 36 [(0, (Sl.v 1 s4)), (1, (Sl.v 1 s5)), (8, (zI x2)), (9, (Sl.v 1 s6)), (10, (zI z0)), (11, (zI (Int.ofNat k1))), (28, (zB (nt (ieq x2 (0 : Int)))))]) (hp 0 []) (.k0 [] [] [0, 1, 8, 9, 10, 11, 28]) ?_
        replace hm := bb_cases hm; rcases hm with ⟨h8, hm⟩ | ⟨h8, hm⟩
        · refine .ifT (nt (ieq x2 (0 : Int))) (by kernel_rfl) h8 ?_
          refine .then ?_
          refine .rK ?_
          refine .ghs (fr 36 [(4, (zI x2))]) (hp 0 []) (.k0 [] [] [4]) ?_
          refine .ret ?_
          exact fin_ret (zI x2) (by kernel_rfl) (by kernel_rfl) hm
        · refine .ifF (nt (ieq x2 (0 : Int))) (by kernel_rfl) h8 ?_
          refine .skip ?_
          refine .ghs (fr 36 [(0, (Sl.v 1 s4)), (1, (Sl.v 1 s5)), (9, (Sl.v 1 s6)), (10, (zI z0)), (11, (zI (Int.ofNat k1)))]) (hp 0 []) (.k0 [] [] [0, 1, 9, 10, 11]) ?_
          refine .rK ?_
          exact ⟨(s4, s5, s6, z0, (wrapF .i64 (Int.add (Int.ofNat k1) (1 : Int)))), hm, (.k0 [] [] [0, 1, 9, 10, 11])⟩
    · refine .ifF (ilt z1 z0) (by kernel_rfl) h0 ?_
      refine .exit ?_
      exact ⟨(s4, s5), hm, (.k0 [] [] [0, 1])⟩
def m57_0 (pu : PureF) (n : Nat) (z0 : Int) : Option Value :=
  (some (.int .i64 z0))
def b57_1 (pu : PureF) (n : Nat) (ih0 : Int → Nat → Nat → Int → Int → List Value → Option Value) (z0 : Int) (n0 : Nat) (c0 : Nat) (z1 : Int) (z2 : Int) (q0 : List Value) : Option Value :=
  (bb (allL closed1 q0) (bb (ilt z2 z1) (oo (toN z2) none fun k1 => (bb (an (Nat.blt k1 n0) true) (oo (nthL q0 (1 + k1 * 1)) none fun v0 => (oo (toI .i64 v0) none fun x0 => (ih0 (wrapF .i64 (Int.add z0 x0)) n0 c0 z1 (wrapF .i64 (Int.add (Int.ofNat k1) (1 : Int))) q0))) none)) (m57_0 pu n z0)) none)
def l57_1 (pu : PureF) (n : Nat) (w : Nat) : Int → Nat → Nat → Int → Int → List Value → Option Value :=
  Nat.rec (motive := fun _ => Int → Nat → Nat → Int → Int → List Value → Option Value) (fun _ _ _ _ _ _ => none) (fun _ ih0 => b57_1 pu n ih0) w
def m57_ (pu : PureF) (n : Nat) (q0 : List Value) : Option Value :=
  (bb (allL closed1 q0) (bb (Nat.ble (0 + 22 * 1) (len q0)) (l57_1 pu n n (0 : Int) 21 43 (21 : Int) (0 : Int) q0) none) none)
def m57 (pu : PureF) (n : Nat) (args : List Value) : Option Value :=
  (ll args none fun a0 args => (ll args (oo (vAgg a0) none fun q0 => (bb (an (Nat.beq (len q0) 22) (allL closed1 q0)) (m57_ pu n q0) none)) fun _ _ => none))
theorem w57_0 (pu : PureF) (n : Nat) (z0 : Int) {v : Value} (hm : m57_0 pu n z0 = some v) : Run tt (callP tabs isP pu (inl pu)) 0 c57_17 (fr 17 [(3, (zI z0))]) (hp 0 []) (Fin tt 0 [.tmp 2] v) := by
  unfold m57_0 at hm
  refine .then ?_
  refine .rK ?_
  refine .ghs (fr 17 [(2, (zI z0))]) (hp 0 []) (.k0 [] [] [2]) ?_
  refine .ret ?_
  exact fin_ret (zI z0) (by kernel_rfl) (by kernel_rfl) hm
theorem r57 {call : CallF} (pu : PureF) (n : Nat) (hcall : call = callP tabs isP pu (inl pu)) {args : List Value} {v : Value} (hm : m57 pu n args = some v) (_ : ∀ x ∈ args, closed2 x = true) : args.length ≤ 17 ∧ Run tt call 0 c57_20 (Fr.made 17 args) (pureHeap tabs) (Fin tt 0 [.tmp 2] v) := by
  subst hcall
  unfold m57 at hm
  replace hm := ll_uncons hm; obtain ⟨a0, args_0, rfl, hm⟩ := hm
  replace hm := ll_end hm; obtain ⟨rfl, hm⟩ := hm
  replace hm := inv_vAgg hm; obtain ⟨q0, rfl, hm⟩ := hm
  replace hm := bb_inv hm; obtain ⟨h0, hm⟩ := hm
  unfold m57_ at hm
  refine ⟨by simp, ?_⟩
  refine .same (F' := (fr 17 [(0, (.agg ⟨q0⟩))])) (H' := (hp 0 [])) (by kernel_rfl) (by kernel_rfl) ?_
  refine .then ?_
  refine .rK ?_
  replace hm := bb_inv hm; obtain ⟨h1, hm⟩ := hm
  refine .ghs (fr 17 [(1, (pt 0 0))]) (hp 1 [(oC q0)]) (.k [0] [] [.tmp 1 false] [1] ⟨trE (by kernel_rfl) h1, trivial⟩) ?_
  refine .then ?_
  refine .rK ?_
  refine .ghs (fr 17 [(1, (pt 0 0)), (3, (zI (0 : Int)))]) (hp 1 [(oC q0)]) (.k [0] [] [.tmp 1 false] [1, 3] ⟨trE (by kernel_rfl) h1, trivial⟩) ?_
  refine .join (v := v) (fun y : Int => ((fr 17 [(3, (zI y))]), (hp 0 []))) (fun y => m57_0 pu n y) ?_ ?_
  · rintro z0 hm
    exact w57_0 pu n z0 hm
  · refine .then ?_
    replace hm := bb_inv hm; obtain ⟨h2, hm⟩ := hm
    refine .reg (eD (keep (hp 1 [(oC q0)]) (bb (Nat.ble (0 + 22 * 1) (len q0)) (some (sc 0 1 1 21 43)) none)) (keep_bb h2) (eE)) ?_
    refine .ghs (fr 17 [(3, (zI (0 : Int))), (6, (sc 0 1 1 21 43)), (7, (zI (21 : Int))), (8, (zI (0 : Int)))]) (hp 1 [(oC q0)]) (.k [0] [] [.tmp 6 false] [3, 6, 7, 8] ⟨trE (by kernel_rfl) h1, trivial⟩) ?_
    refine .block ?_
    refine .loopM (v := v) (fun y : Int × Nat × Nat × Int × Int × List Value => ((fr 17 [(3, (zI y.1)), (6, (sc 0 1 1 y.2.1 y.2.2.1)), (7, (zI y.2.2.2.1)), (8, (zI y.2.2.2.2.1))]), (hp 1 [(oC y.2.2.2.2.2)]))) (fun w y => l57_1 pu n w y.1 y.2.1 y.2.2.1 y.2.2.2.1 y.2.2.2.2.1 y.2.2.2.2.2) n ⟨((0 : Int), 21, 43, (21 : Int), (0 : Int), q0), hm, (.k [0] [] [.tmp 6 false] [3, 6, 7, 8] ⟨trE (by kernel_rfl) h1, trivial⟩)⟩ (fun _ => rfl) ?_
    rintro w0 ⟨z1, n0, c0, z2, z3, q1⟩ hm
    replace hm : b57_1 pu n (l57_1 pu n w0) z1 n0 c0 z2 z3 q1 = some v := hm
    unfold b57_1 at hm
    refine .then ?_
    refine .rK ?_
    replace hm := bb_inv hm; obtain ⟨h3, hm⟩ := hm
    refine .ghs (fr 17 [(3, (zI z1)), (6, (sc 0 1 1 n0 c0)), (7, (zI z2)), (8, (zI z3)), (9, (zB (ilt z3 z2)))]) (hp 1 [(oC q1)]) (.k [0] [] [.tmp 6 false] [3, 6, 7, 8, 9] ⟨trE (by kernel_rfl) h3, trivial⟩) ?_
    refine .then ?_
    replace hm := bb_cases hm; rcases hm with ⟨h4, hm⟩ | ⟨h4, hm⟩
    · refine .ifT (ilt z3 z2) (by kernel_rfl) h4 ?_
      refine .skip ?_
      refine .ghs (fr 17 [(3, (zI z1)), (6, (sc 0 1 1 n0 c0)), (7, (zI z2)), (8, (zI z3))]) (hp 1 [(oC q1)]) (.k [0] [] [.tmp 6 false] [3, 6, 7, 8] ⟨trE (by kernel_rfl) h3, trivial⟩) ?_
      refine .then ?_
      refine .block ?_
      refine .then ?_
      replace hm := oo_inv hm; obtain ⟨k1, h5, hm⟩ := hm
      obtain rfl := toN_some h5
      replace hm := bb_inv hm; obtain ⟨h6, hm⟩ := hm
      replace hm := oo_inv hm; obtain ⟨v0, h7, hm⟩ := hm
      replace hm := inv_toI hm; obtain ⟨x0, rfl, hm⟩ := hm
      refine .reg (eD (keep (hp 1 [(oC q1)]) (bb (an (Nat.blt k1 n0) true) (some (.pointer (some ⟨0, (1 + k1 * 1), none⟩))) none)) (keep_bb h6) (eD (keep (hp 1 [(oC q1)]) (nthL q1 (1 + k1 * 1))) (keep_eq h7) (eE))) ?_
      refine .ghs (fr 17 [(3, (zI z1)), (5, (zI x0)), (6, (sc 0 1 1 n0 c0)), (7, (zI z2)), (8, (zI (Int.ofNat k1)))]) (hp 1 [(oC q1)]) (.k [0] [] [.tmp 6 false] [3, 5, 6, 7, 8] ⟨trE (by kernel_rfl) h3, trivial⟩) ?_
      refine .rK ?_
      refine .ghs (fr 17 [(3, (zI (wrapF .i64 (Int.add z1 x0)))), (6, (sc 0 1 1 n0 c0)), (7, (zI z2)), (8, (zI (Int.ofNat k1)))]) (hp 1 [(oC q1)]) (.k [0] [] [.tmp 6 false] [3, 6, 7, 8] ⟨trE (by kernel_rfl) h3, trivial⟩) ?_
      refine .rK ?_
      exact ⟨((wrapF .i64 (Int.add z1 x0)), n0, c0, z2, (wrapF .i64 (Int.add (Int.ofNat k1) (1 : Int))), q1), hm, (.k [0] [] [.tmp 6 false] [3, 6, 7, 8] ⟨trE (by kernel_rfl) h3, trivial⟩)⟩
    · refine .ifF (ilt z3 z2) (by kernel_rfl) h4 ?_
      refine .exit ?_
      exact ⟨z1, hm, (.k0 [] [] [3])⟩
def m59_0 (pu : PureF) (n : Nat) (b0 : Bool) : Option Value :=
  (some (.bool b0))
def m59_ (pu : PureF) (n : Nat) (x0 : Int) (x1 : Int) (x2 : Int) : Option Value :=
  (bb (nt (ilt x0 x1)) (m59_0 pu n (nt (ilt x2 x0))) (m59_0 pu n false))
def m59 (pu : PureF) (n : Nat) (args : List Value) : Option Value :=
  (ll args none fun a0 args => (ll args none fun a1 args => (ll args none fun a2 args => (ll args (oo (toI .i64 a0) none fun x0 => (oo (toI .i64 a1) none fun x1 => (oo (toI .i64 a2) none fun x2 => (m59_ pu n x0 x1 x2)))) fun _ _ => none))))
theorem w59_0 (pu : PureF) (n : Nat) (b0 : Bool) {v : Value} (hm : m59_0 pu n b0 = some v) : Run tt (callP tabs isP pu (inl pu)) 0 .ret (fr 15 [(6, (zB b0))]) (hp 0 []) (Fin tt 0 [.tmp 6] v) := by
  unfold m59_0 at hm
  refine .ret ?_
  exact fin_ret (zB b0) (by kernel_rfl) (by kernel_rfl) hm
theorem r59 {call : CallF} (pu : PureF) (n : Nat) (hcall : call = callP tabs isP pu (inl pu)) {args : List Value} {v : Value} (hm : m59 pu n args = some v) (_ : ∀ x ∈ args, closed2 x = true) : args.length ≤ 15 ∧ Run tt call 0 c59_3 (Fr.made 15 args) (pureHeap tabs) (Fin tt 0 [.tmp 6] v) := by
  subst hcall
  unfold m59 at hm
  replace hm := ll_uncons hm; obtain ⟨a0, args_0, rfl, hm⟩ := hm
  replace hm := ll_uncons hm; obtain ⟨a1, args_1, rfl, hm⟩ := hm
  replace hm := ll_uncons hm; obtain ⟨a2, args_2, rfl, hm⟩ := hm
  replace hm := ll_end hm; obtain ⟨rfl, hm⟩ := hm
  replace hm := inv_toI hm; obtain ⟨x0, rfl, hm⟩ := hm
  replace hm := inv_toI hm; obtain ⟨x1, rfl, hm⟩ := hm
  replace hm := inv_toI hm; obtain ⟨x2, rfl, hm⟩ := hm
  unfold m59_ at hm
  refine ⟨by simp, ?_⟩
  refine .same (F' := (fr 15 [(0, (zI x0)), (1, (zI x1)), (2, (zI x2))])) (H' := (hp 0 [])) (by kernel_rfl) (by kernel_rfl) ?_
  refine .then ?_
  refine .rK ?_
  refine .ghs (fr 15 [(0, (zI x0)), (1, (zI x1)), (2, (zI x2))]) (hp 0 []) (.k0 [] [] [0, 1, 2]) ?_
  refine .join (v := v) (fun y : Bool => ((fr 15 [(6, (zB y))]), (hp 0 []))) (fun y => m59_0 pu n y) ?_ ?_
  · rintro b0 hm
    exact w59_0 pu n b0 hm
  · replace hm := bb_cases hm; rcases hm with ⟨h0, hm⟩ | ⟨h0, hm⟩
    · refine .reg (eC 2 (some ((zB (nt (ilt x0 x1))), (hp 0 []))) (show _ = some ((zB true), _) from (by rw [h0])) (eE)) ?_
      exact ⟨(nt (ilt x2 x0)), hm, (.k0 [] [] [6])⟩
    · refine .reg (eC 2 (some ((zB (nt (ilt x0 x1))), (hp 0 []))) (show _ = some ((zB false), _) from (by rw [h0])) (eE)) ?_
      exact ⟨false, hm, (.k0 [] [] [6])⟩

def m65_ (pu : PureF) (n : Nat) (x0 : Int) : Option Value :=
  (oo (pu 80 [(.int .u64 x0)]) none fun v0 => (oo (toI .i64 v0) none fun x1 => (some (.int .i64 x1))))
def m65 (pu : PureF) (n : Nat) (args : List Value) : Option Value :=
  (ll args none fun a0 args => (ll args (oo (toI .u64 a0) none fun x0 => (m65_ pu n x0)) fun _ _ => none))
theorem r65 {call : CallF} (pu : PureF) (n : Nat) (hcall : call = callP tabs isP pu (inl pu)) {args : List Value} {v : Value} (hm : m65 pu n args = some v) (_ : ∀ x ∈ args, closed2 x = true) : args.length ≤ 8 ∧ Run tt call 0 c65_7 (Fr.made 8 args) (pureHeap tabs) (Fin tt 0 [.tmp 2] v) := by
  subst hcall
  unfold m65 at hm
  replace hm := ll_uncons hm; obtain ⟨a0, args_0, rfl, hm⟩ := hm
  replace hm := ll_end hm; obtain ⟨rfl, hm⟩ := hm
  replace hm := inv_toI hm; obtain ⟨x0, rfl, hm⟩ := hm
  unfold m65_ at hm
  refine ⟨by simp, ?_⟩
  refine .same (F' := (fr 8 [(0, (zU x0))])) (H' := (hp 0 [])) (by kernel_rfl) (by kernel_rfl) ?_
  refine .then ?_
  refine .rK ?_
  refine .ghs (fr 8 [(0, (zU x0))]) (hp 0 []) (.k0 [] [] [0]) ?_
  refine .then ?_
  refine .condF (by kernel_rfl) ?_
  refine .skip ?_
  refine .ghs (fr 8 [(0, (zU x0))]) (hp 0 []) (.k0 [] [] [0]) ?_
  refine .then ?_
  replace hm := oo_inv hm; obtain ⟨v0, h0, hm⟩ := hm
  replace hm := inv_toI hm; obtain ⟨x1, rfl, hm⟩ := hm
  refine .reg (eC 1 ((oo (pu 80 [(zU x0)]) none fun v => some (v, (hp 0 [])))) (call_eq h0) (eE)) ?_
  refine .ghs (fr 8 [(2, (zI x1))]) (hp 0 []) (.k0 [] [] [2]) ?_
  refine .ret ?_
  exact fin_ret (zI x1) (by kernel_rfl) (by kernel_rfl) hm

def m66_ (pu : PureF) (n : Nat) (x0 : Int) (x1 : Int) : Option Value :=
  (oo (pu 81 [(.int .i64 x0)]) none fun v0 => (oo (vBool v0) none fun b0 => (oo (pu 81 [(.int .i64 x1)]) none fun v1 => (oo (vBool v1) none fun b1 => (bb b0 (bb b1 (some (.int .i64 (0 : Int))) (some (.int .i64 (-1 : Int)))) (bb b1 (some (.int .i64 (1 : Int))) (bb (ilt x0 x1) (some (.int .i64 (-1 : Int))) (bb (ilt x1 x0) (some (.int .i64 (1 : Int))) (some (.int .i64 (0 : Int)))))))))))
def m66 (pu : PureF) (n : Nat) (args : List Value) : Option Value :=
  (ll args none fun a0 args => (ll args none fun a1 args => (ll args (oo (toI .i64 a0) none fun x0 => (oo (toI .i64 a1) none fun x1 => (m66_ pu n x0 x1))) fun _ _ => none)))
theorem r66 {call : CallF} (pu : PureF) (n : Nat) (hcall : call = callP tabs isP pu (inl pu)) {args : List Value} {v : Value} (hm : m66 pu n args = some v) (_ : ∀ x ∈ args, closed2 x = true) : args.length ≤ 20 ∧ Run tt call 0 c66_37 (Fr.made 20 args) (pureHeap tabs) (Fin tt 0 [.tmp 4] v) := by
  subst hcall
  unfold m66 at hm
  replace hm := ll_uncons hm; obtain ⟨a0, args_0, rfl, hm⟩ := hm
  replace hm := ll_uncons hm; obtain ⟨a1, args_1, rfl, hm⟩ := hm
  replace hm := ll_end hm; obtain ⟨rfl, hm⟩ := hm
  replace hm := inv_toI hm; obtain ⟨x0, rfl, hm⟩ := hm
  replace hm := inv_toI hm; obtain ⟨x1, rfl, hm⟩ := hm
  unfold m66_ at hm
  refine ⟨by simp, ?_⟩
  refine .same (F' := (fr 20 [(0, (zI x0)), (1, (zI x1))])) (H' := (hp 0 [])) (by kernel_rfl) (by kernel_rfl) ?_
  refine .then ?_
  refine .rK ?_
  refine .ghs (fr 20 [(0, (zI x0)), (1, (zI x1))]) (hp 0 []) (.k0 [] [] [0, 1]) ?_
  refine .then ?_
  replace hm := oo_inv hm; obtain ⟨v0, h0, hm⟩ := hm
  replace hm := inv_vBool hm; obtain ⟨b0, rfl, hm⟩ := hm
  refine .reg (eC 1 ((oo (pu 81 [(zI x0)]) none fun v => some (v, (hp 0 [])))) (call_eq h0) (eE)) ?_
  refine .ghs (fr 20 [(0, (zI x0)), (1, (zI x1)), (5, (zB b0))]) (hp 0 []) (.k0 [] [] [0, 1, 5]) ?_
  refine .then ?_
  replace hm := oo_inv hm; obtain ⟨v1, h1, hm⟩ := hm
  replace hm := inv_vBool hm; obtain ⟨b1, rfl, hm⟩ := hm
  refine .reg (eC 1 ((oo (pu 81 [(zI x1)]) none fun v => some (v, (hp 0 [])))) (call_eq h1) (eE)) ?_
  refine .ghs (fr 20 [(0, (zI x0)), (1, (zI x1)), (5, (zB b0)), (6, (zB b1))]) (hp 0 []) (.k0 [] [] [0, 1, 5, 6]) ?_
  refine .then ?_
  refine .then ?_
  refine .rK ?_
  refine .ghs (fr 20 [(0, (zI x0)), (1, (zI x1)), (6, (zB b1)), (11, (zB b0))]) (hp 0 []) (.k0 [] [] [0, 1, 6, 11]) ?_
  replace hm := bb_cases hm; rcases hm with ⟨h2, hm⟩ | ⟨h2, hm⟩
  · refine .ifT b0 (by kernel_rfl) h2 ?_
    refine .then ?_
    refine .then ?_
    refine .rK ?_
    refine .ghs (fr 20 [(12, (zB b1))]) (hp 0 []) (.k0 [] [] [12]) ?_
    replace hm := bb_cases hm; rcases hm with ⟨h3, hm⟩ | ⟨h3, hm⟩
    · refine .ifT b1 (by kernel_rfl) h3 ?_
      refine .then ?_
      refine .rK ?_
      refine .ghs (fr 20 [(4, (zI (0 : Int)))]) (hp 0 []) (.k0 [] [] [4]) ?_
      refine .ret ?_
      exact fin_ret (zI (0 : Int)) (by kernel_rfl) (by kernel_rfl) hm
    · refine .ifF b1 (by kernel_rfl) h3 ?_
      refine .skip ?_
      refine .ghs (fr 20 []) (hp 0 []) (.k0 [] [] []) ?_
      refine .then ?_
      refine .rK ?_
      refine .ghs (fr 20 [(4, (zI (-1 : Int)))]) (hp 0 []) (.k0 [] [] [4]) ?_
      refine .ret ?_
      exact fin_ret (zI (-1 : Int)) (by kernel_rfl) (by kernel_rfl) hm
  · refine .ifF b0 (by kernel_rfl) h2 ?_
    refine .skip ?_
    refine .ghs (fr 20 [(0, (zI x0)), (1, (zI x1)), (6, (zB b1))]) (hp 0 []) (.k0 [] [] [0, 1, 6]) ?_
    refine .then ?_
    refine .then ?_
    refine .rK ?_
    refine .ghs (fr 20 [(0, (zI x0)), (1, (zI x1)), (13, (zB b1))]) (hp 0 []) (.k0 [] [] [0, 1, 13]) ?_
    replace hm := bb_cases hm; rcases hm with ⟨h4, hm⟩ | ⟨h4, hm⟩
    · refine .ifT b1 (by kernel_rfl) h4 ?_
      refine .then ?_
      refine .rK ?_
      refine .ghs (fr 20 [(4, (zI (1 : Int)))]) (hp 0 []) (.k0 [] [] [4]) ?_
      refine .ret ?_
      exact fin_ret (zI (1 : Int)) (by kernel_rfl) (by kernel_rfl) hm
    · refine .ifF b1 (by kernel_rfl) h4 ?_
      refine .skip ?_
      refine .ghs (fr 20 [(0, (zI x0)), (1, (zI x1))]) (hp 0 []) (.k0 [] [] [0, 1]) ?_
      refine .then ?_
      refine .then ?_
      refine .rK ?_
      refine .ghs (fr 20 [(0, (zI x0)), (1, (zI x1)), (16, (zB (ilt x0 x1)))]) (hp 0 []) (.k0 [] [] [0, 1, 16]) ?_
      replace hm := bb_cases hm; rcases hm with ⟨h5, hm⟩ | ⟨h5, hm⟩
      · refine .ifT (ilt x0 x1) (by kernel_rfl) h5 ?_
        refine .then ?_
        refine .rK ?_
        refine .ghs (fr 20 [(4, (zI (-1 : Int)))]) (hp 0 []) (.k0 [] [] [4]) ?_
        refine .ret ?_
        exact fin_ret (zI (-1 : Int)) (by kernel_rfl) (by kernel_rfl) hm
      · refine .ifF (ilt x0 x1) (by kernel_rfl) h5 ?_
        refine .skip ?_
        refine .ghs (fr 20 [(0, (zI x0)), (1, (zI x1))]) (hp 0 []) (.k0 [] [] [0, 1]) ?_
        refine .then ?_
        refine .then ?_
        refine .rK ?_
        refine .ghs (fr 20 [(19, (zB (ilt x1 x0)))]) (hp 0 []) (.k0 [] [] [19]) ?_
        replace hm := bb_cases hm; rcases hm with ⟨h6, hm⟩ | ⟨h6, hm⟩
        · refine .ifT (ilt x1 x0) (by kernel_rfl) h6 ?_
          refine .then ?_
          refine .rK ?_
          refine .ghs (fr 20 [(4, (zI (1 : Int)))]) (hp 0 []) (.k0 [] [] [4]) ?_
          refine .ret ?_
          exact fin_ret (zI (1 : Int)) (by kernel_rfl) (by kernel_rfl) hm
        · refine .ifF (ilt x1 x0) (by kernel_rfl) h6 ?_
          refine .skip ?_
          refine .ghs (fr 20 []) (hp 0 []) (.k0 [] [] []) ?_
          refine .then ?_
          refine .rK ?_
          refine .ghs (fr 20 [(4, (zI (0 : Int)))]) (hp 0 []) (.k0 [] [] [4]) ?_
          refine .ret ?_
          exact fin_ret (zI (0 : Int)) (by kernel_rfl) (by kernel_rfl) hm
def m79_1 (pu : PureF) (n : Nat) (z0 : Int) (z1 : Int) : Option Value :=
  (oo (toN (wrapF .u8 z0)) none fun k1 => (oo (str0[k1]?) none fun c0 => (some (.int .i64 (wrapF .i64 (Int.add z1 (wrapF .i64 (Int.ofNat (UInt8.toNat c0)))))))))
def m79_0 (pu : PureF) (n : Nat) (z0 : Int) (z1 : Int) : Option Value :=
  (bb (nt (ilt z0 (256 : Int))) (m79_1 pu n (shrI .u32 z0 8) (wrapF .i64 (Int.add z1 (8 : Int)))) (m79_1 pu n z0 z1))
def m79_ (pu : PureF) (n : Nat) (x0 : Int) : Option Value :=
  (bb (nt (ilt x0 (65536 : Int))) (m79_0 pu n (shrI .u32 x0 16) (16 : Int)) (m79_0 pu n x0 (0 : Int)))
def m79 (pu : PureF) (n : Nat) (args : List Value) : Option Value :=
  (ll args none fun a0 args => (ll args (oo (toI .u32 a0) none fun x0 => (m79_ pu n x0)) fun _ _ => none))
theorem w79_1 (pu : PureF) (n : Nat) (z0 : Int) (z1 : Int) {v : Value} (hm : m79_1 pu n z0 z1 = some v) : Run tt (callP tabs isP pu (inl pu)) 0 c79_14 (fr 19 [(0, (.int .u32 z0)), (2, (zI z1))]) (hp 0 []) (Fin tt 0 [.tmp 2] v) := by
  unfold m79_1 at hm
  refine .then ?_
  replace hm := oo_inv hm; obtain ⟨k1, h0, hm⟩ := hm
  replace hm := oo_inv hm; obtain ⟨c0, h1, hm⟩ := hm
  refine .reg (eC 2 (some ((zY (wrapF .u8 z0)), (hp 0 []))) (show _ = some ((zY (Int.ofNat k1)), _) from (by rw [toN_some h0])) (eD (keep (hp 0 []) (oo (str0[k1]?) none fun b => iv .u8 (.ofNat b.toNat))) (ix_eq h1) (eE))) ?_
  refine .ghs (fr 19 [(2, (zI (wrapF .i64 (Int.add z1 (wrapF .i64 (Int.ofNat (UInt8.toNat c0)))))))]) (hp 0 []) (.k0 [] [] [2]) ?_
  refine .ret ?_
  exact fin_ret (zI (wrapF .i64 (Int.add z1 (wrapF .i64 (Int.ofNat (UInt8.toNat c0)))))) (by kernel_rfl) (by kernel_rfl) hm
theorem w79_0 (pu : PureF) (n : Nat) (z0 : Int) (z1 : Int) {v : Value} (hm : m79_0 pu n z0 z1 = some v) : Run tt (callP tabs isP pu (inl pu)) 0 c79_15 (fr 19 [(0, (.int .u32 z0)), (2, (zI z1))]) (hp 0 []) (Fin tt 0 [.tmp 2] v) := by
  unfold m79_0 at hm
  refine .join (v := v) (fun y : Int × Int => ((fr 19 [(0, (.int .u32 y.1)), (2, (zI y.2))]), (hp 0 []))) (fun y => m79_1 pu n y.1 y.2) ?_ ?_
  · rintro ⟨z2, z3⟩ hm
    exact w79_1 pu n z2 z3 hm
  · refine .then ?_
    refine .rK ?_
    refine .ghs (fr 19 [(0, (.int .u32 z0)), (2, (zI z1)), (8, (zB (nt (ilt z0 (256 : Int)))))]) (hp 0 []) (.k0 [] [] [0, 2, 8]) ?_
    replace hm := bb_cases hm; rcases hm with ⟨h0, hm⟩ | ⟨h0, hm⟩
    · refine .ifT (nt (ilt z0 (256 : Int))) (by kernel_rfl) h0 ?_
      refine .then ?_
      refine .rK ?_
      refine .ghs (fr 19 [(0, (.int .u32 (shrI .u32 z0 8))), (2, (zI z1))]) (hp 0 []) (.k0 [] [] [0, 2]) ?_
      refine .rK ?_
      exact ⟨((shrI .u32 z0 8), (wrapF .i64 (Int.add z1 (8 : Int)))), hm, (.k0 [] [] [0, 2])⟩
    · refine .ifF (nt (ilt z0 (256 : Int))) (by kernel_rfl) h0 ?_
      refine .skip ?_
      exact ⟨(z0, z1), hm, (.k0 [] [] [0, 2])⟩
theorem r79 {call : CallF} (pu : PureF) (n : Nat) (hcall : call = callP tabs isP pu (inl pu)) {args : List Value} {v : Value} (hm : m79 pu n args = some v) (_ : ∀ x ∈ args, closed2 x = true) : args.length ≤ 19 ∧ Run tt call 0 c79_17 (Fr.made 19 args) (pureHeap tabs) (Fin tt 0 [.tmp 2] v) := by
  subst hcall
  unfold m79 at hm
  replace hm := ll_uncons hm; obtain ⟨a0, args_0, rfl, hm⟩ := hm
  replace hm := ll_end hm; obtain ⟨rfl, hm⟩ := hm
  replace hm := inv_toI hm; obtain ⟨x0, rfl, hm⟩ := hm
  unfold m79_ at hm
  refine ⟨by simp, ?_⟩
  refine .same (F' := (fr 19 [(0, (.int .u32 x0))])) (H' := (hp 0 [])) (by kernel_rfl) (by kernel_rfl) ?_
  refine .then ?_
  refine .rK ?_
  refine .ghs (fr 19 [(0, (.int .u32 x0)), (2, (zI (0 : Int)))]) (hp 0 []) (.k0 [] [] [0, 2]) ?_
  refine .join (v := v) (fun y : Int × Int => ((fr 19 [(0, (.int .u32 y.1)), (2, (zI y.2))]), (hp 0 []))) (fun y => m79_0 pu n y.1 y.2) ?_ ?_
  · rintro ⟨z0, z1⟩ hm
    exact w79_0 pu n z0 z1 hm
  · refine .then ?_
    refine .rK ?_
    refine .ghs (fr 19 [(0, (.int .u32 x0)), (2, (zI (0 : Int))), (4, (zB (nt (ilt x0 (65536 : Int)))))]) (hp 0 []) (.k0 [] [] [0, 2, 4]) ?_
    replace hm := bb_cases hm; rcases hm with ⟨h0, hm⟩ | ⟨h0, hm⟩
    · refine .ifT (nt (ilt x0 (65536 : Int))) (by kernel_rfl) h0 ?_
      refine .then ?_
      refine .rK ?_
      refine .ghs (fr 19 [(0, (.int .u32 (shrI .u32 x0 16)))]) (hp 0 []) (.k0 [] [] [0]) ?_
      refine .rK ?_
      exact ⟨((shrI .u32 x0 16), (16 : Int)), hm, (.k0 [] [] [0, 2])⟩
    · refine .ifF (nt (ilt x0 (65536 : Int))) (by kernel_rfl) h0 ?_
      refine .skip ?_
      exact ⟨(x0, (0 : Int)), hm, (.k0 [] [] [0, 2])⟩
def m80_2 (pu : PureF) (n : Nat) (z0 : Int) (z1 : Int) : Option Value :=
  (oo (toN (wrapF .u8 z0)) none fun k1 => (oo (str0[k1]?) none fun c0 => (some (.int .i64 (wrapF .i64 (Int.add z1 (wrapF .i64 (Int.ofNat (UInt8.toNat c0)))))))))
def m80_1 (pu : PureF) (n : Nat) (z0 : Int) (z1 : Int) : Option Value :=
  (bb (nt (ilt z0 (256 : Int))) (m80_2 pu n (shrI .u64 z0 8) (wrapF .i64 (Int.add z1 (8 : Int)))) (m80_2 pu n z0 z1))
def m80_0 (pu : PureF) (n : Nat) (z0 : Int) (z1 : Int) : Option Value :=
  (bb (nt (ilt z0 (65536 : Int))) (m80_1 pu n (shrI .u64 z0 16) (wrapF .i64 (Int.add z1 (16 : Int)))) (m80_1 pu n z0 z1))
def m80_ (pu : PureF) (n : Nat) (x0 : Int) : Option Value :=
  (bb (nt (ilt x0 (4294967296 : Int))) (m80_0 pu n (shrI .u64 x0 32) (32 : Int)) (m80_0 pu n x0 (0 : Int)))
def m80 (pu : PureF) (n : Nat) (args : List Value) : Option Value :=
  (ll args none fun a0 args => (ll args (oo (toI .u64 a0) none fun x0 => (m80_ pu n x0)) fun _ _ => none))
theorem w80_2 (pu : PureF) (n : Nat) (z0 : Int) (z1 : Int) {v : Value} (hm : m80_2 pu n z0 z1 = some v) : Run tt (callP tabs isP pu (inl pu)) 0 c80_20 (fr 25 [(0, (zU z0)), (2, (zI z1))]) (hp 0 []) (Fin tt 0 [.tmp 2] v) := by
  unfold m80_2 at hm
  refine .then ?_
  replace hm := oo_inv hm; obtain ⟨k1, h0, hm⟩ := hm
  replace hm := oo_inv hm; obtain ⟨c0, h1, hm⟩ := hm
  refine .reg (eC 2 (some ((zY (wrapF .u8 z0)), (hp 0 []))) (show _ = some ((zY (Int.ofNat k1)), _) from (by rw [toN_some h0])) (eD (keep (hp 0 []) (oo (str0[k1]?) none fun b => iv .u8 (.ofNat b.toNat))) (ix_eq h1) (eE))) ?_
  refine .ghs (fr 25 [(2, (zI (wrapF .i64 (Int.add z1 (wrapF .i64 (Int.ofNat (UInt8.toNat c0)))))))]) (hp 0 []) (.k0 [] [] [2]) ?_
  refine .ret ?_
  exact fin_ret (zI (wrapF .i64 (Int.add z1 (wrapF .i64 (Int.ofNat (UInt8.toNat c0)))))) (by kernel_rfl) (by kernel_rfl) hm
theorem w80_1 (pu : PureF) (n : Nat) (z0 : Int) (z1 : Int) {v : Value} (hm : m80_1 pu n z0 z1 = some v) : Run tt (callP tabs isP pu (inl pu)) 0 c80_21 (fr 25 [(0, (zU z0)), (2, (zI z1))]) (hp 0 []) (Fin tt 0 [.tmp 2] v) := by
  unfold m80_1 at hm
  refine .join (v := v) (fun y : Int × Int => ((fr 25 [(0, (zU y.1)), (2, (zI y.2))]), (hp 0 []))) (fun y => m80_2 pu n y.1 y.2) ?_ ?_
  · rintro ⟨z2, z3⟩ hm
    exact w80_2 pu n z2 z3 hm
  · refine .then ?_
    refine .rK ?_
    refine .ghs (fr 25 [(0, (zU z0)), (2, (zI z1)), (14, (zB (nt (ilt z0 (256 : Int)))))]) (hp 0 []) (.k0 [] [] [0, 2, 14]) ?_
    replace hm := bb_cases hm; rcases hm with ⟨h0, hm⟩ | ⟨h0, hm⟩
    · refine .ifT (nt (ilt z0 (256 : Int))) (by kernel_rfl) h0 ?_
      refine .then ?_
      refine .rK ?_
      refine .ghs (fr 25 [(0, (zU (shrI .u64 z0 8))), (2, (zI z1))]) (hp 0 []) (.k0 [] [] [0, 2]) ?_
      refine .rK ?_
      exact ⟨((shrI .u64 z0 8), (wrapF .i64 (Int.add z1 (8 : Int)))), hm, (.k0 [] [] [0, 2])⟩
    · refine .ifF (nt (ilt z0 (256 : Int))) (by kernel_rfl) h0 ?_
      refine .skip ?_
      exact ⟨(z0, z1), hm, (.k0 [] [] [0, 2])⟩
theorem w80_0 (pu : PureF) (n : Nat) (z0 : Int) (z1 : Int) {v : Value} (hm : m80_0 pu n z0 z1 = some v) : Run tt (callP tabs isP pu (inl pu)) 0 c80_22 (fr 25 [(0, (zU z0)), (2, (zI z1))]) (hp 0 []) (Fin tt 0 [.tmp 2] v) := by
  unfold m80_0 at hm
  refine .join (v := v) (fun y : Int × Int => ((fr 25 [(0, (zU y.1)), (2, (zI y.2))]), (hp 0 []))) (fun y => m80_1 pu n y.1 y.2) ?_ ?_
  · rintro ⟨z2, z3⟩ hm
    exact w80_1 pu n z2 z3 hm
  · refine .then ?_
    refine .rK ?_
    refine .ghs (fr 25 [(0, (zU z0)), (2, (zI z1)), (8, (zB (nt (ilt z0 (65536 : Int)))))]) (hp 0 []) (.k0 [] [] [0, 2, 8]) ?_
    replace hm := bb_cases hm; rcases hm with ⟨h0, hm⟩ | ⟨h0, hm⟩
    · refine .ifT (nt (ilt z0 (65536 : Int))) (by kernel_rfl) h0 ?_
      refine .then ?_
      refine .rK ?_
      refine .ghs (fr 25 [(0, (zU (shrI .u64 z0 16))), (2, (zI z1))]) (hp 0 []) (.k0 [] [] [0, 2]) ?_
      refine .rK ?_
      exact ⟨((shrI .u64 z0 16), (wrapF .i64 (Int.add z1 (16 : Int)))), hm, (.k0 [] [] [0, 2])⟩
    · refine .ifF (nt (ilt z0 (65536 : Int))) (by kernel_rfl) h0 ?_
      refine .skip ?_
      exact ⟨(z0, z1), hm, (.k0 [] [] [0, 2])⟩
theorem r80 {call : CallF} (pu : PureF) (n : Nat) (hcall : call = callP tabs isP pu (inl pu)) {args : List Value} {v : Value} (hm : m80 pu n args = some v) (_ : ∀ x ∈ args, closed2 x = true) : args.length ≤ 25 ∧ Run tt call 0 c80_24 (Fr.made 25 args) (pureHeap tabs) (Fin tt 0 [.tmp 2] v) := by
  subst hcall
  unfold m80 at hm
  replace hm := ll_uncons hm; obtain ⟨a0, args_0, rfl, hm⟩ := hm
  replace hm := ll_end hm; obtain ⟨rfl, hm⟩ := hm
  replace hm := inv_toI hm; obtain ⟨x0, rfl, hm⟩ := hm
  unfold m80_ at hm
  refine ⟨by simp, ?_⟩
  refine .same (F' := (fr 25 [(0, (zU x0))])) (H' := (hp 0 [])) (by kernel_rfl) (by kernel_rfl) ?_
  refine .then ?_
  refine .rK ?_
  refine .ghs (fr 25 [(0, (zU x0)), (2, (zI (0 : Int)))]) (hp 0 []) (.k0 [] [] [0, 2]) ?_
  refine .join (v := v) (fun y : Int × Int => ((fr 25 [(0, (zU y.1)), (2, (zI y.2))]), (hp 0 []))) (fun y => m80_0 pu n y.1 y.2) ?_ ?_
  · rintro ⟨z0, z1⟩ hm
    exact w80_0 pu n z0 z1 hm
  · refine .then ?_
    refine .rK ?_
    refine .ghs (fr 25 [(0, (zU x0)), (2, (zI (0 : Int))), (4, (zB (nt (ilt x0 (4294967296 : Int)))))]) (hp 0 []) (.k0 [] [] [0, 2, 4]) ?_
    replace hm := bb_cases hm; rcases hm with ⟨h0, hm⟩ | ⟨h0, hm⟩
    · refine .ifT (nt (ilt x0 (4294967296 : Int))) (by kernel_rfl) h0 ?_
      refine .then ?_
      refine .rK ?_
      refine .ghs (fr 25 [(0, (zU (shrI .u64 x0 32)))]) (hp 0 []) (.k0 [] [] [0]) ?_
      refine .rK ?_
      exact ⟨((shrI .u64 x0 32), (32 : Int)), hm, (.k0 [] [] [0, 2])⟩
    · refine .ifF (nt (ilt x0 (4294967296 : Int))) (by kernel_rfl) h0 ?_
      refine .skip ?_
      exact ⟨(x0, (0 : Int)), hm, (.k0 [] [] [0, 2])⟩
end
end Go.HpBM
