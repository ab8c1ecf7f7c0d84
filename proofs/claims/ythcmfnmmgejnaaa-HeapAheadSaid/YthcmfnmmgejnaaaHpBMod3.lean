/- Models of the program's functions, and the proofs that runs give them: MADE BY PROGRAM (wip/tools/dec.py). -/
import Derived.Test.YthcmfnmmgejnaaaHpBMod1x

set_option maxRecDepth 100000
set_option maxHeartbeats 20000000
set_option linter.unusedVariables false
namespace Go.HpBM
open Go.Sp Go.HpB
noncomputable section
def m34_0 (pu : PureF) (n : Nat) : Option Value :=
  (some (.bool true))
def b34_1 (pu : PureF) (n : Nat) (ih0 : Int → Nat → Nat → Int → Int → List Value → Option Value) (z0 : Int) (n0 : Nat) (c0 : Nat) (z1 : Int) (z2 : Int) (q0 : List Value) : Option Value :=
  (bb (allL closed1 q0) (bb (ilt z2 z1) (oo (toN z2) none fun k1 => (bb (an (Nat.blt k1 n0) true) (oo (nthL q0 (0 + k1 * 1)) none fun v0 => (oo (toI .i64 v0) none fun x0 => (oo (pu 42 [(.int .i64 (wrapF .i64 (Int.sub z0 (Int.ofNat k1)))), (.int .i64 x0), (.int .i64 (wrapF .i64 (Int.sub (wrapF .i64 (Int.add z0 (1 : Int))) (Int.ofNat k1))))]) none fun v1 => (oo (vBool v1) none fun b0 => (bb (nt b0) (some (.bool false)) (ih0 z0 n0 c0 z1 (wrapF .i64 (Int.add (Int.ofNat k1) (1 : Int))) q0)))))) none)) (m34_0 pu n)) none)
def l34_1 (pu : PureF) (n : Nat) (w : Nat) : Int → Nat → Nat → Int → Int → List Value → Option Value :=
  Nat.rec (motive := fun _ => Int → Nat → Nat → Int → Int → List Value → Option Value) (fun _ _ _ _ _ _ => none) (fun _ ih0 => b34_1 pu n ih0) w
def b34_2 (pu : PureF) (n : Nat) (ih0 : Int → Nat → Nat → Int → Int → List Value → Option Value) (z0 : Int) (n0 : Nat) (c0 : Nat) (z1 : Int) (z2 : Int) (q0 : List Value) : Option Value :=
  (bb (allL closed1 q0) (bb (ilt z2 z1) (oo (toN z2) none fun k1 => (bb (an (Nat.blt k1 n0) true) (oo (nthL q0 (0 + k1 * 1)) none fun v0 => (oo (toI .i64 v0) none fun x0 => (oo (pu 42 [(.int .i64 (wrapF .i64 (Int.sub z0 (Int.ofNat k1)))), (.int .i64 x0), (.int .i64 (wrapF .i64 (Int.sub (wrapF .i64 (Int.add z0 (1 : Int))) (Int.ofNat k1))))]) none fun v1 => (oo (vBool v1) none fun b0 => (bb (nt b0) (some (.bool false)) (ih0 z0 n0 c0 z1 (wrapF .i64 (Int.add (Int.ofNat k1) (1 : Int))) q0)))))) none)) (m34_0 pu n)) none)
def l34_2 (pu : PureF) (n : Nat) (w : Nat) : Int → Nat → Nat → Int → Int → List Value → Option Value :=
  Nat.rec (motive := fun _ => Int → Nat → Nat → Int → Int → List Value → Option Value) (fun _ _ _ _ _ _ => none) (fun _ ih0 => b34_2 pu n ih0) w
def m34_ (pu : PureF) (n : Nat) (q0 : List Value) : Option Value :=
  (bb (allL closed1 q0) (bb (Nat.ble (0 + 22) (len q0)) (oo (pu 41 [(.agg ⟨(takeL 22 (dropL 0 q0))⟩)]) none fun v0 => (oo (toSl 1 v0) none fun s0 => (bb (allL closed2 [(.agg ⟨(takeL 22 (dropL 0 q0))⟩)]) (bb (allL closed1 (Sl.cs s0)) (bb (Nat.ble (0 + 22) (len q0)) (oo (pu 44 [(.agg ⟨(takeL 22 (dropL 0 q0))⟩)]) none fun v1 => (oo (toI .i64 v1) none fun x0 => (bb (allL closed2 [(.agg ⟨(takeL 22 (dropL 0 q0))⟩)]) (oo (pu 43 [(.int .i64 x0)]) none fun v2 => (oo (vTup v2) none fun l0 => (ll l0 none fun v3 l0 => (ll l0 none fun v4 l0 => (ll l0 (oo (toI .i64 v3) none fun x1 => (oo (toI .i64 v4) none fun x2 => (bb (ilt (wrapF .i64 (Int.add x1 (1 : Int))) (Int.ofNat (Sl.n s0))) (some (.bool false)) (oo (toN (wrapF .i64 (Int.sub (wrapF .i64 (Int.add x1 (1 : Int))) (Int.ofNat (Sl.n s0))))) none fun k1 => (bb (Nat.beq k1 0) (bb (an (Nat.ble k1 1000000) (roomy k1 8)) (l34_1 pu n n x1 (Sl.n s0) (2 * (Sl.n s0) + bb false 1 0) (Int.ofNat (Sl.n s0)) (0 : Int) (Sl.cs s0)) none) (bb (an (Nat.ble k1 1000000) (roomy k1 8)) (bb (an (allL scalarB (zeroRow ([(.int .i64 (0 : Int))] : List Value) k1)) (growC 1 8 (Sl.n s0) (2 * (Sl.n s0) + bb false 1 0) k1 (Sl.cs s0))) (bb (allL closed1 (appL (dropL 0 (Sl.cs s0)) (zeroRow ([(.int .i64 (0 : Int))] : List Value) k1))) (l34_2 pu n n x1 ((Sl.n s0) + k1) (2 * ((Sl.n s0) + k1) + bb false 1 0) (Int.ofNat ((Sl.n s0) + k1)) (0 : Int) (appL (dropL 0 (Sl.cs s0)) (zeroRow ([(.int .i64 (0 : Int))] : List Value) k1))) none) none) none)))))) fun _ _ => none))))) none))) none) none) none))) none) none)
def m34 (pu : PureF) (n : Nat) (args : List Value) : Option Value :=
  (ll args none fun a0 args => (ll args (oo (vAgg a0) none fun q0 => (bb (an (Nat.beq (len q0) 22) (allL closed1 q0)) (m34_ pu n q0) none)) fun _ _ => none))
theorem w34_0 (pu : PureF) (n : Nat) {v : Value} (hm : m34_0 pu n = some v) : Run tt (callP tabs isP pu (inl pu)) 0 c34_27 (fr 45 []) (hp 0 []) (Fin tt 0 [.tmp 2] v) := by
  unfold m34_0 at hm
  refine .then ?_
  refine .rK ?_
  refine .ghs (fr 45 [(2, (zB true))]) (hp 0 []) (.k0 [] [] [2]) ?_
  refine .ret ?_
  exact fin_ret (zB true) (by kernel_rfl) (by kernel_rfl) hm
theorem r34 {call : CallF} (pu : PureF) (n : Nat) (hcall : call = callP tabs isP pu (inl pu)) {args : List Value} {v : Value} (hm : m34 pu n args = some v) (_ : ∀ x ∈ args, closed2 x = true) : args.length ≤ 45 ∧ Run tt call 0 c34_32 (Fr.made 45 args) (pureHeap tabs) (Fin tt 0 [.tmp 2] v) := by
  subst hcall
  unfold m34 at hm
  replace hm := ll_uncons hm; obtain ⟨a0, args_0, rfl, hm⟩ := hm
  replace hm := ll_end hm; obtain ⟨rfl, hm⟩ := hm
  replace hm := inv_vAgg hm; obtain ⟨q0, rfl, hm⟩ := hm
  replace hm := bb_inv hm; obtain ⟨h0, hm⟩ := hm
  unfold m34_ at hm
  refine ⟨by simp, ?_⟩
  refine .same (F' := (fr 45 [(0, (.agg ⟨q0⟩))])) (H' := (hp 0 [])) (by kernel_rfl) (by kernel_rfl) ?_
  refine .then ?_
  refine .rK ?_
  replace hm := bb_inv hm; obtain ⟨h1, hm⟩ := hm
  refine .ghs (fr 45 [(1, (pt 0 0))]) (hp 1 [(oC q0)]) (.k [0] [] [.tmp 1 false] [1] ⟨trE (by kernel_rfl) h1, trivial⟩) ?_
  refine .then ?_
  replace hm := bb_inv hm; obtain ⟨h2, hm⟩ := hm
  replace hm := oo_inv hm; obtain ⟨v0, h3, hm⟩ := hm
  replace hm := inv_toSl hm; obtain ⟨s0, rfl, hm⟩ := hm
  replace hm := bb_inv hm; obtain ⟨h4, hm⟩ := hm
  refine .reg (eD (keep (hp 1 [(oC q0)]) (bb (Nat.ble (0 + 22) (len q0)) (some (.agg ⟨(takeL 22 (dropL 0 q0))⟩)) none)) (keep_bb h2) (eD (bb (allL closed2 [(.agg ⟨(takeL 22 (dropL 0 q0))⟩)]) (oo (pu 41 [(.agg ⟨(takeL 22 (dropL 0 q0))⟩)]) none fun v => oo (toSl 1 v) none fun s => some (((sc 1 0 1 (Sl.n s) (d2 (Sl.n s))), (hp 2 [(oC q0), (oC (Sl.cs s))])) : Value × AHeap)) none) ((bb_true' h4).trans (live_eq (sz := 1) (k := fun s => (((sc 1 0 1 (Sl.n s) (d2 (Sl.n s))), (hp 2 [(oC q0), (oC (Sl.cs s))])) : Value × AHeap)) h3)) (eE))) ?_
  replace hm := bb_inv hm; obtain ⟨h5, hm⟩ := hm
  refine .ghs (fr 45 [(1, (pt 0 0)), (3, (sc 1 0 1 (Sl.n s0) (d2 (Sl.n s0))))]) (hp 2 [(oC q0), (oC (Sl.cs s0))]) (.k [0, 1] [] [.tmp 1 false, .tmp 3 false] [1, 3] ⟨trE (by kernel_rfl) h1, trE (by kernel_rfl) h5, trivial⟩) ?_
  refine .then ?_
  replace hm := bb_inv hm; obtain ⟨h6, hm⟩ := hm
  replace hm := oo_inv hm; obtain ⟨v1, h7, hm⟩ := hm
  replace hm := inv_toI hm; obtain ⟨x0, rfl, hm⟩ := hm
  replace hm := bb_inv hm; obtain ⟨h8, hm⟩ := hm
  replace hm := oo_inv hm; obtain ⟨v2, h9, hm⟩ := hm
  replace hm := inv_vTup hm; obtain ⟨l0, rfl, hm⟩ := hm
  replace hm := ll_uncons hm; obtain ⟨v3, l230134_0, rfl, hm⟩ := hm
  replace hm := ll_uncons hm; obtain ⟨v4, l230134_1, rfl, hm⟩ := hm
  replace hm := ll_end hm; obtain ⟨rfl, hm⟩ := hm
  replace hm := inv_toI hm; obtain ⟨x1, rfl, hm⟩ := hm
  replace hm := inv_toI hm; obtain ⟨x2, rfl, hm⟩ := hm
  refine .reg (eD (keep (hp 2 [(oC q0), (oC (Sl.cs s0))]) (bb (Nat.ble (0 + 22) (len q0)) (some (.agg ⟨(takeL 22 (dropL 0 q0))⟩)) none)) (keep_bb h6) (eD (bb (allL closed2 [(.agg ⟨(takeL 22 (dropL 0 q0))⟩)]) (oo (pu 44 [(.agg ⟨(takeL 22 (dropL 0 q0))⟩)]) none fun v => some (v, (hp 2 [(oC q0), (oC (Sl.cs s0))]))) (oo (mapO (purify (hp 2 [(oC q0), (oC (Sl.cs s0))])) [(.agg ⟨(takeL 22 (dropL 0 q0))⟩)]) none fun l1 => oo (pu 44 l1) none fun v => bb (plainT v) (some (v, (hp 2 [(oC q0), (oC (Sl.cs s0))]))) none)) (callc_eq h8 h7) (eD ((oo (pu 43 [(zI x0)]) none fun v => some (v, (hp 2 [(oC q0), (oC (Sl.cs s0))])))) (call_eq h9) (eE)))) ?_
  refine .ghs (fr 45 [(3, (sc 0 0 1 (Sl.n s0) (d2 (Sl.n s0)))), (4, (zI x1))]) (hp 1 [(oC (Sl.cs s0))]) (.k [1] [] [.tmp 3 false] [3, 4] ⟨trE (by kernel_rfl) h5, trivial⟩) ?_
  refine .then ?_
  refine .then ?_
  refine .rK ?_
  refine .ghs (fr 45 [(3, (sc 0 0 1 (Sl.n s0) (d2 (Sl.n s0)))), (4, (zI x1)), (20, (zB (ilt (wrapF .i64 (Int.add x1 (1 : Int))) (Int.ofNat (Sl.n s0)))))]) (hp 1 [(oC (Sl.cs s0))]) (.k [0] [] [.tmp 3 false] [3, 4, 20] ⟨trE (by kernel_rfl) h5, trivial⟩) ?_
  replace hm := bb_cases hm; rcases hm with ⟨h10, hm⟩ | ⟨h10, hm⟩
  · refine .ifT (ilt (wrapF .i64 (Int.add x1 (1 : Int))) (Int.ofNat (Sl.n s0))) (by kernel_rfl) h10 ?_
    refine .then ?_
    refine .rK ?_
    refine .ghs (fr 45 [(2, (zB false))]) (hp 0 []) (.k0 [] [] [2]) ?_
    refine .ret ?_
    exact fin_ret (zB false) (by kernel_rfl) (by kernel_rfl) hm
  · refine .ifF (ilt (wrapF .i64 (Int.add x1 (1 : Int))) (Int.ofNat (Sl.n s0))) (by kernel_rfl) h10 ?_
    refine .skip ?_
    refine .ghs (fr 45 [(3, (sc 0 0 1 (Sl.n s0) (d2 (Sl.n s0)))), (4, (zI x1))]) (hp 1 [(oC (Sl.cs s0))]) (.k [0] [] [.tmp 3 false] [3, 4] ⟨trE (by kernel_rfl) h5, trivial⟩) ?_
    refine .join (v := v) (fun y : Unit => ((fr 45 []), (hp 0 []))) (fun y => m34_0 pu n) ?_ ?_
    · rintro _ hm
      exact w34_0 pu n hm
    · refine .then ?_
      replace hm := oo_inv hm; obtain ⟨k1, h11, hm⟩ := hm
      replace hm := bb_cases hm; rcases hm with ⟨h12, hm⟩ | ⟨h12, hm⟩
      · replace hm := bb_inv hm; obtain ⟨h13, hm⟩ := hm
        refine .reg (eC 5 (some ((zI (wrapF .i64 (Int.sub (wrapF .i64 (Int.add x1 (1 : Int))) (Int.ofNat (Sl.n s0))))), (hp 1 [(oC (Sl.cs s0))]))) (show _ = some ((zI (Int.ofNat k1)), _) from (by rw [toN_some h11])) (eD (appZ (hp 1 [(oC (Sl.cs s0))]) 1 8 ([(zI (0 : Int))] : List Value) (sc 0 0 1 (Sl.n s0) (d2 (Sl.n s0))) k1) (appZ_0 h13 h12) (eE))) ?_
        refine .ghs (fr 45 [(4, (zI x1)), (27, (sc 0 0 1 (Sl.n s0) (d2 (Sl.n s0)))), (28, (zI (Int.ofNat (Sl.n s0)))), (29, (zI (0 : Int)))]) (hp 1 [(oC (Sl.cs s0))]) (.k [0] [] [.tmp 27 false] [4, 27, 28, 29] ⟨trE (by kernel_rfl) h5, trivial⟩) ?_
        refine .block ?_
        refine .loopM (v := v) (fun y : Int × Nat × Nat × Int × Int × List Value => ((fr 45 [(4, (zI y.1)), (27, (sc 0 0 1 y.2.1 y.2.2.1)), (28, (zI y.2.2.2.1)), (29, (zI y.2.2.2.2.1))]), (hp 1 [(oC y.2.2.2.2.2)]))) (fun w y => l34_1 pu n w y.1 y.2.1 y.2.2.1 y.2.2.2.1 y.2.2.2.2.1 y.2.2.2.2.2) n ⟨(x1, (Sl.n s0), (d2 (Sl.n s0)), (Int.ofNat (Sl.n s0)), (0 : Int), (Sl.cs s0)), hm, (.k [0] [] [.tmp 27 false] [4, 27, 28, 29] ⟨trE (by kernel_rfl) h5, trivial⟩)⟩ (fun _ => rfl) ?_
        rintro w0 ⟨z0, n0, c0, z1, z2, q1⟩ hm
        replace hm : b34_1 pu n (l34_1 pu n w0) z0 n0 c0 z1 z2 q1 = some v := hm
        unfold b34_1 at hm
        refine .then ?_
        refine .rK ?_
        replace hm := bb_inv hm; obtain ⟨h14, hm⟩ := hm
        refine .ghs (fr 45 [(4, (zI z0)), (27, (sc 0 0 1 n0 c0)), (28, (zI z1)), (29, (zI z2)), (30, (zB (ilt z2 z1)))]) (hp 1 [(oC q1)]) (.k [0] [] [.tmp 27 false] [4, 27, 28, 29, 30] ⟨trE (by kernel_rfl) h14, trivial⟩) ?_
        refine .then ?_
        replace hm := bb_cases hm; rcases hm with ⟨h15, hm⟩ | ⟨h15, hm⟩
        · refine .ifT (ilt z2 z1) (by kernel_rfl) h15 ?_
          refine .skip ?_
          refine .ghs (fr 45 [(4, (zI z0)), (27, (sc 0 0 1 n0 c0)), (28, (zI z1)), (29, (zI z2))]) (hp 1 [(oC q1)]) (.k [0] [] [.tmp 27 false] [4, 27, 28, 29] ⟨trE (by kernel_rfl) h14, trivial⟩) ?_
          refine .then ?_
          refine .block ?_
          refine .then ?_
          replace hm := oo_inv hm; obtain ⟨k2, h16, hm⟩ := hm
          obtain rfl := toN_some h16
          replace hm := bb_inv hm; obtain ⟨h17, hm⟩ := hm
          replace hm := oo_inv hm; obtain ⟨v5, h18, hm⟩ := hm
          replace hm := inv_toI hm; obtain ⟨x3, rfl, hm⟩ := hm
          refine .reg (eC 1 (keep (hp 1 [(oC q1)]) (bb (an (Nat.blt k2 n0) true) (some (.pointer (some ⟨0, (0 + k2 * 1), none⟩))) none)) (keep_bb h17) (eD (keep (hp 1 [(oC q1)]) (nthL q1 (0 + k2 * 1))) (keep_eq h18) (eE))) ?_
          refine .ghs (fr 45 [(4, (zI z0)), (6, (zI (Int.ofNat k2))), (7, (zI x3)), (27, (sc 0 0 1 n0 c0)), (28, (zI z1)), (29, (zI (Int.ofNat k2)))]) (hp 1 [(oC q1)]) (.k [0] [] [.tmp 27 false] [4, 6, 7, 27, 28, 29] ⟨trE (by kernel_rfl) h14, trivial⟩) ?_
          refine .then ?_
          replace hm := oo_inv hm; obtain ⟨v6, h19, hm⟩ := hm
          replace hm := inv_vBool hm; obtain ⟨b0, rfl, hm⟩ := hm
          refine .reg (eC 8 ((oo (pu 42 [(zI (wrapF .i64 (Int.sub z0 (Int.ofNat k2)))), (zI x3), (zI (wrapF .i64 (Int.sub (wrapF .i64 (Int.add z0 (1 : Int))) (Int.ofNat k2))))]) none fun v => some (v, (hp 1 [(oC q1)])))) (call_eq h19) (eE)) ?_
          refine .ghs (fr 45 [(4, (zI z0)), (27, (sc 0 0 1 n0 c0)), (28, (zI z1)), (29, (zI (Int.ofNat k2))), (43, (zB (nt b0)))]) (hp 1 [(oC q1)]) (.k [0] [] [.tmp 27 false] [4, 27, 28, 29, 43] ⟨trE (by kernel_rfl) h14, trivial⟩) ?_
          replace hm := bb_cases hm; rcases hm with ⟨h20, hm⟩ | ⟨h20, hm⟩
          · refine .ifT (nt b0) (by kernel_rfl) h20 ?_
            refine .then ?_
            refine .rK ?_
            refine .ghs (fr 45 [(2, (zB false))]) (hp 0 []) (.k0 [] [] [2]) ?_
            refine .ret ?_
            exact fin_ret (zB false) (by kernel_rfl) (by kernel_rfl) hm
          · refine .ifF (nt b0) (by kernel_rfl) h20 ?_
            refine .skip ?_
            refine .ghs (fr 45 [(4, (zI z0)), (27, (sc 0 0 1 n0 c0)), (28, (zI z1)), (29, (zI (Int.ofNat k2)))]) (hp 1 [(oC q1)]) (.k [0] [] [.tmp 27 false] [4, 27, 28, 29] ⟨trE (by kernel_rfl) h14, trivial⟩) ?_
            refine .rK ?_
            exact ⟨(z0, n0, c0, z1, (wrapF .i64 (Int.add (Int.ofNat k2) (1 : Int))), q1), hm, (.k [0] [] [.tmp 27 false] [4, 27, 28, 29] ⟨trE (by kernel_rfl) h14, trivial⟩)⟩
        · refine .ifF (ilt z2 z1) (by kernel_rfl) h15 ?_
          refine .exit ?_
          exact ⟨(), hm, (.k0 [] [] [])⟩
      · replace hm := bb_inv hm; obtain ⟨h13, hm⟩ := hm
        replace hm := bb_inv hm; obtain ⟨h21, hm⟩ := hm
        refine .reg (eC 5 (some ((zI (wrapF .i64 (Int.sub (wrapF .i64 (Int.add x1 (1 : Int))) (Int.ofNat (Sl.n s0))))), (hp 1 [(oC (Sl.cs s0))]))) (show _ = some ((zI (Int.ofNat k1)), _) from (by rw [toN_some h11])) (eD (appZ (hp 1 [(oC (Sl.cs s0))]) 1 8 ([(zI (0 : Int))] : List Value) (sc 0 0 1 (Sl.n s0) (d2 (Sl.n s0))) k1) (appZ_grow (H := (hp 1 [(oC (Sl.cs s0))])) (id := 0) (n := (Sl.n s0)) (c2 := (d2 (Sl.n s0))) (xs := (Sl.cs s0)) (anc := []) h13 h12 (by kernel_rfl) (by kernel_rfl) h21) (eE))) ?_
        replace hm := bb_inv hm; obtain ⟨h22, hm⟩ := hm
        refine .ghs (fr 45 [(4, (zI x1)), (27, (sc 0 0 1 ((Sl.n s0) + k1) (d2 ((Sl.n s0) + k1)))), (28, (zI (Int.ofNat ((Sl.n s0) + k1)))), (29, (zI (0 : Int)))]) (hp 1 [(oC (appL (dropL 0 (Sl.cs s0)) (zeroRow ([(zI (0 : Int))] : List Value) k1)))]) (.k [1] [] [.tmp 27 false] [4, 27, 28, 29] ⟨trE (by kernel_rfl) h22, trivial⟩) ?_
        refine .block ?_
        refine .loopM (v := v) (fun y : Int × Nat × Nat × Int × Int × List Value => ((fr 45 [(4, (zI y.1)), (27, (sc 0 0 1 y.2.1 y.2.2.1)), (28, (zI y.2.2.2.1)), (29, (zI y.2.2.2.2.1))]), (hp 1 [(oC y.2.2.2.2.2)]))) (fun w y => l34_2 pu n w y.1 y.2.1 y.2.2.1 y.2.2.2.1 y.2.2.2.2.1 y.2.2.2.2.2) n ⟨(x1, ((Sl.n s0) + k1), (d2 ((Sl.n s0) + k1)), (Int.ofNat ((Sl.n s0) + k1)), (0 : Int), (appL (dropL 0 (Sl.cs s0)) (zeroRow ([(zI (0 : Int))] : List Value) k1))), hm, (.k [0] [] [.tmp 27 false] [4, 27, 28, 29] ⟨trE (by kernel_rfl) h22, trivial⟩)⟩ (fun _ => rfl) ?_
        rintro w0 ⟨z3, n1, c1, z4, z5, q2⟩ hm
        replace hm : b34_2 pu n (l34_2 pu n w0) z3 n1 c1 z4 z5 q2 = some v := hm
        unfold b34_2 at hm
        refine .then ?_
        refine .rK ?_
        replace hm := bb_inv hm; obtain ⟨h23, hm⟩ := hm
        refine .ghs (fr 45 [(4, (zI z3)), (27, (sc 0 0 1 n1 c1)), (28, (zI z4)), (29, (zI z5)), (30, (zB (ilt z5 z4)))]) (hp 1 [(oC q2)]) (.k [0] [] [.tmp 27 false] [4, 27, 28, 29, 30] ⟨trE (by kernel_rfl) h23, trivial⟩) ?_
        refine .then ?_
        replace hm := bb_cases hm; rcases hm with ⟨h24, hm⟩ | ⟨h24, hm⟩
        · refine .ifT (ilt z5 z4) (by kernel_rfl) h24 ?_
          refine .skip ?_
          refine .ghs (fr 45 [(4, (zI z3)), (27, (sc 0 0 1 n1 c1)), (28, (zI z4)), (29, (zI z5))]) (hp 1 [(oC q2)]) (.k [0] [] [.tmp 27 false] [4, 27, 28, 29] ⟨trE (by kernel_rfl) h23, trivial⟩) ?_
          refine .then ?_
          refine .block ?_
          refine .then ?_
          replace hm := oo_inv hm; obtain ⟨k3, h25, hm⟩ := hm
          obtain rfl := toN_some h25
          replace hm := bb_inv hm; obtain ⟨h26, hm⟩ := hm
          replace hm := oo_inv hm; obtain ⟨v7, h27, hm⟩ := hm
          replace hm := inv_toI hm; obtain ⟨x4, rfl, hm⟩ := hm
          refine .reg (eC 1 (keep (hp 1 [(oC q2)]) (bb (an (Nat.blt k3 n1) true) (some (.pointer (some ⟨0, (0 + k3 * 1), none⟩))) none)) (keep_bb h26) (eD (keep (hp 1 [(oC q2)]) (nthL q2 (0 + k3 * 1))) (keep_eq h27) (eE))) ?_
          refine .ghs (fr 45 [(4, (zI z3)), (6, (zI (Int.ofNat k3))), (7, (zI x4)), (27, (sc 0 0 1 n1 c1)), (28, (zI z4)), (29, (zI (Int.ofNat k3)))]) (hp 1 [(oC q2)]) (.k [0] [] [.tmp 27 false] [4, 6, 7, 27, 28, 29] ⟨trE (by kernel_rfl) h23, trivial⟩) ?_
          refine .then ?_
          replace hm := oo_inv hm; obtain ⟨v8, h28, hm⟩ := hm
          replace hm := inv_vBool hm; obtain ⟨b1, rfl, hm⟩ := hm
          refine .reg (eC 8 ((oo (pu 42 [(zI (wrapF .i64 (Int.sub z3 (Int.ofNat k3)))), (zI x4), (zI (wrapF .i64 (Int.sub (wrapF .i64 (Int.add z3 (1 : Int))) (Int.ofNat k3))))]) none fun v => some (v, (hp 1 [(oC q2)])))) (call_eq h28) (eE)) ?_
          refine .ghs (fr 45 [(4, (zI z3)), (27, (sc 0 0 1 n1 c1)), (28, (zI z4)), (29, (zI (Int.ofNat k3))), (43, (zB (nt b1)))]) (hp 1 [(oC q2)]) (.k [0] [] [.tmp 27 false] [4, 27, 28, 29, 43] ⟨trE (by kernel_rfl) h23, trivial⟩) ?_
          replace hm := bb_cases hm; rcases hm with ⟨h29, hm⟩ | ⟨h29, hm⟩
          · refine .ifT (nt b1) (by kernel_rfl) h29 ?_
            refine .then ?_
            refine .rK ?_
            refine .ghs (fr 45 [(2, (zB false))]) (hp 0 []) (.k0 [] [] [2]) ?_
            refine .ret ?_
            exact fin_ret (zB false) (by kernel_rfl) (by kernel_rfl) hm
          · refine .ifF (nt b1) (by kernel_rfl) h29 ?_
            refine .skip ?_
            refine .ghs (fr 45 [(4, (zI z3)), (27, (sc 0 0 1 n1 c1)), (28, (zI z4)), (29, (zI (Int.ofNat k3)))]) (hp 1 [(oC q2)]) (.k [0] [] [.tmp 27 false] [4, 27, 28, 29] ⟨trE (by kernel_rfl) h23, trivial⟩) ?_
            refine .rK ?_
            exact ⟨(z3, n1, c1, z4, (wrapF .i64 (Int.add (Int.ofNat k3) (1 : Int))), q2), hm, (.k [0] [] [.tmp 27 false] [4, 27, 28, 29] ⟨trE (by kernel_rfl) h23, trivial⟩)⟩
        · refine .ifF (ilt z5 z4) (by kernel_rfl) h24 ?_
          refine .exit ?_
          exact ⟨(), hm, (.k0 [] [] [])⟩
def b36_0 (pu : PureF) (n : Nat) (ih0 : Int → List Value → List Value → Option Value) (z0 : Int) (q0 : List Value) (q1 : List Value) : Option Value :=
  (bb (allL closed1 q0) (bb (allL closed1 q1) (bb (Nat.ble (0 + 22) (len q0)) (oo (pu 34 [(.agg ⟨(takeL 22 (dropL 0 q0))⟩)]) none fun v0 => (oo (vBool v0) none fun b0 => (bb (allL closed2 [(.agg ⟨(takeL 22 (dropL 0 q0))⟩)]) (bb (nt b0) (bb (Nat.ble (0 + 22) (len q0)) (oo (pu 40 [(.agg ⟨(takeL 22 (dropL 0 q0))⟩)]) none fun v1 => (oo (vAgg v1) none fun q2 => (bb (an (Nat.beq (len q2) 22) (allL closed1 q2)) (bb (allL closed2 [(.agg ⟨(takeL 22 (dropL 0 q0))⟩)]) (bb (Nat.beq (len q2) 22) (bb (an (Nat.ble (0 + len q2) (len q0)) (allL scalarB q2)) (bb (allL closed1 (setL q2 0 q0)) (ih0 (wrapF .i64 (Int.add z0 (1 : Int))) (setL q2 0 q0) q1) none) none) none) none) none))) none) (bb (Nat.ble (0 + 22) (len q0)) (bb (Nat.beq (len (takeL 22 (dropL 0 q0))) 22) (bb (an (Nat.ble (0 + len (takeL 22 (dropL 0 q0))) (len q1)) (allL scalarB (takeL 22 (dropL 0 q0)))) (bb (allL closed1 (setL (takeL 22 (dropL 0 q0)) 0 q1)) (bb (Nat.ble (0 + 22) (len (setL (takeL 22 (dropL 0 q0)) 0 q1))) (bb (closedV (.tuple ⟨[(.int .i64 z0), (.agg ⟨(takeL 22 (dropL 0 (setL (takeL 22 (dropL 0 q0)) 0 q1)))⟩)]⟩)) (some (.tuple ⟨[(.int .i64 z0), (.agg ⟨(takeL 22 (dropL 0 (setL (takeL 22 (dropL 0 q0)) 0 q1)))⟩)]⟩)) none) none) none) none) none) none)) none))) none) none) none)
def l36_0 (pu : PureF) (n : Nat) (w : Nat) : Int → List Value → List Value → Option Value :=
  Nat.rec (motive := fun _ => Int → List Value → List Value → Option Value) (fun _ _ _ => none) (fun _ ih0 => b36_0 pu n ih0) w
def m36_ (pu : PureF) (n : Nat) (q0 : List Value) : Option Value :=
  (bb (allL closed1 q0) (bb (allL closed1 zA48) (bb (Nat.ble (0 + 22) (len q0)) (oo (pu 34 [(.agg ⟨(takeL 22 (dropL 0 q0))⟩)]) none fun v0 => (oo (vBool v0) none fun b0 => (bb (allL closed2 [(.agg ⟨(takeL 22 (dropL 0 q0))⟩)]) (bb (nt b0) (bb (Nat.ble (0 + 22) (len q0)) (oo (pu 40 [(.agg ⟨(takeL 22 (dropL 0 q0))⟩)]) none fun v1 => (oo (vAgg v1) none fun q1 => (bb (an (Nat.beq (len q1) 22) (allL closed1 q1)) (bb (allL closed2 [(.agg ⟨(takeL 22 (dropL 0 q0))⟩)]) (bb (Nat.beq (len q1) 22) (bb (an (Nat.ble (0 + len q1) (len q0)) (allL scalarB q1)) (bb (allL closed1 (setL q1 0 q0)) (l36_0 pu n n (1 : Int) (setL q1 0 q0) zA48) none) none) none) none) none))) none) (bb (Nat.ble (0 + 22) (len q0)) (bb (Nat.beq (len (takeL 22 (dropL 0 q0))) 22) (bb (an (Nat.ble (0 + len (takeL 22 (dropL 0 q0))) (len zA48)) (allL scalarB (takeL 22 (dropL 0 q0)))) (bb (allL closed1 (setL (takeL 22 (dropL 0 q0)) 0 zA48)) (bb (Nat.ble (0 + 22) (len (setL (takeL 22 (dropL 0 q0)) 0 zA48))) (bb (closedV (.tuple ⟨[(.int .i64 (0 : Int)), (.agg ⟨(takeL 22 (dropL 0 (setL (takeL 22 (dropL 0 q0)) 0 zA48)))⟩)]⟩)) (some (.tuple ⟨[(.int .i64 (0 : Int)), (.agg ⟨(takeL 22 (dropL 0 (setL (takeL 22 (dropL 0 q0)) 0 zA48)))⟩)]⟩)) none) none) none) none) none) none)) none))) none) none) none)
def m36 (pu : PureF) (n : Nat) (args : List Value) : Option Value :=
  (ll args none fun a0 args => (ll args (oo (vAgg a0) none fun q0 => (bb (an (Nat.beq (len q0) 22) (allL closed1 q0)) (m36_ pu n q0) none)) fun _ _ => none))
theorem r36 {call : CallF} (pu : PureF) (n : Nat) (hcall : call = callP tabs isP pu (inl pu)) {args : List Value} {v : Value} (hm : m36 pu n args = some v) (_ : ∀ x ∈ args, closed2 x = true) : args.length ≤ 14 ∧ Run tt call 0 c36_26 (Fr.made 14 args) (pureHeap tabs) (Fin tt 0 [.tmp 2, .cell 3 48] v) := by
  subst hcall
  unfold m36 at hm
  replace hm := ll_uncons hm; obtain ⟨a0, args_0, rfl, hm⟩ := hm
  replace hm := ll_end hm; obtain ⟨rfl, hm⟩ := hm
  replace hm := inv_vAgg hm; obtain ⟨q0, rfl, hm⟩ := hm
  replace hm := bb_inv hm; obtain ⟨h0, hm⟩ := hm
  unfold m36_ at hm
  refine ⟨by simp, ?_⟩
  refine .same (F' := (fr 14 [(0, (.agg ⟨q0⟩))])) (H' := (hp 0 [])) (by kernel_rfl) (by kernel_rfl) ?_
  refine .then ?_
  refine .rK ?_
  replace hm := bb_inv hm; obtain ⟨h1, hm⟩ := hm
  replace hm := bb_inv hm; obtain ⟨h2, hm⟩ := hm
  refine .ghs (fr 14 [(1, (pt 0 0)), (3, (pt 1 0))]) (hp 2 [(oC q0), (oC zA48)]) (.k [0, 1] [] [.tmp 1 false, .tmp 3 false] [1, 3] ⟨trE (by kernel_rfl) h1, trE (by kernel_rfl) h2, trivial⟩) ?_
  refine .scopeM (v := v) (fun y : Int × List Value × List Value => ((fr 14 [(1, (pt 0 0)), (3, (pt 1 0)), (4, (zI y.1))]), (hp 2 [(oC y.2.1), (oC y.2.2)]))) (fun w y => l36_0 pu n w y.1 y.2.1 y.2.2) n (fun _ => rfl) ?_ ?_
  · refine .then ?_
    refine .rK ?_
    refine .ghs (fr 14 [(1, (pt 0 0)), (3, (pt 1 0)), (4, (zI (0 : Int)))]) (hp 2 [(oC q0), (oC zA48)]) (.k [0, 1] [] [.tmp 1 false, .tmp 3 false] [1, 3, 4] ⟨trE (by kernel_rfl) h1, trE (by kernel_rfl) h2, trivial⟩) ?_
    refine .then ?_
    refine .label ?_
    refine .ghs (fr 14 [(1, (pt 0 0)), (3, (pt 1 0)), (4, (zI (0 : Int)))]) (hp 2 [(oC q0), (oC zA48)]) (.k [0, 1] [] [.tmp 1 false, .tmp 3 false] [1, 3, 4] ⟨trE (by kernel_rfl) h1, trE (by kernel_rfl) h2, trivial⟩) ?_
    refine .then ?_
    refine .then ?_
    replace hm := bb_inv hm; obtain ⟨h3, hm⟩ := hm
    replace hm := oo_inv hm; obtain ⟨v0, h4, hm⟩ := hm
    replace hm := inv_vBool hm; obtain ⟨b0, rfl, hm⟩ := hm
    replace hm := bb_inv hm; obtain ⟨h5, hm⟩ := hm
    refine .reg (eD (keep (hp 2 [(oC q0), (oC zA48)]) (bb (Nat.ble (0 + 22) (len q0)) (some (.agg ⟨(takeL 22 (dropL 0 q0))⟩)) none)) (keep_bb h3) (eD (bb (allL closed2 [(.agg ⟨(takeL 22 (dropL 0 q0))⟩)]) (oo (pu 34 [(.agg ⟨(takeL 22 (dropL 0 q0))⟩)]) none fun v => some (v, (hp 2 [(oC q0), (oC zA48)]))) (oo (mapO (purify (hp 2 [(oC q0), (oC zA48)])) [(.agg ⟨(takeL 22 (dropL 0 q0))⟩)]) none fun l1 => oo (pu 34 l1) none fun v => bb (plainT v) (some (v, (hp 2 [(oC q0), (oC zA48)]))) none)) (callc_eq h5 h4) (eE))) ?_
    refine .ghs (fr 14 [(1, (pt 0 0)), (3, (pt 1 0)), (4, (zI (0 : Int))), (7, (zB (nt b0)))]) (hp 2 [(oC q0), (oC zA48)]) (.k [0, 1] [] [.tmp 1 false, .tmp 3 false] [1, 3, 4, 7] ⟨trE (by kernel_rfl) h1, trE (by kernel_rfl) h2, trivial⟩) ?_
    replace hm := bb_cases hm; rcases hm with ⟨h6, hm⟩ | ⟨h6, hm⟩
    · refine .ifT (nt b0) (by kernel_rfl) h6 ?_
      refine .then ?_
      replace hm := bb_inv hm; obtain ⟨h7, hm⟩ := hm
      replace hm := oo_inv hm; obtain ⟨v1, h8, hm⟩ := hm
      replace hm := inv_vAgg hm; obtain ⟨q1, rfl, hm⟩ := hm
      replace hm := bb_inv hm; obtain ⟨h9, hm⟩ := hm
      replace hm := bb_inv hm; obtain ⟨h10, hm⟩ := hm
      replace hm := bb_inv hm; obtain ⟨h11, hm⟩ := hm
      replace hm := bb_inv hm; obtain ⟨h12, hm⟩ := hm
      refine .reg (eD (keep (hp 2 [(oC q0), (oC zA48)]) (bb (Nat.ble (0 + 22) (len q0)) (some (.agg ⟨(takeL 22 (dropL 0 q0))⟩)) none)) (keep_bb h7) (eD (bb (allL closed2 [(.agg ⟨(takeL 22 (dropL 0 q0))⟩)]) (oo (pu 40 [(.agg ⟨(takeL 22 (dropL 0 q0))⟩)]) none fun v => some (v, (hp 2 [(oC q0), (oC zA48)]))) (oo (mapO (purify (hp 2 [(oC q0), (oC zA48)])) [(.agg ⟨(takeL 22 (dropL 0 q0))⟩)]) none fun l1 => oo (pu 40 l1) none fun v => bb (plainT v) (some (v, (hp 2 [(oC q0), (oC zA48)]))) none)) (callc_eq h10 h8) (eD (done (bb (Nat.beq (len q1) 22) (bb (an (Nat.ble (0 + len q1) (len q0)) (allL scalarB q1)) (some (hp 2 [(oC (setL q1 0 q0)), (oC zA48)])) none) none) undef) (done_bb2 h11 h12) (eE)))) ?_
      replace hm := bb_inv hm; obtain ⟨h13, hm⟩ := hm
      refine .ghs (fr 14 [(1, (pt 0 0)), (3, (pt 1 0)), (4, (zI (0 : Int)))]) (hp 2 [(oC (setL q1 0 q0)), (oC zA48)]) (.k [0, 1] [] [.tmp 1 false, .tmp 3 false] [1, 3, 4] ⟨trE (by kernel_rfl) h13, trE (by kernel_rfl) h2, trivial⟩) ?_
      refine .then ?_
      refine .rK ?_
      refine .ghs (fr 14 [(1, (pt 0 0)), (3, (pt 1 0)), (4, (zI (1 : Int)))]) (hp 2 [(oC (setL q1 0 q0)), (oC zA48)]) (.k [0, 1] [] [.tmp 1 false, .tmp 3 false] [1, 3, 4] ⟨trE (by kernel_rfl) h13, trE (by kernel_rfl) h2, trivial⟩) ?_
      refine .goto ?_
      exact ⟨rfl, ((1 : Int), (setL q1 0 q0), zA48), hm, (.k [0, 1] [] [.tmp 1 false, .tmp 3 false] [1, 3, 4] ⟨trE (by kernel_rfl) h13, trE (by kernel_rfl) h2, trivial⟩)⟩
    · refine .ifF (nt b0) (by kernel_rfl) h6 ?_
      refine .skip ?_
      refine .ghs (fr 14 [(1, (pt 0 0)), (3, (pt 1 0)), (4, (zI (0 : Int)))]) (hp 2 [(oC q0), (oC zA48)]) (.k [0, 1] [] [.tmp 1 false, .tmp 3 false] [1, 3, 4] ⟨trE (by kernel_rfl) h1, trE (by kernel_rfl) h2, trivial⟩) ?_
      refine .then ?_
      replace hm := bb_inv hm; obtain ⟨h14, hm⟩ := hm
      replace hm := bb_inv hm; obtain ⟨h15, hm⟩ := hm
      replace hm := bb_inv hm; obtain ⟨h16, hm⟩ := hm
      refine .reg (eC 1 (keep (hp 2 [(oC q0), (oC zA48)]) (bb (Nat.ble (0 + 22) (len q0)) (some (.agg ⟨(takeL 22 (dropL 0 q0))⟩)) none)) (keep_bb h14) (eC 1 (done (bb (Nat.beq (len (takeL 22 (dropL 0 q0))) 22) (bb (an (Nat.ble (0 + len (takeL 22 (dropL 0 q0))) (len zA48)) (allL scalarB (takeL 22 (dropL 0 q0)))) (some (hp 2 [(oC q0), (oC (setL (takeL 22 (dropL 0 q0)) 0 zA48))])) none) none) undef) (done_bb2 h15 h16) (eE))) ?_
      replace hm := bb_inv hm; obtain ⟨h17, hm⟩ := hm
      refine .ghs (fr 14 [(2, (zI (0 : Int))), (3, (pt 0 0))]) (hp 1 [(oC (setL (takeL 22 (dropL 0 q0)) 0 zA48))]) (.k [1] [] [.tmp 3 false] [2, 3] ⟨trE (by kernel_rfl) h17, trivial⟩) ?_
      refine .ret ?_
      replace hm := bb_inv hm; obtain ⟨h18, hm⟩ := hm
      replace hm := bb_inv hm; obtain ⟨h19, hm⟩ := hm
      exact fin_ret (.tuple ⟨[(zI (0 : Int)), (.agg ⟨(takeL 22 (dropL 0 (setL (takeL 22 (dropL 0 q0)) 0 zA48)))⟩)]⟩) (aresults_of (aresultsL_cons (show aresult _ _ _ _ = some (zI (0 : Int)) from (by kernel_rfl)) (aresultsL_cons (show aresult _ _ _ _ = some (.agg ⟨(takeL 22 (dropL 0 (setL (takeL 22 (dropL 0 q0)) 0 zA48)))⟩) from (eq_bb (c := (Nat.ble (0 + 22) (len (setL (takeL 22 (dropL 0 q0)) 0 zA48)))) (by kernel_rfl) h18)) rfl)) (by kernel_rfl)) h19 hm
  · rintro w0 ⟨z0, q2, q3⟩ hm
    replace hm : b36_0 pu n (l36_0 pu n w0) z0 q2 q3 = some v := hm
    unfold b36_0 at hm
    refine .then ?_
    refine .skip ?_
    replace hm := bb_inv hm; obtain ⟨h20, hm⟩ := hm
    replace hm := bb_inv hm; obtain ⟨h21, hm⟩ := hm
    refine .ghs (fr 14 [(1, (pt 0 0)), (3, (pt 1 0)), (4, (zI z0))]) (hp 2 [(oC q2), (oC q3)]) (.k [0, 1] [] [.tmp 1 false, .tmp 3 false] [1, 3, 4] ⟨trE (by kernel_rfl) h20, trE (by kernel_rfl) h21, trivial⟩) ?_
    refine .then ?_
    refine .then ?_
    replace hm := bb_inv hm; obtain ⟨h22, hm⟩ := hm
    replace hm := oo_inv hm; obtain ⟨v2, h23, hm⟩ := hm
    replace hm := inv_vBool hm; obtain ⟨b1, rfl, hm⟩ := hm
    replace hm := bb_inv hm; obtain ⟨h24, hm⟩ := hm
    refine .reg (eD (keep (hp 2 [(oC q2), (oC q3)]) (bb (Nat.ble (0 + 22) (len q2)) (some (.agg ⟨(takeL 22 (dropL 0 q2))⟩)) none)) (keep_bb h22) (eD (bb (allL closed2 [(.agg ⟨(takeL 22 (dropL 0 q2))⟩)]) (oo (pu 34 [(.agg ⟨(takeL 22 (dropL 0 q2))⟩)]) none fun v => some (v, (hp 2 [(oC q2), (oC q3)]))) (oo (mapO (purify (hp 2 [(oC q2), (oC q3)])) [(.agg ⟨(takeL 22 (dropL 0 q2))⟩)]) none fun l1 => oo (pu 34 l1) none fun v => bb (plainT v) (some (v, (hp 2 [(oC q2), (oC q3)]))) none)) (callc_eq h24 h23) (eE))) ?_
    refine .ghs (fr 14 [(1, (pt 0 0)), (3, (pt 1 0)), (4, (zI z0)), (7, (zB (nt b1)))]) (hp 2 [(oC q2), (oC q3)]) (.k [0, 1] [] [.tmp 1 false, .tmp 3 false] [1, 3, 4, 7] ⟨trE (by kernel_rfl) h20, trE (by kernel_rfl) h21, trivial⟩) ?_
    replace hm := bb_cases hm; rcases hm with ⟨h25, hm⟩ | ⟨h25, hm⟩
    · refine .ifT (nt b1) (by kernel_rfl) h25 ?_
      refine .then ?_
      replace hm := bb_inv hm; obtain ⟨h26, hm⟩ := hm
      replace hm := oo_inv hm; obtain ⟨v3, h27, hm⟩ := hm
      replace hm := inv_vAgg hm; obtain ⟨q4, rfl, hm⟩ := hm
      replace hm := bb_inv hm; obtain ⟨h28, hm⟩ := hm
      replace hm := bb_inv hm; obtain ⟨h29, hm⟩ := hm
      replace hm := bb_inv hm; obtain ⟨h30, hm⟩ := hm
      replace hm := bb_inv hm; obtain ⟨h31, hm⟩ := hm
      refine .reg (eD (keep (hp 2 [(oC q2), (oC q3)]) (bb (Nat.ble (0 + 22) (len q2)) (some (.agg ⟨(takeL 22 (dropL 0 q2))⟩)) none)) (keep_bb h26) (eD (bb (allL closed2 [(.agg ⟨(takeL 22 (dropL 0 q2))⟩)]) (oo (pu 40 [(.agg ⟨(takeL 22 (dropL 0 q2))⟩)]) none fun v => some (v, (hp 2 [(oC q2), (oC q3)]))) (oo (mapO (purify (hp 2 [(oC q2), (oC q3)])) [(.agg ⟨(takeL 22 (dropL 0 q2))⟩)]) none fun l1 => oo (pu 40 l1) none fun v => bb (plainT v) (some (v, (hp 2 [(oC q2), (oC q3)]))) none)) (callc_eq h29 h27) (eD (done (bb (Nat.beq (len q4) 22) (bb (an (Nat.ble (0 + len q4) (len q2)) (allL scalarB q4)) (some (hp 2 [(oC (setL q4 0 q2)), (oC q3)])) none) none) undef) (done_bb2 h30 h31) (eE)))) ?_
      replace hm := bb_inv hm; obtain ⟨h32, hm⟩ := hm
      refine .ghs (fr 14 [(1, (pt 0 0)), (3, (pt 1 0)), (4, (zI z0))]) (hp 2 [(oC (setL q4 0 q2)), (oC q3)]) (.k [0, 1] [] [.tmp 1 false, .tmp 3 false] [1, 3, 4] ⟨trE (by kernel_rfl) h32, trE (by kernel_rfl) h21, trivial⟩) ?_
      refine .then ?_
      refine .rK ?_
      refine .ghs (fr 14 [(1, (pt 0 0)), (3, (pt 1 0)), (4, (zI (wrapF .i64 (Int.add z0 (1 : Int)))))]) (hp 2 [(oC (setL q4 0 q2)), (oC q3)]) (.k [0, 1] [] [.tmp 1 false, .tmp 3 false] [1, 3, 4] ⟨trE (by kernel_rfl) h32, trE (by kernel_rfl) h21, trivial⟩) ?_
      refine .goto ?_
      exact ⟨rfl, ((wrapF .i64 (Int.add z0 (1 : Int))), (setL q4 0 q2), q3), hm, (.k [0, 1] [] [.tmp 1 false, .tmp 3 false] [1, 3, 4] ⟨trE (by kernel_rfl) h32, trE (by kernel_rfl) h21, trivial⟩)⟩
    · refine .ifF (nt b1) (by kernel_rfl) h25 ?_
      refine .skip ?_
      refine .ghs (fr 14 [(1, (pt 0 0)), (3, (pt 1 0)), (4, (zI z0))]) (hp 2 [(oC q2), (oC q3)]) (.k [0, 1] [] [.tmp 1 false, .tmp 3 false] [1, 3, 4] ⟨trE (by kernel_rfl) h20, trE (by kernel_rfl) h21, trivial⟩) ?_
      refine .then ?_
      replace hm := bb_inv hm; obtain ⟨h33, hm⟩ := hm
      replace hm := bb_inv hm; obtain ⟨h34, hm⟩ := hm
      replace hm := bb_inv hm; obtain ⟨h35, hm⟩ := hm
      refine .reg (eC 1 (keep (hp 2 [(oC q2), (oC q3)]) (bb (Nat.ble (0 + 22) (len q2)) (some (.agg ⟨(takeL 22 (dropL 0 q2))⟩)) none)) (keep_bb h33) (eC 1 (done (bb (Nat.beq (len (takeL 22 (dropL 0 q2))) 22) (bb (an (Nat.ble (0 + len (takeL 22 (dropL 0 q2))) (len q3)) (allL scalarB (takeL 22 (dropL 0 q2)))) (some (hp 2 [(oC q2), (oC (setL (takeL 22 (dropL 0 q2)) 0 q3))])) none) none) undef) (done_bb2 h34 h35) (eE))) ?_
      replace hm := bb_inv hm; obtain ⟨h36, hm⟩ := hm
      refine .ghs (fr 14 [(2, (zI z0)), (3, (pt 0 0))]) (hp 1 [(oC (setL (takeL 22 (dropL 0 q2)) 0 q3))]) (.k [1] [] [.tmp 3 false] [2, 3] ⟨trE (by kernel_rfl) h36, trivial⟩) ?_
      refine .ret ?_
      replace hm := bb_inv hm; obtain ⟨h37, hm⟩ := hm
      replace hm := bb_inv hm; obtain ⟨h38, hm⟩ := hm
      exact fin_ret (.tuple ⟨[(zI z0), (.agg ⟨(takeL 22 (dropL 0 (setL (takeL 22 (dropL 0 q2)) 0 q3)))⟩)]⟩) (aresults_of (aresultsL_cons (show aresult _ _ _ _ = some (zI z0) from (by kernel_rfl)) (aresultsL_cons (show aresult _ _ _ _ = some (.agg ⟨(takeL 22 (dropL 0 (setL (takeL 22 (dropL 0 q2)) 0 q3)))⟩) from (eq_bb (c := (Nat.ble (0 + 22) (len (setL (takeL 22 (dropL 0 q2)) 0 q3)))) (by kernel_rfl) h37)) rfl)) (by kernel_rfl)) h38 hm

def m40_ (pu : PureF) (n : Nat) (q0 : List Value) : Option Value :=
  (bb (allL closed1 q0) (bb (allL closed1 zA48) (bb (Nat.ble (0 + 22 * 1) (len zA48)) (bb (Nat.ble (0 + 22 * 1) (len q0)) (bb (Nat.ble (1 + 21 * 1) (len q0)) (bb (an (Nat.ble (0 + len (takeL (21 * 1) (dropL 1 q0))) (len zA48)) (allL scalarB (takeL (21 * 1) (dropL 1 q0)))) (bb (allL closed1 (setL (takeL (21 * 1) (dropL 1 q0)) 0 zA48)) (bb (an (Nat.ble (0 + 1) (len (setL (takeL (21 * 1) (dropL 1 q0)) 0 zA48))) true) (bb (allL closed1 (setL ([(.int .i64 (0 : Int))] : List Value) 0 (setL (takeL (21 * 1) (dropL 1 q0)) 0 zA48))) (bb (Nat.ble (0 + 22) (len q0)) (oo (pu 57 [(.agg ⟨(takeL 22 (dropL 0 q0))⟩)]) none fun v0 => (oo (toI .i64 v0) none fun x0 => (bb (allL closed2 [(.agg ⟨(takeL 22 (dropL 0 q0))⟩)]) (oo (toN x0) none fun k1 => (bb (Nat.blt k1 22) (oo (nthL (setL ([(.int .i64 (0 : Int))] : List Value) 0 (setL (takeL (21 * 1) (dropL 1 q0)) 0 zA48)) (0 + k1 * 1)) none fun v1 => (oo (toI .i64 v1) none fun x1 => (bb (Nat.blt k1 22) (bb (an (Nat.ble ((0 + k1 * 1) + 1) (len (setL ([(.int .i64 (0 : Int))] : List Value) 0 (setL (takeL (21 * 1) (dropL 1 q0)) 0 zA48)))) true) (bb (allL closed1 (setL ([(.int .i64 (wrapF .i64 (Int.add x1 (1 : Int))))] : List Value) (0 + k1 * 1) (setL ([(.int .i64 (0 : Int))] : List Value) 0 (setL (takeL (21 * 1) (dropL 1 q0)) 0 zA48)))) (bb (Nat.ble (0 + 22) (len (setL ([(.int .i64 (wrapF .i64 (Int.add x1 (1 : Int))))] : List Value) (0 + k1 * 1) (setL ([(.int .i64 (0 : Int))] : List Value) 0 (setL (takeL (21 * 1) (dropL 1 q0)) 0 zA48))))) (bb (Nat.beq (len (takeL 22 (dropL 0 (setL ([(.int .i64 (wrapF .i64 (Int.add x1 (1 : Int))))] : List Value) (0 + k1 * 1) (setL ([(.int .i64 (0 : Int))] : List Value) 0 (setL (takeL (21 * 1) (dropL 1 q0)) 0 zA48)))))) 22) (bb (an (Nat.ble (0 + len (takeL 22 (dropL 0 (setL ([(.int .i64 (wrapF .i64 (Int.add x1 (1 : Int))))] : List Value) (0 + k1 * 1) (setL ([(.int .i64 (0 : Int))] : List Value) 0 (setL (takeL (21 * 1) (dropL 1 q0)) 0 zA48)))))) (len zA48)) (allL scalarB (takeL 22 (dropL 0 (setL ([(.int .i64 (wrapF .i64 (Int.add x1 (1 : Int))))] : List Value) (0 + k1 * 1) (setL ([(.int .i64 (0 : Int))] : List Value) 0 (setL (takeL (21 * 1) (dropL 1 q0)) 0 zA48))))))) (bb (allL closed1 (setL (takeL 22 (dropL 0 (setL ([(.int .i64 (wrapF .i64 (Int.add x1 (1 : Int))))] : List Value) (0 + k1 * 1) (setL ([(.int .i64 (0 : Int))] : List Value) 0 (setL (takeL (21 * 1) (dropL 1 q0)) 0 zA48))))) 0 zA48)) (bb (Nat.ble (0 + 22) (len (setL (takeL 22 (dropL 0 (setL ([(.int .i64 (wrapF .i64 (Int.add x1 (1 : Int))))] : List Value) (0 + k1 * 1) (setL ([(.int .i64 (0 : Int))] : List Value) 0 (setL (takeL (21 * 1) (dropL 1 q0)) 0 zA48))))) 0 zA48))) (bb (closedV (.agg ⟨(takeL 22 (dropL 0 (setL (takeL 22 (dropL 0 (setL ([(.int .i64 (wrapF .i64 (Int.add x1 (1 : Int))))] : List Value) (0 + k1 * 1) (setL ([(.int .i64 (0 : Int))] : List Value) 0 (setL (takeL (21 * 1) (dropL 1 q0)) 0 zA48))))) 0 zA48)))⟩)) (some (.agg ⟨(takeL 22 (dropL 0 (setL (takeL 22 (dropL 0 (setL ([(.int .i64 (wrapF .i64 (Int.add x1 (1 : Int))))] : List Value) (0 + k1 * 1) (setL ([(.int .i64 (0 : Int))] : List Value) 0 (setL (takeL (21 * 1) (dropL 1 q0)) 0 zA48))))) 0 zA48)))⟩)) none) none) none) none) none) none) none) none) none))) none)) none))) none) none) none) none) none) none) none) none) none) none)
def m40 (pu : PureF) (n : Nat) (args : List Value) : Option Value :=
  (ll args none fun a0 args => (ll args (oo (vAgg a0) none fun q0 => (bb (an (Nat.beq (len q0) 22) (allL closed1 q0)) (m40_ pu n q0) none)) fun _ _ => none))
theorem r40 {call : CallF} (pu : PureF) (n : Nat) (hcall : call = callP tabs isP pu (inl pu)) {args : List Value} {v : Value} (hm : m40 pu n args = some v) (_ : ∀ x ∈ args, closed2 x = true) : args.length ≤ 15 ∧ Run tt call 0 c40_11 (Fr.made 15 args) (pureHeap tabs) (Fin tt 0 [.cell 2 48] v) := by
  subst hcall
  unfold m40 at hm
  replace hm := ll_uncons hm; obtain ⟨a0, args_0, rfl, hm⟩ := hm
  replace hm := ll_end hm; obtain ⟨rfl, hm⟩ := hm
  replace hm := inv_vAgg hm; obtain ⟨q0, rfl, hm⟩ := hm
  replace hm := bb_inv hm; obtain ⟨h0, hm⟩ := hm
  unfold m40_ at hm
  refine ⟨by simp, ?_⟩
  refine .same (F' := (fr 15 [(0, (.agg ⟨q0⟩))])) (H' := (hp 0 [])) (by kernel_rfl) (by kernel_rfl) ?_
  refine .then ?_
  refine .rK ?_
  replace hm := bb_inv hm; obtain ⟨h1, hm⟩ := hm
  replace hm := bb_inv hm; obtain ⟨h2, hm⟩ := hm
  refine .ghs (fr 15 [(1, (pt 0 0)), (2, (pt 1 0))]) (hp 2 [(oC q0), (oC zA48)]) (.k [0, 1] [] [.tmp 1 false, .tmp 2 false] [1, 2] ⟨trE (by kernel_rfl) h1, trE (by kernel_rfl) h2, trivial⟩) ?_
  refine .then ?_
  refine .rK ?_
  refine .ghs (fr 15 [(1, (pt 0 0)), (2, (pt 1 0)), (3, (pt 2 0))]) (hp 3 [(oC q0), (oC zA48), (oC zA48)]) (.k [0, 1, 2] [] [.tmp 1 false, .tmp 2 false, .tmp 3 false] [1, 2, 3] ⟨trE (by kernel_rfl) h1, trE (by kernel_rfl) h2, trE (by kernel_rfl) h2, trivial⟩) ?_
  refine .then ?_
  replace hm := bb_inv hm; obtain ⟨h3, hm⟩ := hm
  replace hm := bb_inv hm; obtain ⟨h4, hm⟩ := hm
  replace hm := bb_inv hm; obtain ⟨h5, hm⟩ := hm
  replace hm := bb_inv hm; obtain ⟨h6, hm⟩ := hm
  refine .reg (eD (keep (hp 3 [(oC q0), (oC zA48), (oC zA48)]) (bb (Nat.ble (0 + 22 * 1) (len zA48)) (some (sc 2 0 1 22 45)) none)) (keep_bb h3) (eD (keep (hp 3 [(oC q0), (oC zA48), (oC zA48)]) (bb (Nat.ble (0 + 22 * 1) (len q0)) (some (sc 0 1 1 21 43)) none)) (keep_bb h4) (eD (oo (bb (Nat.ble (1 + 21 * 1) (len q0)) (some (takeL (21 * 1) (dropL 1 q0))) none) none fun new => oo (bb (an (Nat.ble (0 + len new) (len zA48)) (allL scalarB new)) (some (hp 3 [(oC q0), (oC zA48), (oC (setL new 0 zA48))])) none) none fun H' => some ((zI (21 : Int)), H')) (copy_eq' (G := fun new => (hp 3 [(oC q0), (oC zA48), (oC (setL new 0 zA48))])) (E := fun new => (an (Nat.ble (0 + len new) (len zA48)) (allL scalarB new))) h5 rfl h6) (eE)))) ?_
  replace hm := bb_inv hm; obtain ⟨h7, hm⟩ := hm
  refine .ghs (fr 15 [(1, (pt 0 0)), (2, (pt 1 0)), (3, (pt 2 0))]) (hp 3 [(oC q0), (oC zA48), (oC (setL (takeL (21 * 1) (dropL 1 q0)) 0 zA48))]) (.k [0, 1, 2] [] [.tmp 1 false, .tmp 2 false, .tmp 3 false] [1, 2, 3] ⟨trE (by kernel_rfl) h1, trE (by kernel_rfl) h2, trE (by kernel_rfl) h7, trivial⟩) ?_
  refine .then ?_
  replace hm := bb_inv hm; obtain ⟨h8, hm⟩ := hm
  refine .reg (eC 1 (done (bb (an (Nat.ble (0 + 1) (len (setL (takeL (21 * 1) (dropL 1 q0)) 0 zA48))) true) (some (hp 3 [(oC q0), (oC zA48), (oC (setL ([(zI (0 : Int))] : List Value) 0 (setL (takeL (21 * 1) (dropL 1 q0)) 0 zA48)))])) none) undef) (done_bb h8) (eE)) ?_
  replace hm := bb_inv hm; obtain ⟨h9, hm⟩ := hm
  refine .ghs (fr 15 [(1, (pt 0 0)), (2, (pt 1 0)), (3, (pt 2 0))]) (hp 3 [(oC q0), (oC zA48), (oC (setL ([(zI (0 : Int))] : List Value) 0 (setL (takeL (21 * 1) (dropL 1 q0)) 0 zA48)))]) (.k [0, 1, 2] [] [.tmp 1 false, .tmp 2 false, .tmp 3 false] [1, 2, 3] ⟨trE (by kernel_rfl) h1, trE (by kernel_rfl) h2, trE (by kernel_rfl) h9, trivial⟩) ?_
  refine .then ?_
  replace hm := bb_inv hm; obtain ⟨h10, hm⟩ := hm
  replace hm := oo_inv hm; obtain ⟨v0, h11, hm⟩ := hm
  replace hm := inv_toI hm; obtain ⟨x0, rfl, hm⟩ := hm
  replace hm := bb_inv hm; obtain ⟨h12, hm⟩ := hm
  replace hm := oo_inv hm; obtain ⟨k1, h13, hm⟩ := hm
  obtain rfl := toN_some h13
  replace hm := bb_inv hm; obtain ⟨h14, hm⟩ := hm
  replace hm := oo_inv hm; obtain ⟨v1, h15, hm⟩ := hm
  replace hm := inv_toI hm; obtain ⟨x1, rfl, hm⟩ := hm
  replace hm := bb_inv hm; obtain ⟨h16, hm⟩ := hm
  replace hm := bb_inv hm; obtain ⟨h17, hm⟩ := hm
  refine .reg (eN 3 (Fr.puts (fr 15 [(1, (pt 0 0)), (2, (pt 1 0)), (3, (pt 2 0))]) [(8, (.agg ⟨(takeL 22 (dropL 0 q0))⟩)), (9, (zI (Int.ofNat k1))), (10, (.pointer (some ⟨2, (0 + k1 * 1), none⟩)))]) (hp 3 [(oC q0), (oC zA48), (oC (setL ([(zI (0 : Int))] : List Value) 0 (setL (takeL (21 * 1) (dropL 1 q0)) 0 zA48)))]) (eD (keep (hp 3 [(oC q0), (oC zA48), (oC (setL ([(zI (0 : Int))] : List Value) 0 (setL (takeL (21 * 1) (dropL 1 q0)) 0 zA48)))]) (bb (Nat.ble (0 + 22) (len q0)) (some (.agg ⟨(takeL 22 (dropL 0 q0))⟩)) none)) (keep_bb h10) (eD (bb (allL closed2 [(.agg ⟨(takeL 22 (dropL 0 q0))⟩)]) (oo (pu 57 [(.agg ⟨(takeL 22 (dropL 0 q0))⟩)]) none fun v => some (v, (hp 3 [(oC q0), (oC zA48), (oC (setL ([(zI (0 : Int))] : List Value) 0 (setL (takeL (21 * 1) (dropL 1 q0)) 0 zA48)))]))) (oo (mapO (purify (hp 3 [(oC q0), (oC zA48), (oC (setL ([(zI (0 : Int))] : List Value) 0 (setL (takeL (21 * 1) (dropL 1 q0)) 0 zA48)))])) [(.agg ⟨(takeL 22 (dropL 0 q0))⟩)]) none fun l1 => oo (pu 57 l1) none fun v => bb (plainT v) (some (v, (hp 3 [(oC q0), (oC zA48), (oC (setL ([(zI (0 : Int))] : List Value) 0 (setL (takeL (21 * 1) (dropL 1 q0)) 0 zA48)))]))) none)) (callc_eq h12 h11) (eD (keep (hp 3 [(oC q0), (oC zA48), (oC (setL ([(zI (0 : Int))] : List Value) 0 (setL (takeL (21 * 1) (dropL 1 q0)) 0 zA48)))]) (bb (Nat.blt k1 22) (some (.pointer (some ⟨2, (0 + k1 * 1), none⟩))) none)) (keep_bb h14) (by kernel_rfl)))) (eD (keep (hp 3 [(oC q0), (oC zA48), (oC (setL ([(zI (0 : Int))] : List Value) 0 (setL (takeL (21 * 1) (dropL 1 q0)) 0 zA48)))]) (nthL (setL ([(zI (0 : Int))] : List Value) 0 (setL (takeL (21 * 1) (dropL 1 q0)) 0 zA48)) (0 + k1 * 1))) (keep_eq h15) (eC 1 (keep (hp 3 [(oC q0), (oC zA48), (oC (setL ([(zI (0 : Int))] : List Value) 0 (setL (takeL (21 * 1) (dropL 1 q0)) 0 zA48)))]) (bb (Nat.blt k1 22) (some (.pointer (some ⟨2, (0 + k1 * 1), none⟩))) none)) (keep_bb h16) (eD (done (bb (an (Nat.ble ((0 + k1 * 1) + 1) (len (setL ([(zI (0 : Int))] : List Value) 0 (setL (takeL (21 * 1) (dropL 1 q0)) 0 zA48)))) true) (some (hp 3 [(oC q0), (oC zA48), (oC (setL ([(zI (wrapF .i64 (Int.add x1 (1 : Int))))] : List Value) (0 + k1 * 1) (setL ([(zI (0 : Int))] : List Value) 0 (setL (takeL (21 * 1) (dropL 1 q0)) 0 zA48))))])) none) undef) (done_bb h17) (eE))))) ?_
  replace hm := bb_inv hm; obtain ⟨h18, hm⟩ := hm
  refine .ghs (fr 15 [(2, (pt 0 0)), (3, (pt 1 0))]) (hp 2 [(oC zA48), (oC (setL ([(zI (wrapF .i64 (Int.add x1 (1 : Int))))] : List Value) (0 + k1 * 1) (setL ([(zI (0 : Int))] : List Value) 0 (setL (takeL (21 * 1) (dropL 1 q0)) 0 zA48))))]) (.k [1, 2] [] [.tmp 2 false, .tmp 3 false] [2, 3] ⟨trE (by kernel_rfl) h2, trE (by kernel_rfl) h18, trivial⟩) ?_
  refine .then ?_
  replace hm := bb_inv hm; obtain ⟨h19, hm⟩ := hm
  replace hm := bb_inv hm; obtain ⟨h20, hm⟩ := hm
  replace hm := bb_inv hm; obtain ⟨h21, hm⟩ := hm
  refine .reg (eD (keep (hp 2 [(oC zA48), (oC (setL ([(zI (wrapF .i64 (Int.add x1 (1 : Int))))] : List Value) (0 + k1 * 1) (setL ([(zI (0 : Int))] : List Value) 0 (setL (takeL (21 * 1) (dropL 1 q0)) 0 zA48))))]) (bb (Nat.ble (0 + 22) (len (setL ([(zI (wrapF .i64 (Int.add x1 (1 : Int))))] : List Value) (0 + k1 * 1) (setL ([(zI (0 : Int))] : List Value) 0 (setL (takeL (21 * 1) (dropL 1 q0)) 0 zA48))))) (some (.agg ⟨(takeL 22 (dropL 0 (setL ([(zI (wrapF .i64 (Int.add x1 (1 : Int))))] : List Value) (0 + k1 * 1) (setL ([(zI (0 : Int))] : List Value) 0 (setL (takeL (21 * 1) (dropL 1 q0)) 0 zA48)))))⟩)) none)) (keep_bb h19) (eD (done (bb (Nat.beq (len (takeL 22 (dropL 0 (setL ([(zI (wrapF .i64 (Int.add x1 (1 : Int))))] : List Value) (0 + k1 * 1) (setL ([(zI (0 : Int))] : List Value) 0 (setL (takeL (21 * 1) (dropL 1 q0)) 0 zA48)))))) 22) (bb (an (Nat.ble (0 + len (takeL 22 (dropL 0 (setL ([(zI (wrapF .i64 (Int.add x1 (1 : Int))))] : List Value) (0 + k1 * 1) (setL ([(zI (0 : Int))] : List Value) 0 (setL (takeL (21 * 1) (dropL 1 q0)) 0 zA48)))))) (len zA48)) (allL scalarB (takeL 22 (dropL 0 (setL ([(zI (wrapF .i64 (Int.add x1 (1 : Int))))] : List Value) (0 + k1 * 1) (setL ([(zI (0 : Int))] : List Value) 0 (setL (takeL (21 * 1) (dropL 1 q0)) 0 zA48))))))) (some (hp 2 [(oC (setL (takeL 22 (dropL 0 (setL ([(zI (wrapF .i64 (Int.add x1 (1 : Int))))] : List Value) (0 + k1 * 1) (setL ([(zI (0 : Int))] : List Value) 0 (setL (takeL (21 * 1) (dropL 1 q0)) 0 zA48))))) 0 zA48)), (oC (setL ([(zI (wrapF .i64 (Int.add x1 (1 : Int))))] : List Value) (0 + k1 * 1) (setL ([(zI (0 : Int))] : List Value) 0 (setL (takeL (21 * 1) (dropL 1 q0)) 0 zA48))))])) none) none) undef) (done_bb2 h20 h21) (eE))) ?_
  replace hm := bb_inv hm; obtain ⟨h22, hm⟩ := hm
  refine .ghs (fr 15 [(2, (pt 0 0))]) (hp 1 [(oC (setL (takeL 22 (dropL 0 (setL ([(zI (wrapF .i64 (Int.add x1 (1 : Int))))] : List Value) (0 + k1 * 1) (setL ([(zI (0 : Int))] : List Value) 0 (setL (takeL (21 * 1) (dropL 1 q0)) 0 zA48))))) 0 zA48))]) (.k [0] [] [.tmp 2 false] [2] ⟨trE (by kernel_rfl) h22, trivial⟩) ?_
  refine .ret ?_
  replace hm := bb_inv hm; obtain ⟨h23, hm⟩ := hm
  replace hm := bb_inv hm; obtain ⟨h24, hm⟩ := hm
  exact fin_ret (.agg ⟨(takeL 22 (dropL 0 (setL (takeL 22 (dropL 0 (setL ([(zI (wrapF .i64 (Int.add x1 (1 : Int))))] : List Value) (0 + k1 * 1) (setL ([(zI (0 : Int))] : List Value) 0 (setL (takeL (21 * 1) (dropL 1 q0)) 0 zA48))))) 0 zA48)))⟩) (aresults_of (aresultsL_cons (show aresult _ _ _ _ = some (.agg ⟨(takeL 22 (dropL 0 (setL (takeL 22 (dropL 0 (setL ([(zI (wrapF .i64 (Int.add x1 (1 : Int))))] : List Value) (0 + k1 * 1) (setL ([(zI (0 : Int))] : List Value) 0 (setL (takeL (21 * 1) (dropL 1 q0)) 0 zA48))))) 0 zA48)))⟩) from (eq_bb (c := (Nat.ble (0 + 22) (len (setL (takeL 22 (dropL 0 (setL ([(zI (wrapF .i64 (Int.add x1 (1 : Int))))] : List Value) (0 + k1 * 1) (setL ([(zI (0 : Int))] : List Value) 0 (setL (takeL (21 * 1) (dropL 1 q0)) 0 zA48))))) 0 zA48)))) (by kernel_rfl) h23)) rfl) (by kernel_rfl)) h24 hm
def m41_0 (pu : PureF) (n : Nat) (n0 : Nat) (c0 : Nat) (q0 : List Value) : Option Value :=
  (bb (allL closed1 q0) (bb (an (Nat.ble (0 + n0 * 1) (len q0)) (allL closed1 (takeL (n0 * 1) (dropL 0 q0)))) (some (Sl.v 1 (Sl.mk n0 0 (takeL (n0 * 1) (dropL 0 q0))))) none) none)
def b41_1 (pu : PureF) (n : Nat) (ih0 : Nat → Nat → Int → List Value → List Value → Option Value) (n0 : Nat) (c0 : Nat) (z0 : Int) (q0 : List Value) (q1 : List Value) : Option Value :=
  (bb (allL closed1 q0) (bb (allL closed1 q1) (bb (ilt (0 : Int) z0) (oo (toN z0) none fun k1 => (bb (Nat.blt k1 22) (oo (nthL q0 (0 + k1 * 1)) none fun v0 => (oo (toI .i64 v0) none fun x0 => (oo (pu 62 [(Sl.v 1 (Sl.mk 1 0 (takeL (1 * 1) (dropL 0 ([(.int .i64 (Int.ofNat k1))] : List Value))))), (.int .i64 x0)]) none fun v1 => (oo (toSl 1 v1) none fun s0 => (bb (Nat.beq (Sl.n s0) 0) (ih0 n0 c0 (wrapF .i64 (Int.sub (Int.ofNat k1) (1 : Int))) q0 q1) (bb (an (allL scalarB (takeL ((Sl.n s0) * 1) (Sl.cs s0))) (growC 1 8 n0 c0 (Sl.n s0) q1)) (bb (allL closed1 (appL (dropL 0 q1) (takeL ((Sl.n s0) * 1) (Sl.cs s0)))) (ih0 (n0 + (Sl.n s0)) (2 * (n0 + (Sl.n s0)) + bb false 1 0) (wrapF .i64 (Int.sub (Int.ofNat k1) (1 : Int))) q0 (appL (dropL 0 q1) (takeL ((Sl.n s0) * 1) (Sl.cs s0)))) none) none)))))) none)) (m41_0 pu n n0 c0 q1)) none) none)
def l41_1 (pu : PureF) (n : Nat) (w : Nat) : Nat → Nat → Int → List Value → List Value → Option Value :=
  Nat.rec (motive := fun _ => Nat → Nat → Int → List Value → List Value → Option Value) (fun _ _ _ _ _ => none) (fun _ ih0 => b41_1 pu n ih0) w
def m41_ (pu : PureF) (n : Nat) (q0 : List Value) : Option Value :=
  (bb (allL closed1 q0) (l41_1 pu n n 0 0 (21 : Int) q0 ([] : List Value)) none)
def m41 (pu : PureF) (n : Nat) (args : List Value) : Option Value :=
  (ll args none fun a0 args => (ll args (oo (vAgg a0) none fun q0 => (bb (an (Nat.beq (len q0) 22) (allL closed1 q0)) (m41_ pu n q0) none)) fun _ _ => none))
theorem w41_0 (pu : PureF) (n : Nat) (n0 : Nat) (c0 : Nat) (q0 : List Value) {v : Value} (hm : m41_0 pu n n0 c0 q0 = some v) : Run tt (callP tabs isP pu (inl pu)) 0 c41_15 (fr 18 [(3, (sc 0 0 1 n0 c0))]) (hp 1 [(oC q0)]) (FinL tt 0 1 [.tmp 2] v) := by
  unfold m41_0 at hm
  refine .then ?_
  refine .rK ?_
  replace hm := bb_inv hm; obtain ⟨h0, hm⟩ := hm
  refine .ghs (fr 18 [(2, (sc 0 0 1 n0 c0))]) (hp 1 [(oC q0)]) (.k [0] [] [.tmp 2 false] [2] ⟨trE (by kernel_rfl) h0, trivial⟩) ?_
  refine .ret ?_
  replace hm := bb_inv hm; obtain ⟨h1, hm⟩ := hm
  exact finL_ret 0 0 c0 n0 [] q0 (by kernel_rfl) (by kernel_rfl) (by kernel_rfl) h1 hm
theorem r41 {call : CallF} (pu : PureF) (n : Nat) (hcall : call = callP tabs isP pu (inl pu)) {args : List Value} {v : Value} (hm : m41 pu n args = some v) (_ : ∀ x ∈ args, closed2 x = true) : args.length ≤ 18 ∧ Run tt call 0 c41_18 (Fr.made 18 args) (pureHeap tabs) (FinL tt 0 1 [.tmp 2] v) := by
  subst hcall
  unfold m41 at hm
  replace hm := ll_uncons hm; obtain ⟨a0, args_0, rfl, hm⟩ := hm
  replace hm := ll_end hm; obtain ⟨rfl, hm⟩ := hm
  replace hm := inv_vAgg hm; obtain ⟨q0, rfl, hm⟩ := hm
  replace hm := bb_inv hm; obtain ⟨h0, hm⟩ := hm
  unfold m41_ at hm
  refine ⟨by simp, ?_⟩
  refine .same (F' := (fr 18 [(0, (.agg ⟨q0⟩))])) (H' := (hp 0 [])) (by kernel_rfl) (by kernel_rfl) ?_
  refine .then ?_
  refine .rK ?_
  replace hm := bb_inv hm; obtain ⟨h1, hm⟩ := hm
  refine .ghs (fr 18 [(1, (pt 0 0))]) (hp 1 [(oC q0)]) (.k [0] [] [.tmp 1 false] [1] ⟨trE (by kernel_rfl) h1, trivial⟩) ?_
  refine .then ?_
  refine .rK ?_
  refine .ghs (fr 18 [(1, (pt 0 0)), (3, (.slice none 0 0))]) (hp 1 [(oC q0)]) (.k [0] [] [.tmp 1 false] [1, 3] ⟨trE (by kernel_rfl) h1, trivial⟩) ?_
  refine .join (v := v) (fun y : Nat × Nat × List Value => ((fr 18 [(3, (sc 0 0 1 y.1 y.2.1))]), (hp 1 [(oC y.2.2)]))) (fun y => m41_0 pu n y.1 y.2.1 y.2.2) ?_ ?_
  · rintro ⟨n0, c0, q1⟩ hm
    exact w41_0 pu n n0 c0 q1 hm
  · refine .then ?_
    refine .rK ?_
    refine .ghs (fr 18 [(1, (pt 0 0)), (3, (.slice none 0 0)), (4, (zI (21 : Int)))]) (hp 1 [(oC q0)]) (.k [0] [] [.tmp 1 false] [1, 3, 4] ⟨trE (by kernel_rfl) h1, trivial⟩) ?_
    refine .block ?_
    refine .loopM (v := v) (fun y : Nat × Nat × Int × List Value × List Value => ((fr 18 [(1, (pt 0 0)), (3, (sc 1 0 1 y.1 y.2.1)), (4, (zI y.2.2.1))]), (hp 2 [(oC y.2.2.2.1), (oC y.2.2.2.2)]))) (fun w y => l41_1 pu n w y.1 y.2.1 y.2.2.1 y.2.2.2.1 y.2.2.2.2) n ⟨(0, 0, (21 : Int), q0, ([] : List Value)), hm, (.thaw 3 1 (by kernel_rfl) (.k [0] [] [.tmp 1 false, .tmp 3 false] [1, 3, 4] ⟨trE (by kernel_rfl) h1, trivial⟩))⟩ (fun _ => rfl) ?_
    rintro w0 ⟨n1, c1, z0, q2, q3⟩ hm
    replace hm : b41_1 pu n (l41_1 pu n w0) n1 c1 z0 q2 q3 = some v := hm
    unfold b41_1 at hm
    refine .then ?_
    refine .then ?_
    refine .rK ?_
    replace hm := bb_inv hm; obtain ⟨h2, hm⟩ := hm
    replace hm := bb_inv hm; obtain ⟨h3, hm⟩ := hm
    refine .ghs (fr 18 [(1, (pt 0 0)), (3, (sc 1 0 1 n1 c1)), (4, (zI z0)), (6, (zB (ilt (0 : Int) z0)))]) (hp 2 [(oC q2), (oC q3)]) (.k [0, 1] [] [.tmp 1 false, .tmp 3 false] [1, 3, 4, 6] ⟨trE (by kernel_rfl) h2, trE (by kernel_rfl) h3, trivial⟩) ?_
    replace hm := bb_cases hm; rcases hm with ⟨h4, hm⟩ | ⟨h4, hm⟩
    · refine .ifT (ilt (0 : Int) z0) (by kernel_rfl) h4 ?_
      refine .skip ?_
      refine .ghs (fr 18 [(1, (pt 0 0)), (3, (sc 1 0 1 n1 c1)), (4, (zI z0))]) (hp 2 [(oC q2), (oC q3)]) (.k [0, 1] [] [.tmp 1 false, .tmp 3 false] [1, 3, 4] ⟨trE (by kernel_rfl) h2, trE (by kernel_rfl) h3, trivial⟩) ?_
      refine .then ?_
      refine .block ?_
      replace hm := oo_inv hm; obtain ⟨k1, h5, hm⟩ := hm
      obtain rfl := toN_some h5
      replace hm := bb_inv hm; obtain ⟨h6, hm⟩ := hm
      replace hm := oo_inv hm; obtain ⟨v0, h7, hm⟩ := hm
      replace hm := inv_toI hm; obtain ⟨x0, rfl, hm⟩ := hm
      replace hm := oo_inv hm; obtain ⟨v1, h8, hm⟩ := hm
      replace hm := inv_toSl hm; obtain ⟨s0, rfl, hm⟩ := hm
      replace hm := bb_cases hm; rcases hm with ⟨h9, hm⟩ | ⟨h9, hm⟩
      · refine .reg (eC 4 (keep (hp 3 [(oC q2), (oC q3), (oC [(zI (Int.ofNat k1))])]) (bb (Nat.blt k1 22) (some (.pointer (some ⟨0, (0 + k1 * 1), none⟩))) none)) (keep_bb h6) (eD (keep (hp 3 [(oC q2), (oC q3), (oC [(zI (Int.ofNat k1))])]) (nthL q2 (0 + k1 * 1))) (keep_eq h7) (eD (giveF tabs 1 (pu 62) [(sc 2 0 1 1 3), (zI x0)] (hp 3 [(oC q2), (oC q3), (oC [(zI (Int.ofNat k1))])])) (giveF_eq (giveL_cons (show giveV 1 (sc 2 0 1 1 3) (hp 3 [(oC q2), (oC q3), (oC [(zI (Int.ofNat k1))])]) = some ((Sl.v 1 (Sl.mk 1 0 (takeL (1 * 1) (dropL 0 ([(zI (Int.ofNat k1))] : List Value))))), (hp 3 [(oC q2), (oC q3), .dead])) from giveV_sl 2 0 1 1 3 ([(zI (Int.ofNat k1))] : List Value) [] (by kernel_rfl) (by kernel_rfl) (by kernel_rfl)) (giveL_cons (giveV_cl (z := 1) (v := (zI x0)) (H := (hp 3 [(oC q2), (oC q3), .dead])) (by kernel_rfl) (by kernel_rfl) (by kernel_rfl)) giveL_nil)) (by kernel_rfl) h8) (eD (appFs (hp 3 [(oC q2), (oC q3), .dead]) 1 8 (sc 1 0 1 n1 c1) s0) (appFs_sl0 h9) (eE))))) ?_
        refine .ghs (fr 18 [(1, (pt 0 0)), (3, (sc 1 0 1 n1 c1)), (4, (zI (Int.ofNat k1)))]) (hp 2 [(oC q2), (oC q3)]) (.k [0, 1] [] [.tmp 1 false, .tmp 3 false] [1, 3, 4] ⟨trE (by kernel_rfl) h2, trE (by kernel_rfl) h3, trivial⟩) ?_
        refine .rK ?_
        exact ⟨(n1, c1, (wrapF .i64 (Int.sub (Int.ofNat k1) (1 : Int))), q2, q3), hm, (.k [0, 1] [] [.tmp 1 false, .tmp 3 false] [1, 3, 4] ⟨trE (by kernel_rfl) h2, trE (by kernel_rfl) h3, trivial⟩)⟩
      · replace hm := bb_inv hm; obtain ⟨h10, hm⟩ := hm
        refine .reg (eC 4 (keep (hp 3 [(oC q2), (oC q3), (oC [(zI (Int.ofNat k1))])]) (bb (Nat.blt k1 22) (some (.pointer (some ⟨0, (0 + k1 * 1), none⟩))) none)) (keep_bb h6) (eD (keep (hp 3 [(oC q2), (oC q3), (oC [(zI (Int.ofNat k1))])]) (nthL q2 (0 + k1 * 1))) (keep_eq h7) (eD (giveF tabs 1 (pu 62) [(sc 2 0 1 1 3), (zI x0)] (hp 3 [(oC q2), (oC q3), (oC [(zI (Int.ofNat k1))])])) (giveF_eq (giveL_cons (show giveV 1 (sc 2 0 1 1 3) (hp 3 [(oC q2), (oC q3), (oC [(zI (Int.ofNat k1))])]) = some ((Sl.v 1 (Sl.mk 1 0 (takeL (1 * 1) (dropL 0 ([(zI (Int.ofNat k1))] : List Value))))), (hp 3 [(oC q2), (oC q3), .dead])) from giveV_sl 2 0 1 1 3 ([(zI (Int.ofNat k1))] : List Value) [] (by kernel_rfl) (by kernel_rfl) (by kernel_rfl)) (giveL_cons (giveV_cl (z := 1) (v := (zI x0)) (H := (hp 3 [(oC q2), (oC q3), .dead])) (by kernel_rfl) (by kernel_rfl) (by kernel_rfl)) giveL_nil)) (by kernel_rfl) h8) (eD (appFs (hp 3 [(oC q2), (oC q3), .dead]) 1 8 (sc 1 0 1 n1 c1) s0) (appFs_grow (H := (hp 3 [(oC q2), (oC q3), .dead])) (id := 1) (n := n1) (c2 := c1) (xs := q3) (anc := []) h9 (by kernel_rfl) (by kernel_rfl) h10) (eE))))) ?_
        replace hm := bb_inv hm; obtain ⟨h11, hm⟩ := hm
        refine .ghs (fr 18 [(1, (pt 0 0)), (3, (sc 1 0 1 (n1 + (Sl.n s0)) (d2 (n1 + (Sl.n s0))))), (4, (zI (Int.ofNat k1)))]) (hp 2 [(oC q2), (oC (appL (dropL 0 q3) (takeL ((Sl.n s0) * 1) (Sl.cs s0))))]) (.k [0, 3] [] [.tmp 1 false, .tmp 3 false] [1, 3, 4] ⟨trE (by kernel_rfl) h2, trE (by kernel_rfl) h11, trivial⟩) ?_
        refine .rK ?_
        exact ⟨((n1 + (Sl.n s0)), (d2 (n1 + (Sl.n s0))), (wrapF .i64 (Int.sub (Int.ofNat k1) (1 : Int))), q2, (appL (dropL 0 q3) (takeL ((Sl.n s0) * 1) (Sl.cs s0)))), hm, (.k [0, 1] [] [.tmp 1 false, .tmp 3 false] [1, 3, 4] ⟨trE (by kernel_rfl) h2, trE (by kernel_rfl) h11, trivial⟩)⟩
    · refine .ifF (ilt (0 : Int) z0) (by kernel_rfl) h4 ?_
      refine .exit ?_
      exact ⟨(n1, c1, q3), hm, (.k [1] [] [.tmp 3 false] [3] ⟨trE (by kernel_rfl) h3, trivial⟩)⟩
end
end Go.HpBM
