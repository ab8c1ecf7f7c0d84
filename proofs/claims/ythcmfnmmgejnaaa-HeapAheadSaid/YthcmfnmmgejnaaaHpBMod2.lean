/- Models of the program's functions, and the proofs that runs give them: MADE BY PROGRAM (wip/tools/dec.py). -/
import Derived.Test.YthcmfnmmgejnaaaHpBMod1x

set_option maxRecDepth 100000
set_option maxHeartbeats 20000000
set_option linter.unusedVariables false
namespace Go.HpBM
open Go.Sp Go.HpB
noncomputable section
def m29_1 (pu : PureF) (n : Nat) : Option Value :=
  (some (.int .i64 (0 : Int)))
def b29_2 (pu : PureF) (n : Nat) (ih0 : Sl → Int → Int → Option Value) (s0 : Sl) (z0 : Int) (z1 : Int) : Option Value :=
  (bb (ilt z1 (Int.ofNat (Sl.n s0))) (oo (toN z1) none fun k1 => (bb (an (Nat.blt k1 (Sl.n s0)) true) (oo (nthL (Sl.cs s0) (k1 * 1)) none fun v0 => (oo (toI .i64 v0) none fun x0 => (bb (ilt (21 : Int) (wrapF .i64 (Int.add z0 x0))) (some (.int .i64 (3 : Int))) (ih0 s0 (wrapF .i64 (Int.add z0 x0)) (wrapF .i64 (Int.add (Int.ofNat k1) (1 : Int))))))) none)) (m29_1 pu n))
def l29_2 (pu : PureF) (n : Nat) (w : Nat) : Sl → Int → Int → Option Value :=
  Nat.rec (motive := fun _ => Sl → Int → Int → Option Value) (fun _ _ _ => none) (fun _ ih0 => b29_2 pu n ih0) w
def m29_0 (pu : PureF) (n : Nat) (s0 : Sl) : Option Value :=
  (l29_2 pu n n s0 (0 : Int) (0 : Int))
def m29_4 (pu : PureF) (n : Nat) (ih0 : Sl → Int → Option Value) (s0 : Sl) (z0 : Int) (b0 : Bool) : Option Value :=
  (bb b0 (some (.int .i64 (7 : Int))) (ih0 s0 (wrapF .i64 (Int.add z0 (1 : Int)))))
def b29_3 (pu : PureF) (n : Nat) (ih0 : Sl → Int → Option Value) (s0 : Sl) (z0 : Int) : Option Value :=
  (bb (ilt z0 (Int.ofNat (Sl.n s0))) (oo (toN z0) none fun k1 => (bb (an (Nat.blt k1 (Sl.n s0)) true) (oo (nthL (Sl.cs s0) (k1 * 1)) none fun v0 => (oo (toI .i64 v0) none fun x0 => (oo (pu 59 [(.int .i64 x0), (.int .i64 (1 : Int)), (.int .i64 (21 : Int))]) none fun v1 => (oo (vBool v1) none fun b0 => (bb (nt b0) (some (.int .i64 (1 : Int))) (bb (ilt (0 : Int) (Int.ofNat k1)) (bb (an (Nat.blt k1 (Sl.n s0)) true) (oo (nthL (Sl.cs s0) (k1 * 1)) none fun v2 => (oo (toI .i64 v2) none fun x1 => (oo (toN (wrapF .i64 (Int.sub (Int.ofNat k1) (1 : Int)))) none fun k2 => (bb (an (Nat.blt k2 (Sl.n s0)) true) (oo (nthL (Sl.cs s0) (k2 * 1)) none fun v3 => (oo (toI .i64 v3) none fun x2 => (m29_4 pu n ih0 s0 (Int.ofNat k1) (ilt x2 x1)))) none)))) none) (m29_4 pu n ih0 s0 (Int.ofNat k1) false))))))) none)) (m29_0 pu n s0))
def l29_3 (pu : PureF) (n : Nat) (w : Nat) : Sl → Int → Option Value :=
  Nat.rec (motive := fun _ => Sl → Int → Option Value) (fun _ _ => none) (fun _ ih0 => b29_3 pu n ih0) w
def m29_ (pu : PureF) (n : Nat) (s0 : Sl) : Option Value :=
  (bb (ieq (Int.ofNat (Sl.n s0)) (0 : Int)) (some (.int .i64 (4 : Int))) (l29_3 pu n n s0 (0 : Int)))
def m29 (pu : PureF) (n : Nat) (args : List Value) : Option Value :=
  (ll args none fun a0 args => (ll args (oo (toSl 1 a0) none fun s0 => (m29_ pu n s0)) fun _ _ => none))
theorem w29_1 (pu : PureF) (n : Nat) {v : Value} (hm : m29_1 pu n = some v) : Run tt (callP tabs isP pu (inl pu)) 0 c29_48 (fr 49 []) (hp 0 []) (Fin tt 0 [.tmp 2] v) := by
  unfold m29_1 at hm
  refine .then ?_
  refine .rK ?_
  refine .ghs (fr 49 [(2, (zI (0 : Int)))]) (hp 0 []) (.k0 [] [] [2]) ?_
  refine .ret ?_
  exact fin_ret (zI (0 : Int)) (by kernel_rfl) (by kernel_rfl) hm
theorem w29_0 (pu : PureF) (n : Nat) (s0 : Sl) {v : Value} (hm : m29_0 pu n s0 = some v) : Run tt (callP tabs isP pu (inl pu)) 0 c29_50 (fr 49 [(0, (Sl.v 1 s0))]) (hp 0 []) (Fin tt 0 [.tmp 2] v) := by
  unfold m29_0 at hm
  refine .then ?_
  refine .rK ?_
  refine .ghs (fr 49 [(0, (Sl.v 1 s0)), (4, (zI (0 : Int)))]) (hp 0 []) (.k0 [] [] [0, 4]) ?_
  refine .join (v := v) (fun y : Unit => ((fr 49 []), (hp 0 []))) (fun y => m29_1 pu n) ?_ ?_
  · rintro _ hm
    exact w29_1 pu n hm
  · refine .then ?_
    refine .rK ?_
    refine .ghs (fr 49 [(0, (Sl.v 1 s0)), (4, (zI (0 : Int))), (5, (zI (0 : Int)))]) (hp 0 []) (.k0 [] [] [0, 4, 5]) ?_
    refine .block ?_
    refine .loopM (v := v) (fun y : Sl × Int × Int => ((fr 49 [(0, (Sl.v 1 y.1)), (4, (zI y.2.1)), (5, (zI y.2.2))]), (hp 0 []))) (fun w y => l29_2 pu n w y.1 y.2.1 y.2.2) n ⟨(s0, (0 : Int), (0 : Int)), hm, (.k0 [] [] [0, 4, 5])⟩ (fun _ => rfl) ?_
    rintro w0 ⟨s1, z0, z1⟩ hm
    replace hm : b29_2 pu n (l29_2 pu n w0) s1 z0 z1 = some v := hm
    unfold b29_2 at hm
    refine .then ?_
    refine .then ?_
    refine .rK ?_
    refine .ghs (fr 49 [(0, (Sl.v 1 s1)), (4, (zI z0)), (5, (zI z1)), (38, (zB (ilt z1 (Int.ofNat (Sl.n s1)))))]) (hp 0 []) (.k0 [] [] [0, 4, 5, 38]) ?_
    replace hm := bb_cases hm; rcases hm with ⟨h0, hm⟩ | ⟨h0, hm⟩
    · refine .ifT (ilt z1 (Int.ofNat (Sl.n s1))) (by kernel_rfl) h0 ?_
      refine .skip ?_
      refine .ghs (fr 49 [(0, (Sl.v 1 s1)), (4, (zI z0)), (5, (zI z1))]) (hp 0 []) (.k0 [] [] [0, 4, 5]) ?_
      refine .then ?_
      refine .block ?_
      refine .then ?_
      replace hm := oo_inv hm; obtain ⟨k1, h1, hm⟩ := hm
      obtain rfl := toN_some h1
      replace hm := bb_inv hm; obtain ⟨h2, hm⟩ := hm
      replace hm := oo_inv hm; obtain ⟨v0, h3, hm⟩ := hm
      replace hm := inv_toI hm; obtain ⟨x0, rfl, hm⟩ := hm
      refine .reg (eC 3 (keep (hp 0 []) (bb (an (Nat.blt k1 (Sl.n s1)) true) (some (fpV (k1 * 1) (Sl.cs s1))) none)) (keep_bb h2) (eD (keep (hp 0 []) (nthL (Sl.cs s1) (k1 * 1))) (keep_eq h3) (eE))) ?_
      refine .ghs (fr 49 [(0, (Sl.v 1 s1)), (4, (zI (wrapF .i64 (Int.add z0 x0)))), (5, (zI (Int.ofNat k1)))]) (hp 0 []) (.k0 [] [] [0, 4, 5]) ?_
      refine .then ?_
      refine .rK ?_
      refine .ghs (fr 49 [(0, (Sl.v 1 s1)), (4, (zI (wrapF .i64 (Int.add z0 x0)))), (5, (zI (Int.ofNat k1))), (48, (zB (ilt (21 : Int) (wrapF .i64 (Int.add z0 x0)))))]) (hp 0 []) (.k0 [] [] [0, 4, 5, 48]) ?_
      replace hm := bb_cases hm; rcases hm with ⟨h4, hm⟩ | ⟨h4, hm⟩
      · refine .ifT (ilt (21 : Int) (wrapF .i64 (Int.add z0 x0))) (by kernel_rfl) h4 ?_
        refine .then ?_
        refine .rK ?_
        refine .ghs (fr 49 [(2, (zI (3 : Int)))]) (hp 0 []) (.k0 [] [] [2]) ?_
        refine .ret ?_
        exact fin_ret (zI (3 : Int)) (by kernel_rfl) (by kernel_rfl) hm
      · refine .ifF (ilt (21 : Int) (wrapF .i64 (Int.add z0 x0))) (by kernel_rfl) h4 ?_
        refine .skip ?_
        refine .ghs (fr 49 [(0, (Sl.v 1 s1)), (4, (zI (wrapF .i64 (Int.add z0 x0)))), (5, (zI (Int.ofNat k1)))]) (hp 0 []) (.k0 [] [] [0, 4, 5]) ?_
        refine .rK ?_
        exact ⟨(s1, (wrapF .i64 (Int.add z0 x0)), (wrapF .i64 (Int.add (Int.ofNat k1) (1 : Int)))), hm, (.k0 [] [] [0, 4, 5])⟩
    · refine .ifF (ilt z1 (Int.ofNat (Sl.n s1))) (by kernel_rfl) h0 ?_
      refine .exit ?_
      exact ⟨(), hm, (.k0 [] [] [])⟩
theorem r29 {call : CallF} (pu : PureF) (n : Nat) (hcall : call = callP tabs isP pu (inl pu)) {args : List Value} {v : Value} (hm : m29 pu n args = some v) (_ : ∀ x ∈ args, closed2 x = true) : args.length ≤ 49 ∧ Run tt call 0 c29_53 (Fr.made 49 args) (pureHeap tabs) (Fin tt 0 [.tmp 2] v) := by
  subst hcall
  unfold m29 at hm
  replace hm := ll_uncons hm; obtain ⟨a0, args_0, rfl, hm⟩ := hm
  replace hm := ll_end hm; obtain ⟨rfl, hm⟩ := hm
  replace hm := inv_toSl hm; obtain ⟨s0, rfl, hm⟩ := hm
  unfold m29_ at hm
  refine ⟨by simp, ?_⟩
  refine .same (F' := (fr 49 [(0, (Sl.v 1 s0))])) (H' := (hp 0 [])) (by kernel_rfl) (by kernel_rfl) ?_
  refine .then ?_
  refine .rK ?_
  refine .ghs (fr 49 [(0, (Sl.v 1 s0))]) (hp 0 []) (.k0 [] [] [0]) ?_
  refine .then ?_
  refine .then ?_
  refine .rK ?_
  refine .ghs (fr 49 [(0, (Sl.v 1 s0)), (8, (zB (ieq (Int.ofNat (Sl.n s0)) (0 : Int))))]) (hp 0 []) (.k0 [] [] [0, 8]) ?_
  replace hm := bb_cases hm; rcases hm with ⟨h0, hm⟩ | ⟨h0, hm⟩
  · refine .ifT (ieq (Int.ofNat (Sl.n s0)) (0 : Int)) (by kernel_rfl) h0 ?_
    refine .then ?_
    refine .rK ?_
    refine .ghs (fr 49 [(2, (zI (4 : Int)))]) (hp 0 []) (.k0 [] [] [2]) ?_
    refine .ret ?_
    exact fin_ret (zI (4 : Int)) (by kernel_rfl) (by kernel_rfl) hm
  · refine .ifF (ieq (Int.ofNat (Sl.n s0)) (0 : Int)) (by kernel_rfl) h0 ?_
    refine .skip ?_
    refine .ghs (fr 49 [(0, (Sl.v 1 s0))]) (hp 0 []) (.k0 [] [] [0]) ?_
    refine .join (v := v) (fun y : Sl => ((fr 49 [(0, (Sl.v 1 y))]), (hp 0 []))) (fun y => m29_0 pu n y) ?_ ?_
    · rintro s1 hm
      exact w29_0 pu n s1 hm
    · refine .then ?_
      refine .rK ?_
      refine .ghs (fr 49 [(0, (Sl.v 1 s0)), (3, (zI (0 : Int)))]) (hp 0 []) (.k0 [] [] [0, 3]) ?_
      refine .block ?_
      refine .loopM (v := v) (fun y : Sl × Int => ((fr 49 [(0, (Sl.v 1 y.1)), (3, (zI y.2))]), (hp 0 []))) (fun w y => l29_3 pu n w y.1 y.2) n ⟨(s0, (0 : Int)), hm, (.k0 [] [] [0, 3])⟩ (fun _ => rfl) ?_
      rintro w0 ⟨s2, z0⟩ hm
      replace hm : b29_3 pu n (l29_3 pu n w0) s2 z0 = some v := hm
      unfold b29_3 at hm
      refine .then ?_
      refine .then ?_
      refine .rK ?_
      refine .ghs (fr 49 [(0, (Sl.v 1 s2)), (3, (zI z0)), (12, (zB (ilt z0 (Int.ofNat (Sl.n s2)))))]) (hp 0 []) (.k0 [] [] [0, 3, 12]) ?_
      replace hm := bb_cases hm; rcases hm with ⟨h1, hm⟩ | ⟨h1, hm⟩
      · refine .ifT (ilt z0 (Int.ofNat (Sl.n s2))) (by kernel_rfl) h1 ?_
        refine .skip ?_
        refine .ghs (fr 49 [(0, (Sl.v 1 s2)), (3, (zI z0))]) (hp 0 []) (.k0 [] [] [0, 3]) ?_
        refine .then ?_
        refine .block ?_
        refine .then ?_
        refine .then ?_
        replace hm := oo_inv hm; obtain ⟨k1, h2, hm⟩ := hm
        obtain rfl := toN_some h2
        replace hm := bb_inv hm; obtain ⟨h3, hm⟩ := hm
        replace hm := oo_inv hm; obtain ⟨v0, h4, hm⟩ := hm
        replace hm := inv_toI hm; obtain ⟨x0, rfl, hm⟩ := hm
        replace hm := oo_inv hm; obtain ⟨v1, h5, hm⟩ := hm
        replace hm := inv_vBool hm; obtain ⟨b0, rfl, hm⟩ := hm
        refine .reg (eC 2 (keep (hp 0 []) (bb (an (Nat.blt k1 (Sl.n s2)) true) (some (fpV (k1 * 1) (Sl.cs s2))) none)) (keep_bb h3) (eD (keep (hp 0 []) (nthL (Sl.cs s2) (k1 * 1))) (keep_eq h4) (eD ((oo (pu 59 [(zI x0), (zI (1 : Int)), (zI (21 : Int))]) none fun v => some (v, (hp 0 [])))) (call_eq h5) (eE)))) ?_
        refine .ghs (fr 49 [(0, (Sl.v 1 s2)), (3, (zI (Int.ofNat k1))), (20, (zB (nt b0)))]) (hp 0 []) (.k0 [] [] [0, 3, 20]) ?_
        replace hm := bb_cases hm; rcases hm with ⟨h6, hm⟩ | ⟨h6, hm⟩
        · refine .ifT (nt b0) (by kernel_rfl) h6 ?_
          refine .then ?_
          refine .rK ?_
          refine .ghs (fr 49 [(2, (zI (1 : Int)))]) (hp 0 []) (.k0 [] [] [2]) ?_
          refine .ret ?_
          exact fin_ret (zI (1 : Int)) (by kernel_rfl) (by kernel_rfl) hm
        · refine .ifF (nt b0) (by kernel_rfl) h6 ?_
          refine .skip ?_
          refine .ghs (fr 49 [(0, (Sl.v 1 s2)), (3, (zI (Int.ofNat k1)))]) (hp 0 []) (.k0 [] [] [0, 3]) ?_
          refine .join (v := v) (fun y : Sl × Int × Bool => ((fr 49 [(0, (Sl.v 1 y.1)), (3, (zI y.2.1)), (34, (zB y.2.2))]), (hp 0 []))) (fun y => m29_4 pu n (l29_3 pu n w0) y.1 y.2.1 y.2.2) ?_ ?_
          · rintro ⟨s3, z1, b1⟩ hm
            unfold m29_4 at hm
            replace hm := bb_cases hm; rcases hm with ⟨h7, hm⟩ | ⟨h7, hm⟩
            · refine .ifT b1 (by kernel_rfl) h7 ?_
              refine .then ?_
              refine .rK ?_
              refine .ghs (fr 49 [(2, (zI (7 : Int)))]) (hp 0 []) (.k0 [] [] [2]) ?_
              refine .ret ?_
              exact fin_ret (zI (7 : Int)) (by kernel_rfl) (by kernel_rfl) hm
            · refine .ifF b1 (by kernel_rfl) h7 ?_
              refine .skip ?_
              refine .ghs (fr 49 [(0, (Sl.v 1 s3)), (3, (zI z1))]) (hp 0 []) (.k0 [] [] [0, 3]) ?_
              refine .rK ?_
              exact ⟨(s3, (wrapF .i64 (Int.add z1 (1 : Int)))), hm, (.k0 [] [] [0, 3])⟩
          · replace hm := bb_cases hm; rcases hm with ⟨h8, hm⟩ | ⟨h8, hm⟩
            · replace hm := bb_inv hm; obtain ⟨h9, hm⟩ := hm
              replace hm := oo_inv hm; obtain ⟨v2, h10, hm⟩ := hm
              replace hm := inv_toI hm; obtain ⟨x1, rfl, hm⟩ := hm
              replace hm := oo_inv hm; obtain ⟨k2, h11, hm⟩ := hm
              replace hm := bb_inv hm; obtain ⟨h12, hm⟩ := hm
              replace hm := oo_inv hm; obtain ⟨v3, h13, hm⟩ := hm
              replace hm := inv_toI hm; obtain ⟨x2, rfl, hm⟩ := hm
              refine .reg (eN 7 (Fr.puts (fr 49 [(0, (Sl.v 1 s2)), (3, (zI (Int.ofNat k1)))]) [(21, (zI (Int.ofNat k1))), (22, (zB true)), (23, (zB true)), (24, (Sl.v 1 s2)), (25, (zI (Int.ofNat k1))), (26, (fpV (k1 * 1) (Sl.cs s2))), (27, (zI x1))]) (hp 0 []) (eC 1 (some ((zB (ilt (0 : Int) (Int.ofNat k1))), (hp 0 []))) (show _ = some ((zB true), _) from (by rw [h8])) (eC 3 (keep (hp 0 []) (bb (an (Nat.blt k1 (Sl.n s2)) true) (some (fpV (k1 * 1) (Sl.cs s2))) none)) (keep_bb h9) (eD (keep (hp 0 []) (nthL (Sl.cs s2) (k1 * 1))) (keep_eq h10) (by kernel_rfl)))) (eC 2 (some ((zI (wrapF .i64 (Int.sub (Int.ofNat k1) (1 : Int)))), (hp 0 []))) (show _ = some ((zI (Int.ofNat k2)), _) from (by rw [toN_some h11])) (eD (keep (hp 0 []) (bb (an (Nat.blt k2 (Sl.n s2)) true) (some (fpV (k2 * 1) (Sl.cs s2))) none)) (keep_bb h12) (eD (keep (hp 0 []) (nthL (Sl.cs s2) (k2 * 1))) (keep_eq h13) (eE))))) ?_
              exact ⟨(s2, (Int.ofNat k1), (ilt x2 x1)), hm, (.k0 [] [] [0, 3, 34])⟩
            · refine .reg (eC 1 (some ((zB (ilt (0 : Int) (Int.ofNat k1))), (hp 0 []))) (show _ = some ((zB false), _) from (by rw [h8])) (eE)) ?_
              exact ⟨(s2, (Int.ofNat k1), false), hm, (.k0 [] [] [0, 3, 34])⟩
      · refine .ifF (ilt z0 (Int.ofNat (Sl.n s2))) (by kernel_rfl) h1 ?_
        refine .exit ?_
        exact ⟨s2, hm, (.k0 [] [] [0])⟩
def m30_0 (pu : PureF) (n : Nat) (n0 : Nat) (c0 : Nat) (q0 : List Value) : Option Value :=
  (bb (allL closed1 q0) (bb (an (Nat.ble (0 + n0 * 1) (len q0)) (allL closed1 (takeL (n0 * 1) (dropL 0 q0)))) (some (Sl.v 1 (Sl.mk n0 0 (takeL (n0 * 1) (dropL 0 q0))))) none) none)
def m30_3 (pu : PureF) (n : Nat) (ih0 : Int → Int → Nat → Nat → Int → List Value → Option Value) (z0 : Int) (z1 : Int) (n0 : Nat) (c0 : Nat) (z2 : Int) (q0 : List Value) : Option Value :=
  (bb (allL closed1 q0) (ih0 z0 z1 n0 c0 (wrapF .i64 (Int.add z2 (1 : Int))) q0) none)
def b30_4 (pu : PureF) (n : Nat) (ih0 : Int → Int → Nat → Nat → Int → List Value → Option Value) (ih1 : Int → Int → Nat → Nat → Int → Sl → Int → List Value → Option Value) (z0 : Int) (z1 : Int) (n0 : Nat) (c0 : Nat) (z2 : Int) (s0 : Sl) (z3 : Int) (q0 : List Value) : Option Value :=
  (bb (allL closed1 q0) (bb (ilt z3 (Int.ofNat (Sl.n s0))) (oo (toN z3) none fun k1 => (bb (an (Nat.blt k1 (Sl.n s0)) true) (oo (nthL (Sl.cs s0) (k1 * 1)) none fun v0 => (oo (toSl 1 v0) none fun s1 => (bb (Nat.beq (Sl.n s1) 0) (bb (growC 1 24 n0 c0 1 q0) (bb (allL closed1 (appL (dropL 0 q0) [(Sl.v 1 (Sl.mk 1 0 (takeL (1 * 1) (dropL 0 ([(.int .i64 z2)] : List Value)))))])) (ih1 z0 z1 (n0 + 1) (2 * (n0 + 1) + bb false 1 0) z2 s0 (wrapF .i64 (Int.add (Int.ofNat k1) (1 : Int))) (appL (dropL 0 q0) [(Sl.v 1 (Sl.mk 1 0 (takeL (1 * 1) (dropL 0 ([(.int .i64 z2)] : List Value)))))])) none) none) (bb (roomy (1 + (Sl.n s1)) 8) (bb (an (Nat.ble (0 + (1 + (Sl.n s1)) * 1) (len (appL (takeL (1 * 1) (dropL 0 ([(.int .i64 z2)] : List Value))) (takeL ((Sl.n s1) * 1) (Sl.cs s1))))) (allL closed1 (takeL ((1 + (Sl.n s1)) * 1) (dropL 0 (appL (takeL (1 * 1) (dropL 0 ([(.int .i64 z2)] : List Value))) (takeL ((Sl.n s1) * 1) (Sl.cs s1))))))) (bb (growC 1 24 n0 c0 1 q0) (bb (allL closed1 (appL (dropL 0 q0) [(Sl.v 1 (Sl.mk (1 + (Sl.n s1)) 0 (takeL ((1 + (Sl.n s1)) * 1) (dropL 0 (appL (takeL (1 * 1) (dropL 0 ([(.int .i64 z2)] : List Value))) (takeL ((Sl.n s1) * 1) (Sl.cs s1)))))))])) (ih1 z0 z1 (n0 + 1) (2 * (n0 + 1) + bb false 1 0) z2 s0 (wrapF .i64 (Int.add (Int.ofNat k1) (1 : Int))) (appL (dropL 0 q0) [(Sl.v 1 (Sl.mk (1 + (Sl.n s1)) 0 (takeL ((1 + (Sl.n s1)) * 1) (dropL 0 (appL (takeL (1 * 1) (dropL 0 ([(.int .i64 z2)] : List Value))) (takeL ((Sl.n s1) * 1) (Sl.cs s1)))))))])) none) none) none) none)))) none)) (m30_3 pu n ih0 z0 z1 n0 c0 z2 q0)) none)
def l30_4 (pu : PureF) (n : Nat) (ih0 : Int → Int → Nat → Nat → Int → List Value → Option Value) (w : Nat) : Int → Int → Nat → Nat → Int → Sl → Int → List Value → Option Value :=
  Nat.rec (motive := fun _ => Int → Int → Nat → Nat → Int → Sl → Int → List Value → Option Value) (fun _ _ _ _ _ _ _ _ => none) (fun _ ih1 => b30_4 pu n ih0 ih1) w
def m30_2 (pu : PureF) (n : Nat) (ih0 : Int → Int → Nat → Nat → Int → List Value → Option Value) (z0 : Int) (z1 : Int) (n0 : Nat) (c0 : Nat) (z2 : Int) (b0 : Bool) (q0 : List Value) : Option Value :=
  (bb b0 (bb (allL closed1 q0) (oo (pu 30 [(.int .i64 (wrapF .i64 (Int.sub z0 z2))), (.int .i64 z2)]) none fun v0 => (oo (toSl 1 v0) none fun s0 => (l30_4 pu n ih0 n z0 z1 n0 c0 z2 s0 (0 : Int) q0))) none) (bb (allL closed1 q0) (m30_0 pu n n0 c0 q0) none))
def b30_1 (pu : PureF) (n : Nat) (ih0 : Int → Int → Nat → Nat → Int → List Value → Option Value) (z0 : Int) (z1 : Int) (n0 : Nat) (c0 : Nat) (z2 : Int) (q0 : List Value) : Option Value :=
  (bb (nt (ilt z1 z2)) (bb (allL closed1 q0) (m30_2 pu n ih0 z0 z1 n0 c0 z2 (nt (ilt z0 z2)) q0) none) (bb (allL closed1 q0) (m30_2 pu n ih0 z0 z1 n0 c0 z2 false q0) none))
def l30_1 (pu : PureF) (n : Nat) (w : Nat) : Int → Int → Nat → Nat → Int → List Value → Option Value :=
  Nat.rec (motive := fun _ => Int → Int → Nat → Nat → Int → List Value → Option Value) (fun _ _ _ _ _ _ => none) (fun _ ih0 => b30_1 pu n ih0) w
def m30_ (pu : PureF) (n : Nat) (x0 : Int) (x1 : Int) : Option Value :=
  (bb (ieq x0 (0 : Int)) (some (Sl.v 1 (Sl.mk 1 0 (takeL (1 * 1) (dropL 0 ([(Sl.v 1 (Sl.mk 0 2 []))] : List Value)))))) (l30_1 pu n n x0 x1 0 0 (1 : Int) ([] : List Value)))
def m30 (pu : PureF) (n : Nat) (args : List Value) : Option Value :=
  (ll args none fun a0 args => (ll args none fun a1 args => (ll args (oo (toI .i64 a0) none fun x0 => (oo (toI .i64 a1) none fun x1 => (m30_ pu n x0 x1))) fun _ _ => none)))
theorem w30_0 (pu : PureF) (n : Nat) (n0 : Nat) (c0 : Nat) (q0 : List Value) {v : Value} (hm : m30_0 pu n n0 c0 q0 = some v) : Run tt (callP tabs isP pu (inl pu)) 0 c30_33 (fr 44 [(5, (sc 0 0 1 n0 c0))]) (hp 1 [(oC q0)]) (Fin tt 0 [.tmp 4] v) := by
  unfold m30_0 at hm
  refine .then ?_
  refine .rK ?_
  replace hm := bb_inv hm; obtain ⟨h0, hm⟩ := hm
  refine .ghs (fr 44 [(4, (sc 0 0 1 n0 c0))]) (hp 1 [(oC q0)]) (.k [0] [] [.tmp 4 false] [4] ⟨trE (by kernel_rfl) h0, trivial⟩) ?_
  replace hm := bb_inv hm; obtain ⟨h1, hm⟩ := hm
  refine .ghs (Fr.puts (fr 44 [(4, (sc 0 0 1 n0 c0))]) [(4, (Sl.v 1 (Sl.mk n0 0 (takeL (n0 * 1) (dropL 0 q0)))))]) (hp 1 [.dead]) (.freezeC 0 4 1 (an (Nat.ble (0 + n0 * 1) (len q0)) (allL closed1 (takeL (n0 * 1) (dropL 0 q0)))) (F1 := (Fr.puts (fr 44 [(4, (sc 0 0 1 n0 c0))]) [(4, (Sl.v 1 (Sl.mk n0 0 (takeL (n0 * 1) (dropL 0 q0)))))])) (H1 := (hp 1 [.dead])) (by kernel_rfl) (by kernel_rfl) h1 (GhS.id _ _)) ?_
  refine .ret ?_
  exact fin_ret (Sl.v 1 (Sl.mk n0 0 (takeL (n0 * 1) (dropL 0 q0)))) (by kernel_rfl) (by kernel_rfl) hm
theorem r30 {call : CallF} (pu : PureF) (n : Nat) (hcall : call = callP tabs isP pu (inl pu)) {args : List Value} {v : Value} (hm : m30 pu n args = some v) (_ : ∀ x ∈ args, closed2 x = true) : args.length ≤ 44 ∧ Run tt call 0 c30_37 (Fr.made 44 args) (pureHeap tabs) (Fin tt 0 [.tmp 4] v) := by
  subst hcall
  unfold m30 at hm
  replace hm := ll_uncons hm; obtain ⟨a0, args_0, rfl, hm⟩ := hm
  replace hm := ll_uncons hm; obtain ⟨a1, args_1, rfl, hm⟩ := hm
  replace hm := ll_end hm; obtain ⟨rfl, hm⟩ := hm
  replace hm := inv_toI hm; obtain ⟨x0, rfl, hm⟩ := hm
  replace hm := inv_toI hm; obtain ⟨x1, rfl, hm⟩ := hm
  unfold m30_ at hm
  refine ⟨by simp, ?_⟩
  refine .same (F' := (fr 44 [(0, (zI x0)), (1, (zI x1))])) (H' := (hp 0 [])) (by kernel_rfl) (by kernel_rfl) ?_
  refine .then ?_
  refine .rK ?_
  refine .ghs (fr 44 [(0, (zI x0)), (1, (zI x1))]) (hp 0 []) (.k0 [] [] [0, 1]) ?_
  refine .then ?_
  refine .then ?_
  refine .rK ?_
  refine .ghs (fr 44 [(0, (zI x0)), (1, (zI x1)), (10, (zB (ieq x0 (0 : Int))))]) (hp 0 []) (.k0 [] [] [0, 1, 10]) ?_
  replace hm := bb_cases hm; rcases hm with ⟨h0, hm⟩ | ⟨h0, hm⟩
  · refine .ifT (ieq x0 (0 : Int)) (by kernel_rfl) h0 ?_
    refine .then ?_
    refine .rG (OpsG.seg 1 (Fr.puts (fr 44 [(0, (zI x0)), (1, (zI x1)), (10, (zB (ieq x0 (0 : Int))))]) [(11, (sc 0 0 1 1 3))]) (hp 1 [(oC [(.slice none 0 0)])]) (by kernel_rfl) (OpsG.ghs (Fr.puts (fr 44 [(0, (zI x0)), (1, (zI x1)), (10, (zB (ieq x0 (0 : Int))))]) [(11, (sc 0 0 1 1 3))]) (hp 1 [(oC [(Sl.v 1 (Sl.mk 0 2 []))])]) (.nilC 0 0 1 [(.slice none 0 0)] (imm := false) (spent := false) (anc := []) (by kernel_rfl) (by kernel_rfl) (by kernel_rfl) (GhS.id _ _)) (OpsG.fin eE))) ?_
    refine .ghs (fr 44 [(4, (sc 0 0 1 1 3))]) (hp 1 [(oC [(Sl.v 1 (Sl.mk 0 2 []))])]) (.k0 [] [.tmp 4 false] [4]) ?_
    refine .ghs (Fr.puts (fr 44 [(4, (sc 0 0 1 1 3))]) [(4, (Sl.v 1 (Sl.mk 1 0 (takeL (1 * 1) (dropL 0 ([(Sl.v 1 (Sl.mk 0 2 []))] : List Value))))))]) (hp 1 [.dead]) (.freeze 0 4 1 (by kernel_rfl) (by kernel_rfl) (GhS.id _ _)) ?_
    refine .ret ?_
    exact fin_ret (Sl.v 1 (Sl.mk 1 0 (takeL (1 * 1) (dropL 0 ([(Sl.v 1 (Sl.mk 0 2 []))] : List Value))))) (by kernel_rfl) (by kernel_rfl) hm
  · refine .ifF (ieq x0 (0 : Int)) (by kernel_rfl) h0 ?_
    refine .skip ?_
    refine .ghs (fr 44 [(0, (zI x0)), (1, (zI x1))]) (hp 0 []) (.k0 [] [] [0, 1]) ?_
    refine .then ?_
    refine .rK ?_
    refine .ghs (fr 44 [(0, (zI x0)), (1, (zI x1)), (5, (.slice none 0 0))]) (hp 0 []) (.k0 [] [] [0, 1, 5]) ?_
    refine .join (v := v) (fun y : Nat × Nat × List Value => ((fr 44 [(5, (sc 0 0 1 y.1 y.2.1))]), (hp 1 [(oC y.2.2)]))) (fun y => m30_0 pu n y.1 y.2.1 y.2.2) ?_ ?_
    · rintro ⟨n0, c0, q0⟩ hm
      exact w30_0 pu n n0 c0 q0 hm
    · refine .then ?_
      refine .rK ?_
      refine .ghs (fr 44 [(0, (zI x0)), (1, (zI x1)), (5, (.slice none 0 0)), (6, (zI (1 : Int)))]) (hp 0 []) (.k0 [] [] [0, 1, 5, 6]) ?_
      refine .block ?_
      refine .loopM (v := v) (fun y : Int × Int × Nat × Nat × Int × List Value => ((fr 44 [(0, (zI y.1)), (1, (zI y.2.1)), (5, (sc 0 0 1 y.2.2.1 y.2.2.2.1)), (6, (zI y.2.2.2.2.1))]), (hp 1 [(oC y.2.2.2.2.2)]))) (fun w y => l30_1 pu n w y.1 y.2.1 y.2.2.1 y.2.2.2.1 y.2.2.2.2.1 y.2.2.2.2.2) n ⟨(x0, x1, 0, 0, (1 : Int), ([] : List Value)), hm, (.thaw 5 1 (by kernel_rfl) (.k0 [] [.tmp 5 false] [0, 1, 5, 6]))⟩ (fun _ => rfl) ?_
      rintro w0 ⟨z0, z1, n1, c1, z2, q1⟩ hm
      replace hm : b30_1 pu n (l30_1 pu n w0) z0 z1 n1 c1 z2 q1 = some v := hm
      unfold b30_1 at hm
      refine .then ?_
      refine .join (v := v) (fun y : Int × Int × Nat × Nat × Int × Bool × List Value => ((fr 44 [(0, (zI y.1)), (1, (zI y.2.1)), (5, (sc 0 0 1 y.2.2.1 y.2.2.2.1)), (6, (zI y.2.2.2.2.1)), (19, (zB y.2.2.2.2.2.1))]), (hp 1 [(oC y.2.2.2.2.2.2)]))) (fun y => m30_2 pu n (l30_1 pu n w0) y.1 y.2.1 y.2.2.1 y.2.2.2.1 y.2.2.2.2.1 y.2.2.2.2.2.1 y.2.2.2.2.2.2) ?_ ?_
      · rintro ⟨z3, z4, n2, c2, z5, b0, q2⟩ hm
        unfold m30_2 at hm
        replace hm := bb_cases hm; rcases hm with ⟨h1, hm⟩ | ⟨h1, hm⟩
        · refine .ifT b0 (by kernel_rfl) h1 ?_
          refine .skip ?_
          replace hm := bb_inv hm; obtain ⟨h2, hm⟩ := hm
          refine .ghs (fr 44 [(0, (zI z3)), (1, (zI z4)), (5, (sc 0 0 1 n2 c2)), (6, (zI z5))]) (hp 1 [(oC q2)]) (.k [0] [] [.tmp 5 false] [0, 1, 5, 6] ⟨trE (by kernel_rfl) h2, trivial⟩) ?_
          refine .join (v := v) (fun y : Int × Int × Nat × Nat × Int × List Value => ((fr 44 [(0, (zI y.1)), (1, (zI y.2.1)), (5, (sc 0 0 1 y.2.2.1 y.2.2.2.1)), (6, (zI y.2.2.2.2.1))]), (hp 1 [(oC y.2.2.2.2.2)]))) (fun y => m30_3 pu n (l30_1 pu n w0) y.1 y.2.1 y.2.2.1 y.2.2.2.1 y.2.2.2.2.1 y.2.2.2.2.2) ?_ ?_
          · rintro ⟨z6, z7, n3, c4, z8, q3⟩ hm
            unfold m30_3 at hm
            refine .rK ?_
            replace hm := bb_inv hm; obtain ⟨h3, hm⟩ := hm
            exact ⟨(z6, z7, n3, c4, (wrapF .i64 (Int.add z8 (1 : Int))), q3), hm, (.k [0] [] [.tmp 5 false] [0, 1, 5, 6] ⟨trE (by kernel_rfl) h3, trivial⟩)⟩
          · refine .block ?_
            refine .then ?_
            replace hm := oo_inv hm; obtain ⟨v0, h4, hm⟩ := hm
            replace hm := inv_toSl hm; obtain ⟨s0, rfl, hm⟩ := hm
            refine .reg (eC 4 ((oo (pu 30 [(zI (wrapF .i64 (Int.sub z3 z5))), (zI z5)]) none fun v => some (v, (hp 1 [(oC q2)])))) (call_eq h4) (eE)) ?_
            refine .ghs (fr 44 [(0, (zI z3)), (1, (zI z4)), (5, (sc 0 0 1 n2 c2)), (6, (zI z5)), (7, (Sl.v 1 s0))]) (hp 1 [(oC q2)]) (.k [0] [] [.tmp 5 false] [0, 1, 5, 6, 7] ⟨trE (by kernel_rfl) h2, trivial⟩) ?_
            refine .then ?_
            refine .rK ?_
            refine .ghs (fr 44 [(0, (zI z3)), (1, (zI z4)), (5, (sc 0 0 1 n2 c2)), (6, (zI z5)), (7, (Sl.v 1 s0)), (8, (zI (0 : Int)))]) (hp 1 [(oC q2)]) (.k [0] [] [.tmp 5 false] [0, 1, 5, 6, 7, 8] ⟨trE (by kernel_rfl) h2, trivial⟩) ?_
            refine .block ?_
            refine .loopM (v := v) (fun y : Int × Int × Nat × Nat × Int × Sl × Int × List Value => ((fr 44 [(0, (zI y.1)), (1, (zI y.2.1)), (5, (sc 0 0 1 y.2.2.1 y.2.2.2.1)), (6, (zI y.2.2.2.2.1)), (7, (Sl.v 1 y.2.2.2.2.2.1)), (8, (zI y.2.2.2.2.2.2.1))]), (hp 1 [(oC y.2.2.2.2.2.2.2)]))) (fun w y => l30_4 pu n (l30_1 pu n w0) w y.1 y.2.1 y.2.2.1 y.2.2.2.1 y.2.2.2.2.1 y.2.2.2.2.2.1 y.2.2.2.2.2.2.1 y.2.2.2.2.2.2.2) n ⟨(z3, z4, n2, c2, z5, s0, (0 : Int), q2), hm, (.k [0] [] [.tmp 5 false] [0, 1, 5, 6, 7, 8] ⟨trE (by kernel_rfl) h2, trivial⟩)⟩ (fun _ => rfl) ?_
            rintro w1 ⟨z9, z10, n4, c11, z11, s1, z12, q4⟩ hm
            replace hm : b30_4 pu n (l30_1 pu n w0) (l30_4 pu n (l30_1 pu n w0) w1) z9 z10 n4 c11 z11 s1 z12 q4 = some v := hm
            unfold b30_4 at hm
            refine .then ?_
            refine .then ?_
            refine .rK ?_
            replace hm := bb_inv hm; obtain ⟨h5, hm⟩ := hm
            refine .ghs (fr 44 [(0, (zI z9)), (1, (zI z10)), (5, (sc 0 0 1 n4 c11)), (6, (zI z11)), (7, (Sl.v 1 s1)), (8, (zI z12)), (30, (zB (ilt z12 (Int.ofNat (Sl.n s1)))))]) (hp 1 [(oC q4)]) (.k [0] [] [.tmp 5 false] [0, 1, 5, 6, 7, 8, 30] ⟨trE (by kernel_rfl) h5, trivial⟩) ?_
            replace hm := bb_cases hm; rcases hm with ⟨h6, hm⟩ | ⟨h6, hm⟩
            · refine .ifT (ilt z12 (Int.ofNat (Sl.n s1))) (by kernel_rfl) h6 ?_
              refine .skip ?_
              refine .ghs (fr 44 [(0, (zI z9)), (1, (zI z10)), (5, (sc 0 0 1 n4 c11)), (6, (zI z11)), (7, (Sl.v 1 s1)), (8, (zI z12))]) (hp 1 [(oC q4)]) (.k [0] [] [.tmp 5 false] [0, 1, 5, 6, 7, 8] ⟨trE (by kernel_rfl) h5, trivial⟩) ?_
              refine .then ?_
              refine .block ?_
              replace hm := oo_inv hm; obtain ⟨k1, h7, hm⟩ := hm
              obtain rfl := toN_some h7
              replace hm := bb_inv hm; obtain ⟨h8, hm⟩ := hm
              replace hm := oo_inv hm; obtain ⟨v1, h9, hm⟩ := hm
              replace hm := inv_toSl hm; obtain ⟨s2, rfl, hm⟩ := hm
              replace hm := bb_cases hm; rcases hm with ⟨h10, hm⟩ | ⟨h10, hm⟩
              · replace hm := bb_inv hm; obtain ⟨h11, hm⟩ := hm
                refine .rG (OpsG.seg 8 (Fr.puts (fr 44 [(0, (zI z9)), (1, (zI z10)), (5, (sc 0 0 1 n4 c11)), (6, (zI z11)), (7, (Sl.v 1 s1)), (8, (zI (Int.ofNat k1)))]) [(33, (sc 0 0 1 n4 c11)), (34, (zI z11)), (35, (sc 1 0 1 1 3)), (36, (Sl.v 1 s1)), (37, (zI (Int.ofNat k1))), (38, (fpV (k1 * 1) (Sl.cs s1))), (39, (Sl.v 1 s2)), (40, (sc 1 0 1 1 3))]) (hp 2 [(oC q4), (oC [(zI z11)])]) (eC 5 (keep (hp 2 [(oC q4), (oC [(zI z11)])]) (bb (an (Nat.blt k1 (Sl.n s1)) true) (some (fpV (k1 * 1) (Sl.cs s1))) none)) (keep_bb h8) (eD (keep (hp 2 [(oC q4), (oC [(zI z11)])]) (nthL (Sl.cs s1) (k1 * 1))) (keep_eq h9) (eD (appFs (hp 2 [(oC q4), (oC [(zI z11)])]) 1 8 (sc 1 0 1 1 3) s2) (appFs_sl0 h10) (by kernel_rfl)))) (OpsG.ghs (Fr.puts (fr 44 [(0, (zI z9)), (1, (zI z10)), (5, (sc 0 0 1 n4 c11)), (6, (zI z11)), (7, (Sl.v 1 s1)), (8, (zI (Int.ofNat k1)))]) [(33, (sc 0 0 1 n4 c11)), (34, (zI z11)), (35, (sc 1 0 1 1 3)), (36, (Sl.v 1 s1)), (37, (zI (Int.ofNat k1))), (38, (fpV (k1 * 1) (Sl.cs s1))), (39, (Sl.v 1 s2)), (40, (Sl.v 1 (Sl.mk 1 0 (takeL (1 * 1) (dropL 0 ([(zI z11)] : List Value))))))]) (hp 2 [(oC q4), .dead]) (.freeze 0 40 1 (by kernel_rfl) (by kernel_rfl) (GhS.id _ _)) (OpsG.fin (eC 1 (growD 1 24 n4 c11 1 0 q4 [(Sl.v 1 (Sl.mk 1 0 (takeL (1 * 1) (dropL 0 ([(zI z11)] : List Value)))))] [] (hp 3 [(oC q4), .dead, (oC [(Sl.v 1 (Sl.mk 1 0 (takeL (1 * 1) (dropL 0 ([(zI z11)] : List Value)))))])])) (growD_eq h11) (eE))))) ?_
                replace hm := bb_inv hm; obtain ⟨h12, hm⟩ := hm
                refine .ghs (fr 44 [(0, (zI z9)), (1, (zI z10)), (5, (sc 0 0 1 (n4 + 1) (d2 (n4 + 1)))), (6, (zI z11)), (7, (Sl.v 1 s1)), (8, (zI (Int.ofNat k1)))]) (hp 1 [(oC (appL (dropL 0 q4) [(Sl.v 1 (Sl.mk 1 0 (takeL (1 * 1) (dropL 0 ([(zI z11)] : List Value)))))]))]) (.k [3] [] [.tmp 5 false] [0, 1, 5, 6, 7, 8] ⟨trE (by kernel_rfl) h12, trivial⟩) ?_
                refine .rK ?_
                exact ⟨(z9, z10, (n4 + 1), (d2 (n4 + 1)), z11, s1, (wrapF .i64 (Int.add (Int.ofNat k1) (1 : Int))), (appL (dropL 0 q4) [(Sl.v 1 (Sl.mk 1 0 (takeL (1 * 1) (dropL 0 ([(zI z11)] : List Value)))))])), hm, (.k [0] [] [.tmp 5 false] [0, 1, 5, 6, 7, 8] ⟨trE (by kernel_rfl) h12, trivial⟩)⟩
              · replace hm := bb_inv hm; obtain ⟨h11, hm⟩ := hm
                replace hm := bb_inv hm; obtain ⟨h13, hm⟩ := hm
                replace hm := bb_inv hm; obtain ⟨h14, hm⟩ := hm
                refine .rG (OpsG.seg 8 (Fr.puts (fr 44 [(0, (zI z9)), (1, (zI z10)), (5, (sc 0 0 1 n4 c11)), (6, (zI z11)), (7, (Sl.v 1 s1)), (8, (zI (Int.ofNat k1)))]) [(33, (sc 0 0 1 n4 c11)), (34, (zI z11)), (35, (sc 1 0 1 1 3)), (36, (Sl.v 1 s1)), (37, (zI (Int.ofNat k1))), (38, (fpV (k1 * 1) (Sl.cs s1))), (39, (Sl.v 1 s2)), (40, (sc 2 0 1 (1 + (Sl.n s2)) (d2 (1 + (Sl.n s2)))))]) (hp 3 [(oC q4), (oC [(zI z11)]), (oC (appL (takeL (1 * 1) (dropL 0 ([(zI z11)] : List Value))) (takeL ((Sl.n s2) * 1) (Sl.cs s2))))]) (eC 5 (keep (hp 2 [(oC q4), (oC [(zI z11)])]) (bb (an (Nat.blt k1 (Sl.n s1)) true) (some (fpV (k1 * 1) (Sl.cs s1))) none)) (keep_bb h8) (eD (keep (hp 2 [(oC q4), (oC [(zI z11)])]) (nthL (Sl.cs s1) (k1 * 1))) (keep_eq h9) (eD (appFs (hp 2 [(oC q4), (oC [(zI z11)])]) 1 8 (sc 1 0 1 1 3) s2) (appFs_full (H := (hp 2 [(oC q4), (oC [(zI z11)])])) (id := 1) (n := 1) (xs := ([(zI z11)] : List Value)) (imm := false) (sp := false) (anc := []) h10 h11 (by kernel_rfl) (by kernel_rfl)) (by kernel_rfl)))) (OpsG.ghs (Fr.puts (fr 44 [(0, (zI z9)), (1, (zI z10)), (5, (sc 0 0 1 n4 c11)), (6, (zI z11)), (7, (Sl.v 1 s1)), (8, (zI (Int.ofNat k1)))]) [(33, (sc 0 0 1 n4 c11)), (34, (zI z11)), (35, (sc 1 0 1 1 3)), (36, (Sl.v 1 s1)), (37, (zI (Int.ofNat k1))), (38, (fpV (k1 * 1) (Sl.cs s1))), (39, (Sl.v 1 s2)), (40, (Sl.v 1 (Sl.mk (1 + (Sl.n s2)) 0 (takeL ((1 + (Sl.n s2)) * 1) (dropL 0 (appL (takeL (1 * 1) (dropL 0 ([(zI z11)] : List Value))) (takeL ((Sl.n s2) * 1) (Sl.cs s2))))))))]) (hp 3 [(oC q4), (oC [(zI z11)]), .dead]) (.freezeC 0 40 1 (an (Nat.ble (0 + (1 + (Sl.n s2)) * 1) (len (appL (takeL (1 * 1) (dropL 0 ([(zI z11)] : List Value))) (takeL ((Sl.n s2) * 1) (Sl.cs s2))))) (allL closed1 (takeL ((1 + (Sl.n s2)) * 1) (dropL 0 (appL (takeL (1 * 1) (dropL 0 ([(zI z11)] : List Value))) (takeL ((Sl.n s2) * 1) (Sl.cs s2))))))) (F1 := (Fr.puts (fr 44 [(0, (zI z9)), (1, (zI z10)), (5, (sc 0 0 1 n4 c11)), (6, (zI z11)), (7, (Sl.v 1 s1)), (8, (zI (Int.ofNat k1)))]) [(33, (sc 0 0 1 n4 c11)), (34, (zI z11)), (35, (sc 1 0 1 1 3)), (36, (Sl.v 1 s1)), (37, (zI (Int.ofNat k1))), (38, (fpV (k1 * 1) (Sl.cs s1))), (39, (Sl.v 1 s2)), (40, (Sl.v 1 (Sl.mk (1 + (Sl.n s2)) 0 (takeL ((1 + (Sl.n s2)) * 1) (dropL 0 (appL (takeL (1 * 1) (dropL 0 ([(zI z11)] : List Value))) (takeL ((Sl.n s2) * 1) (Sl.cs s2))))))))])) (H1 := (hp 3 [(oC q4), (oC [(zI z11)]), .dead])) (by kernel_rfl) (by kernel_rfl) h13 (GhS.id _ _)) (OpsG.fin (eC 1 (growD 1 24 n4 c11 1 0 q4 [(Sl.v 1 (Sl.mk (1 + (Sl.n s2)) 0 (takeL ((1 + (Sl.n s2)) * 1) (dropL 0 (appL (takeL (1 * 1) (dropL 0 ([(zI z11)] : List Value))) (takeL ((Sl.n s2) * 1) (Sl.cs s2)))))))] [] (hp 4 [(oC q4), (oC [(zI z11)]), .dead, (oC [(Sl.v 1 (Sl.mk (1 + (Sl.n s2)) 0 (takeL ((1 + (Sl.n s2)) * 1) (dropL 0 (appL (takeL (1 * 1) (dropL 0 ([(zI z11)] : List Value))) (takeL ((Sl.n s2) * 1) (Sl.cs s2)))))))])])) (growD_eq h14) (eE))))) ?_
                replace hm := bb_inv hm; obtain ⟨h15, hm⟩ := hm
                refine .ghs (fr 44 [(0, (zI z9)), (1, (zI z10)), (5, (sc 0 0 1 (n4 + 1) (d2 (n4 + 1)))), (6, (zI z11)), (7, (Sl.v 1 s1)), (8, (zI (Int.ofNat k1)))]) (hp 1 [(oC (appL (dropL 0 q4) [(Sl.v 1 (Sl.mk (1 + (Sl.n s2)) 0 (takeL ((1 + (Sl.n s2)) * 1) (dropL 0 (appL (takeL (1 * 1) (dropL 0 ([(zI z11)] : List Value))) (takeL ((Sl.n s2) * 1) (Sl.cs s2)))))))]))]) (.k [4] [] [.tmp 5 false] [0, 1, 5, 6, 7, 8] ⟨trE (by kernel_rfl) h15, trivial⟩) ?_
                refine .rK ?_
                exact ⟨(z9, z10, (n4 + 1), (d2 (n4 + 1)), z11, s1, (wrapF .i64 (Int.add (Int.ofNat k1) (1 : Int))), (appL (dropL 0 q4) [(Sl.v 1 (Sl.mk (1 + (Sl.n s2)) 0 (takeL ((1 + (Sl.n s2)) * 1) (dropL 0 (appL (takeL (1 * 1) (dropL 0 ([(zI z11)] : List Value))) (takeL ((Sl.n s2) * 1) (Sl.cs s2)))))))])), hm, (.k [0] [] [.tmp 5 false] [0, 1, 5, 6, 7, 8] ⟨trE (by kernel_rfl) h15, trivial⟩)⟩
            · refine .ifF (ilt z12 (Int.ofNat (Sl.n s1))) (by kernel_rfl) h6 ?_
              refine .exit ?_
              exact ⟨(z9, z10, n4, c11, z11, q4), hm, (.k [0] [] [.tmp 5 false] [0, 1, 5, 6] ⟨trE (by kernel_rfl) h5, trivial⟩)⟩
        · refine .ifF b0 (by kernel_rfl) h1 ?_
          refine .exit ?_
          replace hm := bb_inv hm; obtain ⟨h16, hm⟩ := hm
          exact ⟨(n2, c2, q2), hm, (.k [0] [] [.tmp 5 false] [5] ⟨trE (by kernel_rfl) h16, trivial⟩)⟩
      · replace hm := bb_cases hm; rcases hm with ⟨h17, hm⟩ | ⟨h17, hm⟩
        · refine .reg (eC 2 (some ((zB (nt (ilt z1 z2))), (hp 1 [(oC q1)]))) (show _ = some ((zB true), _) from (by rw [h17])) (eE)) ?_
          replace hm := bb_inv hm; obtain ⟨h18, hm⟩ := hm
          exact ⟨(z0, z1, n1, c1, z2, (nt (ilt z0 z2)), q1), hm, (.k [0] [] [.tmp 5 false] [0, 1, 5, 6, 19] ⟨trE (by kernel_rfl) h18, trivial⟩)⟩
        · refine .reg (eC 2 (some ((zB (nt (ilt z1 z2))), (hp 1 [(oC q1)]))) (show _ = some ((zB false), _) from (by rw [h17])) (eE)) ?_
          replace hm := bb_inv hm; obtain ⟨h19, hm⟩ := hm
          exact ⟨(z0, z1, n1, c1, z2, false, q1), hm, (.k [0] [] [.tmp 5 false] [0, 1, 5, 6, 19] ⟨trE (by kernel_rfl) h19, trivial⟩)⟩
def m31_0 (pu : PureF) (n : Nat) (z0 : Int) : Option Value :=
  (some (.int .i64 z0))
def b31_1 (pu : PureF) (n : Nat) (ih0 : Sl → Int → Int → Option Value) (s0 : Sl) (z0 : Int) (z1 : Int) : Option Value :=
  (bb (ilt z1 (Int.ofNat (Sl.n s0))) (oo (toN z1) none fun k1 => (bb (an (Nat.blt k1 (Sl.n s0)) true) (oo (nthL (Sl.cs s0) (k1 * 1)) none fun v0 => (oo (toI .i64 v0) none fun x0 => (ih0 s0 (wrapF .i64 (Int.add z0 x0)) (wrapF .i64 (Int.add (Int.ofNat k1) (1 : Int)))))) none)) (m31_0 pu n z0))
def l31_1 (pu : PureF) (n : Nat) (w : Nat) : Sl → Int → Int → Option Value :=
  Nat.rec (motive := fun _ => Sl → Int → Int → Option Value) (fun _ _ _ => none) (fun _ ih0 => b31_1 pu n ih0) w
def m31_ (pu : PureF) (n : Nat) (s0 : Sl) : Option Value :=
  (l31_1 pu n n s0 (0 : Int) (0 : Int))
def m31 (pu : PureF) (n : Nat) (args : List Value) : Option Value :=
  (ll args none fun a0 args => (ll args (oo (toSl 1 a0) none fun s0 => (m31_ pu n s0)) fun _ _ => none))
theorem w31_0 (pu : PureF) (n : Nat) (z0 : Int) {v : Value} (hm : m31_0 pu n z0 = some v) : Run tt (callP tabs isP pu (inl pu)) 0 c31_15 (fr 18 [(3, (zI z0))]) (hp 0 []) (Fin tt 0 [.tmp 2] v) := by
  unfold m31_0 at hm
  refine .then ?_
  refine .rK ?_
  refine .ghs (fr 18 [(2, (zI z0))]) (hp 0 []) (.k0 [] [] [2]) ?_
  refine .ret ?_
  exact fin_ret (zI z0) (by kernel_rfl) (by kernel_rfl) hm
theorem r31 {call : CallF} (pu : PureF) (n : Nat) (hcall : call = callP tabs isP pu (inl pu)) {args : List Value} {v : Value} (hm : m31 pu n args = some v) (_ : ∀ x ∈ args, closed2 x = true) : args.length ≤ 18 ∧ Run tt call 0 c31_18 (Fr.made 18 args) (pureHeap tabs) (Fin tt 0 [.tmp 2] v) := by
  subst hcall
  unfold m31 at hm
  replace hm := ll_uncons hm; obtain ⟨a0, args_0, rfl, hm⟩ := hm
  replace hm := ll_end hm; obtain ⟨rfl, hm⟩ := hm
  replace hm := inv_toSl hm; obtain ⟨s0, rfl, hm⟩ := hm
  unfold m31_ at hm
  refine ⟨by simp, ?_⟩
  refine .same (F' := (fr 18 [(0, (Sl.v 1 s0))])) (H' := (hp 0 [])) (by kernel_rfl) (by kernel_rfl) ?_
  refine .then ?_
  refine .rK ?_
  refine .ghs (fr 18 [(0, (Sl.v 1 s0))]) (hp 0 []) (.k0 [] [] [0]) ?_
  refine .then ?_
  refine .rK ?_
  refine .ghs (fr 18 [(0, (Sl.v 1 s0)), (3, (zI (0 : Int)))]) (hp 0 []) (.k0 [] [] [0, 3]) ?_
  refine .join (v := v) (fun y : Int => ((fr 18 [(3, (zI y))]), (hp 0 []))) (fun y => m31_0 pu n y) ?_ ?_
  · rintro z0 hm
    exact w31_0 pu n z0 hm
  · refine .then ?_
    refine .rK ?_
    refine .ghs (fr 18 [(0, (Sl.v 1 s0)), (3, (zI (0 : Int))), (4, (zI (0 : Int)))]) (hp 0 []) (.k0 [] [] [0, 3, 4]) ?_
    refine .block ?_
    refine .loopM (v := v) (fun y : Sl × Int × Int => ((fr 18 [(0, (Sl.v 1 y.1)), (3, (zI y.2.1)), (4, (zI y.2.2))]), (hp 0 []))) (fun w y => l31_1 pu n w y.1 y.2.1 y.2.2) n ⟨(s0, (0 : Int), (0 : Int)), hm, (.k0 [] [] [0, 3, 4])⟩ (fun _ => rfl) ?_
    rintro w0 ⟨s1, z1, z2⟩ hm
    replace hm : b31_1 pu n (l31_1 pu n w0) s1 z1 z2 = some v := hm
    unfold b31_1 at hm
    refine .then ?_
    refine .then ?_
    refine .rK ?_
    refine .ghs (fr 18 [(0, (Sl.v 1 s1)), (3, (zI z1)), (4, (zI z2)), (8, (zB (ilt z2 (Int.ofNat (Sl.n s1)))))]) (hp 0 []) (.k0 [] [] [0, 3, 4, 8]) ?_
    replace hm := bb_cases hm; rcases hm with ⟨h0, hm⟩ | ⟨h0, hm⟩
    · refine .ifT (ilt z2 (Int.ofNat (Sl.n s1))) (by kernel_rfl) h0 ?_
      refine .skip ?_
      refine .ghs (fr 18 [(0, (Sl.v 1 s1)), (3, (zI z1)), (4, (zI z2))]) (hp 0 []) (.k0 [] [] [0, 3, 4]) ?_
      refine .then ?_
      refine .block ?_
      replace hm := oo_inv hm; obtain ⟨k1, h1, hm⟩ := hm
      obtain rfl := toN_some h1
      replace hm := bb_inv hm; obtain ⟨h2, hm⟩ := hm
      replace hm := oo_inv hm; obtain ⟨v0, h3, hm⟩ := hm
      replace hm := inv_toI hm; obtain ⟨x0, rfl, hm⟩ := hm
      refine .reg (eC 3 (keep (hp 0 []) (bb (an (Nat.blt k1 (Sl.n s1)) true) (some (fpV (k1 * 1) (Sl.cs s1))) none)) (keep_bb h2) (eD (keep (hp 0 []) (nthL (Sl.cs s1) (k1 * 1))) (keep_eq h3) (eE))) ?_
      refine .ghs (fr 18 [(0, (Sl.v 1 s1)), (3, (zI (wrapF .i64 (Int.add z1 x0)))), (4, (zI (Int.ofNat k1)))]) (hp 0 []) (.k0 [] [] [0, 3, 4]) ?_
      refine .rK ?_
      exact ⟨(s1, (wrapF .i64 (Int.add z1 x0)), (wrapF .i64 (Int.add (Int.ofNat k1) (1 : Int)))), hm, (.k0 [] [] [0, 3, 4])⟩
    · refine .ifF (ilt z2 (Int.ofNat (Sl.n s1))) (by kernel_rfl) h0 ?_
      refine .exit ?_
      exact ⟨z1, hm, (.k0 [] [] [3])⟩
def m32_0 (pu : PureF) (n : Nat) : Option Value :=
  (some (.bool true))
def b32_1 (pu : PureF) (n : Nat) (ih0 : Sl → Sl → Int → Option Value) (s0 : Sl) (s1 : Sl) (z0 : Int) : Option Value :=
  (bb (ilt z0 (Int.ofNat (Sl.n s0))) (oo (toN z0) none fun k1 => (bb (an (Nat.blt k1 (Sl.n s0)) true) (oo (nthL (Sl.cs s0) (k1 * 1)) none fun v0 => (oo (toI .i64 v0) none fun x0 => (bb (an (Nat.blt k1 (Sl.n s1)) true) (oo (nthL (Sl.cs s1) (k1 * 1)) none fun v1 => (oo (toI .i64 v1) none fun x1 => (bb (nt (ieq x0 x1)) (some (.bool false)) (ih0 s0 s1 (wrapF .i64 (Int.add (Int.ofNat k1) (1 : Int))))))) none))) none)) (m32_0 pu n))
def l32_1 (pu : PureF) (n : Nat) (w : Nat) : Sl → Sl → Int → Option Value :=
  Nat.rec (motive := fun _ => Sl → Sl → Int → Option Value) (fun _ _ _ => none) (fun _ ih0 => b32_1 pu n ih0) w
def m32_ (pu : PureF) (n : Nat) (s0 : Sl) (s1 : Sl) : Option Value :=
  (bb (nt (ieq (Int.ofNat (Sl.n s0)) (Int.ofNat (Sl.n s1)))) (some (.bool false)) (l32_1 pu n n s0 s1 (0 : Int)))
def m32 (pu : PureF) (n : Nat) (args : List Value) : Option Value :=
  (ll args none fun a0 args => (ll args none fun a1 args => (ll args (oo (toSl 1 a0) none fun s0 => (oo (toSl 1 a1) none fun s1 => (m32_ pu n s0 s1))) fun _ _ => none)))
theorem w32_0 (pu : PureF) (n : Nat) {v : Value} (hm : m32_0 pu n = some v) : Run tt (callP tabs isP pu (inl pu)) 0 c32_23 (fr 26 []) (hp 0 []) (Fin tt 0 [.tmp 4] v) := by
  unfold m32_0 at hm
  refine .then ?_
  refine .rK ?_
  refine .ghs (fr 26 [(4, (zB true))]) (hp 0 []) (.k0 [] [] [4]) ?_
  refine .ret ?_
  exact fin_ret (zB true) (by kernel_rfl) (by kernel_rfl) hm
theorem r32 {call : CallF} (pu : PureF) (n : Nat) (hcall : call = callP tabs isP pu (inl pu)) {args : List Value} {v : Value} (hm : m32 pu n args = some v) (_ : ∀ x ∈ args, closed2 x = true) : args.length ≤ 26 ∧ Run tt call 0 c32_26 (Fr.made 26 args) (pureHeap tabs) (Fin tt 0 [.tmp 4] v) := by
  subst hcall
  unfold m32 at hm
  replace hm := ll_uncons hm; obtain ⟨a0, args_0, rfl, hm⟩ := hm
  replace hm := ll_uncons hm; obtain ⟨a1, args_1, rfl, hm⟩ := hm
  replace hm := ll_end hm; obtain ⟨rfl, hm⟩ := hm
  replace hm := inv_toSl hm; obtain ⟨s0, rfl, hm⟩ := hm
  replace hm := inv_toSl hm; obtain ⟨s1, rfl, hm⟩ := hm
  unfold m32_ at hm
  refine ⟨by simp, ?_⟩
  refine .same (F' := (fr 26 [(0, (Sl.v 1 s0)), (1, (Sl.v 1 s1))])) (H' := (hp 0 [])) (by kernel_rfl) (by kernel_rfl) ?_
  refine .then ?_
  refine .rK ?_
  refine .ghs (fr 26 [(0, (Sl.v 1 s0)), (1, (Sl.v 1 s1))]) (hp 0 []) (.k0 [] [] [0, 1]) ?_
  refine .then ?_
  refine .then ?_
  refine .rK ?_
  refine .ghs (fr 26 [(0, (Sl.v 1 s0)), (1, (Sl.v 1 s1)), (10, (zB (nt (ieq (Int.ofNat (Sl.n s0)) (Int.ofNat (Sl.n s1))))))]) (hp 0 []) (.k0 [] [] [0, 1, 10]) ?_
  replace hm := bb_cases hm; rcases hm with ⟨h0, hm⟩ | ⟨h0, hm⟩
  · refine .ifT (nt (ieq (Int.ofNat (Sl.n s0)) (Int.ofNat (Sl.n s1)))) (by kernel_rfl) h0 ?_
    refine .then ?_
    refine .rK ?_
    refine .ghs (fr 26 [(4, (zB false))]) (hp 0 []) (.k0 [] [] [4]) ?_
    refine .ret ?_
    exact fin_ret (zB false) (by kernel_rfl) (by kernel_rfl) hm
  · refine .ifF (nt (ieq (Int.ofNat (Sl.n s0)) (Int.ofNat (Sl.n s1)))) (by kernel_rfl) h0 ?_
    refine .skip ?_
    refine .ghs (fr 26 [(0, (Sl.v 1 s0)), (1, (Sl.v 1 s1))]) (hp 0 []) (.k0 [] [] [0, 1]) ?_
    refine .join (v := v) (fun y : Unit => ((fr 26 []), (hp 0 []))) (fun y => m32_0 pu n) ?_ ?_
    · rintro _ hm
      exact w32_0 pu n hm
    · refine .then ?_
      refine .rK ?_
      refine .ghs (fr 26 [(0, (Sl.v 1 s0)), (1, (Sl.v 1 s1)), (5, (zI (0 : Int)))]) (hp 0 []) (.k0 [] [] [0, 1, 5]) ?_
      refine .block ?_
      refine .loopM (v := v) (fun y : Sl × Sl × Int => ((fr 26 [(0, (Sl.v 1 y.1)), (1, (Sl.v 1 y.2.1)), (5, (zI y.2.2))]), (hp 0 []))) (fun w y => l32_1 pu n w y.1 y.2.1 y.2.2) n ⟨(s0, s1, (0 : Int)), hm, (.k0 [] [] [0, 1, 5])⟩ (fun _ => rfl) ?_
      rintro w0 ⟨s2, s3, z0⟩ hm
      replace hm : b32_1 pu n (l32_1 pu n w0) s2 s3 z0 = some v := hm
      unfold b32_1 at hm
      refine .then ?_
      refine .then ?_
      refine .rK ?_
      refine .ghs (fr 26 [(0, (Sl.v 1 s2)), (1, (Sl.v 1 s3)), (5, (zI z0)), (14, (zB (ilt z0 (Int.ofNat (Sl.n s2)))))]) (hp 0 []) (.k0 [] [] [0, 1, 5, 14]) ?_
      replace hm := bb_cases hm; rcases hm with ⟨h1, hm⟩ | ⟨h1, hm⟩
      · refine .ifT (ilt z0 (Int.ofNat (Sl.n s2))) (by kernel_rfl) h1 ?_
        refine .skip ?_
        refine .ghs (fr 26 [(0, (Sl.v 1 s2)), (1, (Sl.v 1 s3)), (5, (zI z0))]) (hp 0 []) (.k0 [] [] [0, 1, 5]) ?_
        refine .then ?_
        refine .block ?_
        refine .then ?_
        replace hm := oo_inv hm; obtain ⟨k1, h2, hm⟩ := hm
        obtain rfl := toN_some h2
        replace hm := bb_inv hm; obtain ⟨h3, hm⟩ := hm
        replace hm := oo_inv hm; obtain ⟨v0, h4, hm⟩ := hm
        replace hm := inv_toI hm; obtain ⟨x0, rfl, hm⟩ := hm
        replace hm := bb_inv hm; obtain ⟨h5, hm⟩ := hm
        replace hm := oo_inv hm; obtain ⟨v1, h6, hm⟩ := hm
        replace hm := inv_toI hm; obtain ⟨x1, rfl, hm⟩ := hm
        refine .reg (eC 2 (keep (hp 0 []) (bb (an (Nat.blt k1 (Sl.n s2)) true) (some (fpV (k1 * 1) (Sl.cs s2))) none)) (keep_bb h3) (eD (keep (hp 0 []) (nthL (Sl.cs s2) (k1 * 1))) (keep_eq h4) (eC 2 (keep (hp 0 []) (bb (an (Nat.blt k1 (Sl.n s3)) true) (some (fpV (k1 * 1) (Sl.cs s3))) none)) (keep_bb h5) (eD (keep (hp 0 []) (nthL (Sl.cs s3) (k1 * 1))) (keep_eq h6) (eE))))) ?_
        refine .ghs (fr 26 [(0, (Sl.v 1 s2)), (1, (Sl.v 1 s3)), (5, (zI (Int.ofNat k1))), (25, (zB (nt (ieq x0 x1))))]) (hp 0 []) (.k0 [] [] [0, 1, 5, 25]) ?_
        replace hm := bb_cases hm; rcases hm with ⟨h7, hm⟩ | ⟨h7, hm⟩
        · refine .ifT (nt (ieq x0 x1)) (by kernel_rfl) h7 ?_
          refine .then ?_
          refine .rK ?_
          refine .ghs (fr 26 [(4, (zB false))]) (hp 0 []) (.k0 [] [] [4]) ?_
          refine .ret ?_
          exact fin_ret (zB false) (by kernel_rfl) (by kernel_rfl) hm
        · refine .ifF (nt (ieq x0 x1)) (by kernel_rfl) h7 ?_
          refine .skip ?_
          refine .ghs (fr 26 [(0, (Sl.v 1 s2)), (1, (Sl.v 1 s3)), (5, (zI (Int.ofNat k1)))]) (hp 0 []) (.k0 [] [] [0, 1, 5]) ?_
          refine .rK ?_
          exact ⟨(s2, s3, (wrapF .i64 (Int.add (Int.ofNat k1) (1 : Int)))), hm, (.k0 [] [] [0, 1, 5])⟩
      · refine .ifF (ilt z0 (Int.ofNat (Sl.n s2))) (by kernel_rfl) h1 ?_
        refine .exit ?_
        exact ⟨(), hm, (.k0 [] [] [])⟩
def m33_1 (pu : PureF) (n : Nat) (n0 : Nat) (c0 : Nat) (q0 : List Value) : Option Value :=
  (bb (allL closed1 q0) (bb (an (Nat.ble (0 + n0 * 1) (len q0)) (allL closed1 (takeL (n0 * 1) (dropL 0 q0)))) (some (Sl.v 1 (Sl.mk n0 0 (takeL (n0 * 1) (dropL 0 q0))))) none) none)
def m33_0 (pu : PureF) (n : Nat) (s0 : Sl) (n0 : Nat) (c0 : Nat) (b0 : Bool) (q0 : List Value) : Option Value :=
  (bb (allL closed1 q0) (bb (nt b0) (bb (growC 1 8 n0 c0 1 q0) (bb (allL closed1 (appL (dropL 0 q0) [(.int .i64 (Int.ofNat (Sl.n s0)))])) (m33_1 pu n (n0 + 1) (2 * (n0 + 1) + bb false 1 0) (appL (dropL 0 q0) [(.int .i64 (Int.ofNat (Sl.n s0)))])) none) none) (m33_1 pu n n0 c0 q0)) none)
def m33_3 (pu : PureF) (n : Nat) (ih0 : Sl → Nat → Nat → Bool → Int → List Value → Option Value) (s0 : Sl) (n0 : Nat) (c0 : Nat) (b0 : Bool) (z0 : Int) (q0 : List Value) : Option Value :=
  (bb (allL closed1 q0) (ih0 s0 n0 c0 b0 (wrapF .i64 (Int.add z0 (1 : Int))) q0) none)
def m33_4 (pu : PureF) (n : Nat) (ih0 : Sl → Nat → Nat → Bool → Int → List Value → Option Value) (s0 : Sl) (n0 : Nat) (c0 : Nat) (b0 : Bool) (z0 : Int) (q0 : List Value) : Option Value :=
  (oo (toN z0) none fun k1 => (bb (an (Nat.blt k1 (Sl.n s0)) true) (oo (nthL (Sl.cs s0) (k1 * 1)) none fun v0 => (oo (toI .i64 v0) none fun x0 => (bb (allL closed1 q0) (bb (ilt (1 : Int) x0) (bb (an (Nat.blt k1 (Sl.n s0)) true) (oo (nthL (Sl.cs s0) (k1 * 1)) none fun v1 => (oo (toI .i64 v1) none fun x1 => (bb (growC 1 8 n0 c0 1 q0) (bb (allL closed1 (appL (dropL 0 q0) [(.int .i64 (wrapF .i64 (Int.sub x1 (1 : Int))))])) (m33_3 pu n ih0 s0 (n0 + 1) (2 * (n0 + 1) + bb false 1 0) b0 (Int.ofNat k1) (appL (dropL 0 q0) [(.int .i64 (wrapF .i64 (Int.sub x1 (1 : Int))))])) none) none))) none) (m33_3 pu n ih0 s0 n0 c0 b0 (Int.ofNat k1) q0)) none))) none))
def m33_5 (pu : PureF) (n : Nat) (ih0 : Sl → Nat → Nat → Bool → Int → List Value → Option Value) (s0 : Sl) (n0 : Nat) (c0 : Nat) (b0 : Bool) (z0 : Int) (b1 : Bool) (q0 : List Value) : Option Value :=
  (bb b1 (bb (growC 1 8 n0 c0 1 q0) (bb (allL closed1 (appL (dropL 0 q0) [(.int .i64 (Int.ofNat (Sl.n s0)))])) (m33_4 pu n ih0 s0 (n0 + 1) (2 * (n0 + 1) + bb false 1 0) true z0 (appL (dropL 0 q0) [(.int .i64 (Int.ofNat (Sl.n s0)))])) none) none) (bb (allL closed1 q0) (m33_4 pu n ih0 s0 n0 c0 b0 z0 q0) none))
def b33_2 (pu : PureF) (n : Nat) (ih0 : Sl → Nat → Nat → Bool → Int → List Value → Option Value) (s0 : Sl) (n0 : Nat) (c0 : Nat) (b0 : Bool) (z0 : Int) (q0 : List Value) : Option Value :=
  (bb (allL closed1 q0) (bb (ilt z0 (Int.ofNat (Sl.n s0))) (bb (nt b0) (oo (toN z0) none fun k1 => (bb (an (Nat.blt k1 (Sl.n s0)) true) (oo (nthL (Sl.cs s0) (k1 * 1)) none fun v0 => (oo (toI .i64 v0) none fun x0 => (m33_5 pu n ih0 s0 n0 c0 b0 (Int.ofNat k1) (nt (ilt (Int.ofNat (Sl.n s0)) (wrapF .i64 (Int.sub x0 (1 : Int))))) q0))) none)) (m33_5 pu n ih0 s0 n0 c0 b0 z0 false q0)) (m33_0 pu n s0 n0 c0 b0 q0)) none)
def l33_2 (pu : PureF) (n : Nat) (w : Nat) : Sl → Nat → Nat → Bool → Int → List Value → Option Value :=
  Nat.rec (motive := fun _ => Sl → Nat → Nat → Bool → Int → List Value → Option Value) (fun _ _ _ _ _ _ => none) (fun _ ih0 => b33_2 pu n ih0) w
def m33_ (pu : PureF) (n : Nat) (s0 : Sl) : Option Value :=
  (l33_2 pu n n s0 0 0 false (0 : Int) ([] : List Value))
def m33 (pu : PureF) (n : Nat) (args : List Value) : Option Value :=
  (ll args none fun a0 args => (ll args (oo (toSl 1 a0) none fun s0 => (m33_ pu n s0)) fun _ _ => none))
theorem w33_1 (pu : PureF) (n : Nat) (n0 : Nat) (c0 : Nat) (q0 : List Value) {v : Value} (hm : m33_1 pu n n0 c0 q0 = some v) : Run tt (callP tabs isP pu (inl pu)) 0 c33_30 (fr 50 [(3, (sc 0 0 1 n0 c0))]) (hp 1 [(oC q0)]) (Fin tt 0 [.tmp 2] v) := by
  unfold m33_1 at hm
  refine .then ?_
  refine .rK ?_
  replace hm := bb_inv hm; obtain ⟨h0, hm⟩ := hm
  refine .ghs (fr 50 [(2, (sc 0 0 1 n0 c0))]) (hp 1 [(oC q0)]) (.k [0] [] [.tmp 2 false] [2] ⟨trE (by kernel_rfl) h0, trivial⟩) ?_
  replace hm := bb_inv hm; obtain ⟨h1, hm⟩ := hm
  refine .ghs (Fr.puts (fr 50 [(2, (sc 0 0 1 n0 c0))]) [(2, (Sl.v 1 (Sl.mk n0 0 (takeL (n0 * 1) (dropL 0 q0)))))]) (hp 1 [.dead]) (.freezeC 0 2 1 (an (Nat.ble (0 + n0 * 1) (len q0)) (allL closed1 (takeL (n0 * 1) (dropL 0 q0)))) (F1 := (Fr.puts (fr 50 [(2, (sc 0 0 1 n0 c0))]) [(2, (Sl.v 1 (Sl.mk n0 0 (takeL (n0 * 1) (dropL 0 q0)))))])) (H1 := (hp 1 [.dead])) (by kernel_rfl) (by kernel_rfl) h1 (GhS.id _ _)) ?_
  refine .ret ?_
  exact fin_ret (Sl.v 1 (Sl.mk n0 0 (takeL (n0 * 1) (dropL 0 q0)))) (by kernel_rfl) (by kernel_rfl) hm
theorem w33_0 (pu : PureF) (n : Nat) (s0 : Sl) (n0 : Nat) (c0 : Nat) (b0 : Bool) (q0 : List Value) {v : Value} (hm : m33_0 pu n s0 n0 c0 b0 q0 = some v) : Run tt (callP tabs isP pu (inl pu)) 0 c33_31 (fr 50 [(0, (Sl.v 1 s0)), (3, (sc 0 0 1 n0 c0)), (4, (zB b0))]) (hp 1 [(oC q0)]) (Fin tt 0 [.tmp 2] v) := by
  unfold m33_0 at hm
  refine .join (v := v) (fun y : Nat × Nat × List Value => ((fr 50 [(3, (sc 0 0 1 y.1 y.2.1))]), (hp 1 [(oC y.2.2)]))) (fun y => m33_1 pu n y.1 y.2.1 y.2.2) ?_ ?_
  · rintro ⟨n1, c1, q1⟩ hm
    exact w33_1 pu n n1 c1 q1 hm
  · refine .then ?_
    refine .rK ?_
    replace hm := bb_inv hm; obtain ⟨h0, hm⟩ := hm
    refine .ghs (fr 50 [(0, (Sl.v 1 s0)), (3, (sc 0 0 1 n0 c0)), (43, (zB (nt b0)))]) (hp 1 [(oC q0)]) (.k [0] [] [.tmp 3 false] [0, 3, 43] ⟨trE (by kernel_rfl) h0, trivial⟩) ?_
    replace hm := bb_cases hm; rcases hm with ⟨h1, hm⟩ | ⟨h1, hm⟩
    · refine .ifT (nt b0) (by kernel_rfl) h1 ?_
      replace hm := bb_inv hm; obtain ⟨h2, hm⟩ := hm
      refine .reg (eC 4 (growD 1 8 n0 c0 1 0 q0 [(zI (Int.ofNat (Sl.n s0)))] [] (hp 2 [(oC q0), (oC [(zI (Int.ofNat (Sl.n s0)))])])) (growD_eq h2) (eE)) ?_
      replace hm := bb_inv hm; obtain ⟨h3, hm⟩ := hm
      exact ⟨((n0 + 1), (d2 (n0 + 1)), (appL (dropL 0 q0) [(zI (Int.ofNat (Sl.n s0)))])), hm, (.k [2] [] [.tmp 3 false] [3] ⟨trE (by kernel_rfl) h3, trivial⟩)⟩
    · refine .ifF (nt b0) (by kernel_rfl) h1 ?_
      refine .skip ?_
      exact ⟨(n0, c0, q0), hm, (.k [0] [] [.tmp 3 false] [3] ⟨trE (by kernel_rfl) h0, trivial⟩)⟩
theorem r33 {call : CallF} (pu : PureF) (n : Nat) (hcall : call = callP tabs isP pu (inl pu)) {args : List Value} {v : Value} (hm : m33 pu n args = some v) (_ : ∀ x ∈ args, closed2 x = true) : args.length ≤ 50 ∧ Run tt call 0 c33_35 (Fr.made 50 args) (pureHeap tabs) (Fin tt 0 [.tmp 2] v) := by
  subst hcall
  unfold m33 at hm
  replace hm := ll_uncons hm; obtain ⟨a0, args_0, rfl, hm⟩ := hm
  replace hm := ll_end hm; obtain ⟨rfl, hm⟩ := hm
  replace hm := inv_toSl hm; obtain ⟨s0, rfl, hm⟩ := hm
  unfold m33_ at hm
  refine ⟨by simp, ?_⟩
  refine .same (F' := (fr 50 [(0, (Sl.v 1 s0))])) (H' := (hp 0 [])) (by kernel_rfl) (by kernel_rfl) ?_
  refine .then ?_
  refine .rK ?_
  refine .ghs (fr 50 [(0, (Sl.v 1 s0))]) (hp 0 []) (.k0 [] [] [0]) ?_
  refine .then ?_
  refine .rK ?_
  refine .ghs (fr 50 [(0, (Sl.v 1 s0)), (3, (.slice none 0 0))]) (hp 0 []) (.k0 [] [] [0, 3]) ?_
  refine .then ?_
  refine .rK ?_
  refine .ghs (fr 50 [(0, (Sl.v 1 s0)), (3, (.slice none 0 0)), (4, (zB false))]) (hp 0 []) (.k0 [] [] [0, 3, 4]) ?_
  refine .join (v := v) (fun y : Sl × Nat × Nat × Bool × List Value => ((fr 50 [(0, (Sl.v 1 y.1)), (3, (sc 0 0 1 y.2.1 y.2.2.1)), (4, (zB y.2.2.2.1))]), (hp 1 [(oC y.2.2.2.2)]))) (fun y => m33_0 pu n y.1 y.2.1 y.2.2.1 y.2.2.2.1 y.2.2.2.2) ?_ ?_
  · rintro ⟨s1, n0, c0, b0, q0⟩ hm
    exact w33_0 pu n s1 n0 c0 b0 q0 hm
  · refine .then ?_
    refine .rK ?_
    refine .ghs (fr 50 [(0, (Sl.v 1 s0)), (3, (.slice none 0 0)), (4, (zB false)), (5, (zI (0 : Int)))]) (hp 0 []) (.k0 [] [] [0, 3, 4, 5]) ?_
    refine .block ?_
    refine .loopM (v := v) (fun y : Sl × Nat × Nat × Bool × Int × List Value => ((fr 50 [(0, (Sl.v 1 y.1)), (3, (sc 0 0 1 y.2.1 y.2.2.1)), (4, (zB y.2.2.2.1)), (5, (zI y.2.2.2.2.1))]), (hp 1 [(oC y.2.2.2.2.2)]))) (fun w y => l33_2 pu n w y.1 y.2.1 y.2.2.1 y.2.2.2.1 y.2.2.2.2.1 y.2.2.2.2.2) n ⟨(s0, 0, 0, false, (0 : Int), ([] : List Value)), hm, (.thaw 3 1 (by kernel_rfl) (.k0 [] [.tmp 3 false] [0, 3, 4, 5]))⟩ (fun _ => rfl) ?_
    rintro w0 ⟨s2, n1, c1, b1, z0, q1⟩ hm
    replace hm : b33_2 pu n (l33_2 pu n w0) s2 n1 c1 b1 z0 q1 = some v := hm
    unfold b33_2 at hm
    refine .then ?_
    refine .then ?_
    refine .rK ?_
    replace hm := bb_inv hm; obtain ⟨h0, hm⟩ := hm
    refine .ghs (fr 50 [(0, (Sl.v 1 s2)), (3, (sc 0 0 1 n1 c1)), (4, (zB b1)), (5, (zI z0)), (9, (zB (ilt z0 (Int.ofNat (Sl.n s2)))))]) (hp 1 [(oC q1)]) (.k [0] [] [.tmp 3 false] [0, 3, 4, 5, 9] ⟨trE (by kernel_rfl) h0, trivial⟩) ?_
    replace hm := bb_cases hm; rcases hm with ⟨h1, hm⟩ | ⟨h1, hm⟩
    · refine .ifT (ilt z0 (Int.ofNat (Sl.n s2))) (by kernel_rfl) h1 ?_
      refine .skip ?_
      refine .ghs (fr 50 [(0, (Sl.v 1 s2)), (3, (sc 0 0 1 n1 c1)), (4, (zB b1)), (5, (zI z0))]) (hp 1 [(oC q1)]) (.k [0] [] [.tmp 3 false] [0, 3, 4, 5] ⟨trE (by kernel_rfl) h0, trivial⟩) ?_
      refine .join (v := v) (fun y : Sl × Nat × Nat × Bool × Int × List Value => ((fr 50 [(0, (Sl.v 1 y.1)), (3, (sc 0 0 1 y.2.1 y.2.2.1)), (4, (zB y.2.2.2.1)), (5, (zI y.2.2.2.2.1))]), (hp 1 [(oC y.2.2.2.2.2)]))) (fun y => m33_3 pu n (l33_2 pu n w0) y.1 y.2.1 y.2.2.1 y.2.2.2.1 y.2.2.2.2.1 y.2.2.2.2.2) ?_ ?_
      · rintro ⟨s3, n2, c2, b2, z1, q2⟩ hm
        unfold m33_3 at hm
        refine .rK ?_
        replace hm := bb_inv hm; obtain ⟨h2, hm⟩ := hm
        exact ⟨(s3, n2, c2, b2, (wrapF .i64 (Int.add z1 (1 : Int))), q2), hm, (.k [0] [] [.tmp 3 false] [0, 3, 4, 5] ⟨trE (by kernel_rfl) h2, trivial⟩)⟩
      · refine .block ?_
        refine .join (v := v) (fun y : Sl × Nat × Nat × Bool × Int × List Value => ((fr 50 [(0, (Sl.v 1 y.1)), (3, (sc 0 0 1 y.2.1 y.2.2.1)), (4, (zB y.2.2.2.1)), (5, (zI y.2.2.2.2.1))]), (hp 1 [(oC y.2.2.2.2.2)]))) (fun y => m33_4 pu n (l33_2 pu n w0) y.1 y.2.1 y.2.2.1 y.2.2.2.1 y.2.2.2.2.1 y.2.2.2.2.2) ?_ ?_
        · rintro ⟨s4, n3, c4, b4, z2, q3⟩ hm
          unfold m33_4 at hm
          refine .then ?_
          replace hm := oo_inv hm; obtain ⟨k1, h3, hm⟩ := hm
          obtain rfl := toN_some h3
          replace hm := bb_inv hm; obtain ⟨h4, hm⟩ := hm
          replace hm := oo_inv hm; obtain ⟨v0, h5, hm⟩ := hm
          replace hm := inv_toI hm; obtain ⟨x0, rfl, hm⟩ := hm
          refine .reg (eC 2 (keep (hp 1 [(oC q3)]) (bb (an (Nat.blt k1 (Sl.n s4)) true) (some (fpV (k1 * 1) (Sl.cs s4))) none)) (keep_bb h4) (eD (keep (hp 1 [(oC q3)]) (nthL (Sl.cs s4) (k1 * 1))) (keep_eq h5) (eE))) ?_
          replace hm := bb_inv hm; obtain ⟨h6, hm⟩ := hm
          refine .ghs (fr 50 [(0, (Sl.v 1 s4)), (3, (sc 0 0 1 n3 c4)), (4, (zB b4)), (5, (zI (Int.ofNat k1))), (33, (zB (ilt (1 : Int) x0)))]) (hp 1 [(oC q3)]) (.k [0] [] [.tmp 3 false] [0, 3, 4, 5, 33] ⟨trE (by kernel_rfl) h6, trivial⟩) ?_
          replace hm := bb_cases hm; rcases hm with ⟨h7, hm⟩ | ⟨h7, hm⟩
          · refine .ifT (ilt (1 : Int) x0) (by kernel_rfl) h7 ?_
            replace hm := bb_inv hm; obtain ⟨h8, hm⟩ := hm
            replace hm := oo_inv hm; obtain ⟨v1, h9, hm⟩ := hm
            replace hm := inv_toI hm; obtain ⟨x1, rfl, hm⟩ := hm
            replace hm := bb_inv hm; obtain ⟨h10, hm⟩ := hm
            refine .reg (eC 3 (keep (hp 1 [(oC q3)]) (bb (an (Nat.blt k1 (Sl.n s4)) true) (some (fpV (k1 * 1) (Sl.cs s4))) none)) (keep_bb h8) (eD (keep (hp 1 [(oC q3)]) (nthL (Sl.cs s4) (k1 * 1))) (keep_eq h9) (eC 2 (growD 1 8 n3 c4 1 0 q3 [(zI (wrapF .i64 (Int.sub x1 (1 : Int))))] [] (hp 2 [(oC q3), (oC [(zI (wrapF .i64 (Int.sub x1 (1 : Int))))])])) (growD_eq h10) (eE)))) ?_
            replace hm := bb_inv hm; obtain ⟨h11, hm⟩ := hm
            exact ⟨(s4, (n3 + 1), (d2 (n3 + 1)), b4, (Int.ofNat k1), (appL (dropL 0 q3) [(zI (wrapF .i64 (Int.sub x1 (1 : Int))))])), hm, (.k [2] [] [.tmp 3 false] [0, 3, 4, 5] ⟨trE (by kernel_rfl) h11, trivial⟩)⟩
          · refine .ifF (ilt (1 : Int) x0) (by kernel_rfl) h7 ?_
            refine .skip ?_
            exact ⟨(s4, n3, c4, b4, (Int.ofNat k1), q3), hm, (.k [0] [] [.tmp 3 false] [0, 3, 4, 5] ⟨trE (by kernel_rfl) h6, trivial⟩)⟩
        · refine .join (v := v) (fun y : Sl × Nat × Nat × Bool × Int × Bool × List Value => ((fr 50 [(0, (Sl.v 1 y.1)), (3, (sc 0 0 1 y.2.1 y.2.2.1)), (4, (zB y.2.2.2.1)), (5, (zI y.2.2.2.2.1)), (23, (zB y.2.2.2.2.2.1))]), (hp 1 [(oC y.2.2.2.2.2.2)]))) (fun y => m33_5 pu n (l33_2 pu n w0) y.1 y.2.1 y.2.2.1 y.2.2.2.1 y.2.2.2.2.1 y.2.2.2.2.2.1 y.2.2.2.2.2.2) ?_ ?_
          · rintro ⟨s5, n4, c11, b11, z3, b13, q4⟩ hm
            unfold m33_5 at hm
            replace hm := bb_cases hm; rcases hm with ⟨h12, hm⟩ | ⟨h12, hm⟩
            · refine .ifT b13 (by kernel_rfl) h12 ?_
              refine .then ?_
              replace hm := bb_inv hm; obtain ⟨h13, hm⟩ := hm
              refine .reg (eC 4 (growD 1 8 n4 c11 1 0 q4 [(zI (Int.ofNat (Sl.n s5)))] [] (hp 2 [(oC q4), (oC [(zI (Int.ofNat (Sl.n s5)))])])) (growD_eq h13) (eE)) ?_
              replace hm := bb_inv hm; obtain ⟨h14, hm⟩ := hm
              refine .ghs (fr 50 [(0, (Sl.v 1 s5)), (3, (sc 0 0 1 (n4 + 1) (d2 (n4 + 1)))), (5, (zI z3))]) (hp 1 [(oC (appL (dropL 0 q4) [(zI (Int.ofNat (Sl.n s5)))]))]) (.k [2] [] [.tmp 3 false] [0, 3, 5] ⟨trE (by kernel_rfl) h14, trivial⟩) ?_
              refine .rK ?_
              exact ⟨(s5, (n4 + 1), (d2 (n4 + 1)), true, z3, (appL (dropL 0 q4) [(zI (Int.ofNat (Sl.n s5)))])), hm, (.k [0] [] [.tmp 3 false] [0, 3, 4, 5] ⟨trE (by kernel_rfl) h14, trivial⟩)⟩
            · refine .ifF b13 (by kernel_rfl) h12 ?_
              refine .skip ?_
              replace hm := bb_inv hm; obtain ⟨h15, hm⟩ := hm
              exact ⟨(s5, n4, c11, b11, z3, q4), hm, (.k [0] [] [.tmp 3 false] [0, 3, 4, 5] ⟨trE (by kernel_rfl) h15, trivial⟩)⟩
          · replace hm := bb_cases hm; rcases hm with ⟨h16, hm⟩ | ⟨h16, hm⟩
            · replace hm := oo_inv hm; obtain ⟨k2, h17, hm⟩ := hm
              obtain rfl := toN_some h17
              replace hm := bb_inv hm; obtain ⟨h18, hm⟩ := hm
              replace hm := oo_inv hm; obtain ⟨v2, h19, hm⟩ := hm
              replace hm := inv_toI hm; obtain ⟨x2, rfl, hm⟩ := hm
              refine .reg (eC 1 (some ((zB (nt b1)), (hp 1 [(oC q1)]))) (show _ = some ((zB true), _) from (by rw [h16])) (eC 3 (keep (hp 1 [(oC q1)]) (bb (an (Nat.blt k2 (Sl.n s2)) true) (some (fpV (k2 * 1) (Sl.cs s2))) none)) (keep_bb h18) (eD (keep (hp 1 [(oC q1)]) (nthL (Sl.cs s2) (k2 * 1))) (keep_eq h19) (eE)))) ?_
              exact ⟨(s2, n1, c1, b1, (Int.ofNat k2), (nt (ilt (Int.ofNat (Sl.n s2)) (wrapF .i64 (Int.sub x2 (1 : Int))))), q1), hm, (.k [0] [] [.tmp 3 false] [0, 3, 4, 5, 23] ⟨trE (by kernel_rfl) h0, trivial⟩)⟩
            · refine .reg (eC 1 (some ((zB (nt b1)), (hp 1 [(oC q1)]))) (show _ = some ((zB false), _) from (by rw [h16])) (eE)) ?_
              exact ⟨(s2, n1, c1, b1, z0, false, q1), hm, (.k [0] [] [.tmp 3 false] [0, 3, 4, 5, 23] ⟨trE (by kernel_rfl) h0, trivial⟩)⟩
    · refine .ifF (ilt z0 (Int.ofNat (Sl.n s2))) (by kernel_rfl) h1 ?_
      refine .exit ?_
      exact ⟨(s2, n1, c1, b1, q1), hm, (.k [0] [] [.tmp 3 false] [0, 3, 4] ⟨trE (by kernel_rfl) h0, trivial⟩)⟩
end
end Go.HpBM
