/- Models of the program's functions, and the proofs that runs give them: MADE BY PROGRAM (wip/tools/dec.py). -/
import Derived.Test.YtjjcahbfhfngdaaHpRMod1x

set_option maxRecDepth 100000
set_option maxHeartbeats 20000000
set_option linter.unusedVariables false
namespace Go.HpRM
open Go.Sp Go.HpR
noncomputable section
def m11_0 (pu : PureF) (n : Nat) (n0 : Nat) (c0 : Nat) (q0 : List Value) : Option Value :=
  (bb (allL closed1 q0) (bb (an (Nat.ble (0 + n0 * 1) (len q0)) (allL closed1 (takeL (n0 * 1) (dropL 0 q0)))) (some (.tuple ⟨[(Sl.v 1 (Sl.mk n0 0 (takeL (n0 * 1) (dropL 0 q0)))), (.int .i64 (0 : Int))]⟩)) none) none)
def m11_2 (pu : PureF) (n : Nat) (ih0 : Nat → Nat → Sl → Int → Int → List Value → Option Value) (n0 : Nat) (c0 : Nat) (s0 : Sl) (z0 : Int) (z1 : Int) (q0 : List Value) : Option Value :=
  (bb (allL closed1 q0) (ih0 n0 c0 s0 z0 (wrapF .i64 (Int.add z1 (1 : Int))) q0) none)
def b11_3 (pu : PureF) (n : Nat) (ih0 : Nat → Nat → Sl → Int → Int → List Value → Option Value) (ih1 : Nat → Nat → Sl → Int → Int → Int → Int → List Value → Option Value) (n0 : Nat) (c0 : Nat) (s0 : Sl) (z0 : Int) (z1 : Int) (z2 : Int) (z3 : Int) (q0 : List Value) : Option Value :=
  (bb (allL closed1 q0) (bb (ilt z3 z2) (oo (toN z3) none fun k1 => (bb (an (Nat.blt k1 n0) true) (oo (nthL q0 (0 + k1 * 1)) none fun v0 => (oo (toI .i64 v0) none fun x0 => (bb (an (Nat.blt k1 n0) true) (bb (an (Nat.ble ((0 + k1 * 1) + 1) (len q0)) true) (bb (allL closed1 (setL ([(.int .i64 (wrapF .i64 (Int.add x0 (1 : Int))))] : List Value) (0 + k1 * 1) q0)) (ih1 n0 c0 s0 z0 z1 z2 (wrapF .i64 (Int.add (Int.ofNat k1) (1 : Int))) (setL ([(.int .i64 (wrapF .i64 (Int.add x0 (1 : Int))))] : List Value) (0 + k1 * 1) q0)) none) none) none))) none)) (m11_2 pu n ih0 n0 c0 s0 z0 z1 q0)) none)
def l11_3 (pu : PureF) (n : Nat) (ih0 : Nat → Nat → Sl → Int → Int → List Value → Option Value) (w : Nat) : Nat → Nat → Sl → Int → Int → Int → Int → List Value → Option Value :=
  Nat.rec (motive := fun _ => Nat → Nat → Sl → Int → Int → Int → Int → List Value → Option Value) (fun _ _ _ _ _ _ _ _ => none) (fun _ ih1 => b11_3 pu n ih0 ih1) w
def b11_1 (pu : PureF) (n : Nat) (ih0 : Nat → Nat → Sl → Int → Int → List Value → Option Value) (n0 : Nat) (c0 : Nat) (s0 : Sl) (z0 : Int) (z1 : Int) (q0 : List Value) : Option Value :=
  (bb (allL closed1 q0) (bb (ilt z1 z0) (oo (toN z1) none fun k1 => (bb (an (Nat.blt k1 (Sl.n s0)) true) (oo (nthL (Sl.cs s0) (k1 * 1)) none fun v0 => (oo (toI .i64 v0) none fun x0 => (l11_3 pu n ih0 n n0 c0 s0 z0 (Int.ofNat k1) x0 (0 : Int) q0))) none)) (m11_0 pu n n0 c0 q0)) none)
def l11_1 (pu : PureF) (n : Nat) (w : Nat) : Nat → Nat → Sl → Int → Int → List Value → Option Value :=
  Nat.rec (motive := fun _ => Nat → Nat → Sl → Int → Int → List Value → Option Value) (fun _ _ _ _ _ _ => none) (fun _ ih0 => b11_1 pu n ih0) w
def m11_ (pu : PureF) (n : Nat) (s0 : Sl) : Option Value :=
  (oo (pu 14 [(Sl.v 1 s0)]) none fun v0 => (oo (toI .i64 v0) none fun x0 => (bb (nt (ieq x0 (0 : Int))) (some (.tuple ⟨[(Sl.v 1 (Sl.mk 0 2 [])), (.int .i64 x0)]⟩)) (bb (an (Nat.blt 0 (Sl.n s0)) true) (oo (nthL (Sl.cs s0) (0 * 1)) none fun v1 => (oo (toI .i64 v1) none fun x1 => (oo (toN x1) none fun k1 => (bb (an (Nat.ble k1 k1) (an (Nat.ble (k1 * 8) 1099511627776) (an (Nat.ble k1 1099511627776) true))) (bb (allL closed1 (zeroRow ([(.int .i64 (0 : Int))] : List Value) k1)) (l11_1 pu n n k1 (2 * k1 + bb true 1 0) s0 (Int.ofNat (Sl.n s0)) (0 : Int) (zeroRow ([(.int .i64 (0 : Int))] : List Value) k1)) none) none)))) none))))
def m11 (pu : PureF) (n : Nat) (args : List Value) : Option Value :=
  (ll args none fun a0 args => (ll args (oo (toSl 1 a0) none fun s0 => (m11_ pu n s0)) fun _ _ => none))
theorem w11_0 (pu : PureF) (n : Nat) (n0 : Nat) (c0 : Nat) (q0 : List Value) {v : Value} (hm : m11_0 pu n n0 c0 q0 = some v) : Run tt (callP tabs isP pu (inl pu)) 0 c11_37 (fr 37 [(5, (sc 0 0 1 n0 c0))]) (hp 1 [(oC q0)]) (Fin tt 0 [.tmp 2, .tmp 3] v) := by
  unfold m11_0 at hm
  refine .then ?_
  refine .rK ?_
  replace hm := bb_inv hm; obtain ⟨h0, hm⟩ := hm
  refine .ghs (fr 37 [(2, (sc 0 0 1 n0 c0)), (3, (zI (0 : Int)))]) (hp 1 [(oC q0)]) (.k [0] [] [.tmp 2 false] [2, 3] ⟨trE (by kernel_rfl) h0, trivial⟩) ?_
  replace hm := bb_inv hm; obtain ⟨h1, hm⟩ := hm
  refine .ghs (Fr.puts (fr 37 [(2, (sc 0 0 1 n0 c0)), (3, (zI (0 : Int)))]) [(2, (Sl.v 1 (Sl.mk n0 0 (takeL (n0 * 1) (dropL 0 q0)))))]) (hp 1 [.dead]) (.freezeC 0 2 1 (an (Nat.ble (0 + n0 * 1) (len q0)) (allL closed1 (takeL (n0 * 1) (dropL 0 q0)))) (F1 := (Fr.puts (fr 37 [(2, (sc 0 0 1 n0 c0)), (3, (zI (0 : Int)))]) [(2, (Sl.v 1 (Sl.mk n0 0 (takeL (n0 * 1) (dropL 0 q0)))))])) (H1 := (hp 1 [.dead])) (by kernel_rfl) (by kernel_rfl) h1 (GhS.id _ _)) ?_
  refine .ret ?_
  exact fin_ret (.tuple ⟨[(Sl.v 1 (Sl.mk n0 0 (takeL (n0 * 1) (dropL 0 q0)))), (zI (0 : Int))]⟩) (by kernel_rfl) (by kernel_rfl) hm
theorem r11 {call : CallF} (pu : PureF) (n : Nat) (hcall : call = callP tabs isP pu (inl pu)) {args : List Value} {v : Value} (hm : m11 pu n args = some v) (_ : ∀ x ∈ args, closed2 x = true) : args.length ≤ 37 ∧ Run tt call 0 c11_41 (Fr.made 37 args) (pureHeap tabs) (Fin tt 0 [.tmp 2, .tmp 3] v) := by
  subst hcall
  unfold m11 at hm
  replace hm := ll_uncons hm; obtain ⟨a0, args_0, rfl, hm⟩ := hm
  replace hm := ll_end hm; obtain ⟨rfl, hm⟩ := hm
  replace hm := inv_toSl hm; obtain ⟨s0, rfl, hm⟩ := hm
  unfold m11_ at hm
  refine ⟨by simp, ?_⟩
  refine .same (F' := (fr 37 [(0, (Sl.v 1 s0))])) (H' := (hp 0 [])) (by kernel_rfl) (by kernel_rfl) ?_
  refine .then ?_
  refine .rK ?_
  refine .ghs (fr 37 [(0, (Sl.v 1 s0))]) (hp 0 []) (.k0 [] [] [0]) ?_
  refine .then ?_
  refine .then ?_
  replace hm := oo_inv hm; obtain ⟨v0, h0, hm⟩ := hm
  replace hm := inv_toI hm; obtain ⟨x0, rfl, hm⟩ := hm
  refine .reg (eC 1 ((oo (pu 14 [(Sl.v 1 s0)]) none fun v => some (v, (hp 0 [])))) (call_eq h0) (eE)) ?_
  refine .ghs (fr 37 [(0, (Sl.v 1 s0)), (4, (zI x0))]) (hp 0 []) (.k0 [] [] [0, 4]) ?_
  refine .then ?_
  refine .rK ?_
  refine .ghs (fr 37 [(0, (Sl.v 1 s0)), (4, (zI x0)), (12, (zB (nt (ieq x0 (0 : Int)))))]) (hp 0 []) (.k0 [] [] [0, 4, 12]) ?_
  replace hm := bb_cases hm; rcases hm with ⟨h1, hm⟩ | ⟨h1, hm⟩
  · refine .ifT (nt (ieq x0 (0 : Int))) (by kernel_rfl) h1 ?_
    refine .then ?_
    refine .rK ?_
    refine .ghs (fr 37 [(2, (.slice none 0 0)), (3, (zI x0))]) (hp 0 []) (.k0 [] [] [2, 3]) ?_
    refine .ghs (Fr.puts (fr 37 [(2, (.slice none 0 0)), (3, (zI x0))]) [(2, (Sl.v 1 (Sl.mk 0 2 [])))]) (hp 0 []) (.freeze 0 2 1 (by kernel_rfl) (by kernel_rfl) (GhS.id _ _)) ?_
    refine .ret ?_
    exact fin_ret (.tuple ⟨[(Sl.v 1 (Sl.mk 0 2 [])), (zI x0)]⟩) (by kernel_rfl) (by kernel_rfl) hm
  · refine .ifF (nt (ieq x0 (0 : Int))) (by kernel_rfl) h1 ?_
    refine .skip ?_
    refine .ghs (fr 37 [(0, (Sl.v 1 s0))]) (hp 0 []) (.k0 [] [] [0]) ?_
    refine .then ?_
    replace hm := bb_inv hm; obtain ⟨h2, hm⟩ := hm
    replace hm := oo_inv hm; obtain ⟨v1, h3, hm⟩ := hm
    replace hm := inv_toI hm; obtain ⟨x1, rfl, hm⟩ := hm
    replace hm := oo_inv hm; obtain ⟨k1, h4, hm⟩ := hm
    obtain rfl := toN_some h4
    replace hm := bb_inv hm; obtain ⟨h5, hm⟩ := hm
    refine .reg (eC 1 (keep (hp 0 []) (bb (an (Nat.blt 0 (Sl.n s0)) true) (some (fpV (0 * 1) (Sl.cs s0))) none)) (keep_bb h2) (eD (keep (hp 0 []) (nthL (Sl.cs s0) (0 * 1))) (keep_eq h3) (eD (bb (an (Nat.ble k1 k1) (an (Nat.ble (k1 * 8) 1099511627776) (an (Nat.ble k1 1099511627776) true))) (some ((sc 0 0 1 k1 (2 * k1 + bb true 1 0)), (hp 1 [(oC (zeroRow ([(zI (0 : Int))] : List Value) k1))]))) none) (bb_some h5) (eE)))) ?_
    replace hm := bb_inv hm; obtain ⟨h6, hm⟩ := hm
    refine .ghs (fr 37 [(0, (Sl.v 1 s0)), (5, (sc 0 0 1 k1 (2 * k1 + bb true 1 0)))]) (hp 1 [(oC (zeroRow ([(zI (0 : Int))] : List Value) k1))]) (.k [0] [] [.tmp 5 false] [0, 5] ⟨trE (by kernel_rfl) h6, trivial⟩) ?_
    refine .join (v := v) (fun y : Nat × Nat × List Value => ((fr 37 [(5, (sc 0 0 1 y.1 y.2.1))]), (hp 1 [(oC y.2.2)]))) (fun y => m11_0 pu n y.1 y.2.1 y.2.2) ?_ ?_
    · rintro ⟨n0, c0, q0⟩ hm
      exact w11_0 pu n n0 c0 q0 hm
    · refine .then ?_
      refine .rK ?_
      refine .ghs (fr 37 [(5, (sc 0 0 1 k1 (2 * k1 + bb true 1 0))), (18, (Sl.v 1 s0)), (19, (zI (Int.ofNat (Sl.n s0)))), (20, (zI (0 : Int)))]) (hp 1 [(oC (zeroRow ([(zI (0 : Int))] : List Value) k1))]) (.k [0] [] [.tmp 5 false] [5, 18, 19, 20] ⟨trE (by kernel_rfl) h6, trivial⟩) ?_
      refine .block ?_
      refine .loopM (v := v) (fun y : Nat × Nat × Sl × Int × Int × List Value => ((fr 37 [(5, (sc 0 0 1 y.1 y.2.1)), (18, (Sl.v 1 y.2.2.1)), (19, (zI y.2.2.2.1)), (20, (zI y.2.2.2.2.1))]), (hp 1 [(oC y.2.2.2.2.2)]))) (fun w y => l11_1 pu n w y.1 y.2.1 y.2.2.1 y.2.2.2.1 y.2.2.2.2.1 y.2.2.2.2.2) n ⟨(k1, (2 * k1 + bb true 1 0), s0, (Int.ofNat (Sl.n s0)), (0 : Int), (zeroRow ([(zI (0 : Int))] : List Value) k1)), hm, (.k [0] [] [.tmp 5 false] [5, 18, 19, 20] ⟨trE (by kernel_rfl) h6, trivial⟩)⟩ (fun _ => rfl) ?_
      rintro w0 ⟨n1, c1, s1, z0, z1, q1⟩ hm
      replace hm : b11_1 pu n (l11_1 pu n w0) n1 c1 s1 z0 z1 q1 = some v := hm
      unfold b11_1 at hm
      refine .then ?_
      refine .rK ?_
      replace hm := bb_inv hm; obtain ⟨h7, hm⟩ := hm
      refine .ghs (fr 37 [(5, (sc 0 0 1 n1 c1)), (18, (Sl.v 1 s1)), (19, (zI z0)), (20, (zI z1)), (21, (zB (ilt z1 z0)))]) (hp 1 [(oC q1)]) (.k [0] [] [.tmp 5 false] [5, 18, 19, 20, 21] ⟨trE (by kernel_rfl) h7, trivial⟩) ?_
      refine .then ?_
      replace hm := bb_cases hm; rcases hm with ⟨h8, hm⟩ | ⟨h8, hm⟩
      · refine .ifT (ilt z1 z0) (by kernel_rfl) h8 ?_
        refine .skip ?_
        refine .ghs (fr 37 [(5, (sc 0 0 1 n1 c1)), (18, (Sl.v 1 s1)), (19, (zI z0)), (20, (zI z1))]) (hp 1 [(oC q1)]) (.k [0] [] [.tmp 5 false] [5, 18, 19, 20] ⟨trE (by kernel_rfl) h7, trivial⟩) ?_
        refine .join (v := v) (fun y : Nat × Nat × Sl × Int × Int × List Value => ((fr 37 [(5, (sc 0 0 1 y.1 y.2.1)), (18, (Sl.v 1 y.2.2.1)), (19, (zI y.2.2.2.1)), (20, (zI y.2.2.2.2.1))]), (hp 1 [(oC y.2.2.2.2.2)]))) (fun y => m11_2 pu n (l11_1 pu n w0) y.1 y.2.1 y.2.2.1 y.2.2.2.1 y.2.2.2.2.1 y.2.2.2.2.2) ?_ ?_
        · rintro ⟨n2, c2, s2, z2, z3, q2⟩ hm
          unfold m11_2 at hm
          refine .rK ?_
          replace hm := bb_inv hm; obtain ⟨h9, hm⟩ := hm
          exact ⟨(n2, c2, s2, z2, (wrapF .i64 (Int.add z3 (1 : Int))), q2), hm, (.k [0] [] [.tmp 5 false] [5, 18, 19, 20] ⟨trE (by kernel_rfl) h9, trivial⟩)⟩
        · refine .block ?_
          refine .then ?_
          replace hm := oo_inv hm; obtain ⟨k2, h10, hm⟩ := hm
          obtain rfl := toN_some h10
          replace hm := bb_inv hm; obtain ⟨h11, hm⟩ := hm
          replace hm := oo_inv hm; obtain ⟨v2, h12, hm⟩ := hm
          replace hm := inv_toI hm; obtain ⟨x2, rfl, hm⟩ := hm
          refine .reg (eD (keep (hp 1 [(oC q1)]) (bb (an (Nat.blt k2 (Sl.n s1)) true) (some (fpV (k2 * 1) (Sl.cs s1))) none)) (keep_bb h11) (eD (keep (hp 1 [(oC q1)]) (nthL (Sl.cs s1) (k2 * 1))) (keep_eq h12) (eE))) ?_
          refine .ghs (fr 37 [(5, (sc 0 0 1 n1 c1)), (7, (zI x2)), (18, (Sl.v 1 s1)), (19, (zI z0)), (20, (zI (Int.ofNat k2)))]) (hp 1 [(oC q1)]) (.k [0] [] [.tmp 5 false] [5, 7, 18, 19, 20] ⟨trE (by kernel_rfl) h7, trivial⟩) ?_
          refine .then ?_
          refine .rK ?_
          refine .ghs (fr 37 [(5, (sc 0 0 1 n1 c1)), (18, (Sl.v 1 s1)), (19, (zI z0)), (20, (zI (Int.ofNat k2))), (24, (zI x2)), (25, (zI (0 : Int)))]) (hp 1 [(oC q1)]) (.k [0] [] [.tmp 5 false] [5, 18, 19, 20, 24, 25] ⟨trE (by kernel_rfl) h7, trivial⟩) ?_
          refine .block ?_
          refine .loopM (v := v) (fun y : Nat × Nat × Sl × Int × Int × Int × Int × List Value => ((fr 37 [(5, (sc 0 0 1 y.1 y.2.1)), (18, (Sl.v 1 y.2.2.1)), (19, (zI y.2.2.2.1)), (20, (zI y.2.2.2.2.1)), (24, (zI y.2.2.2.2.2.1)), (25, (zI y.2.2.2.2.2.2.1))]), (hp 1 [(oC y.2.2.2.2.2.2.2)]))) (fun w y => l11_3 pu n (l11_1 pu n w0) w y.1 y.2.1 y.2.2.1 y.2.2.2.1 y.2.2.2.2.1 y.2.2.2.2.2.1 y.2.2.2.2.2.2.1 y.2.2.2.2.2.2.2) n ⟨(n1, c1, s1, z0, (Int.ofNat k2), x2, (0 : Int), q1), hm, (.k [0] [] [.tmp 5 false] [5, 18, 19, 20, 24, 25] ⟨trE (by kernel_rfl) h7, trivial⟩)⟩ (fun _ => rfl) ?_
          rintro w1 ⟨n3, c4, s3, z4, z5, z6, z7, q3⟩ hm
          replace hm : b11_3 pu n (l11_1 pu n w0) (l11_3 pu n (l11_1 pu n w0) w1) n3 c4 s3 z4 z5 z6 z7 q3 = some v := hm
          unfold b11_3 at hm
          refine .then ?_
          refine .rK ?_
          replace hm := bb_inv hm; obtain ⟨h13, hm⟩ := hm
          refine .ghs (fr 37 [(5, (sc 0 0 1 n3 c4)), (18, (Sl.v 1 s3)), (19, (zI z4)), (20, (zI z5)), (24, (zI z6)), (25, (zI z7)), (26, (zB (ilt z7 z6)))]) (hp 1 [(oC q3)]) (.k [0] [] [.tmp 5 false] [5, 18, 19, 20, 24, 25, 26] ⟨trE (by kernel_rfl) h13, trivial⟩) ?_
          refine .then ?_
          replace hm := bb_cases hm; rcases hm with ⟨h14, hm⟩ | ⟨h14, hm⟩
          · refine .ifT (ilt z7 z6) (by kernel_rfl) h14 ?_
            refine .skip ?_
            refine .ghs (fr 37 [(5, (sc 0 0 1 n3 c4)), (18, (Sl.v 1 s3)), (19, (zI z4)), (20, (zI z5)), (24, (zI z6)), (25, (zI z7))]) (hp 1 [(oC q3)]) (.k [0] [] [.tmp 5 false] [5, 18, 19, 20, 24, 25] ⟨trE (by kernel_rfl) h13, trivial⟩) ?_
            refine .then ?_
            refine .block ?_
            refine .then ?_
            refine .rK ?_
            refine .ghs (fr 37 [(5, (sc 0 0 1 n3 c4)), (8, (zI z7)), (18, (Sl.v 1 s3)), (19, (zI z4)), (20, (zI z5)), (24, (zI z6)), (25, (zI z7))]) (hp 1 [(oC q3)]) (.k [0] [] [.tmp 5 false] [5, 8, 18, 19, 20, 24, 25] ⟨trE (by kernel_rfl) h13, trivial⟩) ?_
            replace hm := oo_inv hm; obtain ⟨k3, h15, hm⟩ := hm
            obtain rfl := toN_some h15
            replace hm := bb_inv hm; obtain ⟨h16, hm⟩ := hm
            replace hm := oo_inv hm; obtain ⟨v3, h17, hm⟩ := hm
            replace hm := inv_toI hm; obtain ⟨x3, rfl, hm⟩ := hm
            replace hm := bb_inv hm; obtain ⟨h18, hm⟩ := hm
            replace hm := bb_inv hm; obtain ⟨h19, hm⟩ := hm
            refine .reg (eC 2 (keep (hp 1 [(oC q3)]) (bb (an (Nat.blt k3 n3) true) (some (.pointer (some ⟨0, (0 + k3 * 1), none⟩))) none)) (keep_bb h16) (eD (keep (hp 1 [(oC q3)]) (nthL q3 (0 + k3 * 1))) (keep_eq h17) (eC 1 (keep (hp 1 [(oC q3)]) (bb (an (Nat.blt k3 n3) true) (some (.pointer (some ⟨0, (0 + k3 * 1), none⟩))) none)) (keep_bb h18) (eD (done (bb (an (Nat.ble ((0 + k3 * 1) + 1) (len q3)) true) (some (hp 1 [(oC (setL ([(zI (wrapF .i64 (Int.add x3 (1 : Int))))] : List Value) (0 + k3 * 1) q3))])) none) undef) (done_bb h19) (eE))))) ?_
            replace hm := bb_inv hm; obtain ⟨h20, hm⟩ := hm
            refine .ghs (fr 37 [(5, (sc 0 0 1 n3 c4)), (18, (Sl.v 1 s3)), (19, (zI z4)), (20, (zI z5)), (24, (zI z6)), (25, (zI (Int.ofNat k3)))]) (hp 1 [(oC (setL ([(zI (wrapF .i64 (Int.add x3 (1 : Int))))] : List Value) (0 + k3 * 1) q3))]) (.k [0] [] [.tmp 5 false] [5, 18, 19, 20, 24, 25] ⟨trE (by kernel_rfl) h20, trivial⟩) ?_
            refine .rK ?_
            exact ⟨(n3, c4, s3, z4, z5, z6, (wrapF .i64 (Int.add (Int.ofNat k3) (1 : Int))), (setL ([(zI (wrapF .i64 (Int.add x3 (1 : Int))))] : List Value) (0 + k3 * 1) q3)), hm, (.k [0] [] [.tmp 5 false] [5, 18, 19, 20, 24, 25] ⟨trE (by kernel_rfl) h20, trivial⟩)⟩
          · refine .ifF (ilt z7 z6) (by kernel_rfl) h14 ?_
            refine .exit ?_
            exact ⟨(n3, c4, s3, z4, z5, q3), hm, (.k [0] [] [.tmp 5 false] [5, 18, 19, 20] ⟨trE (by kernel_rfl) h13, trivial⟩)⟩
      · refine .ifF (ilt z1 z0) (by kernel_rfl) h8 ?_
        refine .exit ?_
        exact ⟨(n1, c1, q1), hm, (.k [0] [] [.tmp 5 false] [5] ⟨trE (by kernel_rfl) h7, trivial⟩)⟩
def m12_0 (pu : PureF) (n : Nat) (n0 : Nat) (c0 : Nat) (q0 : List Value) : Option Value :=
  (bb (allL closed1 q0) (bb (an (Nat.ble (0 + n0 * 1) (len q0)) (allL closed1 (takeL (n0 * 1) (dropL 0 q0)))) (some (.tuple ⟨[(Sl.v 1 (Sl.mk n0 0 (takeL (n0 * 1) (dropL 0 q0)))), (.int .i64 (0 : Int))]⟩)) none) none)
def m12_2 (pu : PureF) (n : Nat) (ih0 : Sl → Nat → Nat → Int → List Value → Option Value) (s0 : Sl) (n0 : Nat) (c0 : Nat) (z0 : Int) (q0 : List Value) : Option Value :=
  (bb (allL closed1 q0) (ih0 s0 n0 c0 (wrapF .i64 (Int.add z0 (1 : Int))) q0) none)
def m12_3 (pu : PureF) (n : Nat) (ih0 : Sl → Nat → Nat → Int → List Value → Option Value) (s0 : Sl) (n0 : Nat) (c0 : Nat) (z0 : Int) (z1 : Int) (q0 : List Value) : Option Value :=
  (bb (growC 1 8 n0 c0 1 q0) (bb (allL closed1 (appL (dropL 0 q0) [(.int .i64 z1)])) (m12_2 pu n ih0 s0 (n0 + 1) (2 * (n0 + 1) + bb false 1 0) z0 (appL (dropL 0 q0) [(.int .i64 z1)])) none) none)
def m12_5 (pu : PureF) (n : Nat) (ih0 : Sl → Nat → Nat → Int → List Value → Option Value) (ih1 : Sl → Nat → Nat → Int → Int → Int → List Value → Option Value) (s0 : Sl) (n0 : Nat) (c0 : Nat) (z0 : Int) (z1 : Int) (z2 : Int) (q0 : List Value) : Option Value :=
  (bb (allL closed1 q0) (ih1 s0 n0 c0 z0 z1 (wrapF .i64 (Int.add z2 (1 : Int))) q0) none)
def b12_4 (pu : PureF) (n : Nat) (ih0 : Sl → Nat → Nat → Int → List Value → Option Value) (ih1 : Sl → Nat → Nat → Int → Int → Int → List Value → Option Value) (s0 : Sl) (n0 : Nat) (c0 : Nat) (z0 : Int) (z1 : Int) (z2 : Int) (q0 : List Value) : Option Value :=
  (bb (allL closed1 q0) (bb (ilt z2 (Int.ofNat (Sl.n s0))) (oo (toN z2) none fun k1 => (bb (an (Nat.blt k1 (Sl.n s0)) true) (oo (nthL (Sl.cs s0) (k1 * 1)) none fun v0 => (oo (toI .i64 v0) none fun x0 => (bb (nt (ilt x0 z0)) (m12_5 pu n ih0 ih1 s0 n0 c0 z0 (wrapF .i64 (Int.add z1 (1 : Int))) (Int.ofNat k1) q0) (m12_5 pu n ih0 ih1 s0 n0 c0 z0 z1 (Int.ofNat k1) q0)))) none)) (m12_3 pu n ih0 s0 n0 c0 z0 z1 q0)) none)
def l12_4 (pu : PureF) (n : Nat) (ih0 : Sl → Nat → Nat → Int → List Value → Option Value) (w : Nat) : Sl → Nat → Nat → Int → Int → Int → List Value → Option Value :=
  Nat.rec (motive := fun _ => Sl → Nat → Nat → Int → Int → Int → List Value → Option Value) (fun _ _ _ _ _ _ _ => none) (fun _ ih1 => b12_4 pu n ih0 ih1) w
def b12_1 (pu : PureF) (n : Nat) (ih0 : Sl → Nat → Nat → Int → List Value → Option Value) (s0 : Sl) (n0 : Nat) (c0 : Nat) (z0 : Int) (q0 : List Value) : Option Value :=
  (bb (an (Nat.blt 0 (Sl.n s0)) true) (oo (nthL (Sl.cs s0) (0 * 1)) none fun v0 => (oo (toI .i64 v0) none fun x0 => (bb (allL closed1 q0) (bb (nt (ilt x0 z0)) (l12_4 pu n ih0 n s0 n0 c0 z0 (0 : Int) (0 : Int) q0) (m12_0 pu n n0 c0 q0)) none))) none)
def l12_1 (pu : PureF) (n : Nat) (w : Nat) : Sl → Nat → Nat → Int → List Value → Option Value :=
  Nat.rec (motive := fun _ => Sl → Nat → Nat → Int → List Value → Option Value) (fun _ _ _ _ _ => none) (fun _ ih0 => b12_1 pu n ih0) w
def m12_ (pu : PureF) (n : Nat) (s0 : Sl) : Option Value :=
  (oo (pu 15 [(Sl.v 1 s0)]) none fun v0 => (oo (toI .i64 v0) none fun x0 => (bb (nt (ieq x0 (0 : Int))) (some (.tuple ⟨[(Sl.v 1 (Sl.mk 0 2 [])), (.int .i64 x0)]⟩)) (l12_1 pu n n s0 0 0 (1 : Int) ([] : List Value)))))
def m12 (pu : PureF) (n : Nat) (args : List Value) : Option Value :=
  (ll args none fun a0 args => (ll args (oo (toSl 1 a0) none fun s0 => (m12_ pu n s0)) fun _ _ => none))
theorem w12_0 (pu : PureF) (n : Nat) (n0 : Nat) (c0 : Nat) (q0 : List Value) {v : Value} (hm : m12_0 pu n n0 c0 q0 = some v) : Run tt (callP tabs isP pu (inl pu)) 0 c12_39 (fr 40 [(5, (sc 0 0 1 n0 c0))]) (hp 1 [(oC q0)]) (Fin tt 0 [.tmp 2, .tmp 3] v) := by
  unfold m12_0 at hm
  refine .then ?_
  refine .rK ?_
  replace hm := bb_inv hm; obtain ⟨h0, hm⟩ := hm
  refine .ghs (fr 40 [(2, (sc 0 0 1 n0 c0)), (3, (zI (0 : Int)))]) (hp 1 [(oC q0)]) (.k [0] [] [.tmp 2 false] [2, 3] ⟨trE (by kernel_rfl) h0, trivial⟩) ?_
  replace hm := bb_inv hm; obtain ⟨h1, hm⟩ := hm
  refine .ghs (Fr.puts (fr 40 [(2, (sc 0 0 1 n0 c0)), (3, (zI (0 : Int)))]) [(2, (Sl.v 1 (Sl.mk n0 0 (takeL (n0 * 1) (dropL 0 q0)))))]) (hp 1 [.dead]) (.freezeC 0 2 1 (an (Nat.ble (0 + n0 * 1) (len q0)) (allL closed1 (takeL (n0 * 1) (dropL 0 q0)))) (F1 := (Fr.puts (fr 40 [(2, (sc 0 0 1 n0 c0)), (3, (zI (0 : Int)))]) [(2, (Sl.v 1 (Sl.mk n0 0 (takeL (n0 * 1) (dropL 0 q0)))))])) (H1 := (hp 1 [.dead])) (by kernel_rfl) (by kernel_rfl) h1 (GhS.id _ _)) ?_
  refine .ret ?_
  exact fin_ret (.tuple ⟨[(Sl.v 1 (Sl.mk n0 0 (takeL (n0 * 1) (dropL 0 q0)))), (zI (0 : Int))]⟩) (by kernel_rfl) (by kernel_rfl) hm
theorem r12 {call : CallF} (pu : PureF) (n : Nat) (hcall : call = callP tabs isP pu (inl pu)) {args : List Value} {v : Value} (hm : m12 pu n args = some v) (_ : ∀ x ∈ args, closed2 x = true) : args.length ≤ 40 ∧ Run tt call 0 c12_44 (Fr.made 40 args) (pureHeap tabs) (Fin tt 0 [.tmp 2, .tmp 3] v) := by
  subst hcall
  unfold m12 at hm
  replace hm := ll_uncons hm; obtain ⟨a0, args_0, rfl, hm⟩ := hm
  replace hm := ll_end hm; obtain ⟨rfl, hm⟩ := hm
  replace hm := inv_toSl hm; obtain ⟨s0, rfl, hm⟩ := hm
  unfold m12_ at hm
  refine ⟨by simp, ?_⟩
  refine .same (F' := (fr 40 [(0, (Sl.v 1 s0))])) (H' := (hp 0 [])) (by kernel_rfl) (by kernel_rfl) ?_
  refine .then ?_
  refine .rK ?_
  refine .ghs (fr 40 [(0, (Sl.v 1 s0))]) (hp 0 []) (.k0 [] [] [0]) ?_
  refine .then ?_
  replace hm := oo_inv hm; obtain ⟨v0, h0, hm⟩ := hm
  replace hm := inv_toI hm; obtain ⟨x0, rfl, hm⟩ := hm
  refine .reg (eC 1 ((oo (pu 15 [(Sl.v 1 s0)]) none fun v => some (v, (hp 0 [])))) (call_eq h0) (eE)) ?_
  refine .ghs (fr 40 [(0, (Sl.v 1 s0)), (4, (zI x0))]) (hp 0 []) (.k0 [] [] [0, 4]) ?_
  refine .then ?_
  refine .then ?_
  refine .rK ?_
  refine .ghs (fr 40 [(0, (Sl.v 1 s0)), (4, (zI x0)), (12, (zB (nt (ieq x0 (0 : Int)))))]) (hp 0 []) (.k0 [] [] [0, 4, 12]) ?_
  replace hm := bb_cases hm; rcases hm with ⟨h1, hm⟩ | ⟨h1, hm⟩
  · refine .ifT (nt (ieq x0 (0 : Int))) (by kernel_rfl) h1 ?_
    refine .then ?_
    refine .rK ?_
    refine .ghs (fr 40 [(2, (.slice none 0 0)), (3, (zI x0))]) (hp 0 []) (.k0 [] [] [2, 3]) ?_
    refine .ghs (Fr.puts (fr 40 [(2, (.slice none 0 0)), (3, (zI x0))]) [(2, (Sl.v 1 (Sl.mk 0 2 [])))]) (hp 0 []) (.freeze 0 2 1 (by kernel_rfl) (by kernel_rfl) (GhS.id _ _)) ?_
    refine .ret ?_
    exact fin_ret (.tuple ⟨[(Sl.v 1 (Sl.mk 0 2 [])), (zI x0)]⟩) (by kernel_rfl) (by kernel_rfl) hm
  · refine .ifF (nt (ieq x0 (0 : Int))) (by kernel_rfl) h1 ?_
    refine .skip ?_
    refine .ghs (fr 40 [(0, (Sl.v 1 s0))]) (hp 0 []) (.k0 [] [] [0]) ?_
    refine .then ?_
    refine .rK ?_
    refine .ghs (fr 40 [(0, (Sl.v 1 s0)), (5, (.slice none 0 0))]) (hp 0 []) (.k0 [] [] [0, 5]) ?_
    refine .join (v := v) (fun y : Nat × Nat × List Value => ((fr 40 [(5, (sc 0 0 1 y.1 y.2.1))]), (hp 1 [(oC y.2.2)]))) (fun y => m12_0 pu n y.1 y.2.1 y.2.2) ?_ ?_
    · rintro ⟨n0, c0, q0⟩ hm
      exact w12_0 pu n n0 c0 q0 hm
    · refine .then ?_
      refine .rK ?_
      refine .ghs (fr 40 [(0, (Sl.v 1 s0)), (5, (.slice none 0 0)), (6, (zI (1 : Int)))]) (hp 0 []) (.k0 [] [] [0, 5, 6]) ?_
      refine .block ?_
      refine .loopM (v := v) (fun y : Sl × Nat × Nat × Int × List Value => ((fr 40 [(0, (Sl.v 1 y.1)), (5, (sc 0 0 1 y.2.1 y.2.2.1)), (6, (zI y.2.2.2.1))]), (hp 1 [(oC y.2.2.2.2)]))) (fun w y => l12_1 pu n w y.1 y.2.1 y.2.2.1 y.2.2.2.1 y.2.2.2.2) n ⟨(s0, 0, 0, (1 : Int), ([] : List Value)), hm, (.thaw 5 1 (by kernel_rfl) (.k0 [] [.tmp 5 false] [0, 5, 6]))⟩ (fun _ => rfl) ?_
      rintro w0 ⟨s1, n1, c1, z0, q1⟩ hm
      replace hm : b12_1 pu n (l12_1 pu n w0) s1 n1 c1 z0 q1 = some v := hm
      unfold b12_1 at hm
      refine .then ?_
      refine .then ?_
      replace hm := bb_inv hm; obtain ⟨h2, hm⟩ := hm
      replace hm := oo_inv hm; obtain ⟨v1, h3, hm⟩ := hm
      replace hm := inv_toI hm; obtain ⟨x1, rfl, hm⟩ := hm
      refine .reg (eC 2 (keep (hp 1 [(oC q1)]) (bb (an (Nat.blt 0 (Sl.n s1)) true) (some (fpV (0 * 1) (Sl.cs s1))) none)) (keep_bb h2) (eD (keep (hp 1 [(oC q1)]) (nthL (Sl.cs s1) (0 * 1))) (keep_eq h3) (eE))) ?_
      replace hm := bb_inv hm; obtain ⟨h4, hm⟩ := hm
      refine .ghs (fr 40 [(0, (Sl.v 1 s1)), (5, (sc 0 0 1 n1 c1)), (6, (zI z0)), (18, (zB (nt (ilt x1 z0))))]) (hp 1 [(oC q1)]) (.k [0] [] [.tmp 5 false] [0, 5, 6, 18] ⟨trE (by kernel_rfl) h4, trivial⟩) ?_
      replace hm := bb_cases hm; rcases hm with ⟨h5, hm⟩ | ⟨h5, hm⟩
      · refine .ifT (nt (ilt x1 z0)) (by kernel_rfl) h5 ?_
        refine .skip ?_
        refine .ghs (fr 40 [(0, (Sl.v 1 s1)), (5, (sc 0 0 1 n1 c1)), (6, (zI z0))]) (hp 1 [(oC q1)]) (.k [0] [] [.tmp 5 false] [0, 5, 6] ⟨trE (by kernel_rfl) h4, trivial⟩) ?_
        refine .join (v := v) (fun y : Sl × Nat × Nat × Int × List Value => ((fr 40 [(0, (Sl.v 1 y.1)), (5, (sc 0 0 1 y.2.1 y.2.2.1)), (6, (zI y.2.2.2.1))]), (hp 1 [(oC y.2.2.2.2)]))) (fun y => m12_2 pu n (l12_1 pu n w0) y.1 y.2.1 y.2.2.1 y.2.2.2.1 y.2.2.2.2) ?_ ?_
        · rintro ⟨s2, n2, c2, z1, q2⟩ hm
          unfold m12_2 at hm
          refine .rK ?_
          replace hm := bb_inv hm; obtain ⟨h6, hm⟩ := hm
          exact ⟨(s2, n2, c2, (wrapF .i64 (Int.add z1 (1 : Int))), q2), hm, (.k [0] [] [.tmp 5 false] [0, 5, 6] ⟨trE (by kernel_rfl) h6, trivial⟩)⟩
        · refine .block ?_
          refine .then ?_
          refine .rK ?_
          refine .ghs (fr 40 [(0, (Sl.v 1 s1)), (5, (sc 0 0 1 n1 c1)), (6, (zI z0)), (7, (zI (0 : Int)))]) (hp 1 [(oC q1)]) (.k [0] [] [.tmp 5 false] [0, 5, 6, 7] ⟨trE (by kernel_rfl) h4, trivial⟩) ?_
          refine .join (v := v) (fun y : Sl × Nat × Nat × Int × Int × List Value => ((fr 40 [(0, (Sl.v 1 y.1)), (5, (sc 0 0 1 y.2.1 y.2.2.1)), (6, (zI y.2.2.2.1)), (7, (zI y.2.2.2.2.1))]), (hp 1 [(oC y.2.2.2.2.2)]))) (fun y => m12_3 pu n (l12_1 pu n w0) y.1 y.2.1 y.2.2.1 y.2.2.2.1 y.2.2.2.2.1 y.2.2.2.2.2) ?_ ?_
          · rintro ⟨s3, n3, c4, z2, z3, q3⟩ hm
            unfold m12_3 at hm
            replace hm := bb_inv hm; obtain ⟨h7, hm⟩ := hm
            refine .reg (eC 3 (growD 1 8 n3 c4 1 0 q3 [(zI z3)] [] (hp 2 [(oC q3), (oC [(zI z3)])])) (growD_eq h7) (eE)) ?_
            replace hm := bb_inv hm; obtain ⟨h8, hm⟩ := hm
            exact ⟨(s3, (n3 + 1), (d2 (n3 + 1)), z2, (appL (dropL 0 q3) [(zI z3)])), hm, (.k [2] [] [.tmp 5 false] [0, 5, 6] ⟨trE (by kernel_rfl) h8, trivial⟩)⟩
          · refine .then ?_
            refine .rK ?_
            refine .ghs (fr 40 [(0, (Sl.v 1 s1)), (5, (sc 0 0 1 n1 c1)), (6, (zI z0)), (7, (zI (0 : Int))), (8, (zI (0 : Int)))]) (hp 1 [(oC q1)]) (.k [0] [] [.tmp 5 false] [0, 5, 6, 7, 8] ⟨trE (by kernel_rfl) h4, trivial⟩) ?_
            refine .block ?_
            refine .loopM (v := v) (fun y : Sl × Nat × Nat × Int × Int × Int × List Value => ((fr 40 [(0, (Sl.v 1 y.1)), (5, (sc 0 0 1 y.2.1 y.2.2.1)), (6, (zI y.2.2.2.1)), (7, (zI y.2.2.2.2.1)), (8, (zI y.2.2.2.2.2.1))]), (hp 1 [(oC y.2.2.2.2.2.2)]))) (fun w y => l12_4 pu n (l12_1 pu n w0) w y.1 y.2.1 y.2.2.1 y.2.2.2.1 y.2.2.2.2.1 y.2.2.2.2.2.1 y.2.2.2.2.2.2) n ⟨(s1, n1, c1, z0, (0 : Int), (0 : Int), q1), hm, (.k [0] [] [.tmp 5 false] [0, 5, 6, 7, 8] ⟨trE (by kernel_rfl) h4, trivial⟩)⟩ (fun _ => rfl) ?_
            rintro w1 ⟨s4, n4, c16, z4, z5, z6, q4⟩ hm
            replace hm : b12_4 pu n (l12_1 pu n w0) (l12_4 pu n (l12_1 pu n w0) w1) s4 n4 c16 z4 z5 z6 q4 = some v := hm
            unfold b12_4 at hm
            refine .then ?_
            refine .then ?_
            refine .rK ?_
            replace hm := bb_inv hm; obtain ⟨h9, hm⟩ := hm
            refine .ghs (fr 40 [(0, (Sl.v 1 s4)), (5, (sc 0 0 1 n4 c16)), (6, (zI z4)), (7, (zI z5)), (8, (zI z6)), (24, (zB (ilt z6 (Int.ofNat (Sl.n s4)))))]) (hp 1 [(oC q4)]) (.k [0] [] [.tmp 5 false] [0, 5, 6, 7, 8, 24] ⟨trE (by kernel_rfl) h9, trivial⟩) ?_
            replace hm := bb_cases hm; rcases hm with ⟨h10, hm⟩ | ⟨h10, hm⟩
            · refine .ifT (ilt z6 (Int.ofNat (Sl.n s4))) (by kernel_rfl) h10 ?_
              refine .skip ?_
              refine .ghs (fr 40 [(0, (Sl.v 1 s4)), (5, (sc 0 0 1 n4 c16)), (6, (zI z4)), (7, (zI z5)), (8, (zI z6))]) (hp 1 [(oC q4)]) (.k [0] [] [.tmp 5 false] [0, 5, 6, 7, 8] ⟨trE (by kernel_rfl) h9, trivial⟩) ?_
              refine .join (v := v) (fun y : Sl × Nat × Nat × Int × Int × Int × List Value => ((fr 40 [(0, (Sl.v 1 y.1)), (5, (sc 0 0 1 y.2.1 y.2.2.1)), (6, (zI y.2.2.2.1)), (7, (zI y.2.2.2.2.1)), (8, (zI y.2.2.2.2.2.1))]), (hp 1 [(oC y.2.2.2.2.2.2)]))) (fun y => m12_5 pu n (l12_1 pu n w0) (l12_4 pu n (l12_1 pu n w0) w1) y.1 y.2.1 y.2.2.1 y.2.2.2.1 y.2.2.2.2.1 y.2.2.2.2.2.1 y.2.2.2.2.2.2) ?_ ?_
              · rintro ⟨s5, n5, c17, z7, z8, z9, q5⟩ hm
                unfold m12_5 at hm
                refine .rK ?_
                replace hm := bb_inv hm; obtain ⟨h11, hm⟩ := hm
                exact ⟨(s5, n5, c17, z7, z8, (wrapF .i64 (Int.add z9 (1 : Int))), q5), hm, (.k [0] [] [.tmp 5 false] [0, 5, 6, 7, 8] ⟨trE (by kernel_rfl) h11, trivial⟩)⟩
              · refine .block ?_
                refine .then ?_
                replace hm := oo_inv hm; obtain ⟨k1, h12, hm⟩ := hm
                obtain rfl := toN_some h12
                replace hm := bb_inv hm; obtain ⟨h13, hm⟩ := hm
                replace hm := oo_inv hm; obtain ⟨v2, h14, hm⟩ := hm
                replace hm := inv_toI hm; obtain ⟨x2, rfl, hm⟩ := hm
                refine .reg (eC 2 (keep (hp 1 [(oC q4)]) (bb (an (Nat.blt k1 (Sl.n s4)) true) (some (fpV (k1 * 1) (Sl.cs s4))) none)) (keep_bb h13) (eD (keep (hp 1 [(oC q4)]) (nthL (Sl.cs s4) (k1 * 1))) (keep_eq h14) (eE))) ?_
                refine .ghs (fr 40 [(0, (Sl.v 1 s4)), (5, (sc 0 0 1 n4 c16)), (6, (zI z4)), (7, (zI z5)), (8, (zI (Int.ofNat k1))), (32, (zB (nt (ilt x2 z4))))]) (hp 1 [(oC q4)]) (.k [0] [] [.tmp 5 false] [0, 5, 6, 7, 8, 32] ⟨trE (by kernel_rfl) h9, trivial⟩) ?_
                replace hm := bb_cases hm; rcases hm with ⟨h15, hm⟩ | ⟨h15, hm⟩
                · refine .ifT (nt (ilt x2 z4)) (by kernel_rfl) h15 ?_
                  refine .rK ?_
                  exact ⟨(s4, n4, c16, z4, (wrapF .i64 (Int.add z5 (1 : Int))), (Int.ofNat k1), q4), hm, (.k [0] [] [.tmp 5 false] [0, 5, 6, 7, 8] ⟨trE (by kernel_rfl) h9, trivial⟩)⟩
                · refine .ifF (nt (ilt x2 z4)) (by kernel_rfl) h15 ?_
                  refine .skip ?_
                  exact ⟨(s4, n4, c16, z4, z5, (Int.ofNat k1), q4), hm, (.k [0] [] [.tmp 5 false] [0, 5, 6, 7, 8] ⟨trE (by kernel_rfl) h9, trivial⟩)⟩
            · refine .ifF (ilt z6 (Int.ofNat (Sl.n s4))) (by kernel_rfl) h10 ?_
              refine .exit ?_
              exact ⟨(s4, n4, c16, z4, z5, q4), hm, (.k [0] [] [.tmp 5 false] [0, 5, 6, 7] ⟨trE (by kernel_rfl) h9, trivial⟩)⟩
      · refine .ifF (nt (ilt x1 z0)) (by kernel_rfl) h5 ?_
        refine .exit ?_
        exact ⟨(n1, c1, q1), hm, (.k [0] [] [.tmp 5 false] [5] ⟨trE (by kernel_rfl) h4, trivial⟩)⟩
def m13_0 (pu : PureF) (n : Nat) : Option Value :=
  (some (.bool true))
def b13_1 (pu : PureF) (n : Nat) (ih0 : Sl → Sl → Int → Option Value) (s0 : Sl) (s1 : Sl) (z0 : Int) : Option Value :=
  (bb (ilt z0 (Int.ofNat (Sl.n s0))) (oo (toN z0) none fun k1 => (bb (an (Nat.blt k1 (Sl.n s0)) true) (oo (nthL (Sl.cs s0) (k1 * 1)) none fun v0 => (oo (toI .i64 v0) none fun x0 => (bb (an (Nat.blt k1 (Sl.n s1)) true) (oo (nthL (Sl.cs s1) (k1 * 1)) none fun v1 => (oo (toI .i64 v1) none fun x1 => (bb (nt (ieq x0 x1)) (some (.bool false)) (ih0 s0 s1 (wrapF .i64 (Int.add (Int.ofNat k1) (1 : Int))))))) none))) none)) (m13_0 pu n))
def l13_1 (pu : PureF) (n : Nat) (w : Nat) : Sl → Sl → Int → Option Value :=
  Nat.rec (motive := fun _ => Sl → Sl → Int → Option Value) (fun _ _ _ => none) (fun _ ih0 => b13_1 pu n ih0) w
def m13_ (pu : PureF) (n : Nat) (s0 : Sl) (s1 : Sl) : Option Value :=
  (bb (nt (ieq (Int.ofNat (Sl.n s0)) (Int.ofNat (Sl.n s1)))) (some (.bool false)) (l13_1 pu n n s0 s1 (0 : Int)))
def m13 (pu : PureF) (n : Nat) (args : List Value) : Option Value :=
  (ll args none fun a0 args => (ll args none fun a1 args => (ll args (oo (toSl 1 a0) none fun s0 => (oo (toSl 1 a1) none fun s1 => (m13_ pu n s0 s1))) fun _ _ => none)))
theorem w13_0 (pu : PureF) (n : Nat) {v : Value} (hm : m13_0 pu n = some v) : Run tt (callP tabs isP pu (inl pu)) 0 c13_23 (fr 26 []) (hp 0 []) (Fin tt 0 [.tmp 4] v) := by
  unfold m13_0 at hm
  refine .then ?_
  refine .rK ?_
  refine .ghs (fr 26 [(4, (zB true))]) (hp 0 []) (.k0 [] [] [4]) ?_
  refine .ret ?_
  exact fin_ret (zB true) (by kernel_rfl) (by kernel_rfl) hm
theorem r13 {call : CallF} (pu : PureF) (n : Nat) (hcall : call = callP tabs isP pu (inl pu)) {args : List Value} {v : Value} (hm : m13 pu n args = some v) (_ : ∀ x ∈ args, closed2 x = true) : args.length ≤ 26 ∧ Run tt call 0 c13_26 (Fr.made 26 args) (pureHeap tabs) (Fin tt 0 [.tmp 4] v) := by
  subst hcall
  unfold m13 at hm
  replace hm := ll_uncons hm; obtain ⟨a0, args_0, rfl, hm⟩ := hm
  replace hm := ll_uncons hm; obtain ⟨a1, args_1, rfl, hm⟩ := hm
  replace hm := ll_end hm; obtain ⟨rfl, hm⟩ := hm
  replace hm := inv_toSl hm; obtain ⟨s0, rfl, hm⟩ := hm
  replace hm := inv_toSl hm; obtain ⟨s1, rfl, hm⟩ := hm
  unfold m13_ at hm
  refine ⟨by simp, ?_⟩
  refine .same (F' := (fr 26 [(0, (Sl.v 1 s0)), (1, (Sl.v 1 s1))])) (H' := (hp 0 [])) (by kernel_rfl) (by kernel_rfl) ?_
  refine .then ?_
  refine .rK ?_
  refine .ghs (fr 26 [(0, (Sl.v 1 s0)), (1, (Sl.v 1 s1))]) (hp 0 []) (.k0 [] [] [0, 1]) ?_
  refine .then ?_
  refine .then ?_
  refine .rK ?_
  refine .ghs (fr 26 [(0, (Sl.v 1 s0)), (1, (Sl.v 1 s1)), (10, (zB (nt (ieq (Int.ofNat (Sl.n s0)) (Int.ofNat (Sl.n s1))))))]) (hp 0 []) (.k0 [] [] [0, 1, 10]) ?_
  replace hm := bb_cases hm; rcases hm with ⟨h0, hm⟩ | ⟨h0, hm⟩
  · refine .ifT (nt (ieq (Int.ofNat (Sl.n s0)) (Int.ofNat (Sl.n s1)))) (by kernel_rfl) h0 ?_
    refine .then ?_
    refine .rK ?_
    refine .ghs (fr 26 [(4, (zB false))]) (hp 0 []) (.k0 [] [] [4]) ?_
    refine .ret ?_
    exact fin_ret (zB false) (by kernel_rfl) (by kernel_rfl) hm
  · refine .ifF (nt (ieq (Int.ofNat (Sl.n s0)) (Int.ofNat (Sl.n s1)))) (by kernel_rfl) h0 ?_
    refine .skip ?_
    refine .ghs (fr 26 [(0, (Sl.v 1 s0)), (1, (Sl.v 1 s1))]) (hp 0 []) (.k0 [] [] [0, 1]) ?_
    refine .join (v := v) (fun y : Unit => ((fr 26 []), (hp 0 []))) (fun y => m13_0 pu n) ?_ ?_
    · rintro _ hm
      exact w13_0 pu n hm
    · refine .then ?_
      refine .rK ?_
      refine .ghs (fr 26 [(0, (Sl.v 1 s0)), (1, (Sl.v 1 s1)), (5, (zI (0 : Int)))]) (hp 0 []) (.k0 [] [] [0, 1, 5]) ?_
      refine .block ?_
      refine .loopM (v := v) (fun y : Sl × Sl × Int => ((fr 26 [(0, (Sl.v 1 y.1)), (1, (Sl.v 1 y.2.1)), (5, (zI y.2.2))]), (hp 0 []))) (fun w y => l13_1 pu n w y.1 y.2.1 y.2.2) n ⟨(s0, s1, (0 : Int)), hm, (.k0 [] [] [0, 1, 5])⟩ (fun _ => rfl) ?_
      rintro w0 ⟨s2, s3, z0⟩ hm
      replace hm : b13_1 pu n (l13_1 pu n w0) s2 s3 z0 = some v := hm
      unfold b13_1 at hm
      refine .then ?_
      refine .then ?_
      refine .rK ?_
      refine .ghs (fr 26 [(0, (Sl.v 1 s2)), (1, (Sl.v 1 s3)), (5, (zI z0)), (14, (zB (ilt z0 (Int.ofNat (Sl.n s2)))))]) (hp 0 []) (.k0 [] [] [0, 1, 5, 14]) ?_
      replace hm := bb_cases hm; rcases hm with ⟨h1, hm⟩ | ⟨h1, hm⟩
      · refine .ifT (ilt z0 (Int.ofNat (Sl.n s2))) (by kernel_rfl) h1 ?_
        refine .skip ?_
        refine .ghs (fr 26 [(0, (Sl.v 1 s2)), (1, (Sl.v 1 s3)), (5, (zI z0))]) (hp 0 []) (.k0 [] [] [0, 1, 5]) ?_
        refine .then ?_
        refine .block ?_
        refine .then ?_
        replace hm := oo_inv hm; obtain ⟨k1, h2, hm⟩ := hm
        obtain rfl := toN_some h2
        replace hm := bb_inv hm; obtain ⟨h3, hm⟩ := hm
        replace hm := oo_inv hm; obtain ⟨v0, h4, hm⟩ := hm
        replace hm := inv_toI hm; obtain ⟨x0, rfl, hm⟩ := hm
        replace hm := bb_inv hm; obtain ⟨h5, hm⟩ := hm
        replace hm := oo_inv hm; obtain ⟨v1, h6, hm⟩ := hm
        replace hm := inv_toI hm; obtain ⟨x1, rfl, hm⟩ := hm
        refine .reg (eC 2 (keep (hp 0 []) (bb (an (Nat.blt k1 (Sl.n s2)) true) (some (fpV (k1 * 1) (Sl.cs s2))) none)) (keep_bb h3) (eD (keep (hp 0 []) (nthL (Sl.cs s2) (k1 * 1))) (keep_eq h4) (eC 2 (keep (hp 0 []) (bb (an (Nat.blt k1 (Sl.n s3)) true) (some (fpV (k1 * 1) (Sl.cs s3))) none)) (keep_bb h5) (eD (keep (hp 0 []) (nthL (Sl.cs s3) (k1 * 1))) (keep_eq h6) (eE))))) ?_
        refine .ghs (fr 26 [(0, (Sl.v 1 s2)), (1, (Sl.v 1 s3)), (5, (zI (Int.ofNat k1))), (25, (zB (nt (ieq x0 x1))))]) (hp 0 []) (.k0 [] [] [0, 1, 5, 25]) ?_
        replace hm := bb_cases hm; rcases hm with ⟨h7, hm⟩ | ⟨h7, hm⟩
        · refine .ifT (nt (ieq x0 x1)) (by kernel_rfl) h7 ?_
          refine .then ?_
          refine .rK ?_
          refine .ghs (fr 26 [(4, (zB false))]) (hp 0 []) (.k0 [] [] [4]) ?_
          refine .ret ?_
          exact fin_ret (zB false) (by kernel_rfl) (by kernel_rfl) hm
        · refine .ifF (nt (ieq x0 x1)) (by kernel_rfl) h7 ?_
          refine .skip ?_
          refine .ghs (fr 26 [(0, (Sl.v 1 s2)), (1, (Sl.v 1 s3)), (5, (zI (Int.ofNat k1)))]) (hp 0 []) (.k0 [] [] [0, 1, 5]) ?_
          refine .rK ?_
          exact ⟨(s2, s3, (wrapF .i64 (Int.add (Int.ofNat k1) (1 : Int)))), hm, (.k0 [] [] [0, 1, 5])⟩
      · refine .ifF (ilt z0 (Int.ofNat (Sl.n s2))) (by kernel_rfl) h1 ?_
        refine .exit ?_
        exact ⟨(), hm, (.k0 [] [] [])⟩
def m14_0 (pu : PureF) (n : Nat) (z0 : Int) : Option Value :=
  (bb (ilt (21 : Int) z0) (some (.int .i64 (3 : Int))) (some (.int .i64 (0 : Int))))
def b14_1 (pu : PureF) (n : Nat) (ih0 : Int → Int → Sl → Int → Int → Option Value) (z0 : Int) (z1 : Int) (s0 : Sl) (z2 : Int) (z3 : Int) : Option Value :=
  (bb (ilt z3 z2) (oo (toN z3) none fun k1 => (bb (an (Nat.blt k1 (Sl.n s0)) true) (oo (nthL (Sl.cs s0) (k1 * 1)) none fun v0 => (oo (toI .i64 v0) none fun x0 => (oo (pu 33 [(.int .i64 (1 : Int)), (.int .i64 x0), (.int .i64 (21 : Int))]) none fun v1 => (oo (vBool v1) none fun b0 => (bb (nt b0) (some (.int .i64 (1 : Int))) (bb (ilt z1 x0) (some (.int .i64 (7 : Int))) (ih0 (bb (ilt (22 : Int) (wrapF .i64 (Int.add z0 x0))) (22 : Int) (wrapF .i64 (Int.add z0 x0))) x0 s0 z2 (wrapF .i64 (Int.add (Int.ofNat k1) (1 : Int)))))))))) none)) (m14_0 pu n z0))
def l14_1 (pu : PureF) (n : Nat) (w : Nat) : Int → Int → Sl → Int → Int → Option Value :=
  Nat.rec (motive := fun _ => Int → Int → Sl → Int → Int → Option Value) (fun _ _ _ _ _ => none) (fun _ ih0 => b14_1 pu n ih0) w
def m14_ (pu : PureF) (n : Nat) (s0 : Sl) : Option Value :=
  (bb (ieq (Int.ofNat (Sl.n s0)) (0 : Int)) (some (.int .i64 (4 : Int))) (l14_1 pu n n (0 : Int) (21 : Int) s0 (Int.ofNat (Sl.n s0)) (0 : Int)))
def m14 (pu : PureF) (n : Nat) (args : List Value) : Option Value :=
  (ll args none fun a0 args => (ll args (oo (toSl 1 a0) none fun s0 => (m14_ pu n s0)) fun _ _ => none))
theorem w14_0 (pu : PureF) (n : Nat) (z0 : Int) {v : Value} (hm : m14_0 pu n z0 = some v) : Run tt (callP tabs isP pu (inl pu)) 0 c14_42 (fr 32 [(3, (zI z0))]) (hp 0 []) (Fin tt 0 [.tmp 2] v) := by
  unfold m14_0 at hm
  refine .then ?_
  refine .then ?_
  refine .rK ?_
  refine .ghs (fr 32 [(31, (zB (ilt (21 : Int) z0)))]) (hp 0 []) (.k0 [] [] [31]) ?_
  replace hm := bb_cases hm; rcases hm with ⟨h0, hm⟩ | ⟨h0, hm⟩
  · refine .ifT (ilt (21 : Int) z0) (by kernel_rfl) h0 ?_
    refine .then ?_
    refine .rK ?_
    refine .ghs (fr 32 [(2, (zI (3 : Int)))]) (hp 0 []) (.k0 [] [] [2]) ?_
    refine .ret ?_
    exact fin_ret (zI (3 : Int)) (by kernel_rfl) (by kernel_rfl) hm
  · refine .ifF (ilt (21 : Int) z0) (by kernel_rfl) h0 ?_
    refine .skip ?_
    refine .ghs (fr 32 []) (hp 0 []) (.k0 [] [] []) ?_
    refine .then ?_
    refine .rK ?_
    refine .ghs (fr 32 [(2, (zI (0 : Int)))]) (hp 0 []) (.k0 [] [] [2]) ?_
    refine .ret ?_
    exact fin_ret (zI (0 : Int)) (by kernel_rfl) (by kernel_rfl) hm
theorem r14 {call : CallF} (pu : PureF) (n : Nat) (hcall : call = callP tabs isP pu (inl pu)) {args : List Value} {v : Value} (hm : m14 pu n args = some v) (_ : ∀ x ∈ args, closed2 x = true) : args.length ≤ 32 ∧ Run tt call 0 c14_46 (Fr.made 32 args) (pureHeap tabs) (Fin tt 0 [.tmp 2] v) := by
  subst hcall
  unfold m14 at hm
  replace hm := ll_uncons hm; obtain ⟨a0, args_0, rfl, hm⟩ := hm
  replace hm := ll_end hm; obtain ⟨rfl, hm⟩ := hm
  replace hm := inv_toSl hm; obtain ⟨s0, rfl, hm⟩ := hm
  unfold m14_ at hm
  refine ⟨by simp, ?_⟩
  refine .same (F' := (fr 32 [(0, (Sl.v 1 s0))])) (H' := (hp 0 [])) (by kernel_rfl) (by kernel_rfl) ?_
  refine .then ?_
  refine .rK ?_
  refine .ghs (fr 32 [(0, (Sl.v 1 s0))]) (hp 0 []) (.k0 [] [] [0]) ?_
  refine .then ?_
  refine .then ?_
  refine .rK ?_
  refine .ghs (fr 32 [(0, (Sl.v 1 s0)), (9, (zB (ieq (Int.ofNat (Sl.n s0)) (0 : Int))))]) (hp 0 []) (.k0 [] [] [0, 9]) ?_
  replace hm := bb_cases hm; rcases hm with ⟨h0, hm⟩ | ⟨h0, hm⟩
  · refine .ifT (ieq (Int.ofNat (Sl.n s0)) (0 : Int)) (by kernel_rfl) h0 ?_
    refine .then ?_
    refine .rK ?_
    refine .ghs (fr 32 [(2, (zI (4 : Int)))]) (hp 0 []) (.k0 [] [] [2]) ?_
    refine .ret ?_
    exact fin_ret (zI (4 : Int)) (by kernel_rfl) (by kernel_rfl) hm
  · refine .ifF (ieq (Int.ofNat (Sl.n s0)) (0 : Int)) (by kernel_rfl) h0 ?_
    refine .skip ?_
    refine .ghs (fr 32 [(0, (Sl.v 1 s0))]) (hp 0 []) (.k0 [] [] [0]) ?_
    refine .then ?_
    refine .rK ?_
    refine .ghs (fr 32 [(0, (Sl.v 1 s0)), (3, (zI (0 : Int))), (4, (zI (21 : Int)))]) (hp 0 []) (.k0 [] [] [0, 3, 4]) ?_
    refine .join (v := v) (fun y : Int => ((fr 32 [(3, (zI y))]), (hp 0 []))) (fun y => m14_0 pu n y) ?_ ?_
    · rintro z0 hm
      exact w14_0 pu n z0 hm
    · refine .then ?_
      refine .rK ?_
      refine .ghs (fr 32 [(3, (zI (0 : Int))), (4, (zI (21 : Int))), (10, (Sl.v 1 s0)), (11, (zI (Int.ofNat (Sl.n s0)))), (12, (zI (0 : Int)))]) (hp 0 []) (.k0 [] [] [3, 4, 10, 11, 12]) ?_
      refine .block ?_
      refine .loopM (v := v) (fun y : Int × Int × Sl × Int × Int => ((fr 32 [(3, (zI y.1)), (4, (zI y.2.1)), (10, (Sl.v 1 y.2.2.1)), (11, (zI y.2.2.2.1)), (12, (zI y.2.2.2.2))]), (hp 0 []))) (fun w y => l14_1 pu n w y.1 y.2.1 y.2.2.1 y.2.2.2.1 y.2.2.2.2) n ⟨((0 : Int), (21 : Int), s0, (Int.ofNat (Sl.n s0)), (0 : Int)), hm, (.k0 [] [] [3, 4, 10, 11, 12])⟩ (fun _ => rfl) ?_
      rintro w0 ⟨z1, z2, s1, z3, z4⟩ hm
      replace hm : b14_1 pu n (l14_1 pu n w0) z1 z2 s1 z3 z4 = some v := hm
      unfold b14_1 at hm
      refine .then ?_
      refine .rK ?_
      refine .ghs (fr 32 [(3, (zI z1)), (4, (zI z2)), (10, (Sl.v 1 s1)), (11, (zI z3)), (12, (zI z4)), (13, (zB (ilt z4 z3)))]) (hp 0 []) (.k0 [] [] [3, 4, 10, 11, 12, 13]) ?_
      refine .then ?_
      replace hm := bb_cases hm; rcases hm with ⟨h1, hm⟩ | ⟨h1, hm⟩
      · refine .ifT (ilt z4 z3) (by kernel_rfl) h1 ?_
        refine .skip ?_
        refine .ghs (fr 32 [(3, (zI z1)), (4, (zI z2)), (10, (Sl.v 1 s1)), (11, (zI z3)), (12, (zI z4))]) (hp 0 []) (.k0 [] [] [3, 4, 10, 11, 12]) ?_
        refine .then ?_
        refine .block ?_
        refine .then ?_
        replace hm := oo_inv hm; obtain ⟨k1, h2, hm⟩ := hm
        obtain rfl := toN_some h2
        replace hm := bb_inv hm; obtain ⟨h3, hm⟩ := hm
        replace hm := oo_inv hm; obtain ⟨v0, h4, hm⟩ := hm
        replace hm := inv_toI hm; obtain ⟨x0, rfl, hm⟩ := hm
        refine .reg (eD (keep (hp 0 []) (bb (an (Nat.blt k1 (Sl.n s1)) true) (some (fpV (k1 * 1) (Sl.cs s1))) none)) (keep_bb h3) (eD (keep (hp 0 []) (nthL (Sl.cs s1) (k1 * 1))) (keep_eq h4) (eE))) ?_
        refine .ghs (fr 32 [(3, (zI z1)), (4, (zI z2)), (6, (zI x0)), (10, (Sl.v 1 s1)), (11, (zI z3)), (12, (zI (Int.ofNat k1)))]) (hp 0 []) (.k0 [] [] [3, 4, 6, 10, 11, 12]) ?_
        refine .then ?_
        refine .block ?_
        refine .then ?_
        replace hm := oo_inv hm; obtain ⟨v1, h5, hm⟩ := hm
        replace hm := inv_vBool hm; obtain ⟨b0, rfl, hm⟩ := hm
        refine .reg (eC 1 ((oo (pu 33 [(zI (1 : Int)), (zI x0), (zI (21 : Int))]) none fun v => some (v, (hp 0 [])))) (call_eq h5) (eE)) ?_
        refine .ghs (fr 32 [(3, (zI z1)), (4, (zI z2)), (6, (zI x0)), (10, (Sl.v 1 s1)), (11, (zI z3)), (12, (zI (Int.ofNat k1))), (16, (zB (nt b0)))]) (hp 0 []) (.k0 [] [] [3, 4, 6, 10, 11, 12, 16]) ?_
        replace hm := bb_cases hm; rcases hm with ⟨h6, hm⟩ | ⟨h6, hm⟩
        · refine .ifT (nt b0) (by kernel_rfl) h6 ?_
          refine .then ?_
          refine .rK ?_
          refine .ghs (fr 32 [(2, (zI (1 : Int)))]) (hp 0 []) (.k0 [] [] [2]) ?_
          refine .ret ?_
          exact fin_ret (zI (1 : Int)) (by kernel_rfl) (by kernel_rfl) hm
        · refine .ifF (nt b0) (by kernel_rfl) h6 ?_
          refine .then ?_
          refine .rK ?_
          refine .ghs (fr 32 [(3, (zI z1)), (6, (zI x0)), (10, (Sl.v 1 s1)), (11, (zI z3)), (12, (zI (Int.ofNat k1))), (20, (zB (ilt z2 x0)))]) (hp 0 []) (.k0 [] [] [3, 6, 10, 11, 12, 20]) ?_
          replace hm := bb_cases hm; rcases hm with ⟨h7, hm⟩ | ⟨h7, hm⟩
          · refine .ifT (ilt z2 x0) (by kernel_rfl) h7 ?_
            refine .then ?_
            refine .rK ?_
            refine .ghs (fr 32 [(2, (zI (7 : Int)))]) (hp 0 []) (.k0 [] [] [2]) ?_
            refine .ret ?_
            exact fin_ret (zI (7 : Int)) (by kernel_rfl) (by kernel_rfl) hm
          · refine .ifF (ilt z2 x0) (by kernel_rfl) h7 ?_
            refine .skip ?_
            refine .ghs (fr 32 [(3, (zI z1)), (6, (zI x0)), (10, (Sl.v 1 s1)), (11, (zI z3)), (12, (zI (Int.ofNat k1)))]) (hp 0 []) (.k0 [] [] [3, 6, 10, 11, 12]) ?_
            refine .then ?_
            refine .rK ?_
            refine .ghs (fr 32 [(3, (zI z1)), (4, (zI x0)), (6, (zI x0)), (10, (Sl.v 1 s1)), (11, (zI z3)), (12, (zI (Int.ofNat k1)))]) (hp 0 []) (.k0 [] [] [3, 4, 6, 10, 11, 12]) ?_
            refine .rK ?_
            refine .ghs (fr 32 [(3, (zI (bb (ilt (22 : Int) (wrapF .i64 (Int.add z1 x0))) (22 : Int) (wrapF .i64 (Int.add z1 x0))))), (4, (zI x0)), (10, (Sl.v 1 s1)), (11, (zI z3)), (12, (zI (Int.ofNat k1)))]) (hp 0 []) (.k0 [] [] [3, 4, 10, 11, 12]) ?_
            refine .rK ?_
            exact ⟨((bb (ilt (22 : Int) (wrapF .i64 (Int.add z1 x0))) (22 : Int) (wrapF .i64 (Int.add z1 x0))), x0, s1, z3, (wrapF .i64 (Int.add (Int.ofNat k1) (1 : Int)))), hm, (.k0 [] [] [3, 4, 10, 11, 12])⟩
      · refine .ifF (ilt z4 z3) (by kernel_rfl) h1 ?_
        refine .exit ?_
        exact ⟨z1, hm, (.k0 [] [] [3])⟩
def m15_1 (pu : PureF) (n : Nat) : Option Value :=
  (some (.int .i64 (0 : Int)))
def b15_2 (pu : PureF) (n : Nat) (ih0 : Sl → Int → Int → Option Value) (s0 : Sl) (z0 : Int) (z1 : Int) : Option Value :=
  (bb (ilt z1 (Int.ofNat (Sl.n s0))) (oo (toN z1) none fun k1 => (bb (an (Nat.blt k1 (Sl.n s0)) true) (oo (nthL (Sl.cs s0) (k1 * 1)) none fun v0 => (oo (toI .i64 v0) none fun x0 => (bb (ilt (21 : Int) (wrapF .i64 (Int.add z0 x0))) (some (.int .i64 (3 : Int))) (ih0 s0 (wrapF .i64 (Int.add z0 x0)) (wrapF .i64 (Int.add (Int.ofNat k1) (1 : Int))))))) none)) (m15_1 pu n))
def l15_2 (pu : PureF) (n : Nat) (w : Nat) : Sl → Int → Int → Option Value :=
  Nat.rec (motive := fun _ => Sl → Int → Int → Option Value) (fun _ _ _ => none) (fun _ ih0 => b15_2 pu n ih0) w
def m15_0 (pu : PureF) (n : Nat) (s0 : Sl) : Option Value :=
  (l15_2 pu n n s0 (0 : Int) (0 : Int))
def m15_4 (pu : PureF) (n : Nat) (ih0 : Sl → Int → Option Value) (s0 : Sl) (z0 : Int) (b0 : Bool) : Option Value :=
  (bb b0 (some (.int .i64 (7 : Int))) (ih0 s0 (wrapF .i64 (Int.add z0 (1 : Int)))))
def b15_3 (pu : PureF) (n : Nat) (ih0 : Sl → Int → Option Value) (s0 : Sl) (z0 : Int) : Option Value :=
  (bb (ilt z0 (Int.ofNat (Sl.n s0))) (oo (toN z0) none fun k1 => (bb (an (Nat.blt k1 (Sl.n s0)) true) (oo (nthL (Sl.cs s0) (k1 * 1)) none fun v0 => (oo (toI .i64 v0) none fun x0 => (oo (pu 37 [(.int .i64 x0), (.int .i64 (1 : Int)), (.int .i64 (21 : Int))]) none fun v1 => (oo (vBool v1) none fun b0 => (bb (nt b0) (some (.int .i64 (1 : Int))) (bb (ilt (0 : Int) (Int.ofNat k1)) (bb (an (Nat.blt k1 (Sl.n s0)) true) (oo (nthL (Sl.cs s0) (k1 * 1)) none fun v2 => (oo (toI .i64 v2) none fun x1 => (oo (toN (wrapF .i64 (Int.sub (Int.ofNat k1) (1 : Int)))) none fun k2 => (bb (an (Nat.blt k2 (Sl.n s0)) true) (oo (nthL (Sl.cs s0) (k2 * 1)) none fun v3 => (oo (toI .i64 v3) none fun x2 => (m15_4 pu n ih0 s0 (Int.ofNat k1) (ilt x2 x1)))) none)))) none) (m15_4 pu n ih0 s0 (Int.ofNat k1) false))))))) none)) (m15_0 pu n s0))
def l15_3 (pu : PureF) (n : Nat) (w : Nat) : Sl → Int → Option Value :=
  Nat.rec (motive := fun _ => Sl → Int → Option Value) (fun _ _ => none) (fun _ ih0 => b15_3 pu n ih0) w
def m15_ (pu : PureF) (n : Nat) (s0 : Sl) : Option Value :=
  (bb (ieq (Int.ofNat (Sl.n s0)) (0 : Int)) (some (.int .i64 (4 : Int))) (l15_3 pu n n s0 (0 : Int)))
def m15 (pu : PureF) (n : Nat) (args : List Value) : Option Value :=
  (ll args none fun a0 args => (ll args (oo (toSl 1 a0) none fun s0 => (m15_ pu n s0)) fun _ _ => none))
theorem w15_1 (pu : PureF) (n : Nat) {v : Value} (hm : m15_1 pu n = some v) : Run tt (callP tabs isP pu (inl pu)) 0 c15_48 (fr 49 []) (hp 0 []) (Fin tt 0 [.tmp 2] v) := by
  unfold m15_1 at hm
  refine .then ?_
  refine .rK ?_
  refine .ghs (fr 49 [(2, (zI (0 : Int)))]) (hp 0 []) (.k0 [] [] [2]) ?_
  refine .ret ?_
  exact fin_ret (zI (0 : Int)) (by kernel_rfl) (by kernel_rfl) hm
theorem w15_0 (pu : PureF) (n : Nat) (s0 : Sl) {v : Value} (hm : m15_0 pu n s0 = some v) : Run tt (callP tabs isP pu (inl pu)) 0 c15_50 (fr 49 [(0, (Sl.v 1 s0))]) (hp 0 []) (Fin tt 0 [.tmp 2] v) := by
  unfold m15_0 at hm
  refine .then ?_
  refine .rK ?_
  refine .ghs (fr 49 [(0, (Sl.v 1 s0)), (4, (zI (0 : Int)))]) (hp 0 []) (.k0 [] [] [0, 4]) ?_
  refine .join (v := v) (fun y : Unit => ((fr 49 []), (hp 0 []))) (fun y => m15_1 pu n) ?_ ?_
  · rintro _ hm
    exact w15_1 pu n hm
  · refine .then ?_
    refine .rK ?_
    refine .ghs (fr 49 [(0, (Sl.v 1 s0)), (4, (zI (0 : Int))), (5, (zI (0 : Int)))]) (hp 0 []) (.k0 [] [] [0, 4, 5]) ?_
    refine .block ?_
    refine .loopM (v := v) (fun y : Sl × Int × Int => ((fr 49 [(0, (Sl.v 1 y.1)), (4, (zI y.2.1)), (5, (zI y.2.2))]), (hp 0 []))) (fun w y => l15_2 pu n w y.1 y.2.1 y.2.2) n ⟨(s0, (0 : Int), (0 : Int)), hm, (.k0 [] [] [0, 4, 5])⟩ (fun _ => rfl) ?_
    rintro w0 ⟨s1, z0, z1⟩ hm
    replace hm : b15_2 pu n (l15_2 pu n w0) s1 z0 z1 = some v := hm
    unfold b15_2 at hm
    refine .then ?_
    refine .then ?_
    refine .rK ?_
    refine .ghs (fr 49 [(0, (Sl.v 1 s1)), (4, (zI z0)), (5, (zI z1)), (38, (zB (ilt z1 (Int.ofNat (Sl.n s1)))))]) (hp 0 []) (.k0 [] [] [0, 4, 5, 38]) ?_
    replace hm := bb_cases hm; rcases hm with ⟨h0, hm⟩ | ⟨h0, hm⟩
    · refine .ifT (ilt z1 (Int.ofNat (Sl.n s1))) (by kernel_rfl) h0 ?_
      refine .skip ?_
      refine .ghs (fr 49 [(0, (Sl.v 1 s1)), (4, (zI z0)), (5, (zI z1))]) (hp 0 []) (.k0 [] [] [0, 4, 5]) ?_
      refine .then ?_
      refine .block ?_
      refine .then ?_
      replace hm := oo_inv hm; obtain ⟨k1, h1, hm⟩ := hm
      obtain rfl := toN_some h1
      replace hm := bb_inv hm; obtain ⟨h2, hm⟩ := hm
      replace hm := oo_inv hm; obtain ⟨v0, h3, hm⟩ := hm
      replace hm := inv_toI hm; obtain ⟨x0, rfl, hm⟩ := hm
      refine .reg (eC 3 (keep (hp 0 []) (bb (an (Nat.blt k1 (Sl.n s1)) true) (some (fpV (k1 * 1) (Sl.cs s1))) none)) (keep_bb h2) (eD (keep (hp 0 []) (nthL (Sl.cs s1) (k1 * 1))) (keep_eq h3) (eE))) ?_
      refine .ghs (fr 49 [(0, (Sl.v 1 s1)), (4, (zI (wrapF .i64 (Int.add z0 x0)))), (5, (zI (Int.ofNat k1)))]) (hp 0 []) (.k0 [] [] [0, 4, 5]) ?_
      refine .then ?_
      refine .rK ?_
      refine .ghs (fr 49 [(0, (Sl.v 1 s1)), (4, (zI (wrapF .i64 (Int.add z0 x0)))), (5, (zI (Int.ofNat k1))), (48, (zB (ilt (21 : Int) (wrapF .i64 (Int.add z0 x0)))))]) (hp 0 []) (.k0 [] [] [0, 4, 5, 48]) ?_
      replace hm := bb_cases hm; rcases hm with ⟨h4, hm⟩ | ⟨h4, hm⟩
      · refine .ifT (ilt (21 : Int) (wrapF .i64 (Int.add z0 x0))) (by kernel_rfl) h4 ?_
        refine .then ?_
        refine .rK ?_
        refine .ghs (fr 49 [(2, (zI (3 : Int)))]) (hp 0 []) (.k0 [] [] [2]) ?_
        refine .ret ?_
        exact fin_ret (zI (3 : Int)) (by kernel_rfl) (by kernel_rfl) hm
      · refine .ifF (ilt (21 : Int) (wrapF .i64 (Int.add z0 x0))) (by kernel_rfl) h4 ?_
        refine .skip ?_
        refine .ghs (fr 49 [(0, (Sl.v 1 s1)), (4, (zI (wrapF .i64 (Int.add z0 x0)))), (5, (zI (Int.ofNat k1)))]) (hp 0 []) (.k0 [] [] [0, 4, 5]) ?_
        refine .rK ?_
        exact ⟨(s1, (wrapF .i64 (Int.add z0 x0)), (wrapF .i64 (Int.add (Int.ofNat k1) (1 : Int)))), hm, (.k0 [] [] [0, 4, 5])⟩
    · refine .ifF (ilt z1 (Int.ofNat (Sl.n s1))) (by kernel_rfl) h0 ?_
      refine .exit ?_
      exact ⟨(), hm, (.k0 [] [] [])⟩
theorem r15 {call : CallF} (pu : PureF) (n : Nat) (hcall : call = callP tabs isP pu (inl pu)) {args : List Value} {v : Value} (hm : m15 pu n args = some v) (_ : ∀ x ∈ args, closed2 x = true) : args.length ≤ 49 ∧ Run tt call 0 c15_53 (Fr.made 49 args) (pureHeap tabs) (Fin tt 0 [.tmp 2] v) := by
  subst hcall
  unfold m15 at hm
  replace hm := ll_uncons hm; obtain ⟨a0, args_0, rfl, hm⟩ := hm
  replace hm := ll_end hm; obtain ⟨rfl, hm⟩ := hm
  replace hm := inv_toSl hm; obtain ⟨s0, rfl, hm⟩ := hm
  unfold m15_ at hm
  refine ⟨by simp, ?_⟩
  refine .same (F' := (fr 49 [(0, (Sl.v 1 s0))])) (H' := (hp 0 [])) (by kernel_rfl) (by kernel_rfl) ?_
  refine .then ?_
  refine .rK ?_
  refine .ghs (fr 49 [(0, (Sl.v 1 s0))]) (hp 0 []) (.k0 [] [] [0]) ?_
  refine .then ?_
  refine .then ?_
  refine .rK ?_
  refine .ghs (fr 49 [(0, (Sl.v 1 s0)), (8, (zB (ieq (Int.ofNat (Sl.n s0)) (0 : Int))))]) (hp 0 []) (.k0 [] [] [0, 8]) ?_
  replace hm := bb_cases hm; rcases hm with ⟨h0, hm⟩ | ⟨h0, hm⟩
  · refine .ifT (ieq (Int.ofNat (Sl.n s0)) (0 : Int)) (by kernel_rfl) h0 ?_
    refine .then ?_
    refine .rK ?_
    refine .ghs (fr 49 [(2, (zI (4 : Int)))]) (hp 0 []) (.k0 [] [] [2]) ?_
    refine .ret ?_
    exact fin_ret (zI (4 : Int)) (by kernel_rfl) (by kernel_rfl) hm
  · refine .ifF (ieq (Int.ofNat (Sl.n s0)) (0 : Int)) (by kernel_rfl) h0 ?_
    refine .skip ?_
    refine .ghs (fr 49 [(0, (Sl.v 1 s0))]) (hp 0 []) (.k0 [] [] [0]) ?_
    refine .join (v := v) (fun y : Sl => ((fr 49 [(0, (Sl.v 1 y))]), (hp 0 []))) (fun y => m15_0 pu n y) ?_ ?_
    · rintro s1 hm
      exact w15_0 pu n s1 hm
    · refine .then ?_
      refine .rK ?_
      refine .ghs (fr 49 [(0, (Sl.v 1 s0)), (3, (zI (0 : Int)))]) (hp 0 []) (.k0 [] [] [0, 3]) ?_
      refine .block ?_
      refine .loopM (v := v) (fun y : Sl × Int => ((fr 49 [(0, (Sl.v 1 y.1)), (3, (zI y.2))]), (hp 0 []))) (fun w y => l15_3 pu n w y.1 y.2) n ⟨(s0, (0 : Int)), hm, (.k0 [] [] [0, 3])⟩ (fun _ => rfl) ?_
      rintro w0 ⟨s2, z0⟩ hm
      replace hm : b15_3 pu n (l15_3 pu n w0) s2 z0 = some v := hm
      unfold b15_3 at hm
      refine .then ?_
      refine .then ?_
      refine .rK ?_
      refine .ghs (fr 49 [(0, (Sl.v 1 s2)), (3, (zI z0)), (12, (zB (ilt z0 (Int.ofNat (Sl.n s2)))))]) (hp 0 []) (.k0 [] [] [0, 3, 12]) ?_
      replace hm := bb_cases hm; rcases hm with ⟨h1, hm⟩ | ⟨h1, hm⟩
      · refine .ifT (ilt z0 (Int.ofNat (Sl.n s2))) (by kernel_rfl) h1 ?_
        refine .skip ?_
        refine .ghs (fr 49 [(0, (Sl.v 1 s2)), (3, (zI z0))]) (hp 0 []) (.k0 [] [] [0, 3]) ?_
        refine .then ?_
        refine .block ?_
        refine .then ?_
        refine .then ?_
        replace hm := oo_inv hm; obtain ⟨k1, h2, hm⟩ := hm
        obtain rfl := toN_some h2
        replace hm := bb_inv hm; obtain ⟨h3, hm⟩ := hm
        replace hm := oo_inv hm; obtain ⟨v0, h4, hm⟩ := hm
        replace hm := inv_toI hm; obtain ⟨x0, rfl, hm⟩ := hm
        replace hm := oo_inv hm; obtain ⟨v1, h5, hm⟩ := hm
        replace hm := inv_vBool hm; obtain ⟨b0, rfl, hm⟩ := hm
        refine .reg (eC 2 (keep (hp 0 []) (bb (an (Nat.blt k1 (Sl.n s2)) true) (some (fpV (k1 * 1) (Sl.cs s2))) none)) (keep_bb h3) (eD (keep (hp 0 []) (nthL (Sl.cs s2) (k1 * 1))) (keep_eq h4) (eD ((oo (pu 37 [(zI x0), (zI (1 : Int)), (zI (21 : Int))]) none fun v => some (v, (hp 0 [])))) (call_eq h5) (eE)))) ?_
        refine .ghs (fr 49 [(0, (Sl.v 1 s2)), (3, (zI (Int.ofNat k1))), (20, (zB (nt b0)))]) (hp 0 []) (.k0 [] [] [0, 3, 20]) ?_
        replace hm := bb_cases hm; rcases hm with ⟨h6, hm⟩ | ⟨h6, hm⟩
        · refine .ifT (nt b0) (by kernel_rfl) h6 ?_
          refine .then ?_
          refine .rK ?_
          refine .ghs (fr 49 [(2, (zI (1 : Int)))]) (hp 0 []) (.k0 [] [] [2]) ?_
          refine .ret ?_
          exact fin_ret (zI (1 : Int)) (by kernel_rfl) (by kernel_rfl) hm
        · refine .ifF (nt b0) (by kernel_rfl) h6 ?_
          refine .skip ?_
          refine .ghs (fr 49 [(0, (Sl.v 1 s2)), (3, (zI (Int.ofNat k1)))]) (hp 0 []) (.k0 [] [] [0, 3]) ?_
          refine .join (v := v) (fun y : Sl × Int × Bool => ((fr 49 [(0, (Sl.v 1 y.1)), (3, (zI y.2.1)), (34, (zB y.2.2))]), (hp 0 []))) (fun y => m15_4 pu n (l15_3 pu n w0) y.1 y.2.1 y.2.2) ?_ ?_
          · rintro ⟨s3, z1, b1⟩ hm
            unfold m15_4 at hm
            replace hm := bb_cases hm; rcases hm with ⟨h7, hm⟩ | ⟨h7, hm⟩
            · refine .ifT b1 (by kernel_rfl) h7 ?_
              refine .then ?_
              refine .rK ?_
              refine .ghs (fr 49 [(2, (zI (7 : Int)))]) (hp 0 []) (.k0 [] [] [2]) ?_
              refine .ret ?_
              exact fin_ret (zI (7 : Int)) (by kernel_rfl) (by kernel_rfl) hm
            · refine .ifF b1 (by kernel_rfl) h7 ?_
              refine .skip ?_
              refine .ghs (fr 49 [(0, (Sl.v 1 s3)), (3, (zI z1))]) (hp 0 []) (.k0 [] [] [0, 3]) ?_
              refine .rK ?_
              exact ⟨(s3, (wrapF .i64 (Int.add z1 (1 : Int)))), hm, (.k0 [] [] [0, 3])⟩
          · replace hm := bb_cases hm; rcases hm with ⟨h8, hm⟩ | ⟨h8, hm⟩
            · replace hm := bb_inv hm; obtain ⟨h9, hm⟩ := hm
              replace hm := oo_inv hm; obtain ⟨v2, h10, hm⟩ := hm
              replace hm := inv_toI hm; obtain ⟨x1, rfl, hm⟩ := hm
              replace hm := oo_inv hm; obtain ⟨k2, h11, hm⟩ := hm
              replace hm := bb_inv hm; obtain ⟨h12, hm⟩ := hm
              replace hm := oo_inv hm; obtain ⟨v3, h13, hm⟩ := hm
              replace hm := inv_toI hm; obtain ⟨x2, rfl, hm⟩ := hm
              refine .reg (eN 7 (Fr.puts (fr 49 [(0, (Sl.v 1 s2)), (3, (zI (Int.ofNat k1)))]) [(21, (zI (Int.ofNat k1))), (22, (zB true)), (23, (zB true)), (24, (Sl.v 1 s2)), (25, (zI (Int.ofNat k1))), (26, (fpV (k1 * 1) (Sl.cs s2))), (27, (zI x1))]) (hp 0 []) (eC 1 (some ((zB (ilt (0 : Int) (Int.ofNat k1))), (hp 0 []))) (show _ = some ((zB true), _) from (by rw [h8])) (eC 3 (keep (hp 0 []) (bb (an (Nat.blt k1 (Sl.n s2)) true) (some (fpV (k1 * 1) (Sl.cs s2))) none)) (keep_bb h9) (eD (keep (hp 0 []) (nthL (Sl.cs s2) (k1 * 1))) (keep_eq h10) (by kernel_rfl)))) (eC 2 (some ((zI (wrapF .i64 (Int.sub (Int.ofNat k1) (1 : Int)))), (hp 0 []))) (show _ = some ((zI (Int.ofNat k2)), _) from (by rw [toN_some h11])) (eD (keep (hp 0 []) (bb (an (Nat.blt k2 (Sl.n s2)) true) (some (fpV (k2 * 1) (Sl.cs s2))) none)) (keep_bb h12) (eD (keep (hp 0 []) (nthL (Sl.cs s2) (k2 * 1))) (keep_eq h13) (eE))))) ?_
              exact ⟨(s2, (Int.ofNat k1), (ilt x2 x1)), hm, (.k0 [] [] [0, 3, 34])⟩
            · refine .reg (eC 1 (some ((zB (ilt (0 : Int) (Int.ofNat k1))), (hp 0 []))) (show _ = some ((zB false), _) from (by rw [h8])) (eE)) ?_
              exact ⟨(s2, (Int.ofNat k1), false), hm, (.k0 [] [] [0, 3, 34])⟩
      · refine .ifF (ilt z0 (Int.ofNat (Sl.n s2))) (by kernel_rfl) h1 ?_
        refine .exit ?_
        exact ⟨s2, hm, (.k0 [] [] [0])⟩
end
end Go.HpRM
