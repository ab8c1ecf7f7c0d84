/- Models of the program's functions, and the proofs that runs give them: MADE BY PROGRAM (wip/tools/dec.py). -/
import Derived.Test.YtlgmapibifphaaaDoorMdHMod0x

set_option maxRecDepth 100000
set_option maxHeartbeats 20000000
set_option linter.unusedVariables false
namespace Go.MdHM
open Go.Sp Go.MdH
noncomputable section
def m74_0 (pu : PureF) (n : Nat) : Option Value :=
  (some (.bool false))
def m74_2 (pu : PureF) (n : Nat) (ih0 : Sl → Sl → Int → Option Value) (s0 : Sl) (s1 : Sl) (z0 : Int) : Option Value :=
  (ih0 s0 s1 (wrapF .i64 (Int.add z0 (1 : Int))))
def m74_3 (pu : PureF) (n : Nat) (ih0 : Sl → Sl → Int → Option Value) (s0 : Sl) (s1 : Sl) (z0 : Int) : Option Value :=
  (oo (toN z0) none fun k1 => (bb (an (Nat.blt k1 (Sl.n s0)) true) (oo (nthL (Sl.cs s0) (k1 * 1)) none fun v0 => (oo (toSl 1 v0) none fun s2 => (bb (an (Nat.blt k1 (Sl.n s1)) true) (oo (nthL (Sl.cs s1) (k1 * 1)) none fun v1 => (oo (toSl 1 v1) none fun s3 => (bb (nt (ieq (Int.ofNat (Sl.n s2)) (Int.ofNat (Sl.n s3)))) (bb (an (Nat.blt k1 (Sl.n s0)) true) (oo (nthL (Sl.cs s0) (k1 * 1)) none fun v2 => (oo (toSl 1 v2) none fun s4 => (bb (an (Nat.blt k1 (Sl.n s1)) true) (oo (nthL (Sl.cs s1) (k1 * 1)) none fun v3 => (oo (toSl 1 v3) none fun s5 => (some (.bool (ilt (Int.ofNat (Sl.n s4)) (Int.ofNat (Sl.n s5))))))) none))) none) (m74_2 pu n ih0 s0 s1 (Int.ofNat k1))))) none))) none))
def m74_5 (pu : PureF) (n : Nat) (ih0 : Sl → Sl → Int → Option Value) (ih1 : Sl → Sl → Int → Int → Option Value) (s0 : Sl) (s1 : Sl) (z0 : Int) (z1 : Int) (b0 : Bool) : Option Value :=
  (bb b0 (oo (toN z0) none fun k1 => (bb (an (Nat.blt k1 (Sl.n s0)) true) (oo (nthL (Sl.cs s0) (k1 * 1)) none fun v0 => (oo (toSl 1 v0) none fun s2 => (oo (toN z1) none fun k2 => (bb (an (Nat.blt k2 (Sl.n s2)) true) (oo (nthL (Sl.cs s2) (k2 * 1)) none fun v1 => (oo (toI .i64 v1) none fun x0 => (bb (an (Nat.blt k1 (Sl.n s1)) true) (oo (nthL (Sl.cs s1) (k1 * 1)) none fun v2 => (oo (toSl 1 v2) none fun s3 => (bb (an (Nat.blt k2 (Sl.n s3)) true) (oo (nthL (Sl.cs s3) (k2 * 1)) none fun v3 => (oo (toI .i64 v3) none fun x1 => (bb (nt (ieq x0 x1)) (bb (an (Nat.blt k1 (Sl.n s0)) true) (oo (nthL (Sl.cs s0) (k1 * 1)) none fun v4 => (oo (toSl 1 v4) none fun s4 => (bb (an (Nat.blt k2 (Sl.n s4)) true) (oo (nthL (Sl.cs s4) (k2 * 1)) none fun v5 => (oo (toI .i64 v5) none fun x2 => (bb (an (Nat.blt k1 (Sl.n s1)) true) (oo (nthL (Sl.cs s1) (k1 * 1)) none fun v6 => (oo (toSl 1 v6) none fun s5 => (bb (an (Nat.blt k2 (Sl.n s5)) true) (oo (nthL (Sl.cs s5) (k2 * 1)) none fun v7 => (oo (toI .i64 v7) none fun x3 => (some (.bool (ilt x2 x3))))) none))) none))) none))) none) (ih1 s0 s1 (Int.ofNat k1) (wrapF .i64 (Int.add (Int.ofNat k2) (1 : Int))))))) none))) none))) none)))) none)) (m74_3 pu n ih0 s0 s1 z0))
def b74_4 (pu : PureF) (n : Nat) (ih0 : Sl → Sl → Int → Option Value) (ih1 : Sl → Sl → Int → Int → Option Value) (s0 : Sl) (s1 : Sl) (z0 : Int) (z1 : Int) : Option Value :=
  (oo (toN z0) none fun k1 => (bb (an (Nat.blt k1 (Sl.n s0)) true) (oo (nthL (Sl.cs s0) (k1 * 1)) none fun v0 => (oo (toSl 1 v0) none fun s2 => (bb (ilt z1 (Int.ofNat (Sl.n s2))) (bb (an (Nat.blt k1 (Sl.n s1)) true) (oo (nthL (Sl.cs s1) (k1 * 1)) none fun v1 => (oo (toSl 1 v1) none fun s3 => (m74_5 pu n ih0 ih1 s0 s1 (Int.ofNat k1) z1 (ilt z1 (Int.ofNat (Sl.n s3)))))) none) (m74_5 pu n ih0 ih1 s0 s1 (Int.ofNat k1) z1 false)))) none))
def l74_4 (pu : PureF) (n : Nat) (ih0 : Sl → Sl → Int → Option Value) (w : Nat) : Sl → Sl → Int → Int → Option Value :=
  Nat.rec (motive := fun _ => Sl → Sl → Int → Int → Option Value) (fun _ _ _ _ => none) (fun _ ih1 => b74_4 pu n ih0 ih1) w
def b74_1 (pu : PureF) (n : Nat) (ih0 : Sl → Sl → Int → Option Value) (s0 : Sl) (s1 : Sl) (z0 : Int) : Option Value :=
  (bb (ilt z0 (Int.ofNat (Sl.n s0))) (l74_4 pu n ih0 n s0 s1 z0 (0 : Int)) (m74_0 pu n))
def l74_1 (pu : PureF) (n : Nat) (w : Nat) : Sl → Sl → Int → Option Value :=
  Nat.rec (motive := fun _ => Sl → Sl → Int → Option Value) (fun _ _ _ => none) (fun _ ih0 => b74_1 pu n ih0) w
def m74_ (pu : PureF) (n : Nat) (s0 : Sl) (s1 : Sl) : Option Value :=
  (l74_1 pu n n s0 s1 (0 : Int))
def m74 (pu : PureF) (n : Nat) (args : List Value) : Option Value :=
  (ll args none fun a0 args => (ll args none fun a1 args => (ll args (oo (toSl 1 a0) none fun s0 => (oo (toSl 1 a1) none fun s1 => (m74_ pu n s0 s1))) fun _ _ => none)))
theorem w74_0 (pu : PureF) (n : Nat) {v : Value} (hm : m74_0 pu n = some v) : Run tt (callP tabs isP pu (inl pu)) 1 c74_35 (fr 83 []) (hp 1 [(oT tab0)]) (Fin tt 1 [.tmp 4] v) := by
  unfold m74_0 at hm
  refine .then ?_
  refine .rK ?_
  refine .ghs (fr 83 [(4, (zB false))]) (hp 1 [(oT tab0)]) (.k0 [false] [] [4]) ?_
  refine .ret ?_
  exact fin_ret (zB false) (by kernel_rfl) (by kernel_rfl) hm
theorem r74 {call : CallF} (pu : PureF) (n : Nat) (hcall : call = callP tabs isP pu (inl pu)) {args : List Value} {v : Value} (hm : m74 pu n args = some v) (_ : ∀ x ∈ args, closed2 x = true) : args.length ≤ 83 ∧ Run tt call 1 c74_37 (Fr.made 83 args) (pureHeap tabs) (Fin tt 1 [.tmp 4] v) := by
  subst hcall
  unfold m74 at hm
  replace hm := ll_uncons hm; obtain ⟨a0, args_0, rfl, hm⟩ := hm
  replace hm := ll_uncons hm; obtain ⟨a1, args_1, rfl, hm⟩ := hm
  replace hm := ll_end hm; obtain ⟨rfl, hm⟩ := hm
  replace hm := inv_toSl hm; obtain ⟨s0, rfl, hm⟩ := hm
  replace hm := inv_toSl hm; obtain ⟨s1, rfl, hm⟩ := hm
  unfold m74_ at hm
  refine ⟨by simp, ?_⟩
  refine .same (F' := (fr 83 [(0, (Sl.v 1 s0)), (1, (Sl.v 1 s1))])) (H' := (hp 1 [(oT tab0)])) (by kernel_rfl) (by kernel_rfl) ?_
  refine .then ?_
  refine .rK ?_
  refine .ghs (fr 83 [(0, (Sl.v 1 s0)), (1, (Sl.v 1 s1))]) (hp 1 [(oT tab0)]) (.k0 [false] [] [0, 1]) ?_
  refine .join (v := v) (fun y : Unit => ((fr 83 []), (hp 1 [(oT tab0)]))) (fun y => m74_0 pu n) ?_ ?_
  · rintro _ hm
    exact w74_0 pu n hm
  · refine .then ?_
    refine .rK ?_
    refine .ghs (fr 83 [(0, (Sl.v 1 s0)), (1, (Sl.v 1 s1)), (5, (zI (0 : Int)))]) (hp 1 [(oT tab0)]) (.k0 [false] [] [0, 1, 5]) ?_
    refine .block ?_
    refine .loopM (v := v) (fun y : Sl × Sl × Int => ((fr 83 [(0, (Sl.v 1 y.1)), (1, (Sl.v 1 y.2.1)), (5, (zI y.2.2))]), (hp 1 [(oT tab0)]))) (fun w y => l74_1 pu n w y.1 y.2.1 y.2.2) n ⟨(s0, s1, (0 : Int)), hm, (.k0 [false] [] [0, 1, 5])⟩ (fun _ => rfl) ?_
    rintro w0 ⟨s2, s3, z0⟩ hm
    replace hm : b74_1 pu n (l74_1 pu n w0) s2 s3 z0 = some v := hm
    unfold b74_1 at hm
    refine .then ?_
    refine .then ?_
    refine .rK ?_
    refine .ghs (fr 83 [(0, (Sl.v 1 s2)), (1, (Sl.v 1 s3)), (5, (zI z0)), (10, (zB (ilt z0 (Int.ofNat (Sl.n s2)))))]) (hp 1 [(oT tab0)]) (.k0 [false] [] [0, 1, 5, 10]) ?_
    replace hm := bb_cases hm; rcases hm with ⟨h0, hm⟩ | ⟨h0, hm⟩
    · refine .ifT (ilt z0 (Int.ofNat (Sl.n s2))) (by kernel_rfl) h0 ?_
      refine .skip ?_
      refine .ghs (fr 83 [(0, (Sl.v 1 s2)), (1, (Sl.v 1 s3)), (5, (zI z0))]) (hp 1 [(oT tab0)]) (.k0 [false] [] [0, 1, 5]) ?_
      refine .join (v := v) (fun y : Sl × Sl × Int => ((fr 83 [(0, (Sl.v 1 y.1)), (1, (Sl.v 1 y.2.1)), (5, (zI y.2.2))]), (hp 1 [(oT tab0)]))) (fun y => m74_2 pu n (l74_1 pu n w0) y.1 y.2.1 y.2.2) ?_ ?_
      · rintro ⟨s4, s5, z1⟩ hm
        unfold m74_2 at hm
        refine .rK ?_
        exact ⟨(s4, s5, (wrapF .i64 (Int.add z1 (1 : Int)))), hm, (.k0 [false] [] [0, 1, 5])⟩
      · refine .block ?_
        refine .join (v := v) (fun y : Sl × Sl × Int => ((fr 83 [(0, (Sl.v 1 y.1)), (1, (Sl.v 1 y.2.1)), (5, (zI y.2.2))]), (hp 1 [(oT tab0)]))) (fun y => m74_3 pu n (l74_1 pu n w0) y.1 y.2.1 y.2.2) ?_ ?_
        · rintro ⟨s6, s7, z2⟩ hm
          unfold m74_3 at hm
          refine .then ?_
          replace hm := oo_inv hm; obtain ⟨k1, h1, hm⟩ := hm
          obtain rfl := toN_some h1
          replace hm := bb_inv hm; obtain ⟨h2, hm⟩ := hm
          replace hm := oo_inv hm; obtain ⟨v0, h3, hm⟩ := hm
          replace hm := inv_toSl hm; obtain ⟨s8, rfl, hm⟩ := hm
          replace hm := bb_inv hm; obtain ⟨h4, hm⟩ := hm
          replace hm := oo_inv hm; obtain ⟨v1, h5, hm⟩ := hm
          replace hm := inv_toSl hm; obtain ⟨s9, rfl, hm⟩ := hm
          refine .reg (eC 2 (keep (hp 1 [(oT tab0)]) (bb (an (Nat.blt k1 (Sl.n s6)) true) (some (fpV (k1 * 1) (Sl.cs s6))) none)) (keep_bb h2) (eD (keep (hp 1 [(oT tab0)]) (nthL (Sl.cs s6) (k1 * 1))) (keep_eq h3) (eC 3 (keep (hp 1 [(oT tab0)]) (bb (an (Nat.blt k1 (Sl.n s7)) true) (some (fpV (k1 * 1) (Sl.cs s7))) none)) (keep_bb h4) (eD (keep (hp 1 [(oT tab0)]) (nthL (Sl.cs s7) (k1 * 1))) (keep_eq h5) (eE))))) ?_
          refine .ghs (fr 83 [(0, (Sl.v 1 s6)), (1, (Sl.v 1 s7)), (5, (zI (Int.ofNat k1))), (71, (zB (nt (ieq (Int.ofNat (Sl.n s8)) (Int.ofNat (Sl.n s9))))))]) (hp 1 [(oT tab0)]) (.k0 [false] [] [0, 1, 5, 71]) ?_
          replace hm := bb_cases hm; rcases hm with ⟨h6, hm⟩ | ⟨h6, hm⟩
          · refine .ifT (nt (ieq (Int.ofNat (Sl.n s8)) (Int.ofNat (Sl.n s9)))) (by kernel_rfl) h6 ?_
            refine .then ?_
            replace hm := bb_inv hm; obtain ⟨h7, hm⟩ := hm
            replace hm := oo_inv hm; obtain ⟨v2, h8, hm⟩ := hm
            replace hm := inv_toSl hm; obtain ⟨s10, rfl, hm⟩ := hm
            replace hm := bb_inv hm; obtain ⟨h9, hm⟩ := hm
            replace hm := oo_inv hm; obtain ⟨v3, h10, hm⟩ := hm
            replace hm := inv_toSl hm; obtain ⟨s11, rfl, hm⟩ := hm
            refine .reg (eC 2 (keep (hp 1 [(oT tab0)]) (bb (an (Nat.blt k1 (Sl.n s6)) true) (some (fpV (k1 * 1) (Sl.cs s6))) none)) (keep_bb h7) (eD (keep (hp 1 [(oT tab0)]) (nthL (Sl.cs s6) (k1 * 1))) (keep_eq h8) (eC 3 (keep (hp 1 [(oT tab0)]) (bb (an (Nat.blt k1 (Sl.n s7)) true) (some (fpV (k1 * 1) (Sl.cs s7))) none)) (keep_bb h9) (eD (keep (hp 1 [(oT tab0)]) (nthL (Sl.cs s7) (k1 * 1))) (keep_eq h10) (eE))))) ?_
            refine .ghs (fr 83 [(4, (zB (ilt (Int.ofNat (Sl.n s10)) (Int.ofNat (Sl.n s11)))))]) (hp 1 [(oT tab0)]) (.k0 [false] [] [4]) ?_
            refine .ret ?_
            exact fin_ret (zB (ilt (Int.ofNat (Sl.n s10)) (Int.ofNat (Sl.n s11)))) (by kernel_rfl) (by kernel_rfl) hm
          · refine .ifF (nt (ieq (Int.ofNat (Sl.n s8)) (Int.ofNat (Sl.n s9)))) (by kernel_rfl) h6 ?_
            refine .skip ?_
            exact ⟨(s6, s7, (Int.ofNat k1)), hm, (.k0 [false] [] [0, 1, 5])⟩
        · refine .then ?_
          refine .rK ?_
          refine .ghs (fr 83 [(0, (Sl.v 1 s2)), (1, (Sl.v 1 s3)), (5, (zI z0)), (6, (zI (0 : Int)))]) (hp 1 [(oT tab0)]) (.k0 [false] [] [0, 1, 5, 6]) ?_
          refine .block ?_
          refine .loopM (v := v) (fun y : Sl × Sl × Int × Int => ((fr 83 [(0, (Sl.v 1 y.1)), (1, (Sl.v 1 y.2.1)), (5, (zI y.2.2.1)), (6, (zI y.2.2.2))]), (hp 1 [(oT tab0)]))) (fun w y => l74_4 pu n (l74_1 pu n w0) w y.1 y.2.1 y.2.2.1 y.2.2.2) n ⟨(s2, s3, z0, (0 : Int)), hm, (.k0 [false] [] [0, 1, 5, 6])⟩ (fun _ => rfl) ?_
          rintro w1 ⟨s12, s13, z3, z4⟩ hm
          replace hm : b74_4 pu n (l74_1 pu n w0) (l74_4 pu n (l74_1 pu n w0) w1) s12 s13 z3 z4 = some v := hm
          unfold b74_4 at hm
          refine .then ?_
          refine .join (v := v) (fun y : Sl × Sl × Int × Int × Bool => ((fr 83 [(0, (Sl.v 1 y.1)), (1, (Sl.v 1 y.2.1)), (5, (zI y.2.2.1)), (6, (zI y.2.2.2.1)), (28, (zB y.2.2.2.2))]), (hp 1 [(oT tab0)]))) (fun y => m74_5 pu n (l74_1 pu n w0) (l74_4 pu n (l74_1 pu n w0) w1) y.1 y.2.1 y.2.2.1 y.2.2.2.1 y.2.2.2.2) ?_ ?_
          · rintro ⟨s14, s15, z5, z6, b0⟩ hm
            unfold m74_5 at hm
            replace hm := bb_cases hm; rcases hm with ⟨h11, hm⟩ | ⟨h11, hm⟩
            · refine .ifT b0 (by kernel_rfl) h11 ?_
              refine .skip ?_
              refine .ghs (fr 83 [(0, (Sl.v 1 s14)), (1, (Sl.v 1 s15)), (5, (zI z5)), (6, (zI z6))]) (hp 1 [(oT tab0)]) (.k0 [false] [] [0, 1, 5, 6]) ?_
              refine .then ?_
              refine .block ?_
              refine .then ?_
              replace hm := oo_inv hm; obtain ⟨k2, h12, hm⟩ := hm
              obtain rfl := toN_some h12
              replace hm := bb_inv hm; obtain ⟨h13, hm⟩ := hm
              replace hm := oo_inv hm; obtain ⟨v4, h14, hm⟩ := hm
              replace hm := inv_toSl hm; obtain ⟨s16, rfl, hm⟩ := hm
              replace hm := oo_inv hm; obtain ⟨k3, h15, hm⟩ := hm
              obtain rfl := toN_some h15
              replace hm := bb_inv hm; obtain ⟨h16, hm⟩ := hm
              replace hm := oo_inv hm; obtain ⟨v5, h17, hm⟩ := hm
              replace hm := inv_toI hm; obtain ⟨x0, rfl, hm⟩ := hm
              replace hm := bb_inv hm; obtain ⟨h18, hm⟩ := hm
              replace hm := oo_inv hm; obtain ⟨v6, h19, hm⟩ := hm
              replace hm := inv_toSl hm; obtain ⟨s17, rfl, hm⟩ := hm
              replace hm := bb_inv hm; obtain ⟨h20, hm⟩ := hm
              replace hm := oo_inv hm; obtain ⟨v7, h21, hm⟩ := hm
              replace hm := inv_toI hm; obtain ⟨x1, rfl, hm⟩ := hm
              refine .reg (eN 6 (Fr.puts (fr 83 [(0, (Sl.v 1 s14)), (1, (Sl.v 1 s15)), (5, (zI (Int.ofNat k2))), (6, (zI (Int.ofNat k3)))]) [(31, (Sl.v 1 s14)), (32, (zI (Int.ofNat k2))), (33, (fpV (k2 * 1) (Sl.cs s14))), (34, (Sl.v 1 s16)), (35, (zI (Int.ofNat k3))), (36, (fpV (k3 * 1) (Sl.cs s16)))]) (hp 1 [(oT tab0)]) (eC 2 (keep (hp 1 [(oT tab0)]) (bb (an (Nat.blt k2 (Sl.n s14)) true) (some (fpV (k2 * 1) (Sl.cs s14))) none)) (keep_bb h13) (eD (keep (hp 1 [(oT tab0)]) (nthL (Sl.cs s14) (k2 * 1))) (keep_eq h14) (eC 1 (keep (hp 1 [(oT tab0)]) (bb (an (Nat.blt k3 (Sl.n s16)) true) (some (fpV (k3 * 1) (Sl.cs s16))) none)) (keep_bb h16) (by kernel_rfl)))) (eD (keep (hp 1 [(oT tab0)]) (nthL (Sl.cs s16) (k3 * 1))) (keep_eq h17) (eC 2 (keep (hp 1 [(oT tab0)]) (bb (an (Nat.blt k2 (Sl.n s15)) true) (some (fpV (k2 * 1) (Sl.cs s15))) none)) (keep_bb h18) (eD (keep (hp 1 [(oT tab0)]) (nthL (Sl.cs s15) (k2 * 1))) (keep_eq h19) (eC 1 (keep (hp 1 [(oT tab0)]) (bb (an (Nat.blt k3 (Sl.n s17)) true) (some (fpV (k3 * 1) (Sl.cs s17))) none)) (keep_bb h20) (eD (keep (hp 1 [(oT tab0)]) (nthL (Sl.cs s17) (k3 * 1))) (keep_eq h21) (eE))))))) ?_
              refine .ghs (fr 83 [(0, (Sl.v 1 s14)), (1, (Sl.v 1 s15)), (5, (zI (Int.ofNat k2))), (6, (zI (Int.ofNat k3))), (45, (zB (nt (ieq x0 x1))))]) (hp 1 [(oT tab0)]) (.k0 [false] [] [0, 1, 5, 6, 45]) ?_
              replace hm := bb_cases hm; rcases hm with ⟨h22, hm⟩ | ⟨h22, hm⟩
              · refine .ifT (nt (ieq x0 x1)) (by kernel_rfl) h22 ?_
                refine .then ?_
                replace hm := bb_inv hm; obtain ⟨h23, hm⟩ := hm
                replace hm := oo_inv hm; obtain ⟨v8, h24, hm⟩ := hm
                replace hm := inv_toSl hm; obtain ⟨s18, rfl, hm⟩ := hm
                replace hm := bb_inv hm; obtain ⟨h25, hm⟩ := hm
                replace hm := oo_inv hm; obtain ⟨v9, h26, hm⟩ := hm
                replace hm := inv_toI hm; obtain ⟨x2, rfl, hm⟩ := hm
                replace hm := bb_inv hm; obtain ⟨h27, hm⟩ := hm
                replace hm := oo_inv hm; obtain ⟨v10, h28, hm⟩ := hm
                replace hm := inv_toSl hm; obtain ⟨s19, rfl, hm⟩ := hm
                replace hm := bb_inv hm; obtain ⟨h29, hm⟩ := hm
                replace hm := oo_inv hm; obtain ⟨v11, h30, hm⟩ := hm
                replace hm := inv_toI hm; obtain ⟨x3, rfl, hm⟩ := hm
                refine .reg (eN 6 (Fr.puts (fr 83 [(0, (Sl.v 1 s14)), (1, (Sl.v 1 s15)), (5, (zI (Int.ofNat k2))), (6, (zI (Int.ofNat k3))), (45, (zB (nt (ieq x0 x1))))]) [(46, (Sl.v 1 s14)), (47, (zI (Int.ofNat k2))), (48, (fpV (k2 * 1) (Sl.cs s14))), (49, (Sl.v 1 s18)), (50, (zI (Int.ofNat k3))), (51, (fpV (k3 * 1) (Sl.cs s18)))]) (hp 1 [(oT tab0)]) (eC 2 (keep (hp 1 [(oT tab0)]) (bb (an (Nat.blt k2 (Sl.n s14)) true) (some (fpV (k2 * 1) (Sl.cs s14))) none)) (keep_bb h23) (eD (keep (hp 1 [(oT tab0)]) (nthL (Sl.cs s14) (k2 * 1))) (keep_eq h24) (eC 1 (keep (hp 1 [(oT tab0)]) (bb (an (Nat.blt k3 (Sl.n s18)) true) (some (fpV (k3 * 1) (Sl.cs s18))) none)) (keep_bb h25) (by kernel_rfl)))) (eD (keep (hp 1 [(oT tab0)]) (nthL (Sl.cs s18) (k3 * 1))) (keep_eq h26) (eC 2 (keep (hp 1 [(oT tab0)]) (bb (an (Nat.blt k2 (Sl.n s15)) true) (some (fpV (k2 * 1) (Sl.cs s15))) none)) (keep_bb h27) (eD (keep (hp 1 [(oT tab0)]) (nthL (Sl.cs s15) (k2 * 1))) (keep_eq h28) (eC 1 (keep (hp 1 [(oT tab0)]) (bb (an (Nat.blt k3 (Sl.n s19)) true) (some (fpV (k3 * 1) (Sl.cs s19))) none)) (keep_bb h29) (eD (keep (hp 1 [(oT tab0)]) (nthL (Sl.cs s19) (k3 * 1))) (keep_eq h30) (eE))))))) ?_
                refine .ghs (fr 83 [(4, (zB (ilt x2 x3)))]) (hp 1 [(oT tab0)]) (.k0 [false] [] [4]) ?_
                refine .ret ?_
                exact fin_ret (zB (ilt x2 x3)) (by kernel_rfl) (by kernel_rfl) hm
              · refine .ifF (nt (ieq x0 x1)) (by kernel_rfl) h22 ?_
                refine .skip ?_
                refine .ghs (fr 83 [(0, (Sl.v 1 s14)), (1, (Sl.v 1 s15)), (5, (zI (Int.ofNat k2))), (6, (zI (Int.ofNat k3)))]) (hp 1 [(oT tab0)]) (.k0 [false] [] [0, 1, 5, 6]) ?_
                refine .rK ?_
                exact ⟨(s14, s15, (Int.ofNat k2), (wrapF .i64 (Int.add (Int.ofNat k3) (1 : Int)))), hm, (.k0 [false] [] [0, 1, 5, 6])⟩
            · refine .ifF b0 (by kernel_rfl) h11 ?_
              refine .exit ?_
              exact ⟨(s14, s15, z5), hm, (.k0 [false] [] [0, 1, 5])⟩
          · replace hm := oo_inv hm; obtain ⟨k4, h31, hm⟩ := hm
            obtain rfl := toN_some h31
            replace hm := bb_inv hm; obtain ⟨h32, hm⟩ := hm
            replace hm := oo_inv hm; obtain ⟨v12, h33, hm⟩ := hm
            replace hm := inv_toSl hm; obtain ⟨s20, rfl, hm⟩ := hm
            replace hm := bb_cases hm; rcases hm with ⟨h34, hm⟩ | ⟨h34, hm⟩
            · replace hm := bb_inv hm; obtain ⟨h35, hm⟩ := hm
              replace hm := oo_inv hm; obtain ⟨v13, h36, hm⟩ := hm
              replace hm := inv_toSl hm; obtain ⟨s21, rfl, hm⟩ := hm
              refine .reg (eC 3 (keep (hp 1 [(oT tab0)]) (bb (an (Nat.blt k4 (Sl.n s12)) true) (some (fpV (k4 * 1) (Sl.cs s12))) none)) (keep_bb h32) (eD (keep (hp 1 [(oT tab0)]) (nthL (Sl.cs s12) (k4 * 1))) (keep_eq h33) (eC 1 (some ((zB (ilt z4 (Int.ofNat (Sl.n s20)))), (hp 1 [(oT tab0)]))) (show _ = some ((zB true), _) from (by rw [h34])) (eC 4 (keep (hp 1 [(oT tab0)]) (bb (an (Nat.blt k4 (Sl.n s13)) true) (some (fpV (k4 * 1) (Sl.cs s13))) none)) (keep_bb h35) (eD (keep (hp 1 [(oT tab0)]) (nthL (Sl.cs s13) (k4 * 1))) (keep_eq h36) (eE)))))) ?_
              exact ⟨(s12, s13, (Int.ofNat k4), z4, (ilt z4 (Int.ofNat (Sl.n s21)))), hm, (.k0 [false] [] [0, 1, 5, 6, 28])⟩
            · refine .reg (eC 3 (keep (hp 1 [(oT tab0)]) (bb (an (Nat.blt k4 (Sl.n s12)) true) (some (fpV (k4 * 1) (Sl.cs s12))) none)) (keep_bb h32) (eD (keep (hp 1 [(oT tab0)]) (nthL (Sl.cs s12) (k4 * 1))) (keep_eq h33) (eC 1 (some ((zB (ilt z4 (Int.ofNat (Sl.n s20)))), (hp 1 [(oT tab0)]))) (show _ = some ((zB false), _) from (by rw [h34])) (eE)))) ?_
              exact ⟨(s12, s13, (Int.ofNat k4), z4, false), hm, (.k0 [false] [] [0, 1, 5, 6, 28])⟩
    · refine .ifF (ilt z0 (Int.ofNat (Sl.n s2))) (by kernel_rfl) h0 ?_
      refine .exit ?_
      exact ⟨(), hm, (.k0 [false] [] [])⟩

def m10650_ (pu : PureF) (n : Nat) (z0 : Int) (s0 : Sl) (s1 : Sl) : Option Value :=
  (oo (findE (.int .u16 (0 : Int)) ([] : List Ent) 0) none fun r0 => (bb (allL entClosed (updE (.int .u16 (0 : Int)) (.int .i64 (0 : Int)) 0 ([] : List Ent) r0)) (some (.tuple ⟨[(.pointer (some ⟨1, 0, none⟩)), (.agg ⟨[(.int .i64 z0), (Sl.v 1 s0), (Sl.v 1 s1), (.map (some 2))]⟩), (encO (.map (updE (.int .u16 (0 : Int)) (.int .i64 (0 : Int)) 0 ([] : List Ent) r0) (updC 0 r0)))]⟩)) none))
def m10650 (pu : PureF) (n : Nat) (args : List Value) : Option Value :=
  (ll args none fun a0 args => (ll args (oo (vAgg a0) none fun l0 => (ll l0 none fun v0 l0 => (ll l0 none fun v1 l0 => (ll l0 none fun v2 l0 => (ll l0 (oo (toI .i64 v0) none fun x0 => (oo (toSl 1 v1) none fun s0 => (oo (toSl 1 v2) none fun s1 => (m10650_ pu n x0 s0 s1)))) fun _ _ => none))))) fun _ _ => none))
theorem q10650 (pu : PureF) (n : Nat) (z0 : Int) (s0 : Sl) (s1 : Sl) {v : Value} (hm : m10650_ pu n z0 s0 s1 = some v) : Run tt (callP tabs isP pu (inl pu)) 1 c65_3 (fr 8 [(0, (.agg ⟨[(zI z0), (Sl.v 1 s0), (Sl.v 1 s1)]⟩))]) (hp 1 [(oT tab0)]) (FinO tt 1 0 [.tmp 2] v) := by
  unfold m10650_ at hm
  refine .then ?_
  refine .rK ?_
  refine .ghs (fr 8 [(1, (pt 1 0))]) (hp 2 [(oT tab0), (oC [(zI z0), (Sl.v 1 s0), (Sl.v 1 s1)])]) (.k0 [false] [.tmp 1 false] [1]) ?_
  refine .then ?_
  replace hm := oo_inv hm; obtain ⟨r0, h0, hm⟩ := hm
  refine .reg (eC 2 (done (oo (findE (.int .u16 (0 : Int)) ([] : List Ent) 0) none fun r => oo r (some (AHeap.set (hp 3 [(oT tab0), (oC [(zI z0), (Sl.v 1 s0), (Sl.v 1 s1)]), (.map ([] : List Ent) 0)]) 2 (.map (appL ([] : List Ent) [⟨(.int .u16 (0 : Int)), (zI (0 : Int)), 0⟩]) (0 + 1)))) fun p => pp p fun j _ => some (AHeap.set (hp 3 [(oT tab0), (oC [(zI z0), (Sl.v 1 s0), (Sl.v 1 s1)]), (.map ([] : List Ent) 0)]) 2 (.map (modL (fun e => ⟨(.int .u16 (0 : Int)), (zI (0 : Int)), e.born⟩) j ([] : List Ent)) 0))) undef) (upd_eq (H2 := (hp 3 [(oT tab0), (oC [(zI z0), (Sl.v 1 s0), (Sl.v 1 s1)]), (.map (updE (.int .u16 (0 : Int)) (zI (0 : Int)) 0 ([] : List Ent) r0) (updC 0 r0))])) h0) (eE)) ?_
  replace hm := bb_inv hm; obtain ⟨h1, hm⟩ := hm
  refine .ghs (fr 8 [(2, (pt 1 0))]) (hp 3 [(oT tab0), (oC [(zI z0), (Sl.v 1 s0), (Sl.v 1 s1), (.map (some 2))]), (.map (updE (.int .u16 (0 : Int)) (zI (0 : Int)) 0 ([] : List Ent) r0) (updC 0 r0))]) (.k [2] [false] [.tmp 2 true, .cell 1 3 false] [2] ⟨trE (by kernel_rfl) h1, trivial⟩) ?_
  refine .ghs (fr 8 [(2, (pt 1 0))]) (hp 3 [(oT tab0), (oC [(zI z0), (Sl.v 1 s0), (Sl.v 1 s1), (.map (some 2))]), (.map (updE (.int .u16 (0 : Int)) (zI (0 : Int)) 0 ([] : List Ent) r0) (updC 0 r0))]) (.k [2] [false] [.tmp 2 true, .cell 1 3 false] [2] ⟨trE (by kernel_rfl) h1, trivial⟩) ?_
  refine .ret ?_
  exact finO_ret (pt 1 0) [(oC [(zI z0), (Sl.v 1 s0), (Sl.v 1 s1), (.map (some 2))]), (.map (updE (.int .u16 (0 : Int)) (zI (0 : Int)) 0 ([] : List Ent) r0) (updC 0 r0))] (by kernel_rfl) hm (Nat.le_of_ble_eq_true rfl) (ooAt_cons (pO_c _) (ooAt_cons (pO_m _ _) ooAt_nil))
theorem r10650 {call : CallF} (pu : PureF) (n : Nat) (hcall : call = callP tabs isP pu (inl pu)) {args : List Value} {os : List AObj} {z : Value} (ha : args.length = 1) (hk : os.length = 0) (hpl : ∀ o ∈ os, plainO o) (hm : m10650 pu n (args ++ os.map encO) = some z) : args.length ≤ 8 ∧ Run tt call (tabs.length + 0) c65_3 (Fr.made 8 args) (subHeap tabs os) (FinO tt tabs.length 0 [.tmp 2] z) := by
  subst hcall
  have hq := len_cons ha; clear ha; obtain ⟨a0, args, rfl, ha⟩ := hq
  obtain rfl := len_nil ha
  obtain rfl := len_nil hk
  replace hm : m10650 pu n [a0] = some z := hm
  unfold m10650 at hm
  replace hm : (oo (vAgg a0) none fun l0 => (ll l0 none fun v0 l0 => (ll l0 none fun v1 l0 => (ll l0 none fun v2 l0 => (ll l0 (oo (toI .i64 v0) none fun x0 => (oo (toSl 1 v1) none fun s0 => (oo (toSl 1 v2) none fun s1 => (m10650_ pu n x0 s0 s1)))) fun _ _ => none))))) = some z := hm
  replace hm := inv_vAgg hm; obtain ⟨l0, rfl, hm⟩ := hm
  replace hm := ll_uncons hm; obtain ⟨v0, l1347_0, rfl, hm⟩ := hm
  replace hm := ll_uncons hm; obtain ⟨v1, l1347_1, rfl, hm⟩ := hm
  replace hm := ll_uncons hm; obtain ⟨v2, l1347_2, rfl, hm⟩ := hm
  replace hm := ll_end hm; obtain ⟨rfl, hm⟩ := hm
  replace hm := inv_toI hm; obtain ⟨x0, rfl, hm⟩ := hm
  replace hm := inv_toSl hm; obtain ⟨s0, rfl, hm⟩ := hm
  replace hm := inv_toSl hm; obtain ⟨s1, rfl, hm⟩ := hm
  refine ⟨by simp, ?_⟩
  exact .same (F' := (fr 8 [(0, (.agg ⟨[(zI x0), (Sl.v 1 s0), (Sl.v 1 s1)]⟩))])) (H' := (hp 1 [(oT tab0)])) (by kernel_rfl) (by kernel_rfl) (q10650 pu n x0 s0 s1 hm)
def m10660_1 (pu : PureF) (n : Nat) (z0 : Int) (z1 : Int) (z2 : Int) (s0 : Sl) (s1 : Sl) (e0 : List Ent) (k1 : Nat) : Option Value :=
  (oo (findE (.int .u16 z0) e0 0) none fun r0 => (bb (allL entClosed (updE (.int .u16 z0) (.int .i64 z1) k1 e0 r0)) (some (.tuple ⟨[(.int .i64 z1), (.agg ⟨[(.int .i64 z2), (Sl.v 1 s0), (Sl.v 1 s1), (.map (some 2))]⟩), (encO (.map (updE (.int .u16 z0) (.int .i64 z1) k1 e0 r0) (updC k1 r0)))]⟩)) none))
def m10660_0 (pu : PureF) (n : Nat) (z0 : Int) (z1 : Int) (z2 : Int) (s0 : Sl) (s1 : Sl) (e0 : List Ent) (k1 : Nat) : Option Value :=
  (oo (pu 71 [(.agg ⟨[(.int .i64 z2), (Sl.v 1 s0), (Sl.v 1 s1)]⟩), (.int .u16 z0)]) none fun v0 => (oo (vBool v0) none fun b0 => (bb (allL entClosed e0) (bb b0 (m10660_1 pu n z0 (wrapF .i64 (Int.add z1 (1 : Int))) z2 s0 s1 e0 k1) (m10660_1 pu n z0 z1 z2 s0 s1 e0 k1)) none)))
def b10660_2 (pu : PureF) (n : Nat) (ih0 : Int → Int → Sl → Int → Int → Int → Sl → Sl → List Ent → Nat → Option Value) (z0 : Int) (z1 : Int) (s0 : Sl) (z2 : Int) (z3 : Int) (z4 : Int) (s1 : Sl) (s2 : Sl) (e0 : List Ent) (k1 : Nat) : Option Value :=
  (bb (allL entClosed e0) (bb (ilt z3 z2) (oo (toN z3) none fun k2 => (bb (an (Nat.blt k2 (Sl.n s0)) true) (oo (nthL (Sl.cs s0) (k2 * 1)) none fun v0 => (oo (toI .i64 v0) none fun x0 => (oo (toN x0) none fun k3 => (bb (allL entClosed e0) (oo (pu 10660 [(.pointer (some ⟨1, 0, none⟩)), (.int .u16 (aandNot .u16 z0 (shlI .u16 (1 : Int) k3))), (.agg ⟨[(.int .i64 z4), (Sl.v 1 s1), (Sl.v 1 s2), (.map (some 2))]⟩), (encO (.map e0 k1))]) none fun v1 => (oo (vTup v1) none fun l0 => (ll l0 none fun v2 l0 => (ll l0 none fun v3 l0 => (ll l0 none fun v4 l0 => (ll l0 (oo (toI .i64 v2) none fun x1 => (oo (vAgg v3) none fun l1 => (ll l1 none fun v5 l1 => (ll l1 none fun v6 l1 => (ll l1 none fun v7 l1 => (ll l1 none fun v8 l1 => (ll l1 (oo (toI .i64 v5) none fun x2 => (oo (toSl 1 v6) none fun s3 => (oo (toSl 1 v7) none fun s4 => (bb (isMp v8 2) (oo (vMapO v4) none fun y0 => (bb (allL entClosed (MapV.es y0)) (bb (allL entClosed (MapV.es y0)) (ih0 z0 (bb (ilt z1 x1) x1 z1) s0 z2 (wrapF .i64 (Int.add (Int.ofNat k2) (1 : Int))) x2 s3 s4 (MapV.es y0) (MapV.clock y0)) none) none)) none)))) fun _ _ => none))))))) fun _ _ => none)))))) none)))) none)) (m10660_0 pu n z0 z1 z4 s1 s2 e0 k1)) none)
def l10660_2 (pu : PureF) (n : Nat) (w : Nat) : Int → Int → Sl → Int → Int → Int → Sl → Sl → List Ent → Nat → Option Value :=
  Nat.rec (motive := fun _ => Int → Int → Sl → Int → Int → Int → Sl → Sl → List Ent → Nat → Option Value) (fun _ _ _ _ _ _ _ _ _ _ => none) (fun _ ih0 => b10660_2 pu n ih0) w
def m10660_ (pu : PureF) (n : Nat) (z0 : Int) (z1 : Int) (s0 : Sl) (s1 : Sl) (e0 : List Ent) (k1 : Nat) : Option Value :=
  (bb (allL entClosed e0) (oo (findE (.int .u16 z0) e0 0) none fun r0 => (oo (toI .i64 (getE r0 (.int .i64 (0 : Int)))) none fun x0 => (bb (isS r0) (some (.tuple ⟨[(.int .i64 x0), (.agg ⟨[(.int .i64 z1), (Sl.v 1 s0), (Sl.v 1 s1), (.map (some 2))]⟩), (encO (.map e0 k1))]⟩)) (oo (pu 62 [(.int .u16 z0)]) none fun v0 => (oo (toSl 1 v0) none fun s2 => (l10660_2 pu n n z0 (0 : Int) s2 (Int.ofNat (Sl.n s2)) (0 : Int) z1 s0 s1 e0 k1)))))) none)
def m10660 (pu : PureF) (n : Nat) (args : List Value) : Option Value :=
  (ll args none fun a0 args => (ll args none fun a1 args => (ll args none fun o0 args => (ll args none fun o1 args => (ll args (bb (isPt a0 1 0) (oo (toI .u16 a1) none fun x0 => (oo (vAgg o0) none fun l0 => (ll l0 none fun v0 l0 => (ll l0 none fun v1 l0 => (ll l0 none fun v2 l0 => (ll l0 none fun v3 l0 => (ll l0 (oo (toI .i64 v0) none fun x1 => (oo (toSl 1 v1) none fun s0 => (oo (toSl 1 v2) none fun s1 => (bb (isMp v3 2) (oo (vMapO o1) none fun y0 => (m10660_ pu n x0 x1 s0 s1 (MapV.es y0) (MapV.clock y0))) none)))) fun _ _ => none))))))) none) fun _ _ => none)))))
theorem w10660_1 (pu : PureF) (n : Nat) (z0 : Int) (z1 : Int) (z2 : Int) (s0 : Sl) (s1 : Sl) (e0 : List Ent) (k1 : Nat) {v : Value} (hm : m10660_1 pu n z0 z1 z2 s0 s1 e0 k1 = some v) : Run tt (callP tabs isP pu (inl pu)) 3 c66_30 (fr 52 [(0, (pt 1 0)), (1, (.int .u16 z0)), (7, (zI z1))]) (hp 3 [(oT tab0), (oC [(zI z2), (Sl.v 1 s0), (Sl.v 1 s1), (.map (some 2))]), (.map e0 k1)]) (FinO tt 1 2 [.tmp 4] v) := by
  unfold m10660_1 at hm
  refine .then ?_
  replace hm := oo_inv hm; obtain ⟨r0, h0, hm⟩ := hm
  refine .reg (eC 6 (done (oo (findE (.int .u16 z0) e0 0) none fun r => oo r (some (AHeap.set (hp 3 [(oT tab0), (oC [(zI z2), (Sl.v 1 s0), (Sl.v 1 s1), (.map (some 2))]), (.map e0 k1)]) 2 (.map (appL e0 [⟨(.int .u16 z0), (zI z1), k1⟩]) (k1 + 1)))) fun p => pp p fun j _ => some (AHeap.set (hp 3 [(oT tab0), (oC [(zI z2), (Sl.v 1 s0), (Sl.v 1 s1), (.map (some 2))]), (.map e0 k1)]) 2 (.map (modL (fun e => ⟨(.int .u16 z0), (zI z1), e.born⟩) j e0) k1))) undef) (upd_eq (H2 := (hp 3 [(oT tab0), (oC [(zI z2), (Sl.v 1 s0), (Sl.v 1 s1), (.map (some 2))]), (.map (updE (.int .u16 z0) (zI z1) k1 e0 r0) (updC k1 r0))])) h0) (eE)) ?_
  replace hm := bb_inv hm; obtain ⟨h1, hm⟩ := hm
  refine .ghs (fr 52 [(7, (zI z1))]) (hp 3 [(oT tab0), (oC [(zI z2), (Sl.v 1 s0), (Sl.v 1 s1), (.map (some 2))]), (.map (updE (.int .u16 z0) (zI z1) k1 e0 r0) (updC k1 r0))]) (.k [2] [false, true, false] [] [7] ⟨trE (by kernel_rfl) h1, trivial⟩) ?_
  refine .then ?_
  refine .rK ?_
  refine .ghs (fr 52 [(4, (zI z1))]) (hp 3 [(oT tab0), (oC [(zI z2), (Sl.v 1 s0), (Sl.v 1 s1), (.map (some 2))]), (.map (updE (.int .u16 z0) (zI z1) k1 e0 r0) (updC k1 r0))]) (.k [2] [false, true, false] [] [4] ⟨trE (by kernel_rfl) h1, trivial⟩) ?_
  refine .ghs (fr 52 [(4, (zI z1))]) (hp 3 [(oT tab0), (oC [(zI z2), (Sl.v 1 s0), (Sl.v 1 s1), (.map (some 2))]), (.map (updE (.int .u16 z0) (zI z1) k1 e0 r0) (updC k1 r0))]) (.k [2] [false, true, false] [] [4] ⟨trE (by kernel_rfl) h1, trivial⟩) ?_
  refine .ret ?_
  exact finO_ret (zI z1) [(oC [(zI z2), (Sl.v 1 s0), (Sl.v 1 s1), (.map (some 2))]), (.map (updE (.int .u16 z0) (zI z1) k1 e0 r0) (updC k1 r0))] (by kernel_rfl) hm (Nat.le_of_ble_eq_true rfl) (ooAt_cons (pO_c _) (ooAt_cons (pO_m _ _) ooAt_nil))
theorem w10660_0 (pu : PureF) (n : Nat) (z0 : Int) (z1 : Int) (z2 : Int) (s0 : Sl) (s1 : Sl) (e0 : List Ent) (k1 : Nat) {v : Value} (hm : m10660_0 pu n z0 z1 z2 s0 s1 e0 k1 = some v) : Run tt (callP tabs isP pu (inl pu)) 3 c66_31 (fr 52 [(0, (pt 1 0)), (1, (.int .u16 z0)), (7, (zI z1))]) (hp 3 [(oT tab0), (oC [(zI z2), (Sl.v 1 s0), (Sl.v 1 s1), (.map (some 2))]), (.map e0 k1)]) (FinO tt 1 2 [.tmp 4] v) := by
  unfold m10660_0 at hm
  refine .join (v := v) (fun y : Int × Int × Int × Sl × Sl × List Ent × Nat => ((fr 52 [(0, (pt 1 0)), (1, (.int .u16 y.1)), (7, (zI y.2.1))]), (hp 3 [(oT tab0), (oC [(zI y.2.2.1), (Sl.v 1 y.2.2.2.1), (Sl.v 1 y.2.2.2.2.1), (.map (some 2))]), (.map y.2.2.2.2.2.1 y.2.2.2.2.2.2)]))) (fun y => m10660_1 pu n y.1 y.2.1 y.2.2.1 y.2.2.2.1 y.2.2.2.2.1 y.2.2.2.2.2.1 y.2.2.2.2.2.2) ?_ ?_
  · rintro ⟨z3, z4, z5, s2, s3, e1, k2⟩ hm
    exact w10660_1 pu n z3 z4 z5 s2 s3 e1 k2 hm
  · refine .then ?_
    replace hm := oo_inv hm; obtain ⟨v0, h0, hm⟩ := hm
    replace hm := inv_vBool hm; obtain ⟨b0, rfl, hm⟩ := hm
    refine .reg (eC 5 ((oo (pu 71 [(.agg ⟨[(zI z2), (Sl.v 1 s0), (Sl.v 1 s1)]⟩), (.int .u16 z0)]) none fun v => some (v, (hp 3 [(oT tab0), (oC [(zI z2), (Sl.v 1 s0), (Sl.v 1 s1), (.map (some 2))]), (.map e0 k1)])))) (call_eq h0) (eE)) ?_
    replace hm := bb_inv hm; obtain ⟨h1, hm⟩ := hm
    refine .ghs (fr 52 [(0, (pt 1 0)), (1, (.int .u16 z0)), (7, (zI z1)), (42, (zB b0))]) (hp 3 [(oT tab0), (oC [(zI z2), (Sl.v 1 s0), (Sl.v 1 s1), (.map (some 2))]), (.map e0 k1)]) (.k [2] [false, true, false] [] [0, 1, 7, 42] ⟨trE (by kernel_rfl) h1, trivial⟩) ?_
    replace hm := bb_cases hm; rcases hm with ⟨h2, hm⟩ | ⟨h2, hm⟩
    · refine .ifT b0 (by kernel_rfl) h2 ?_
      refine .rK ?_
      exact ⟨(z0, (wrapF .i64 (Int.add z1 (1 : Int))), z2, s0, s1, e0, k1), hm, (.k [2] [false, true, false] [] [0, 1, 7] ⟨trE (by kernel_rfl) h1, trivial⟩)⟩
    · refine .ifF b0 (by kernel_rfl) h2 ?_
      refine .skip ?_
      exact ⟨(z0, z1, z2, s0, s1, e0, k1), hm, (.k [2] [false, true, false] [] [0, 1, 7] ⟨trE (by kernel_rfl) h1, trivial⟩)⟩
theorem q10660 (pu : PureF) (n : Nat) (z0 : Int) (z1 : Int) (s0 : Sl) (s1 : Sl) (e0 : List Ent) (k1 : Nat) {v : Value} (hm : m10660_ pu n z0 z1 s0 s1 e0 k1 = some v) : Run tt (callP tabs isP pu (inl pu)) 3 c66_35 (fr 52 [(0, (pt 1 0)), (1, (.int .u16 z0))]) (hp 3 [(oT tab0), (oC [(zI z1), (Sl.v 1 s0), (Sl.v 1 s1), (.map (some 2))]), (.map e0 k1)]) (FinO tt 1 2 [.tmp 4] v) := by
  unfold m10660_ at hm
  refine .then ?_
  refine .rK ?_
  replace hm := bb_inv hm; obtain ⟨h0, hm⟩ := hm
  refine .ghs (fr 52 [(0, (pt 1 0)), (1, (.int .u16 z0))]) (hp 3 [(oT tab0), (oC [(zI z1), (Sl.v 1 s0), (Sl.v 1 s1), (.map (some 2))]), (.map e0 k1)]) (.k [2] [false, true, false] [] [0, 1] ⟨trE (by kernel_rfl) h0, trivial⟩) ?_
  refine .then ?_
  refine .then ?_
  replace hm := oo_inv hm; obtain ⟨r0, h1, hm⟩ := hm
  replace hm := oo_inv hm; obtain ⟨x0, h2, hm⟩ := hm
  refine .reg (eC 5 (keep (hp 3 [(oT tab0), (oC [(zI z1), (Sl.v 1 s0), (Sl.v 1 s1), (.map (some 2))]), (.map e0 k1)]) (oo (findE (.int .u16 z0) e0 0) none fun r => oo r (okV true (zI (0 : Int)) false) fun p => pp p fun _ v => okV true v true)) (look_okv h1 (toI_some h2)) (eE)) ?_
  refine .ghs (fr 52 [(0, (pt 1 0)), (1, (.int .u16 z0)), (5, (zI x0)), (6, (zB (isS r0)))]) (hp 3 [(oT tab0), (oC [(zI z1), (Sl.v 1 s0), (Sl.v 1 s1), (.map (some 2))]), (.map e0 k1)]) (.k [2] [false, true, false] [] [0, 1, 5, 6] ⟨trE (by kernel_rfl) h0, trivial⟩) ?_
  refine .then ?_
  refine .rK ?_
  refine .ghs (fr 52 [(0, (pt 1 0)), (1, (.int .u16 z0)), (5, (zI x0)), (19, (zB (isS r0)))]) (hp 3 [(oT tab0), (oC [(zI z1), (Sl.v 1 s0), (Sl.v 1 s1), (.map (some 2))]), (.map e0 k1)]) (.k [2] [false, true, false] [] [0, 1, 5, 19] ⟨trE (by kernel_rfl) h0, trivial⟩) ?_
  replace hm := bb_cases hm; rcases hm with ⟨h3, hm⟩ | ⟨h3, hm⟩
  · refine .ifT (isS r0) (by kernel_rfl) h3 ?_
    refine .then ?_
    refine .rK ?_
    refine .ghs (fr 52 [(4, (zI x0))]) (hp 3 [(oT tab0), (oC [(zI z1), (Sl.v 1 s0), (Sl.v 1 s1), (.map (some 2))]), (.map e0 k1)]) (.k [2] [false, true, false] [] [4] ⟨trE (by kernel_rfl) h0, trivial⟩) ?_
    refine .ghs (fr 52 [(4, (zI x0))]) (hp 3 [(oT tab0), (oC [(zI z1), (Sl.v 1 s0), (Sl.v 1 s1), (.map (some 2))]), (.map e0 k1)]) (.k [2] [false, true, false] [] [4] ⟨trE (by kernel_rfl) h0, trivial⟩) ?_
    refine .ret ?_
    exact finO_ret (zI x0) [(oC [(zI z1), (Sl.v 1 s0), (Sl.v 1 s1), (.map (some 2))]), (.map e0 k1)] (by kernel_rfl) hm (Nat.le_of_ble_eq_true rfl) (ooAt_cons (pO_c _) (ooAt_cons (pO_m _ _) ooAt_nil))
  · refine .ifF (isS r0) (by kernel_rfl) h3 ?_
    refine .skip ?_
    refine .ghs (fr 52 [(0, (pt 1 0)), (1, (.int .u16 z0))]) (hp 3 [(oT tab0), (oC [(zI z1), (Sl.v 1 s0), (Sl.v 1 s1), (.map (some 2))]), (.map e0 k1)]) (.k [2] [false, true, false] [] [0, 1] ⟨trE (by kernel_rfl) h0, trivial⟩) ?_
    refine .then ?_
    refine .rK ?_
    refine .ghs (fr 52 [(0, (pt 1 0)), (1, (.int .u16 z0)), (7, (zI (0 : Int)))]) (hp 3 [(oT tab0), (oC [(zI z1), (Sl.v 1 s0), (Sl.v 1 s1), (.map (some 2))]), (.map e0 k1)]) (.k [2] [false, true, false] [] [0, 1, 7] ⟨trE (by kernel_rfl) h0, trivial⟩) ?_
    refine .join (v := v) (fun y : Int × Int × Int × Sl × Sl × List Ent × Nat => ((fr 52 [(0, (pt 1 0)), (1, (.int .u16 y.1)), (7, (zI y.2.1))]), (hp 3 [(oT tab0), (oC [(zI y.2.2.1), (Sl.v 1 y.2.2.2.1), (Sl.v 1 y.2.2.2.2.1), (.map (some 2))]), (.map y.2.2.2.2.2.1 y.2.2.2.2.2.2)]))) (fun y => m10660_0 pu n y.1 y.2.1 y.2.2.1 y.2.2.2.1 y.2.2.2.2.1 y.2.2.2.2.2.1 y.2.2.2.2.2.2) ?_ ?_
    · rintro ⟨z2, z3, z4, s2, s3, e1, k2⟩ hm
      exact w10660_0 pu n z2 z3 z4 s2 s3 e1 k2 hm
    · refine .then ?_
      replace hm := oo_inv hm; obtain ⟨v0, h4, hm⟩ := hm
      replace hm := inv_toSl hm; obtain ⟨s4, rfl, hm⟩ := hm
      refine .reg (eC 1 ((oo (pu 62 [(.int .u16 z0)]) none fun v => some (v, (hp 3 [(oT tab0), (oC [(zI z1), (Sl.v 1 s0), (Sl.v 1 s1), (.map (some 2))]), (.map e0 k1)])))) (call_eq h4) (eE)) ?_
      refine .ghs (fr 52 [(0, (pt 1 0)), (1, (.int .u16 z0)), (7, (zI (0 : Int))), (22, (Sl.v 1 s4)), (23, (zI (Int.ofNat (Sl.n s4)))), (24, (zI (0 : Int)))]) (hp 3 [(oT tab0), (oC [(zI z1), (Sl.v 1 s0), (Sl.v 1 s1), (.map (some 2))]), (.map e0 k1)]) (.k [2] [false, true, false] [] [0, 1, 7, 22, 23, 24] ⟨trE (by kernel_rfl) h0, trivial⟩) ?_
      refine .block ?_
      refine .loopM (v := v) (fun y : Int × Int × Sl × Int × Int × Int × Sl × Sl × List Ent × Nat => ((fr 52 [(0, (pt 1 0)), (1, (.int .u16 y.1)), (7, (zI y.2.1)), (22, (Sl.v 1 y.2.2.1)), (23, (zI y.2.2.2.1)), (24, (zI y.2.2.2.2.1))]), (hp 3 [(oT tab0), (oC [(zI y.2.2.2.2.2.1), (Sl.v 1 y.2.2.2.2.2.2.1), (Sl.v 1 y.2.2.2.2.2.2.2.1), (.map (some 2))]), (.map y.2.2.2.2.2.2.2.2.1 y.2.2.2.2.2.2.2.2.2)]))) (fun w y => l10660_2 pu n w y.1 y.2.1 y.2.2.1 y.2.2.2.1 y.2.2.2.2.1 y.2.2.2.2.2.1 y.2.2.2.2.2.2.1 y.2.2.2.2.2.2.2.1 y.2.2.2.2.2.2.2.2.1 y.2.2.2.2.2.2.2.2.2) n ⟨(z0, (0 : Int), s4, (Int.ofNat (Sl.n s4)), (0 : Int), z1, s0, s1, e0, k1), hm, (.k [2] [false, true, false] [] [0, 1, 7, 22, 23, 24] ⟨trE (by kernel_rfl) h0, trivial⟩)⟩ (fun _ => rfl) ?_
      rintro w0 ⟨z5, z6, s5, z7, z8, z9, s6, s7, e2, k3⟩ hm
      replace hm : b10660_2 pu n (l10660_2 pu n w0) z5 z6 s5 z7 z8 z9 s6 s7 e2 k3 = some v := hm
      unfold b10660_2 at hm
      refine .then ?_
      refine .rK ?_
      replace hm := bb_inv hm; obtain ⟨h5, hm⟩ := hm
      refine .ghs (fr 52 [(0, (pt 1 0)), (1, (.int .u16 z5)), (7, (zI z6)), (22, (Sl.v 1 s5)), (23, (zI z7)), (24, (zI z8)), (25, (zB (ilt z8 z7)))]) (hp 3 [(oT tab0), (oC [(zI z9), (Sl.v 1 s6), (Sl.v 1 s7), (.map (some 2))]), (.map e2 k3)]) (.k [2] [false, true, false] [] [0, 1, 7, 22, 23, 24, 25] ⟨trE (by kernel_rfl) h5, trivial⟩) ?_
      refine .then ?_
      replace hm := bb_cases hm; rcases hm with ⟨h6, hm⟩ | ⟨h6, hm⟩
      · refine .ifT (ilt z8 z7) (by kernel_rfl) h6 ?_
        refine .skip ?_
        refine .ghs (fr 52 [(0, (pt 1 0)), (1, (.int .u16 z5)), (7, (zI z6)), (22, (Sl.v 1 s5)), (23, (zI z7)), (24, (zI z8))]) (hp 3 [(oT tab0), (oC [(zI z9), (Sl.v 1 s6), (Sl.v 1 s7), (.map (some 2))]), (.map e2 k3)]) (.k [2] [false, true, false] [] [0, 1, 7, 22, 23, 24] ⟨trE (by kernel_rfl) h5, trivial⟩) ?_
        refine .then ?_
        refine .block ?_
        refine .then ?_
        replace hm := oo_inv hm; obtain ⟨k4, h7, hm⟩ := hm
        obtain rfl := toN_some h7
        replace hm := bb_inv hm; obtain ⟨h8, hm⟩ := hm
        replace hm := oo_inv hm; obtain ⟨v1, h9, hm⟩ := hm
        replace hm := inv_toI hm; obtain ⟨x1, rfl, hm⟩ := hm
        refine .reg (eD (keep (hp 3 [(oT tab0), (oC [(zI z9), (Sl.v 1 s6), (Sl.v 1 s7), (.map (some 2))]), (.map e2 k3)]) (bb (an (Nat.blt k4 (Sl.n s5)) true) (some (fpV (k4 * 1) (Sl.cs s5))) none)) (keep_bb h8) (eD (keep (hp 3 [(oT tab0), (oC [(zI z9), (Sl.v 1 s6), (Sl.v 1 s7), (.map (some 2))]), (.map e2 k3)]) (nthL (Sl.cs s5) (k4 * 1))) (keep_eq h9) (eE))) ?_
        refine .ghs (fr 52 [(0, (pt 1 0)), (1, (.int .u16 z5)), (7, (zI z6)), (9, (zI x1)), (22, (Sl.v 1 s5)), (23, (zI z7)), (24, (zI (Int.ofNat k4)))]) (hp 3 [(oT tab0), (oC [(zI z9), (Sl.v 1 s6), (Sl.v 1 s7), (.map (some 2))]), (.map e2 k3)]) (.k [2] [false, true, false] [] [0, 1, 7, 9, 22, 23, 24] ⟨trE (by kernel_rfl) h5, trivial⟩) ?_
        replace hm := oo_inv hm; obtain ⟨k5, h10, hm⟩ := hm
        obtain rfl := toN_some h10
        replace hm := bb_inv hm; obtain ⟨h11, hm⟩ := hm
        replace hm := oo_inv hm; obtain ⟨v2, h12, hm⟩ := hm
        replace hm := inv_vTup hm; obtain ⟨l0, rfl, hm⟩ := hm
        replace hm := ll_uncons hm; obtain ⟨v3, l1631_0, rfl, hm⟩ := hm
        replace hm := ll_uncons hm; obtain ⟨v4, l1631_1, rfl, hm⟩ := hm
        replace hm := ll_uncons hm; obtain ⟨v5, l1631_2, rfl, hm⟩ := hm
        replace hm := ll_end hm; obtain ⟨rfl, hm⟩ := hm
        replace hm := inv_toI hm; obtain ⟨x2, rfl, hm⟩ := hm
        replace hm := inv_vAgg hm; obtain ⟨l1, rfl, hm⟩ := hm
        replace hm := ll_uncons hm; obtain ⟨v6, l1638_0, rfl, hm⟩ := hm
        replace hm := ll_uncons hm; obtain ⟨v7, l1638_1, rfl, hm⟩ := hm
        replace hm := ll_uncons hm; obtain ⟨v8, l1638_2, rfl, hm⟩ := hm
        replace hm := ll_uncons hm; obtain ⟨v9, l1638_3, rfl, hm⟩ := hm
        replace hm := ll_end hm; obtain ⟨rfl, hm⟩ := hm
        replace hm := inv_toI hm; obtain ⟨x3, rfl, hm⟩ := hm
        replace hm := inv_toSl hm; obtain ⟨s8, rfl, hm⟩ := hm
        replace hm := inv_toSl hm; obtain ⟨s9, rfl, hm⟩ := hm
        replace hm := bb_inv hm; obtain ⟨h13, hm⟩ := hm
        obtain rfl := isMp_ok h13
        replace hm := oo_inv hm; obtain ⟨y0, h14, hm⟩ := hm
        replace hm := bb_inv hm; obtain ⟨h15, hm⟩ := hm
        refine .reg (eC 6 (objG tabs [[none], [none]] 2 [.tmp 0 true, .cell 1 3 false] [true, false] (pu 10660) [(pt 1 0), (.int .u16 (aandNot .u16 z5 (shlI .u16 (1 : Int) k5)))] (hp 3 [(oT tab0), (oC [(zI z9), (Sl.v 1 s6), (Sl.v 1 s7), (.map (some 2))]), (.map e2 k3)])) (objG_eq (as := [(pt 1 0), (.int .u16 (aandNot .u16 z5 (shlI .u16 (1 : Int) k5)))]) (H1 := (hp 3 [(oT tab0), (oC [(zI z9), (Sl.v 1 s6), (Sl.v 1 s7), (.map (some 2))]), (.map e2 k3)])) (gvAL_c (gvA_1 gv_n) (gvAL_c (gvA_1 gv_n) gvAL_n)) (objF_eq (H2 := (hp 3 [(oT tab0), (oC [(zI x3), (Sl.v 1 s8), (Sl.v 1 s9), (.map (some 2))]), (.map (MapV.es y0) (MapV.clock y0))])) (v := (zI x2)) (v' := (zI x2)) [some 0, some 1, some 2] [(true, some 1), (false, some 2)] [(oC [(zI z9), (Sl.v 1 s6), (Sl.v 1 s7), (.map (some 2))]), (.map e2 k3)] [(pt 1 0), (.int .u16 (aandNot .u16 z5 (shlI .u16 (1 : Int) k5)))] [(.agg ⟨[(zI x3), (Sl.v 1 s8), (Sl.v 1 s9), (.map (some 2))]⟩), v5] [(oC [(zI x3), (Sl.v 1 s8), (Sl.v 1 s9), (.map (some 2))]), (.map (MapV.es y0) (MapV.clock y0))] [some 0, some 1, some 2] [(true, (oC [(zI x3), (Sl.v 1 s8), (Sl.v 1 s9), (.map (some 2))])), (false, (.map (MapV.es y0) (MapV.clock y0)))] [(oC [(zI x3), (Sl.v 1 s8), (Sl.v 1 s9), (.map (some 2))]), (.map (MapV.es y0) (MapV.clock y0))] (by kernel_rfl) (mapO_c (by kernel_rfl) (mapO_c (nO_map h11) mapO_n)) (Eq.trans (by kernel_rfl) h12) (mapO_c rfl (mapO_c (vMapO_some h14) mapO_n)) (mapO_c (by kernel_rfl) (mapO_c (bO_map h15) mapO_n)))) (eE)) ?_
        replace hm := bb_inv hm; obtain ⟨h16, hm⟩ := hm
        refine .ghs (fr 52 [(0, (pt 1 0)), (1, (.int .u16 z5)), (7, (zI (bb (ilt z6 x2) x2 z6))), (22, (Sl.v 1 s5)), (23, (zI z7)), (24, (zI (Int.ofNat k4)))]) (hp 3 [(oT tab0), (oC [(zI x3), (Sl.v 1 s8), (Sl.v 1 s9), (.map (some 2))]), (.map (MapV.es y0) (MapV.clock y0))]) (.k [2] [false, true, false] [] [0, 1, 7, 22, 23, 24] ⟨trE (by kernel_rfl) h16, trivial⟩) ?_
        refine .rK ?_
        exact ⟨(z5, (bb (ilt z6 x2) x2 z6), s5, z7, (wrapF .i64 (Int.add (Int.ofNat k4) (1 : Int))), x3, s8, s9, (MapV.es y0), (MapV.clock y0)), hm, (.k [2] [false, true, false] [] [0, 1, 7, 22, 23, 24] ⟨trE (by kernel_rfl) h16, trivial⟩)⟩
      · refine .ifF (ilt z8 z7) (by kernel_rfl) h6 ?_
        refine .exit ?_
        exact ⟨(z5, z6, z9, s6, s7, e2, k3), hm, (.k [2] [false, true, false] [] [0, 1, 7] ⟨trE (by kernel_rfl) h5, trivial⟩)⟩
theorem r10660 {call : CallF} (pu : PureF) (n : Nat) (hcall : call = callP tabs isP pu (inl pu)) {args : List Value} {os : List AObj} {z : Value} (ha : args.length = 2) (hk : os.length = 2) (hpl : ∀ o ∈ os, plainO o) (hm : m10660 pu n (args ++ os.map encO) = some z) : args.length ≤ 52 ∧ Run tt call (tabs.length + 2) c66_35 (Fr.made 52 args) (subHeap tabs os) (FinO tt tabs.length 2 [.tmp 4] z) := by
  subst hcall
  have hq := len_cons ha; clear ha; obtain ⟨a0, args, rfl, ha⟩ := hq
  have hq := len_cons ha; clear ha; obtain ⟨a1, args, rfl, ha⟩ := hq
  obtain rfl := len_nil ha
  have hq := len_cons hk; clear hk; obtain ⟨b0, os, rfl, hk⟩ := hq
  have hp0 : plainO b0 := hpl b0 (by simp)
  have hq := len_cons hk; clear hk; obtain ⟨b1, os, rfl, hk⟩ := hq
  have hp1 : plainO b1 := hpl b1 (by simp)
  obtain rfl := len_nil hk
  replace hm : m10660 pu n [a0, a1, encO b0, encO b1] = some z := hm
  unfold m10660 at hm
  replace hm : (bb (isPt a0 1 0) (oo (toI .u16 a1) none fun x0 => (oo (vAgg (encO b0)) none fun l0 => (ll l0 none fun v0 l0 => (ll l0 none fun v1 l0 => (ll l0 none fun v2 l0 => (ll l0 none fun v3 l0 => (ll l0 (oo (toI .i64 v0) none fun x1 => (oo (toSl 1 v1) none fun s0 => (oo (toSl 1 v2) none fun s1 => (bb (isMp v3 2) (oo (vMapO (encO b1)) none fun y0 => (m10660_ pu n x0 x1 s0 s1 (MapV.es y0) (MapV.clock y0))) none)))) fun _ _ => none))))))) none) = some z := hm
  replace hm := bb_inv hm; obtain ⟨h0, hm⟩ := hm
  obtain rfl := isPt_ok h0
  replace hm := inv_toI hm; obtain ⟨x0, rfl, hm⟩ := hm
  replace hm := oo_inv hm; obtain ⟨l0, h1, hm⟩ := hm
  obtain rfl := vAgg_enc hp0 h1
  replace hm := ll_uncons hm; obtain ⟨v0, l1658_0, rfl, hm⟩ := hm
  replace hm := ll_uncons hm; obtain ⟨v1, l1658_1, rfl, hm⟩ := hm
  replace hm := ll_uncons hm; obtain ⟨v2, l1658_2, rfl, hm⟩ := hm
  replace hm := ll_uncons hm; obtain ⟨v3, l1658_3, rfl, hm⟩ := hm
  replace hm := ll_end hm; obtain ⟨rfl, hm⟩ := hm
  replace hm := inv_toI hm; obtain ⟨x1, rfl, hm⟩ := hm
  replace hm := inv_toSl hm; obtain ⟨s0, rfl, hm⟩ := hm
  replace hm := inv_toSl hm; obtain ⟨s1, rfl, hm⟩ := hm
  replace hm := bb_inv hm; obtain ⟨h2, hm⟩ := hm
  obtain rfl := isMp_ok h2
  replace hm := oo_inv hm; obtain ⟨y0, h3, hm⟩ := hm
  obtain rfl := vMapO_enc hp1 h3
  refine ⟨by simp, ?_⟩
  exact .same (F' := (fr 52 [(0, (pt 1 0)), (1, (.int .u16 x0))])) (H' := (hp 3 [(oT tab0), (oC [(zI x1), (Sl.v 1 s0), (Sl.v 1 s1), (.map (some 2))]), (.map (MapV.es y0) (MapV.clock y0))])) (by kernel_rfl) (by kernel_rfl) (q10660 pu n x0 x1 s0 s1 (MapV.es y0) (MapV.clock y0) hm)
def m10690_0 (pu : PureF) (n : Nat) (z0 : Int) : Option Value :=
  (some (.tuple ⟨[(.int .i64 z0)]⟩))
def m10690_2 (pu : PureF) (n : Nat) (ih0 : Sl → Int → Int → Int → Option Value) (s0 : Sl) (z0 : Int) (z1 : Int) (z2 : Int) : Option Value :=
  (ih0 s0 z0 z1 (wrapF .i64 (Int.add z2 (1 : Int))))
def b10690_1 (pu : PureF) (n : Nat) (ih0 : Sl → Int → Int → Int → Option Value) (s0 : Sl) (z0 : Int) (z1 : Int) (z2 : Int) : Option Value :=
  (bb (ilt z2 (Int.ofNat (Sl.n s0))) (oo (toN z2) none fun k1 => (bb (an (Nat.blt k1 (Sl.n s0)) true) (oo (nthL (Sl.cs s0) (k1 * 1)) none fun v0 => (oo (toI .i64 v0) none fun x0 => (bb (ieq x0 z0) (m10690_2 pu n ih0 s0 z0 (wrapF .i64 (Int.add z1 (1 : Int))) (Int.ofNat k1)) (m10690_2 pu n ih0 s0 z0 z1 (Int.ofNat k1))))) none)) (m10690_0 pu n z1))
def l10690_1 (pu : PureF) (n : Nat) (w : Nat) : Sl → Int → Int → Int → Option Value :=
  Nat.rec (motive := fun _ => Sl → Int → Int → Int → Option Value) (fun _ _ _ _ => none) (fun _ ih0 => b10690_1 pu n ih0) w
def m10690_ (pu : PureF) (n : Nat) (s0 : Sl) (z0 : Int) : Option Value :=
  (l10690_1 pu n n s0 z0 (0 : Int) (0 : Int))
def m10690 (pu : PureF) (n : Nat) (args : List Value) : Option Value :=
  (ll args none fun a0 args => (ll args none fun a1 args => (ll args (oo (toSl 1 a0) none fun s0 => (oo (toI .i64 a1) none fun x0 => (m10690_ pu n s0 x0))) fun _ _ => none)))
theorem w10690_0 (pu : PureF) (n : Nat) (z0 : Int) {v : Value} (hm : m10690_0 pu n z0 = some v) : Run tt (callP tabs isP pu (inl pu)) 1 c69_18 (fr 22 [(5, (zI z0))]) (hp 1 [(oT tab0)]) (FinO tt 1 0 [.tmp 4] v) := by
  unfold m10690_0 at hm
  refine .then ?_
  refine .rK ?_
  refine .ghs (fr 22 [(4, (zI z0))]) (hp 1 [(oT tab0)]) (.k0 [false] [] [4]) ?_
  refine .ghs (fr 22 [(4, (zI z0))]) (hp 1 [(oT tab0)]) (.k0 [false] [] [4]) ?_
  refine .ret ?_
  exact finO_ret (zI z0) [] (by kernel_rfl) hm (Nat.le_of_ble_eq_true rfl) ooAt_nil
theorem q10690 (pu : PureF) (n : Nat) (s0 : Sl) (z0 : Int) {v : Value} (hm : m10690_ pu n s0 z0 = some v) : Run tt (callP tabs isP pu (inl pu)) 1 c69_21 (fr 22 [(0, (Sl.v 1 s0)), (1, (zI z0))]) (hp 1 [(oT tab0)]) (FinO tt 1 0 [.tmp 4] v) := by
  unfold m10690_ at hm
  refine .then ?_
  refine .rK ?_
  refine .ghs (fr 22 [(0, (Sl.v 1 s0)), (1, (zI z0))]) (hp 1 [(oT tab0)]) (.k0 [false] [] [0, 1]) ?_
  refine .then ?_
  refine .rK ?_
  refine .ghs (fr 22 [(0, (Sl.v 1 s0)), (1, (zI z0)), (5, (zI (0 : Int)))]) (hp 1 [(oT tab0)]) (.k0 [false] [] [0, 1, 5]) ?_
  refine .join (v := v) (fun y : Int => ((fr 22 [(5, (zI y))]), (hp 1 [(oT tab0)]))) (fun y => m10690_0 pu n y) ?_ ?_
  · rintro z1 hm
    exact w10690_0 pu n z1 hm
  · refine .then ?_
    refine .rK ?_
    refine .ghs (fr 22 [(0, (Sl.v 1 s0)), (1, (zI z0)), (5, (zI (0 : Int))), (6, (zI (0 : Int)))]) (hp 1 [(oT tab0)]) (.k0 [false] [] [0, 1, 5, 6]) ?_
    refine .block ?_
    refine .loopM (v := v) (fun y : Sl × Int × Int × Int => ((fr 22 [(0, (Sl.v 1 y.1)), (1, (zI y.2.1)), (5, (zI y.2.2.1)), (6, (zI y.2.2.2))]), (hp 1 [(oT tab0)]))) (fun w y => l10690_1 pu n w y.1 y.2.1 y.2.2.1 y.2.2.2) n ⟨(s0, z0, (0 : Int), (0 : Int)), hm, (.k0 [false] [] [0, 1, 5, 6])⟩ (fun _ => rfl) ?_
    rintro w0 ⟨s1, z2, z3, z4⟩ hm
    replace hm : b10690_1 pu n (l10690_1 pu n w0) s1 z2 z3 z4 = some v := hm
    unfold b10690_1 at hm
    refine .then ?_
    refine .then ?_
    refine .rK ?_
    refine .ghs (fr 22 [(0, (Sl.v 1 s1)), (1, (zI z2)), (5, (zI z3)), (6, (zI z4)), (10, (zB (ilt z4 (Int.ofNat (Sl.n s1)))))]) (hp 1 [(oT tab0)]) (.k0 [false] [] [0, 1, 5, 6, 10]) ?_
    replace hm := bb_cases hm; rcases hm with ⟨h0, hm⟩ | ⟨h0, hm⟩
    · refine .ifT (ilt z4 (Int.ofNat (Sl.n s1))) (by kernel_rfl) h0 ?_
      refine .skip ?_
      refine .ghs (fr 22 [(0, (Sl.v 1 s1)), (1, (zI z2)), (5, (zI z3)), (6, (zI z4))]) (hp 1 [(oT tab0)]) (.k0 [false] [] [0, 1, 5, 6]) ?_
      refine .join (v := v) (fun y : Sl × Int × Int × Int => ((fr 22 [(0, (Sl.v 1 y.1)), (1, (zI y.2.1)), (5, (zI y.2.2.1)), (6, (zI y.2.2.2))]), (hp 1 [(oT tab0)]))) (fun y => m10690_2 pu n (l10690_1 pu n w0) y.1 y.2.1 y.2.2.1 y.2.2.2) ?_ ?_
      · rintro ⟨s2, z5, z6, z7⟩ hm
        unfold m10690_2 at hm
        refine .rK ?_
        exact ⟨(s2, z5, z6, (wrapF .i64 (Int.add z7 (1 : Int)))), hm, (.k0 [false] [] [0, 1, 5, 6])⟩
      · refine .block ?_
        refine .then ?_
        replace hm := oo_inv hm; obtain ⟨k1, h1, hm⟩ := hm
        obtain rfl := toN_some h1
        replace hm := bb_inv hm; obtain ⟨h2, hm⟩ := hm
        replace hm := oo_inv hm; obtain ⟨v0, h3, hm⟩ := hm
        replace hm := inv_toI hm; obtain ⟨x0, rfl, hm⟩ := hm
        refine .reg (eC 2 (keep (hp 1 [(oT tab0)]) (bb (an (Nat.blt k1 (Sl.n s1)) true) (some (fpV (k1 * 1) (Sl.cs s1))) none)) (keep_bb h2) (eD (keep (hp 1 [(oT tab0)]) (nthL (Sl.cs s1) (k1 * 1))) (keep_eq h3) (eE))) ?_
        refine .ghs (fr 22 [(0, (Sl.v 1 s1)), (1, (zI z2)), (5, (zI z3)), (6, (zI (Int.ofNat k1))), (18, (zB (ieq x0 z2)))]) (hp 1 [(oT tab0)]) (.k0 [false] [] [0, 1, 5, 6, 18]) ?_
        replace hm := bb_cases hm; rcases hm with ⟨h4, hm⟩ | ⟨h4, hm⟩
        · refine .ifT (ieq x0 z2) (by kernel_rfl) h4 ?_
          refine .rK ?_
          exact ⟨(s1, z2, (wrapF .i64 (Int.add z3 (1 : Int))), (Int.ofNat k1)), hm, (.k0 [false] [] [0, 1, 5, 6])⟩
        · refine .ifF (ieq x0 z2) (by kernel_rfl) h4 ?_
          refine .skip ?_
          exact ⟨(s1, z2, z3, (Int.ofNat k1)), hm, (.k0 [false] [] [0, 1, 5, 6])⟩
    · refine .ifF (ilt z4 (Int.ofNat (Sl.n s1))) (by kernel_rfl) h0 ?_
      refine .exit ?_
      exact ⟨z3, hm, (.k0 [false] [] [5])⟩
theorem r10690 {call : CallF} (pu : PureF) (n : Nat) (hcall : call = callP tabs isP pu (inl pu)) {args : List Value} {os : List AObj} {z : Value} (ha : args.length = 2) (hk : os.length = 0) (hpl : ∀ o ∈ os, plainO o) (hm : m10690 pu n (args ++ os.map encO) = some z) : args.length ≤ 22 ∧ Run tt call (tabs.length + 0) c69_21 (Fr.made 22 args) (subHeap tabs os) (FinO tt tabs.length 0 [.tmp 4] z) := by
  subst hcall
  have hq := len_cons ha; clear ha; obtain ⟨a0, args, rfl, ha⟩ := hq
  have hq := len_cons ha; clear ha; obtain ⟨a1, args, rfl, ha⟩ := hq
  obtain rfl := len_nil ha
  obtain rfl := len_nil hk
  replace hm : m10690 pu n [a0, a1] = some z := hm
  unfold m10690 at hm
  replace hm : (oo (toSl 1 a0) none fun s0 => (oo (toI .i64 a1) none fun x0 => (m10690_ pu n s0 x0))) = some z := hm
  replace hm := inv_toSl hm; obtain ⟨s0, rfl, hm⟩ := hm
  replace hm := inv_toI hm; obtain ⟨x0, rfl, hm⟩ := hm
  refine ⟨by simp, ?_⟩
  exact .same (F' := (fr 22 [(0, (Sl.v 1 s0)), (1, (zI x0))])) (H' := (hp 1 [(oT tab0)])) (by kernel_rfl) (by kernel_rfl) (q10690 pu n s0 x0 hm)
def m10700_0 (pu : PureF) (n : Nat) (s0 : Sl) (s1 : Sl) (b0 : Bool) : Option Value :=
  (bb b0 (some (.tuple ⟨[(Sl.v 1 s1)]⟩)) (some (.tuple ⟨[(Sl.v 1 s0)]⟩)))
def m10700_1 (pu : PureF) (n : Nat) (s0 : Sl) : Option Value :=
  (some (.tuple ⟨[(Sl.v 1 s0)]⟩))
def m10700_3 (pu : PureF) (n : Nat) (ih0 : Sl → Sl → Sl → Int → Int → Sl → Sl → Option Value) (s0 : Sl) (s1 : Sl) (s2 : Sl) (z0 : Int) (z1 : Int) (s3 : Sl) (s4 : Sl) : Option Value :=
  (ih0 s0 s1 s2 (wrapF .i64 (Int.add z0 (1 : Int))) z1 s3 s4)
def m10700_4 (pu : PureF) (n : Nat) (ih0 : Sl → Sl → Sl → Int → Int → Sl → Sl → Option Value) (s0 : Sl) (s1 : Sl) (s2 : Sl) (z0 : Int) (z1 : Int) (b0 : Bool) (z2 : Int) (s3 : Sl) (s4 : Sl) : Option Value :=
  (bb b0 (bb (Nat.beq (Sl.n s1) 0) (oo (pu 10700 [(.agg ⟨[(.int .i64 z2), (Sl.v 1 s3), (Sl.v 1 s4)]⟩), (Sl.v 1 s0), (Sl.v 1 (Sl.mk 1 0 (takeL (1 * 1) (dropL 0 ([(.int .i64 z1)] : List Value))))), (Sl.v 1 s2)]) none fun v0 => (oo (vTup v0) none fun l0 => (ll l0 none fun v1 l0 => (ll l0 (oo (toSl 1 v1) none fun s5 => (m10700_3 pu n ih0 s0 s1 s5 z0 z2 s3 s4)) fun _ _ => none)))) (bb (roomy (0 + (Sl.n s1)) 8) (bb (growC 1 8 (0 + (Sl.n s1)) (2 * (0 + (Sl.n s1)) + bb false 1 0) 1 (takeL ((Sl.n s1) * 1) (Sl.cs s1))) (bb (an (Nat.ble (0 + ((0 + (Sl.n s1)) + 1) * 1) (len (appL (dropL 0 (takeL ((Sl.n s1) * 1) (Sl.cs s1))) [(.int .i64 z1)]))) (allL closed1 (takeL (((0 + (Sl.n s1)) + 1) * 1) (dropL 0 (appL (dropL 0 (takeL ((Sl.n s1) * 1) (Sl.cs s1))) [(.int .i64 z1)]))))) (oo (pu 10700 [(.agg ⟨[(.int .i64 z2), (Sl.v 1 s3), (Sl.v 1 s4)]⟩), (Sl.v 1 s0), (Sl.v 1 (Sl.mk ((0 + (Sl.n s1)) + 1) 0 (takeL (((0 + (Sl.n s1)) + 1) * 1) (dropL 0 (appL (dropL 0 (takeL ((Sl.n s1) * 1) (Sl.cs s1))) [(.int .i64 z1)]))))), (Sl.v 1 s2)]) none fun v2 => (oo (vTup v2) none fun l1 => (ll l1 none fun v3 l1 => (ll l1 (oo (toSl 1 v3) none fun s6 => (m10700_3 pu n ih0 s0 s1 s6 z0 z2 s3 s4)) fun _ _ => none)))) none) none) none)) (m10700_3 pu n ih0 s0 s1 s2 z0 z2 s3 s4))
def b10700_2 (pu : PureF) (n : Nat) (ih0 : Sl → Sl → Sl → Int → Int → Sl → Sl → Option Value) (s0 : Sl) (s1 : Sl) (s2 : Sl) (z0 : Int) (z1 : Int) (s3 : Sl) (s4 : Sl) : Option Value :=
  (bb (ilt z0 (Int.ofNat (Sl.n s0))) (oo (toN z0) none fun k1 => (bb (an (Nat.blt k1 (Sl.n s0)) true) (oo (nthL (Sl.cs s0) (k1 * 1)) none fun v0 => (oo (toI .i64 v0) none fun x0 => (oo (toN x0) none fun k2 => (bb (an (Nat.blt k2 (Sl.n s3)) true) (oo (nthL (Sl.cs s3) (k2 * 1)) none fun v1 => (oo (toI .i64 v1) none fun x1 => (bb (an (Nat.blt (Sl.n s1) (Sl.n s0)) true) (oo (nthL (Sl.cs s0) ((Sl.n s1) * 1)) none fun v2 => (oo (toI .i64 v2) none fun x2 => (oo (toN x2) none fun k3 => (bb (an (Nat.blt k3 (Sl.n s4)) true) (oo (nthL (Sl.cs s4) (k3 * 1)) none fun v3 => (oo (toI .i64 v3) none fun x3 => (bb (ieq x1 x3) (oo (pu 10550 [(Sl.v 1 s1), (.int .i64 (Int.ofNat k2))]) none fun v4 => (oo (vTup v4) none fun l0 => (ll l0 none fun v5 l0 => (ll l0 (oo (vBool v5) none fun b0 => (m10700_4 pu n ih0 s0 s1 s2 (Int.ofNat k1) (Int.ofNat k2) (nt b0) z1 s3 s4)) fun _ _ => none)))) (m10700_4 pu n ih0 s0 s1 s2 (Int.ofNat k1) (Int.ofNat k2) false z1 s3 s4)))) none)))) none))) none)))) none)) (m10700_1 pu n s2))
def l10700_2 (pu : PureF) (n : Nat) (w : Nat) : Sl → Sl → Sl → Int → Int → Sl → Sl → Option Value :=
  Nat.rec (motive := fun _ => Sl → Sl → Sl → Int → Int → Sl → Sl → Option Value) (fun _ _ _ _ _ _ _ => none) (fun _ ih0 => b10700_2 pu n ih0) w
def m10700_ (pu : PureF) (n : Nat) (z0 : Int) (s0 : Sl) (s1 : Sl) (s2 : Sl) (s3 : Sl) (s4 : Sl) : Option Value :=
  (bb (ieq (Int.ofNat (Sl.n s3)) (Int.ofNat (Sl.n s2))) (oo (pu 73 [(Sl.v 1 s2), (Sl.v 1 s3)]) none fun v0 => (oo (toSl 1 v0) none fun s5 => (bb (orr (Nat.beq (Sl.fl s4) 2) (orr (Nat.beq (Sl.fl s4) 3) (Nat.ble 1 (Sl.n s4)))) (bb (bq true (Nat.beq (Sl.fl s4) 2)) (m10700_0 pu n s4 s5 true) (bb (ilt (Int.ofNat (Sl.n s4)) (Int.ofNat (Sl.n s5))) (m10700_0 pu n s4 s5 true) (bb (ieq (Int.ofNat (Sl.n s5)) (Int.ofNat (Sl.n s4))) (oo (pu 74 [(Sl.v 1 s5), (Sl.v 1 s4)]) none fun v1 => (oo (vBool v1) none fun b0 => (m10700_0 pu n s4 s5 b0))) (m10700_0 pu n s4 s5 false)))) none))) (l10700_2 pu n n s2 s3 s4 (0 : Int) z0 s0 s1))
def m10700 (pu : PureF) (n : Nat) (args : List Value) : Option Value :=
  (ll args none fun a0 args => (ll args none fun a1 args => (ll args none fun a2 args => (ll args none fun a3 args => (ll args (oo (vAgg a0) none fun l0 => (ll l0 none fun v0 l0 => (ll l0 none fun v1 l0 => (ll l0 none fun v2 l0 => (ll l0 (oo (toI .i64 v0) none fun x0 => (oo (toSl 1 v1) none fun s0 => (oo (toSl 1 v2) none fun s1 => (oo (toSl 1 a1) none fun s2 => (oo (toSl 1 a2) none fun s3 => (oo (toSl 1 a3) none fun s4 => (m10700_ pu n x0 s0 s1 s2 s3 s4))))))) fun _ _ => none))))) fun _ _ => none)))))
theorem w10700_1 (pu : PureF) (n : Nat) (s0 : Sl) {v : Value} (hm : m10700_1 pu n s0 = some v) : Run tt (callP tabs isP pu (inl pu)) 1 c70_32 (fr 85 [(3, (Sl.v 1 s0))]) (hp 1 [(oT tab0)]) (FinO tt 1 0 [.tmp 8] v) := by
  unfold m10700_1 at hm
  refine .then ?_
  refine .rK ?_
  refine .ghs (fr 85 [(8, (Sl.v 1 s0))]) (hp 1 [(oT tab0)]) (.k0 [false] [] [8]) ?_
  refine .ghs (fr 85 [(8, (Sl.v 1 s0))]) (hp 1 [(oT tab0)]) (.k0 [false] [] [8]) ?_
  refine .ret ?_
  exact finO_ret (Sl.v 1 s0) [] (by kernel_rfl) hm (Nat.le_of_ble_eq_true rfl) ooAt_nil
theorem q10700 (pu : PureF) (n : Nat) (z0 : Int) (s0 : Sl) (s1 : Sl) (s2 : Sl) (s3 : Sl) (s4 : Sl) {v : Value} (hm : m10700_ pu n z0 s0 s1 s2 s3 s4 = some v) : Run tt (callP tabs isP pu (inl pu)) 1 c70_35 (fr 85 [(0, (.agg ⟨[(zI z0), (Sl.v 1 s0), (Sl.v 1 s1)]⟩)), (1, (Sl.v 1 s2)), (2, (Sl.v 1 s3)), (3, (Sl.v 1 s4))]) (hp 1 [(oT tab0)]) (FinO tt 1 0 [.tmp 8] v) := by
  unfold m10700_ at hm
  refine .then ?_
  refine .rK ?_
  refine .ghs (fr 85 [(1, (Sl.v 1 s2)), (2, (Sl.v 1 s3)), (3, (Sl.v 1 s4)), (4, (pt 1 0))]) (hp 2 [(oT tab0), (oC [(zI z0), (Sl.v 1 s0), (Sl.v 1 s1)])]) (.k0 [false] [.tmp 4 false] [1, 2, 3, 4]) ?_
  refine .then ?_
  refine .then ?_
  refine .rK ?_
  refine .ghs (fr 85 [(1, (Sl.v 1 s2)), (2, (Sl.v 1 s3)), (3, (Sl.v 1 s4)), (4, (pt 1 0)), (16, (zB (ieq (Int.ofNat (Sl.n s3)) (Int.ofNat (Sl.n s2)))))]) (hp 2 [(oT tab0), (oC [(zI z0), (Sl.v 1 s0), (Sl.v 1 s1)])]) (.k0 [false] [.tmp 4 false] [1, 2, 3, 4, 16]) ?_
  replace hm := bb_cases hm; rcases hm with ⟨h0, hm⟩ | ⟨h0, hm⟩
  · refine .ifT (ieq (Int.ofNat (Sl.n s3)) (Int.ofNat (Sl.n s2))) (by kernel_rfl) h0 ?_
    refine .then ?_
    replace hm := oo_inv hm; obtain ⟨v0, h1, hm⟩ := hm
    replace hm := inv_toSl hm; obtain ⟨s5, rfl, hm⟩ := hm
    refine .reg (eC 2 ((oo (pu 73 [(Sl.v 1 s2), (Sl.v 1 s3)]) none fun v => some (v, (hp 2 [(oT tab0), (oC [(zI z0), (Sl.v 1 s0), (Sl.v 1 s1)])])))) (call_eq h1) (eE)) ?_
    refine .ghs (fr 85 [(3, (Sl.v 1 s4)), (9, (Sl.v 1 s5))]) (hp 1 [(oT tab0)]) (.k0 [false] [] [3, 9]) ?_
    refine .then ?_
    refine .join (v := v) (fun y : Sl × Sl × Bool => ((fr 85 [(3, (Sl.v 1 y.1)), (9, (Sl.v 1 y.2.1)), (40, (zB y.2.2))]), (hp 1 [(oT tab0)]))) (fun y => m10700_0 pu n y.1 y.2.1 y.2.2) ?_ ?_
    · rintro ⟨s6, s7, b0⟩ hm
      unfold m10700_0 at hm
      replace hm := bb_cases hm; rcases hm with ⟨h2, hm⟩ | ⟨h2, hm⟩
      · refine .ifT b0 (by kernel_rfl) h2 ?_
        refine .then ?_
        refine .rK ?_
        refine .ghs (fr 85 [(8, (Sl.v 1 s7))]) (hp 1 [(oT tab0)]) (.k0 [false] [] [8]) ?_
        refine .ghs (fr 85 [(8, (Sl.v 1 s7))]) (hp 1 [(oT tab0)]) (.k0 [false] [] [8]) ?_
        refine .ret ?_
        exact finO_ret (Sl.v 1 s7) [] (by kernel_rfl) hm (Nat.le_of_ble_eq_true rfl) ooAt_nil
      · refine .ifF b0 (by kernel_rfl) h2 ?_
        refine .skip ?_
        refine .ghs (fr 85 [(3, (Sl.v 1 s6))]) (hp 1 [(oT tab0)]) (.k0 [false] [] [3]) ?_
        refine .then ?_
        refine .rK ?_
        refine .ghs (fr 85 [(8, (Sl.v 1 s6))]) (hp 1 [(oT tab0)]) (.k0 [false] [] [8]) ?_
        refine .ghs (fr 85 [(8, (Sl.v 1 s6))]) (hp 1 [(oT tab0)]) (.k0 [false] [] [8]) ?_
        refine .ret ?_
        exact finO_ret (Sl.v 1 s6) [] (by kernel_rfl) hm (Nat.le_of_ble_eq_true rfl) ooAt_nil
    · replace hm := bb_inv hm; obtain ⟨h3, hm⟩ := hm
      replace hm := bb_cases hm; rcases hm with ⟨h4, hm⟩ | ⟨h4, hm⟩
      · refine .reg (eC 1 (keep (hp 1 [(oT tab0)]) (nilS true 1 s4)) (show _ = some ((zB true), _) from (by have hz : keep (hp 1 [(oT tab0)]) (nilS true 1 s4) = some ((zB (bq true (Nat.beq (Sl.fl s4) 2))), (hp 1 [(oT tab0)])) := (nilS_eq h3); rw [h4] at hz; exact hz)) (eE)) ?_
        exact ⟨(s4, s5, true), hm, (.k0 [false] [] [3, 9, 40])⟩
      · replace hm := bb_cases hm; rcases hm with ⟨h5, hm⟩ | ⟨h5, hm⟩
        · refine .reg (eC 1 (keep (hp 1 [(oT tab0)]) (nilS true 1 s4)) (show _ = some ((zB false), _) from (by have hz : keep (hp 1 [(oT tab0)]) (nilS true 1 s4) = some ((zB (bq true (Nat.beq (Sl.fl s4) 2))), (hp 1 [(oT tab0)])) := (nilS_eq h3); rw [h4] at hz; exact hz)) (eC 5 (some ((zB (ilt (Int.ofNat (Sl.n s4)) (Int.ofNat (Sl.n s5)))), (hp 1 [(oT tab0)]))) (show _ = some ((zB true), _) from (by rw [h5])) (eE))) ?_
          exact ⟨(s4, s5, true), hm, (.k0 [false] [] [3, 9, 40])⟩
        · replace hm := bb_cases hm; rcases hm with ⟨h6, hm⟩ | ⟨h6, hm⟩
          · replace hm := oo_inv hm; obtain ⟨v1, h7, hm⟩ := hm
            replace hm := inv_vBool hm; obtain ⟨b1, rfl, hm⟩ := hm
            refine .reg (eC 1 (keep (hp 1 [(oT tab0)]) (nilS true 1 s4)) (show _ = some ((zB false), _) from (by have hz : keep (hp 1 [(oT tab0)]) (nilS true 1 s4) = some ((zB (bq true (Nat.beq (Sl.fl s4) 2))), (hp 1 [(oT tab0)])) := (nilS_eq h3); rw [h4] at hz; exact hz)) (eC 5 (some ((zB (ilt (Int.ofNat (Sl.n s4)) (Int.ofNat (Sl.n s5)))), (hp 1 [(oT tab0)]))) (show _ = some ((zB false), _) from (by rw [h5])) (eC 6 (some ((zB (ieq (Int.ofNat (Sl.n s5)) (Int.ofNat (Sl.n s4)))), (hp 1 [(oT tab0)]))) (show _ = some ((zB true), _) from (by rw [h6])) (eC 3 ((oo (pu 74 [(Sl.v 1 s5), (Sl.v 1 s4)]) none fun v => some (v, (hp 1 [(oT tab0)])))) (call_eq h7) (eE))))) ?_
            exact ⟨(s4, s5, b1), hm, (.k0 [false] [] [3, 9, 40])⟩
          · refine .reg (eC 1 (keep (hp 1 [(oT tab0)]) (nilS true 1 s4)) (show _ = some ((zB false), _) from (by have hz : keep (hp 1 [(oT tab0)]) (nilS true 1 s4) = some ((zB (bq true (Nat.beq (Sl.fl s4) 2))), (hp 1 [(oT tab0)])) := (nilS_eq h3); rw [h4] at hz; exact hz)) (eC 5 (some ((zB (ilt (Int.ofNat (Sl.n s4)) (Int.ofNat (Sl.n s5)))), (hp 1 [(oT tab0)]))) (show _ = some ((zB false), _) from (by rw [h5])) (eC 6 (some ((zB (ieq (Int.ofNat (Sl.n s5)) (Int.ofNat (Sl.n s4)))), (hp 1 [(oT tab0)]))) (show _ = some ((zB false), _) from (by rw [h6])) (eE)))) ?_
            exact ⟨(s4, s5, false), hm, (.k0 [false] [] [3, 9, 40])⟩
  · refine .ifF (ieq (Int.ofNat (Sl.n s3)) (Int.ofNat (Sl.n s2))) (by kernel_rfl) h0 ?_
    refine .skip ?_
    refine .ghs (fr 85 [(1, (Sl.v 1 s2)), (2, (Sl.v 1 s3)), (3, (Sl.v 1 s4)), (4, (pt 1 0))]) (hp 2 [(oT tab0), (oC [(zI z0), (Sl.v 1 s0), (Sl.v 1 s1)])]) (.k0 [false] [.tmp 4 false] [1, 2, 3, 4]) ?_
    refine .join (v := v) (fun y : Sl => ((fr 85 [(3, (Sl.v 1 y))]), (hp 1 [(oT tab0)]))) (fun y => m10700_1 pu n y) ?_ ?_
    · rintro s8 hm
      exact w10700_1 pu n s8 hm
    · refine .then ?_
      refine .rK ?_
      refine .ghs (fr 85 [(1, (Sl.v 1 s2)), (2, (Sl.v 1 s3)), (3, (Sl.v 1 s4)), (4, (pt 1 0)), (10, (zI (0 : Int)))]) (hp 2 [(oT tab0), (oC [(zI z0), (Sl.v 1 s0), (Sl.v 1 s1)])]) (.k0 [false] [.tmp 4 false] [1, 2, 3, 4, 10]) ?_
      refine .block ?_
      refine .loopM (v := v) (fun y : Sl × Sl × Sl × Int × Int × Sl × Sl => ((fr 85 [(1, (Sl.v 1 y.1)), (2, (Sl.v 1 y.2.1)), (3, (Sl.v 1 y.2.2.1)), (4, (pt 1 0)), (10, (zI y.2.2.2.1))]), (hp 2 [(oT tab0), (oC [(zI y.2.2.2.2.1), (Sl.v 1 y.2.2.2.2.2.1), (Sl.v 1 y.2.2.2.2.2.2)])]))) (fun w y => l10700_2 pu n w y.1 y.2.1 y.2.2.1 y.2.2.2.1 y.2.2.2.2.1 y.2.2.2.2.2.1 y.2.2.2.2.2.2) n ⟨(s2, s3, s4, (0 : Int), z0, s0, s1), hm, (.k0 [false] [.tmp 4 false] [1, 2, 3, 4, 10])⟩ (fun _ => rfl) ?_
      rintro w0 ⟨s9, s10, s11, z1, z2, s12, s13⟩ hm
      replace hm : b10700_2 pu n (l10700_2 pu n w0) s9 s10 s11 z1 z2 s12 s13 = some v := hm
      unfold b10700_2 at hm
      refine .then ?_
      refine .then ?_
      refine .rK ?_
      refine .ghs (fr 85 [(1, (Sl.v 1 s9)), (2, (Sl.v 1 s10)), (3, (Sl.v 1 s11)), (4, (pt 1 0)), (10, (zI z1)), (46, (zB (ilt z1 (Int.ofNat (Sl.n s9)))))]) (hp 2 [(oT tab0), (oC [(zI z2), (Sl.v 1 s12), (Sl.v 1 s13)])]) (.k0 [false] [.tmp 4 false] [1, 2, 3, 4, 10, 46]) ?_
      replace hm := bb_cases hm; rcases hm with ⟨h8, hm⟩ | ⟨h8, hm⟩
      · refine .ifT (ilt z1 (Int.ofNat (Sl.n s9))) (by kernel_rfl) h8 ?_
        refine .skip ?_
        refine .ghs (fr 85 [(1, (Sl.v 1 s9)), (2, (Sl.v 1 s10)), (3, (Sl.v 1 s11)), (4, (pt 1 0)), (10, (zI z1))]) (hp 2 [(oT tab0), (oC [(zI z2), (Sl.v 1 s12), (Sl.v 1 s13)])]) (.k0 [false] [.tmp 4 false] [1, 2, 3, 4, 10]) ?_
        refine .join (v := v) (fun y : Sl × Sl × Sl × Int × Int × Sl × Sl => ((fr 85 [(1, (Sl.v 1 y.1)), (2, (Sl.v 1 y.2.1)), (3, (Sl.v 1 y.2.2.1)), (4, (pt 1 0)), (10, (zI y.2.2.2.1))]), (hp 2 [(oT tab0), (oC [(zI y.2.2.2.2.1), (Sl.v 1 y.2.2.2.2.2.1), (Sl.v 1 y.2.2.2.2.2.2)])]))) (fun y => m10700_3 pu n (l10700_2 pu n w0) y.1 y.2.1 y.2.2.1 y.2.2.2.1 y.2.2.2.2.1 y.2.2.2.2.2.1 y.2.2.2.2.2.2) ?_ ?_
        · rintro ⟨s14, s15, s16, z3, z4, s17, s18⟩ hm
          unfold m10700_3 at hm
          refine .rK ?_
          exact ⟨(s14, s15, s16, (wrapF .i64 (Int.add z3 (1 : Int))), z4, s17, s18), hm, (.k0 [false] [.tmp 4 false] [1, 2, 3, 4, 10])⟩
        · refine .block ?_
          refine .then ?_
          replace hm := oo_inv hm; obtain ⟨k1, h9, hm⟩ := hm
          obtain rfl := toN_some h9
          replace hm := bb_inv hm; obtain ⟨h10, hm⟩ := hm
          replace hm := oo_inv hm; obtain ⟨v2, h11, hm⟩ := hm
          replace hm := inv_toI hm; obtain ⟨x0, rfl, hm⟩ := hm
          refine .reg (eC 2 (keep (hp 2 [(oT tab0), (oC [(zI z2), (Sl.v 1 s12), (Sl.v 1 s13)])]) (bb (an (Nat.blt k1 (Sl.n s9)) true) (some (fpV (k1 * 1) (Sl.cs s9))) none)) (keep_bb h10) (eD (keep (hp 2 [(oT tab0), (oC [(zI z2), (Sl.v 1 s12), (Sl.v 1 s13)])]) (nthL (Sl.cs s9) (k1 * 1))) (keep_eq h11) (eE))) ?_
          refine .ghs (fr 85 [(1, (Sl.v 1 s9)), (2, (Sl.v 1 s10)), (3, (Sl.v 1 s11)), (4, (pt 1 0)), (10, (zI (Int.ofNat k1))), (11, (zI x0))]) (hp 2 [(oT tab0), (oC [(zI z2), (Sl.v 1 s12), (Sl.v 1 s13)])]) (.k0 [false] [.tmp 4 false] [1, 2, 3, 4, 10, 11]) ?_
          refine .join (v := v) (fun y : Sl × Sl × Sl × Int × Int × Bool × Int × Sl × Sl => ((fr 85 [(1, (Sl.v 1 y.1)), (2, (Sl.v 1 y.2.1)), (3, (Sl.v 1 y.2.2.1)), (4, (pt 1 0)), (10, (zI y.2.2.2.1)), (11, (zI y.2.2.2.2.1)), (73, (zB y.2.2.2.2.2.1))]), (hp 2 [(oT tab0), (oC [(zI y.2.2.2.2.2.2.1), (Sl.v 1 y.2.2.2.2.2.2.2.1), (Sl.v 1 y.2.2.2.2.2.2.2.2)])]))) (fun y => m10700_4 pu n (l10700_2 pu n w0) y.1 y.2.1 y.2.2.1 y.2.2.2.1 y.2.2.2.2.1 y.2.2.2.2.2.1 y.2.2.2.2.2.2.1 y.2.2.2.2.2.2.2.1 y.2.2.2.2.2.2.2.2) ?_ ?_
          · rintro ⟨s19, s20, s21, z5, z6, b2, z7, s22, s23⟩ hm
            unfold m10700_4 at hm
            replace hm := bb_cases hm; rcases hm with ⟨h12, hm⟩ | ⟨h12, hm⟩
            · refine .ifT b2 (by kernel_rfl) h12 ?_
              replace hm := bb_cases hm; rcases hm with ⟨h13, hm⟩ | ⟨h13, hm⟩
              · replace hm := oo_inv hm; obtain ⟨v3, h14, hm⟩ := hm
                replace hm := inv_vTup hm; obtain ⟨l0, rfl, hm⟩ := hm
                replace hm := ll_uncons hm; obtain ⟨v4, l17046_0, rfl, hm⟩ := hm
                replace hm := ll_end hm; obtain ⟨rfl, hm⟩ := hm
                replace hm := oo_inv hm; obtain ⟨s24, h15, hm⟩ := hm
                obtain rfl := toSl_some h15
                refine .reg (eC 7 (appFs (hp 4 [(oT tab0), (oC [(zI z7), (Sl.v 1 s22), (Sl.v 1 s23)]), (oC []), (oC [(zI z6)])]) 1 8 (sc 2 0 1 0 1) s20) (appFs_sl0 h13) (eD (some ((sc 4 0 1 1 (d2 1)), (hp 5 [(oT tab0), (oC [(zI z7), (Sl.v 1 s22), (Sl.v 1 s23)]), (oC []), (oC [(zI z6)]), (oC [(zI z6)])]))) rfl (eD (objG tabs [[none, some 1, some 1], [some 1], [some 1], [some 1]] 4 [] [] (pu 10700) [(.agg ⟨[(zI z7), (Sl.v 1 s22), (Sl.v 1 s23)]⟩), (Sl.v 1 s19), (sc 4 0 1 1 (d2 1)), (Sl.v 1 s21)] (hp 5 [(oT tab0), (oC [(zI z7), (Sl.v 1 s22), (Sl.v 1 s23)]), (oC []), (oC [(zI z6)]), (oC [(zI z6)])])) (objG_eq (as := [(.agg ⟨[(zI z7), (Sl.v 1 s22), (Sl.v 1 s23)]⟩), (Sl.v 1 s19), (Sl.v 1 (Sl.mk 1 0 (takeL (1 * 1) (dropL 0 ([(zI z6)] : List Value))))), (Sl.v 1 s21)]) (H1 := (hp 5 [(oT tab0), (oC [(zI z7), (Sl.v 1 s22), (Sl.v 1 s23)]), (oC []), (oC [(zI z6)]), .dead])) (gvAL_c (gvA_a (gvL_c gv_n (gvL_c (gv_s (giveV_cl (z := 1) (v := (Sl.v 1 s22)) (H := (hp 5 [(oT tab0), (oC [(zI z7), (Sl.v 1 s22), (Sl.v 1 s23)]), (oC []), (oC [(zI z6)]), (oC [(zI z6)])])) (by kernel_rfl) (by kernel_rfl) (by kernel_rfl))) (gvL_c (gv_s (giveV_cl (z := 1) (v := (Sl.v 1 s23)) (H := (hp 5 [(oT tab0), (oC [(zI z7), (Sl.v 1 s22), (Sl.v 1 s23)]), (oC []), (oC [(zI z6)]), (oC [(zI z6)])])) (by kernel_rfl) (by kernel_rfl) (by kernel_rfl))) gvL_n)))) (gvAL_c (gvA_1 (gv_s (giveV_cl (z := 1) (v := (Sl.v 1 s19)) (H := (hp 5 [(oT tab0), (oC [(zI z7), (Sl.v 1 s22), (Sl.v 1 s23)]), (oC []), (oC [(zI z6)]), (oC [(zI z6)])])) (by kernel_rfl) (by kernel_rfl) (by kernel_rfl)))) (gvAL_c (gvA_1 (gv_s (show giveV 1 (sc 4 0 1 1 (d2 1)) (hp 5 [(oT tab0), (oC [(zI z7), (Sl.v 1 s22), (Sl.v 1 s23)]), (oC []), (oC [(zI z6)]), (oC [(zI z6)])]) = some ((Sl.v 1 (Sl.mk 1 0 (takeL (1 * 1) (dropL 0 ([(zI z6)] : List Value))))), (hp 5 [(oT tab0), (oC [(zI z7), (Sl.v 1 s22), (Sl.v 1 s23)]), (oC []), (oC [(zI z6)]), .dead])) from giveV_sl 4 0 1 1 (d2 1) ([(zI z6)] : List Value) [] (by kernel_rfl) (by kernel_rfl) (by kernel_rfl)))) (gvAL_c (gvA_1 (gv_s (giveV_cl (z := 1) (v := (Sl.v 1 s21)) (H := (hp 5 [(oT tab0), (oC [(zI z7), (Sl.v 1 s22), (Sl.v 1 s23)]), (oC []), (oC [(zI z6)]), .dead])) (by kernel_rfl) (by kernel_rfl) (by kernel_rfl)))) gvAL_n)))) (objF_eq (H2 := (hp 5 [(oT tab0), (oC [(zI z7), (Sl.v 1 s22), (Sl.v 1 s23)]), (oC []), (oC [(zI z6)]), .dead])) (v := (Sl.v 1 s24)) (v' := (Sl.v 1 s24)) [some 0] [] [] [(.agg ⟨[(zI z7), (Sl.v 1 s22), (Sl.v 1 s23)]⟩), (Sl.v 1 s19), (Sl.v 1 (Sl.mk 1 0 (takeL (1 * 1) (dropL 0 ([(zI z6)] : List Value))))), (Sl.v 1 s21)] [] [] [some 0, none, none, none, none] [] [] (by kernel_rfl) mapO_n (Eq.trans (by kernel_rfl) h14) mapO_n mapO_n)) (eE)))) ?_
                exact ⟨(s19, s20, s24, z5, z7, s22, s23), hm, (.k0 [false] [.tmp 4 false] [1, 2, 3, 4, 10])⟩
              · replace hm := bb_inv hm; obtain ⟨h16, hm⟩ := hm
                replace hm := bb_inv hm; obtain ⟨h17, hm⟩ := hm
                replace hm := bb_inv hm; obtain ⟨h18, hm⟩ := hm
                replace hm := oo_inv hm; obtain ⟨v5, h19, hm⟩ := hm
                replace hm := inv_vTup hm; obtain ⟨l1, rfl, hm⟩ := hm
                replace hm := ll_uncons hm; obtain ⟨v6, l17049_0, rfl, hm⟩ := hm
                replace hm := ll_end hm; obtain ⟨rfl, hm⟩ := hm
                replace hm := inv_toSl hm; obtain ⟨s25, rfl, hm⟩ := hm
                refine .reg (eC 7 (appFs (hp 4 [(oT tab0), (oC [(zI z7), (Sl.v 1 s22), (Sl.v 1 s23)]), (oC []), (oC [(zI z6)])]) 1 8 (sc 2 0 1 0 1) s20) (appFs_new h13 h16 (by kernel_rfl)) (eD (growD 1 8 (0 + (Sl.n s20)) (d2 (0 + (Sl.n s20))) 1 4 (takeL ((Sl.n s20) * 1) (Sl.cs s20)) [(zI z6)] [] (hp 5 [(oT tab0), (oC [(zI z7), (Sl.v 1 s22), (Sl.v 1 s23)]), (oC []), (oC [(zI z6)]), (oC (takeL ((Sl.n s20) * 1) (Sl.cs s20)))])) (growD_eq h17) (eD (objG tabs [[none, some 1, some 1], [some 1], [some 1], [some 1]] 4 [] [] (pu 10700) [(.agg ⟨[(zI z7), (Sl.v 1 s22), (Sl.v 1 s23)]⟩), (Sl.v 1 s19), (sc 5 0 1 ((0 + (Sl.n s20)) + 1) (d2 ((0 + (Sl.n s20)) + 1))), (Sl.v 1 s21)] (hp 6 [(oT tab0), (oC [(zI z7), (Sl.v 1 s22), (Sl.v 1 s23)]), (oC []), (oC [(zI z6)]), (oS (takeL ((Sl.n s20) * 1) (Sl.cs s20))), (.cells (appL (dropL 0 (takeL ((Sl.n s20) * 1) (Sl.cs s20))) [(zI z6)]) false false [4])])) (objG_eq (as := [(.agg ⟨[(zI z7), (Sl.v 1 s22), (Sl.v 1 s23)]⟩), (Sl.v 1 s19), (Sl.v 1 (Sl.mk ((0 + (Sl.n s20)) + 1) 0 (takeL (((0 + (Sl.n s20)) + 1) * 1) (dropL 0 (appL (dropL 0 (takeL ((Sl.n s20) * 1) (Sl.cs s20))) [(zI z6)]))))), (Sl.v 1 s21)]) (H1 := (hp 6 [(oT tab0), (oC [(zI z7), (Sl.v 1 s22), (Sl.v 1 s23)]), (oC []), (oC [(zI z6)]), (oS (takeL ((Sl.n s20) * 1) (Sl.cs s20))), .dead])) (gvAL_c (gvA_a (gvL_c gv_n (gvL_c (gv_s (giveV_cl (z := 1) (v := (Sl.v 1 s22)) (H := (hp 6 [(oT tab0), (oC [(zI z7), (Sl.v 1 s22), (Sl.v 1 s23)]), (oC []), (oC [(zI z6)]), (oS (takeL ((Sl.n s20) * 1) (Sl.cs s20))), (.cells (appL (dropL 0 (takeL ((Sl.n s20) * 1) (Sl.cs s20))) [(zI z6)]) false false [4])])) (by kernel_rfl) (by kernel_rfl) (by kernel_rfl))) (gvL_c (gv_s (giveV_cl (z := 1) (v := (Sl.v 1 s23)) (H := (hp 6 [(oT tab0), (oC [(zI z7), (Sl.v 1 s22), (Sl.v 1 s23)]), (oC []), (oC [(zI z6)]), (oS (takeL ((Sl.n s20) * 1) (Sl.cs s20))), (.cells (appL (dropL 0 (takeL ((Sl.n s20) * 1) (Sl.cs s20))) [(zI z6)]) false false [4])])) (by kernel_rfl) (by kernel_rfl) (by kernel_rfl))) gvL_n)))) (gvAL_c (gvA_1 (gv_s (giveV_cl (z := 1) (v := (Sl.v 1 s19)) (H := (hp 6 [(oT tab0), (oC [(zI z7), (Sl.v 1 s22), (Sl.v 1 s23)]), (oC []), (oC [(zI z6)]), (oS (takeL ((Sl.n s20) * 1) (Sl.cs s20))), (.cells (appL (dropL 0 (takeL ((Sl.n s20) * 1) (Sl.cs s20))) [(zI z6)]) false false [4])])) (by kernel_rfl) (by kernel_rfl) (by kernel_rfl)))) (gvAL_c (gvA_1 (gv_s (show giveV 1 (sc 5 0 1 ((0 + (Sl.n s20)) + 1) (d2 ((0 + (Sl.n s20)) + 1))) (hp 6 [(oT tab0), (oC [(zI z7), (Sl.v 1 s22), (Sl.v 1 s23)]), (oC []), (oC [(zI z6)]), (oS (takeL ((Sl.n s20) * 1) (Sl.cs s20))), (.cells (appL (dropL 0 (takeL ((Sl.n s20) * 1) (Sl.cs s20))) [(zI z6)]) false false [4])]) = some ((Sl.v 1 (Sl.mk ((0 + (Sl.n s20)) + 1) 0 (takeL (((0 + (Sl.n s20)) + 1) * 1) (dropL 0 (appL (dropL 0 (takeL ((Sl.n s20) * 1) (Sl.cs s20))) [(zI z6)]))))), (hp 6 [(oT tab0), (oC [(zI z7), (Sl.v 1 s22), (Sl.v 1 s23)]), (oC []), (oC [(zI z6)]), (oS (takeL ((Sl.n s20) * 1) (Sl.cs s20))), .dead])) from giveV_sl 5 0 1 ((0 + (Sl.n s20)) + 1) (d2 ((0 + (Sl.n s20)) + 1)) (appL (dropL 0 (takeL ((Sl.n s20) * 1) (Sl.cs s20))) [(zI z6)]) [4] (by kernel_rfl) (by kernel_rfl) h18))) (gvAL_c (gvA_1 (gv_s (giveV_cl (z := 1) (v := (Sl.v 1 s21)) (H := (hp 6 [(oT tab0), (oC [(zI z7), (Sl.v 1 s22), (Sl.v 1 s23)]), (oC []), (oC [(zI z6)]), (oS (takeL ((Sl.n s20) * 1) (Sl.cs s20))), .dead])) (by kernel_rfl) (by kernel_rfl) (by kernel_rfl)))) gvAL_n)))) (objF_eq (H2 := (hp 6 [(oT tab0), (oC [(zI z7), (Sl.v 1 s22), (Sl.v 1 s23)]), (oC []), (oC [(zI z6)]), (oS (takeL ((Sl.n s20) * 1) (Sl.cs s20))), .dead])) (v := (Sl.v 1 s25)) (v' := (Sl.v 1 s25)) [some 0] [] [] [(.agg ⟨[(zI z7), (Sl.v 1 s22), (Sl.v 1 s23)]⟩), (Sl.v 1 s19), (Sl.v 1 (Sl.mk ((0 + (Sl.n s20)) + 1) 0 (takeL (((0 + (Sl.n s20)) + 1) * 1) (dropL 0 (appL (dropL 0 (takeL ((Sl.n s20) * 1) (Sl.cs s20))) [(zI z6)]))))), (Sl.v 1 s21)] [] [] [some 0, none, none, none, none, none] [] [] (by kernel_rfl) mapO_n (Eq.trans (by kernel_rfl) h19) mapO_n mapO_n)) (eE)))) ?_
                exact ⟨(s19, s20, s25, z5, z7, s22, s23), hm, (.k0 [false] [.tmp 4 false] [1, 2, 3, 4, 10])⟩
            · refine .ifF b2 (by kernel_rfl) h12 ?_
              refine .skip ?_
              exact ⟨(s19, s20, s21, z5, z7, s22, s23), hm, (.k0 [false] [.tmp 4 false] [1, 2, 3, 4, 10])⟩
          · replace hm := oo_inv hm; obtain ⟨k2, h20, hm⟩ := hm
            obtain rfl := toN_some h20
            replace hm := bb_inv hm; obtain ⟨h21, hm⟩ := hm
            replace hm := oo_inv hm; obtain ⟨v7, h22, hm⟩ := hm
            replace hm := inv_toI hm; obtain ⟨x1, rfl, hm⟩ := hm
            replace hm := bb_inv hm; obtain ⟨h23, hm⟩ := hm
            replace hm := oo_inv hm; obtain ⟨v8, h24, hm⟩ := hm
            replace hm := inv_toI hm; obtain ⟨x2, rfl, hm⟩ := hm
            replace hm := oo_inv hm; obtain ⟨k3, h25, hm⟩ := hm
            obtain rfl := toN_some h25
            replace hm := bb_inv hm; obtain ⟨h26, hm⟩ := hm
            replace hm := oo_inv hm; obtain ⟨v9, h27, hm⟩ := hm
            replace hm := inv_toI hm; obtain ⟨x3, rfl, hm⟩ := hm
            replace hm := bb_cases hm; rcases hm with ⟨h28, hm⟩ | ⟨h28, hm⟩
            · replace hm := oo_inv hm; obtain ⟨v10, h29, hm⟩ := hm
              replace hm := inv_vTup hm; obtain ⟨l2, rfl, hm⟩ := hm
              replace hm := ll_uncons hm; obtain ⟨v11, l17107_0, rfl, hm⟩ := hm
              replace hm := ll_end hm; obtain ⟨rfl, hm⟩ := hm
              replace hm := inv_vBool hm; obtain ⟨b4, rfl, hm⟩ := hm
              refine .reg (eN 11 (Fr.puts (fr 85 [(1, (Sl.v 1 s9)), (2, (Sl.v 1 s10)), (3, (Sl.v 1 s11)), (4, (pt 1 0)), (10, (zI (Int.ofNat k1))), (11, (zI (Int.ofNat k2)))]) [(53, (pt 1 1)), (54, (Sl.v 1 s12)), (55, (zI (Int.ofNat k2))), (56, (fpV (k2 * 1) (Sl.cs s12))), (57, (zI x1)), (58, (pt 1 2)), (59, (Sl.v 1 s13)), (60, (Sl.v 1 s9)), (61, (Sl.v 1 s10)), (62, (zI (Int.ofNat (Sl.n s10)))), (63, (fpV ((Sl.n s10) * 1) (Sl.cs s9)))]) (hp 2 [(oT tab0), (oC [(zI z2), (Sl.v 1 s12), (Sl.v 1 s13)])]) (eC 3 (keep (hp 2 [(oT tab0), (oC [(zI z2), (Sl.v 1 s12), (Sl.v 1 s13)])]) (bb (an (Nat.blt k2 (Sl.n s12)) true) (some (fpV (k2 * 1) (Sl.cs s12))) none)) (keep_bb h21) (eD (keep (hp 2 [(oT tab0), (oC [(zI z2), (Sl.v 1 s12), (Sl.v 1 s13)])]) (nthL (Sl.cs s12) (k2 * 1))) (keep_eq h22) (eC 5 (keep (hp 2 [(oT tab0), (oC [(zI z2), (Sl.v 1 s12), (Sl.v 1 s13)])]) (bb (an (Nat.blt (Sl.n s10) (Sl.n s9)) true) (some (fpV ((Sl.n s10) * 1) (Sl.cs s9))) none)) (keep_bb h23) (by kernel_rfl)))) (eD (keep (hp 2 [(oT tab0), (oC [(zI z2), (Sl.v 1 s12), (Sl.v 1 s13)])]) (nthL (Sl.cs s9) ((Sl.n s10) * 1))) (keep_eq h24) (eD (keep (hp 2 [(oT tab0), (oC [(zI z2), (Sl.v 1 s12), (Sl.v 1 s13)])]) (bb (an (Nat.blt k3 (Sl.n s13)) true) (some (fpV (k3 * 1) (Sl.cs s13))) none)) (keep_bb h26) (eD (keep (hp 2 [(oT tab0), (oC [(zI z2), (Sl.v 1 s12), (Sl.v 1 s13)])]) (nthL (Sl.cs s13) (k3 * 1))) (keep_eq h27) (eD (some ((zB (ieq x1 x3)), (hp 2 [(oT tab0), (oC [(zI z2), (Sl.v 1 s12), (Sl.v 1 s13)])]))) (show _ = some ((zB true), _) from (by rw [h28])) (eC 3 (objG tabs [[some 1], [none]] 2 [] [] (pu 10550) [(Sl.v 1 s10), (zI (Int.ofNat k2))] (hp 2 [(oT tab0), (oC [(zI z2), (Sl.v 1 s12), (Sl.v 1 s13)])])) (objG_eq (as := [(Sl.v 1 s10), (zI (Int.ofNat k2))]) (H1 := (hp 2 [(oT tab0), (oC [(zI z2), (Sl.v 1 s12), (Sl.v 1 s13)])])) (gvAL_c (gvA_1 (gv_s (giveV_cl (z := 1) (v := (Sl.v 1 s10)) (H := (hp 2 [(oT tab0), (oC [(zI z2), (Sl.v 1 s12), (Sl.v 1 s13)])])) (by kernel_rfl) (by kernel_rfl) (by kernel_rfl)))) (gvAL_c (gvA_1 gv_n) gvAL_n)) (objF_eq (H2 := (hp 2 [(oT tab0), (oC [(zI z2), (Sl.v 1 s12), (Sl.v 1 s13)])])) (v := (zB b4)) (v' := (zB b4)) [some 0] [] [] [(Sl.v 1 s10), (zI (Int.ofNat k2))] [] [] [some 0, none] [] [] (by kernel_rfl) mapO_n (Eq.trans (by kernel_rfl) h29) mapO_n mapO_n)) (eE))))))) ?_
              exact ⟨(s9, s10, s11, (Int.ofNat k1), (Int.ofNat k2), (nt b4), z2, s12, s13), hm, (.k0 [false] [.tmp 4 false] [1, 2, 3, 4, 10, 11, 73])⟩
            · refine .reg (eN 11 (Fr.puts (fr 85 [(1, (Sl.v 1 s9)), (2, (Sl.v 1 s10)), (3, (Sl.v 1 s11)), (4, (pt 1 0)), (10, (zI (Int.ofNat k1))), (11, (zI (Int.ofNat k2)))]) [(53, (pt 1 1)), (54, (Sl.v 1 s12)), (55, (zI (Int.ofNat k2))), (56, (fpV (k2 * 1) (Sl.cs s12))), (57, (zI x1)), (58, (pt 1 2)), (59, (Sl.v 1 s13)), (60, (Sl.v 1 s9)), (61, (Sl.v 1 s10)), (62, (zI (Int.ofNat (Sl.n s10)))), (63, (fpV ((Sl.n s10) * 1) (Sl.cs s9)))]) (hp 2 [(oT tab0), (oC [(zI z2), (Sl.v 1 s12), (Sl.v 1 s13)])]) (eC 3 (keep (hp 2 [(oT tab0), (oC [(zI z2), (Sl.v 1 s12), (Sl.v 1 s13)])]) (bb (an (Nat.blt k2 (Sl.n s12)) true) (some (fpV (k2 * 1) (Sl.cs s12))) none)) (keep_bb h21) (eD (keep (hp 2 [(oT tab0), (oC [(zI z2), (Sl.v 1 s12), (Sl.v 1 s13)])]) (nthL (Sl.cs s12) (k2 * 1))) (keep_eq h22) (eC 5 (keep (hp 2 [(oT tab0), (oC [(zI z2), (Sl.v 1 s12), (Sl.v 1 s13)])]) (bb (an (Nat.blt (Sl.n s10) (Sl.n s9)) true) (some (fpV ((Sl.n s10) * 1) (Sl.cs s9))) none)) (keep_bb h23) (by kernel_rfl)))) (eD (keep (hp 2 [(oT tab0), (oC [(zI z2), (Sl.v 1 s12), (Sl.v 1 s13)])]) (nthL (Sl.cs s9) ((Sl.n s10) * 1))) (keep_eq h24) (eD (keep (hp 2 [(oT tab0), (oC [(zI z2), (Sl.v 1 s12), (Sl.v 1 s13)])]) (bb (an (Nat.blt k3 (Sl.n s13)) true) (some (fpV (k3 * 1) (Sl.cs s13))) none)) (keep_bb h26) (eD (keep (hp 2 [(oT tab0), (oC [(zI z2), (Sl.v 1 s12), (Sl.v 1 s13)])]) (nthL (Sl.cs s13) (k3 * 1))) (keep_eq h27) (eD (some ((zB (ieq x1 x3)), (hp 2 [(oT tab0), (oC [(zI z2), (Sl.v 1 s12), (Sl.v 1 s13)])]))) (show _ = some ((zB false), _) from (by rw [h28])) (eE)))))) ?_
              exact ⟨(s9, s10, s11, (Int.ofNat k1), (Int.ofNat k2), false, z2, s12, s13), hm, (.k0 [false] [.tmp 4 false] [1, 2, 3, 4, 10, 11, 73])⟩
      · refine .ifF (ilt z1 (Int.ofNat (Sl.n s9))) (by kernel_rfl) h8 ?_
        refine .exit ?_
        exact ⟨s11, hm, (.k0 [false] [] [3])⟩
theorem r10700 {call : CallF} (pu : PureF) (n : Nat) (hcall : call = callP tabs isP pu (inl pu)) {args : List Value} {os : List AObj} {z : Value} (ha : args.length = 4) (hk : os.length = 0) (hpl : ∀ o ∈ os, plainO o) (hm : m10700 pu n (args ++ os.map encO) = some z) : args.length ≤ 85 ∧ Run tt call (tabs.length + 0) c70_35 (Fr.made 85 args) (subHeap tabs os) (FinO tt tabs.length 0 [.tmp 8] z) := by
  subst hcall
  have hq := len_cons ha; clear ha; obtain ⟨a0, args, rfl, ha⟩ := hq
  have hq := len_cons ha; clear ha; obtain ⟨a1, args, rfl, ha⟩ := hq
  have hq := len_cons ha; clear ha; obtain ⟨a2, args, rfl, ha⟩ := hq
  have hq := len_cons ha; clear ha; obtain ⟨a3, args, rfl, ha⟩ := hq
  obtain rfl := len_nil ha
  obtain rfl := len_nil hk
  replace hm : m10700 pu n [a0, a1, a2, a3] = some z := hm
  unfold m10700 at hm
  replace hm : (oo (vAgg a0) none fun l0 => (ll l0 none fun v0 l0 => (ll l0 none fun v1 l0 => (ll l0 none fun v2 l0 => (ll l0 (oo (toI .i64 v0) none fun x0 => (oo (toSl 1 v1) none fun s0 => (oo (toSl 1 v2) none fun s1 => (oo (toSl 1 a1) none fun s2 => (oo (toSl 1 a2) none fun s3 => (oo (toSl 1 a3) none fun s4 => (m10700_ pu n x0 s0 s1 s2 s3 s4))))))) fun _ _ => none))))) = some z := hm
  replace hm := inv_vAgg hm; obtain ⟨l0, rfl, hm⟩ := hm
  replace hm := ll_uncons hm; obtain ⟨v0, l17112_0, rfl, hm⟩ := hm
  replace hm := ll_uncons hm; obtain ⟨v1, l17112_1, rfl, hm⟩ := hm
  replace hm := ll_uncons hm; obtain ⟨v2, l17112_2, rfl, hm⟩ := hm
  replace hm := ll_end hm; obtain ⟨rfl, hm⟩ := hm
  replace hm := inv_toI hm; obtain ⟨x0, rfl, hm⟩ := hm
  replace hm := inv_toSl hm; obtain ⟨s0, rfl, hm⟩ := hm
  replace hm := inv_toSl hm; obtain ⟨s1, rfl, hm⟩ := hm
  replace hm := inv_toSl hm; obtain ⟨s2, rfl, hm⟩ := hm
  replace hm := inv_toSl hm; obtain ⟨s3, rfl, hm⟩ := hm
  replace hm := inv_toSl hm; obtain ⟨s4, rfl, hm⟩ := hm
  refine ⟨by simp, ?_⟩
  exact .same (F' := (fr 85 [(0, (.agg ⟨[(zI x0), (Sl.v 1 s0), (Sl.v 1 s1)]⟩)), (1, (Sl.v 1 s2)), (2, (Sl.v 1 s3)), (3, (Sl.v 1 s4))])) (H' := (hp 1 [(oT tab0)])) (by kernel_rfl) (by kernel_rfl) (q10700 pu n x0 s0 s1 s2 s3 s4 hm)
end
end Go.MdHM
