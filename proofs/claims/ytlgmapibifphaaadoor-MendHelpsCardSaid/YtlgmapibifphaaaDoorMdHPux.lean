/- Models of the program's functions, and the proofs that runs give them: MADE BY PROGRAM (wip/tools/dec.py). -/
import Derived.Test.YtlgmapibifphaaaDoorMdHMod0x
import Derived.Test.YtlgmapibifphaaaDoorMdHMod1
import Derived.Test.YtlgmapibifphaaaDoorMdHMod2
import Derived.Test.YtlgmapibifphaaaDoorMdHMod3
import Derived.Test.YtlgmapibifphaaaDoorMdHMod4
import Derived.Test.YtlgmapibifphaaaDoorMdHMod5

set_option maxRecDepth 100000
set_option maxHeartbeats 20000000
set_option linter.unusedVariables false
namespace Go.MdHM
open Go.Sp Go.MdH
noncomputable section

def m10550_ (pu : PureF) (n : Nat) (s0 : Sl) (z0 : Int) : Option Value :=
  (oo (pu 10690 [(Sl.v 1 s0), (.int .i64 z0)]) none fun v0 => (oo (vTup v0) none fun l0 => (ll l0 none fun v1 l0 => (ll l0 (oo (toI .i64 v1) none fun x0 => (some (.tuple ⟨[(.bool (ilt (0 : Int) x0))]⟩))) fun _ _ => none))))
def m10550 (pu : PureF) (n : Nat) (args : List Value) : Option Value :=
  (ll args none fun a0 args => (ll args none fun a1 args => (ll args (oo (toSl 1 a0) none fun s0 => (oo (toI .i64 a1) none fun x0 => (m10550_ pu n s0 x0))) fun _ _ => none)))
theorem q10550 (pu : PureF) (n : Nat) (s0 : Sl) (z0 : Int) {v : Value} (hm : m10550_ pu n s0 z0 = some v) : Run tt (callP tabs isP pu (inl pu)) 1 c55_3 (fr 9 [(0, (Sl.v 1 s0)), (1, (zI z0))]) (hp 1 [(oT tab0)]) (FinO tt 1 0 [.tmp 4] v) := by
  unfold m10550_ at hm
  refine .then ?_
  refine .rK ?_
  refine .ghs (fr 9 [(0, (Sl.v 1 s0)), (1, (zI z0))]) (hp 1 [(oT tab0)]) (.k0 [false] [] [0, 1]) ?_
  refine .then ?_
  replace hm := oo_inv hm; obtain ⟨v0, h0, hm⟩ := hm
  replace hm := inv_vTup hm; obtain ⟨l0, rfl, hm⟩ := hm
  replace hm := ll_uncons hm; obtain ⟨v1, l2950_0, rfl, hm⟩ := hm
  replace hm := ll_end hm; obtain ⟨rfl, hm⟩ := hm
  replace hm := inv_toI hm; obtain ⟨x0, rfl, hm⟩ := hm
  refine .reg (eC 2 (objG tabs [[some 1], [none]] 2 [] [] (pu 10690) [(Sl.v 1 s0), (zI z0)] (hp 1 [(oT tab0)])) (objG_eq (as := [(Sl.v 1 s0), (zI z0)]) (H1 := (hp 1 [(oT tab0)])) (gvAL_c (gvA_1 (gv_s (giveV_cl (z := 1) (v := (Sl.v 1 s0)) (H := (hp 1 [(oT tab0)])) (by kernel_rfl) (by kernel_rfl) (by kernel_rfl)))) (gvAL_c (gvA_1 gv_n) gvAL_n)) (objF_eq (H2 := (hp 1 [(oT tab0)])) (v := (zI x0)) (v' := (zI x0)) [some 0] [] [] [(Sl.v 1 s0), (zI z0)] [] [] [some 0] [] [] (by kernel_rfl) mapO_n (Eq.trans (by kernel_rfl) h0) mapO_n mapO_n)) (eE)) ?_
  refine .ghs (fr 9 [(4, (zB (ilt (0 : Int) x0)))]) (hp 1 [(oT tab0)]) (.k0 [false] [] [4]) ?_
  refine .ghs (fr 9 [(4, (zB (ilt (0 : Int) x0)))]) (hp 1 [(oT tab0)]) (.k0 [false] [] [4]) ?_
  refine .ret ?_
  exact finO_ret (zB (ilt (0 : Int) x0)) [] (by kernel_rfl) hm (Nat.le_of_ble_eq_true rfl) ooAt_nil
theorem r10550 {call : CallF} (pu : PureF) (n : Nat) (hcall : call = callP tabs isP pu (inl pu)) {args : List Value} {os : List AObj} {z : Value} (ha : args.length = 2) (hk : os.length = 0) (hpl : ∀ o ∈ os, plainO o) (hm : m10550 pu n (args ++ os.map encO) = some z) : args.length ≤ 9 ∧ Run tt call (tabs.length + 0) c55_3 (Fr.made 9 args) (subHeap tabs os) (FinO tt tabs.length 0 [.tmp 4] z) := by
  subst hcall
  have hq := len_cons ha; clear ha; obtain ⟨a0, args, rfl, ha⟩ := hq
  have hq := len_cons ha; clear ha; obtain ⟨a1, args, rfl, ha⟩ := hq
  obtain rfl := len_nil ha
  obtain rfl := len_nil hk
  replace hm : m10550 pu n [a0, a1] = some z := hm
  unfold m10550 at hm
  replace hm : (oo (toSl 1 a0) none fun s0 => (oo (toI .i64 a1) none fun x0 => (m10550_ pu n s0 x0))) = some z := hm
  replace hm := inv_toSl hm; obtain ⟨s0, rfl, hm⟩ := hm
  replace hm := inv_toI hm; obtain ⟨x0, rfl, hm⟩ := hm
  refine ⟨by simp, ?_⟩
  exact .same (F' := (fr 9 [(0, (Sl.v 1 s0)), (1, (zI x0))])) (H' := (hp 1 [(oT tab0)])) (by kernel_rfl) (by kernel_rfl) (q10550 pu n s0 x0 hm)

def m10551_ (pu : PureF) (n : Nat) (n0 : Nat) (c0 : Nat) (z0 : Int) (q0 : List Value) : Option Value :=
  (bb (allL closed1 q0) (bb (orr (Nat.ble 2 c0) (nilL q0)) (bb (allL closed1 q0) (oo (pu 10691 [(.slice (some ⟨1, 0, some 1⟩) n0 c0), (.int .i64 z0), (.agg ⟨q0⟩)]) none fun v0 => (oo (vTup v0) none fun l0 => (ll l0 none fun v1 l0 => (ll l0 none fun v2 l0 => (ll l0 (oo (toI .i64 v1) none fun x0 => (oo (vAgg v2) none fun q1 => (bb (allL closed1 q1) (bb (allL closed1 q1) (some (.tuple ⟨[(.bool (ilt (0 : Int) x0)), (.agg ⟨q1⟩)]⟩)) none) none))) fun _ _ => none))))) none) none) none)
def m10551 (pu : PureF) (n : Nat) (args : List Value) : Option Value :=
  (ll args none fun a0 args => (ll args none fun a1 args => (ll args none fun o0 args => (ll args (oo (toSc 1 0 1 a0) none fun y0 => (oo (toI .i64 a1) none fun x0 => (oo (vAgg o0) none fun q0 => (m10551_ pu n (NC.n y0) (NC.c y0) x0 q0)))) fun _ _ => none))))
theorem q10551 (pu : PureF) (n : Nat) (n0 : Nat) (c0 : Nat) (z0 : Int) (q0 : List Value) {v : Value} (hm : m10551_ pu n n0 c0 z0 q0 = some v) : Run tt (callP tabs isP pu (inl pu)) 2 c55_3 (fr 9 [(0, (sc 1 0 1 n0 c0)), (1, (zI z0))]) (hp 2 [(oT tab0), (oC q0)]) (FinO tt 1 1 [.tmp 4] v) := by
  unfold m10551_ at hm
  refine .then ?_
  refine .rK ?_
  replace hm := bb_inv hm; obtain ⟨h0, hm⟩ := hm
  refine .ghs (fr 9 [(0, (sc 1 0 1 n0 c0)), (1, (zI z0))]) (hp 2 [(oT tab0), (oC q0)]) (.k [1] [false, false] [] [0, 1] ⟨trE (by kernel_rfl) h0, trivial⟩) ?_
  refine .then ?_
  replace hm := bb_inv hm; obtain ⟨h1, hm⟩ := hm
  replace hm := bb_inv hm; obtain ⟨h2, hm⟩ := hm
  replace hm := oo_inv hm; obtain ⟨v0, h3, hm⟩ := hm
  replace hm := inv_vTup hm; obtain ⟨l0, rfl, hm⟩ := hm
  replace hm := ll_uncons hm; obtain ⟨v1, l18274_0, rfl, hm⟩ := hm
  replace hm := ll_uncons hm; obtain ⟨v2, l18274_1, rfl, hm⟩ := hm
  replace hm := ll_end hm; obtain ⟨rfl, hm⟩ := hm
  replace hm := inv_toI hm; obtain ⟨x0, rfl, hm⟩ := hm
  replace hm := inv_vAgg hm; obtain ⟨q1, rfl, hm⟩ := hm
  replace hm := bb_inv hm; obtain ⟨h4, hm⟩ := hm
  refine .reg (eC 2 (objG tabs [[none], [none]] 2 [.tmp 0 false] [false] (pu 10691) [(sc 1 0 1 n0 c0), (zI z0)] (hp 2 [(oT tab0), (oC q0)])) (objG_eq (as := [(sc 1 0 1 n0 c0), (zI z0)]) (H1 := (hp 2 [(oT tab0), (oC q0)])) (gvAL_c (gvA_1 gv_n) (gvAL_c (gvA_1 gv_n) gvAL_n)) (objF_eq (H2 := (hp 2 [(oT tab0), (oC q1)])) (v := (zI x0)) (v' := (zI x0)) [some 0, some 1] [(false, some 1)] [(oC q0)] [(sc 1 0 1 n0 c0), (zI z0)] [(.agg ⟨q1⟩)] [(oC q1)] [some 0, some 1] [(false, (oC q1))] [(oC q1)] (trE (by kernel_rfl) (rootL h1 rfl)) (mapO_c (nO_list (anc := []) h2) mapO_n) (Eq.trans (by kernel_rfl) h3) (mapO_c rfl mapO_n) (mapO_c (bO_list h4) mapO_n))) (eE)) ?_
  replace hm := bb_inv hm; obtain ⟨h5, hm⟩ := hm
  refine .ghs (fr 9 [(4, (zB (ilt (0 : Int) x0)))]) (hp 2 [(oT tab0), (oC q1)]) (.k [1] [false, false] [] [4] ⟨trE (by kernel_rfl) h5, trivial⟩) ?_
  refine .ghs (fr 9 [(4, (zB (ilt (0 : Int) x0)))]) (hp 2 [(oT tab0), (oC q1)]) (.k [1] [false, false] [] [4] ⟨trE (by kernel_rfl) h5, trivial⟩) ?_
  refine .ret ?_
  exact finO_ret (zB (ilt (0 : Int) x0)) [(oC q1)] (by kernel_rfl) hm (Nat.le_of_ble_eq_true rfl) (ooAt_cons (pO_c _) ooAt_nil)
theorem r10551 {call : CallF} (pu : PureF) (n : Nat) (hcall : call = callP tabs isP pu (inl pu)) {args : List Value} {os : List AObj} {z : Value} (ha : args.length = 2) (hk : os.length = 1) (hpl : ∀ o ∈ os, plainO o) (hm : m10551 pu n (args ++ os.map encO) = some z) : args.length ≤ 9 ∧ Run tt call (tabs.length + 1) c55_3 (Fr.made 9 args) (subHeap tabs os) (FinO tt tabs.length 1 [.tmp 4] z) := by
  subst hcall
  have hq := len_cons ha; clear ha; obtain ⟨a0, args, rfl, ha⟩ := hq
  have hq := len_cons ha; clear ha; obtain ⟨a1, args, rfl, ha⟩ := hq
  obtain rfl := len_nil ha
  have hq := len_cons hk; clear hk; obtain ⟨b0, os, rfl, hk⟩ := hq
  have hp0 : plainO b0 := hpl b0 (by simp)
  obtain rfl := len_nil hk
  replace hm : m10551 pu n [a0, a1, encO b0] = some z := hm
  unfold m10551 at hm
  replace hm : (oo (toSc 1 0 1 a0) none fun y0 => (oo (toI .i64 a1) none fun x0 => (oo (vAgg (encO b0)) none fun q0 => (m10551_ pu n (NC.n y0) (NC.c y0) x0 q0)))) = some z := hm
  replace hm := oo_inv hm; obtain ⟨y0, h0, hm⟩ := hm
  obtain rfl := toSc_some h0
  replace hm := inv_toI hm; obtain ⟨x0, rfl, hm⟩ := hm
  replace hm := oo_inv hm; obtain ⟨q0, h1, hm⟩ := hm
  obtain rfl := vAgg_enc hp0 h1
  refine ⟨by simp, ?_⟩
  exact .same (F' := (fr 9 [(0, (sc 1 0 1 (NC.n y0) (NC.c y0))), (1, (zI x0))])) (H' := (hp 2 [(oT tab0), (oC q0)])) (by kernel_rfl) (by kernel_rfl) (q10551 pu n (NC.n y0) (NC.c y0) x0 q0 hm)
def m10691_0 (pu : PureF) (n : Nat) (z0 : Int) (q0 : List Value) : Option Value :=
  (bb (allL closed1 q0) (some (.tuple ⟨[(.int .i64 z0), (.agg ⟨q0⟩)]⟩)) none)
def m10691_2 (pu : PureF) (n : Nat) (ih0 : Nat → Nat → Int → Int → Int → List Value → Option Value) (n0 : Nat) (c0 : Nat) (z0 : Int) (z1 : Int) (z2 : Int) (q0 : List Value) : Option Value :=
  (bb (allL closed1 q0) (ih0 n0 c0 z0 z1 (wrapF .i64 (Int.add z2 (1 : Int))) q0) none)
def b10691_1 (pu : PureF) (n : Nat) (ih0 : Nat → Nat → Int → Int → Int → List Value → Option Value) (n0 : Nat) (c0 : Nat) (z0 : Int) (z1 : Int) (z2 : Int) (q0 : List Value) : Option Value :=
  (bb (allL closed1 q0) (bb (ilt z2 (Int.ofNat n0)) (oo (toN z2) none fun k1 => (bb (an (Nat.blt k1 n0) true) (oo (nthL q0 (0 + k1 * 1)) none fun v0 => (oo (toI .i64 v0) none fun x0 => (bb (ieq x0 z0) (m10691_2 pu n ih0 n0 c0 z0 (wrapF .i64 (Int.add z1 (1 : Int))) (Int.ofNat k1) q0) (m10691_2 pu n ih0 n0 c0 z0 z1 (Int.ofNat k1) q0)))) none)) (m10691_0 pu n z1 q0)) none)
def l10691_1 (pu : PureF) (n : Nat) (w : Nat) : Nat → Nat → Int → Int → Int → List Value → Option Value :=
  Nat.rec (motive := fun _ => Nat → Nat → Int → Int → Int → List Value → Option Value) (fun _ _ _ _ _ _ => none) (fun _ ih0 => b10691_1 pu n ih0) w
def m10691_ (pu : PureF) (n : Nat) (n0 : Nat) (c0 : Nat) (z0 : Int) (q0 : List Value) : Option Value :=
  (bb (allL closed1 q0) (l10691_1 pu n n n0 c0 z0 (0 : Int) (0 : Int) q0) none)
def m10691 (pu : PureF) (n : Nat) (args : List Value) : Option Value :=
  (ll args none fun a0 args => (ll args none fun a1 args => (ll args none fun o0 args => (ll args (oo (toSc 1 0 1 a0) none fun y0 => (oo (toI .i64 a1) none fun x0 => (oo (vAgg o0) none fun q0 => (m10691_ pu n (NC.n y0) (NC.c y0) x0 q0)))) fun _ _ => none))))
theorem w10691_0 (pu : PureF) (n : Nat) (z0 : Int) (q0 : List Value) {v : Value} (hm : m10691_0 pu n z0 q0 = some v) : Run tt (callP tabs isP pu (inl pu)) 2 c69_18 (fr 22 [(5, (zI z0))]) (hp 2 [(oT tab0), (oC q0)]) (FinO tt 1 1 [.tmp 4] v) := by
  unfold m10691_0 at hm
  refine .then ?_
  refine .rK ?_
  replace hm := bb_inv hm; obtain ⟨h0, hm⟩ := hm
  refine .ghs (fr 22 [(4, (zI z0))]) (hp 2 [(oT tab0), (oC q0)]) (.k [1] [false, false] [] [4] ⟨trE (by kernel_rfl) h0, trivial⟩) ?_
  refine .ghs (fr 22 [(4, (zI z0))]) (hp 2 [(oT tab0), (oC q0)]) (.k [1] [false, false] [] [4] ⟨trE (by kernel_rfl) h0, trivial⟩) ?_
  refine .ret ?_
  exact finO_ret (zI z0) [(oC q0)] (by kernel_rfl) hm (Nat.le_of_ble_eq_true rfl) (ooAt_cons (pO_c _) ooAt_nil)
theorem q10691 (pu : PureF) (n : Nat) (n0 : Nat) (c0 : Nat) (z0 : Int) (q0 : List Value) {v : Value} (hm : m10691_ pu n n0 c0 z0 q0 = some v) : Run tt (callP tabs isP pu (inl pu)) 2 c69_21 (fr 22 [(0, (sc 1 0 1 n0 c0)), (1, (zI z0))]) (hp 2 [(oT tab0), (oC q0)]) (FinO tt 1 1 [.tmp 4] v) := by
  unfold m10691_ at hm
  refine .then ?_
  refine .rK ?_
  replace hm := bb_inv hm; obtain ⟨h0, hm⟩ := hm
  refine .ghs (fr 22 [(0, (sc 1 0 1 n0 c0)), (1, (zI z0))]) (hp 2 [(oT tab0), (oC q0)]) (.k [1] [false, false] [] [0, 1] ⟨trE (by kernel_rfl) h0, trivial⟩) ?_
  refine .then ?_
  refine .rK ?_
  refine .ghs (fr 22 [(0, (sc 1 0 1 n0 c0)), (1, (zI z0)), (5, (zI (0 : Int)))]) (hp 2 [(oT tab0), (oC q0)]) (.k [1] [false, false] [] [0, 1, 5] ⟨trE (by kernel_rfl) h0, trivial⟩) ?_
  refine .join (v := v) (fun y : Int × List Value => ((fr 22 [(5, (zI y.1))]), (hp 2 [(oT tab0), (oC y.2)]))) (fun y => m10691_0 pu n y.1 y.2) ?_ ?_
  · rintro ⟨z1, q1⟩ hm
    exact w10691_0 pu n z1 q1 hm
  · refine .then ?_
    refine .rK ?_
    refine .ghs (fr 22 [(0, (sc 1 0 1 n0 c0)), (1, (zI z0)), (5, (zI (0 : Int))), (6, (zI (0 : Int)))]) (hp 2 [(oT tab0), (oC q0)]) (.k [1] [false, false] [] [0, 1, 5, 6] ⟨trE (by kernel_rfl) h0, trivial⟩) ?_
    refine .block ?_
    refine .loopM (v := v) (fun y : Nat × Nat × Int × Int × Int × List Value => ((fr 22 [(0, (sc 1 0 1 y.1 y.2.1)), (1, (zI y.2.2.1)), (5, (zI y.2.2.2.1)), (6, (zI y.2.2.2.2.1))]), (hp 2 [(oT tab0), (oC y.2.2.2.2.2)]))) (fun w y => l10691_1 pu n w y.1 y.2.1 y.2.2.1 y.2.2.2.1 y.2.2.2.2.1 y.2.2.2.2.2) n ⟨(n0, c0, z0, (0 : Int), (0 : Int), q0), hm, (.k [1] [false, false] [] [0, 1, 5, 6] ⟨trE (by kernel_rfl) h0, trivial⟩)⟩ (fun _ => rfl) ?_
    rintro w0 ⟨n1, c1, z2, z3, z4, q2⟩ hm
    replace hm : b10691_1 pu n (l10691_1 pu n w0) n1 c1 z2 z3 z4 q2 = some v := hm
    unfold b10691_1 at hm
    refine .then ?_
    refine .then ?_
    refine .rK ?_
    replace hm := bb_inv hm; obtain ⟨h1, hm⟩ := hm
    refine .ghs (fr 22 [(0, (sc 1 0 1 n1 c1)), (1, (zI z2)), (5, (zI z3)), (6, (zI z4)), (10, (zB (ilt z4 (Int.ofNat n1))))]) (hp 2 [(oT tab0), (oC q2)]) (.k [1] [false, false] [] [0, 1, 5, 6, 10] ⟨trE (by kernel_rfl) h1, trivial⟩) ?_
    replace hm := bb_cases hm; rcases hm with ⟨h2, hm⟩ | ⟨h2, hm⟩
    · refine .ifT (ilt z4 (Int.ofNat n1)) (by kernel_rfl) h2 ?_
      refine .skip ?_
      refine .ghs (fr 22 [(0, (sc 1 0 1 n1 c1)), (1, (zI z2)), (5, (zI z3)), (6, (zI z4))]) (hp 2 [(oT tab0), (oC q2)]) (.k [1] [false, false] [] [0, 1, 5, 6] ⟨trE (by kernel_rfl) h1, trivial⟩) ?_
      refine .join (v := v) (fun y : Nat × Nat × Int × Int × Int × List Value => ((fr 22 [(0, (sc 1 0 1 y.1 y.2.1)), (1, (zI y.2.2.1)), (5, (zI y.2.2.2.1)), (6, (zI y.2.2.2.2.1))]), (hp 2 [(oT tab0), (oC y.2.2.2.2.2)]))) (fun y => m10691_2 pu n (l10691_1 pu n w0) y.1 y.2.1 y.2.2.1 y.2.2.2.1 y.2.2.2.2.1 y.2.2.2.2.2) ?_ ?_
      · rintro ⟨n2, c2, z5, z6, z7, q3⟩ hm
        unfold m10691_2 at hm
        refine .rK ?_
        replace hm := bb_inv hm; obtain ⟨h3, hm⟩ := hm
        exact ⟨(n2, c2, z5, z6, (wrapF .i64 (Int.add z7 (1 : Int))), q3), hm, (.k [1] [false, false] [] [0, 1, 5, 6] ⟨trE (by kernel_rfl) h3, trivial⟩)⟩
      · refine .block ?_
        refine .then ?_
        replace hm := oo_inv hm; obtain ⟨k1, h4, hm⟩ := hm
        obtain rfl := toN_some h4
        replace hm := bb_inv hm; obtain ⟨h5, hm⟩ := hm
        replace hm := oo_inv hm; obtain ⟨v0, h6, hm⟩ := hm
        replace hm := inv_toI hm; obtain ⟨x0, rfl, hm⟩ := hm
        refine .reg (eC 2 (keep (hp 2 [(oT tab0), (oC q2)]) (bb (an (Nat.blt k1 n1) true) (some (.pointer (some ⟨1, (0 + k1 * 1), none⟩))) none)) (keep_bb h5) (eD (keep (hp 2 [(oT tab0), (oC q2)]) (nthL q2 (0 + k1 * 1))) (keep_eq h6) (eE))) ?_
        refine .ghs (fr 22 [(0, (sc 1 0 1 n1 c1)), (1, (zI z2)), (5, (zI z3)), (6, (zI (Int.ofNat k1))), (18, (zB (ieq x0 z2)))]) (hp 2 [(oT tab0), (oC q2)]) (.k [1] [false, false] [] [0, 1, 5, 6, 18] ⟨trE (by kernel_rfl) h1, trivial⟩) ?_
        replace hm := bb_cases hm; rcases hm with ⟨h7, hm⟩ | ⟨h7, hm⟩
        · refine .ifT (ieq x0 z2) (by kernel_rfl) h7 ?_
          refine .rK ?_
          exact ⟨(n1, c1, z2, (wrapF .i64 (Int.add z3 (1 : Int))), (Int.ofNat k1), q2), hm, (.k [1] [false, false] [] [0, 1, 5, 6] ⟨trE (by kernel_rfl) h1, trivial⟩)⟩
        · refine .ifF (ieq x0 z2) (by kernel_rfl) h7 ?_
          refine .skip ?_
          exact ⟨(n1, c1, z2, z3, (Int.ofNat k1), q2), hm, (.k [1] [false, false] [] [0, 1, 5, 6] ⟨trE (by kernel_rfl) h1, trivial⟩)⟩
    · refine .ifF (ilt z4 (Int.ofNat n1)) (by kernel_rfl) h2 ?_
      refine .exit ?_
      exact ⟨(z3, q2), hm, (.k [1] [false, false] [] [5] ⟨trE (by kernel_rfl) h1, trivial⟩)⟩
theorem r10691 {call : CallF} (pu : PureF) (n : Nat) (hcall : call = callP tabs isP pu (inl pu)) {args : List Value} {os : List AObj} {z : Value} (ha : args.length = 2) (hk : os.length = 1) (hpl : ∀ o ∈ os, plainO o) (hm : m10691 pu n (args ++ os.map encO) = some z) : args.length ≤ 22 ∧ Run tt call (tabs.length + 1) c69_21 (Fr.made 22 args) (subHeap tabs os) (FinO tt tabs.length 1 [.tmp 4] z) := by
  subst hcall
  have hq := len_cons ha; clear ha; obtain ⟨a0, args, rfl, ha⟩ := hq
  have hq := len_cons ha; clear ha; obtain ⟨a1, args, rfl, ha⟩ := hq
  obtain rfl := len_nil ha
  have hq := len_cons hk; clear hk; obtain ⟨b0, os, rfl, hk⟩ := hq
  have hp0 : plainO b0 := hpl b0 (by simp)
  obtain rfl := len_nil hk
  replace hm : m10691 pu n [a0, a1, encO b0] = some z := hm
  unfold m10691 at hm
  replace hm : (oo (toSc 1 0 1 a0) none fun y0 => (oo (toI .i64 a1) none fun x0 => (oo (vAgg (encO b0)) none fun q0 => (m10691_ pu n (NC.n y0) (NC.c y0) x0 q0)))) = some z := hm
  replace hm := oo_inv hm; obtain ⟨y0, h0, hm⟩ := hm
  obtain rfl := toSc_some h0
  replace hm := inv_toI hm; obtain ⟨x0, rfl, hm⟩ := hm
  replace hm := oo_inv hm; obtain ⟨q0, h1, hm⟩ := hm
  obtain rfl := vAgg_enc hp0 h1
  refine ⟨by simp, ?_⟩
  exact .same (F' := (fr 22 [(0, (sc 1 0 1 (NC.n y0) (NC.c y0))), (1, (zI x0))])) (H' := (hp 2 [(oT tab0), (oC q0)])) (by kernel_rfl) (by kernel_rfl) (q10691 pu n (NC.n y0) (NC.c y0) x0 q0 hm)
end
end Go.MdHM
set_option maxRecDepth 100000
namespace Go.MdHM
open Go.Sp Go.MdH
noncomputable section
def L : Nat := 1000000
def disp (pu : PureF) : PureF := fun g args =>
  bb (Nat.beq g 3) (m3 pu L args) (bb (Nat.beq g 11) (m11 pu L args) (bb (Nat.beq g 13) (m13 pu L args) (bb (Nat.beq g 14) (m14 pu L args) (bb (Nat.beq g 15) (m15 pu L args) (bb (Nat.beq g 29) (m29 pu L args) (bb (Nat.beq g 32) (m32 pu L args) (bb (Nat.beq g 43) (m43 pu L args) (bb (Nat.beq g 44) (m44 pu L args) (bb (Nat.beq g 45) (m45 pu L args) (bb (Nat.beq g 46) (m46 pu L args) (bb (Nat.beq g 47) (m47 pu L args) (bb (Nat.beq g 49) (m49 pu L args) (bb (Nat.beq g 50) (m50 pu L args) (bb (Nat.beq g 51) (m51 pu L args) (bb (Nat.beq g 52) (m52 pu L args) (bb (Nat.beq g 53) (m53 pu L args) (bb (Nat.beq g 54) (m54 pu L args) (bb (Nat.beq g 56) (m56 pu L args) (bb (Nat.beq g 62) (m62 pu L args) (bb (Nat.beq g 64) (m64 pu L args) (bb (Nat.beq g 67) (m67 pu L args) (bb (Nat.beq g 71) (m71 pu L args) (bb (Nat.beq g 73) (m73 pu L args) (bb (Nat.beq g 74) (m74 pu L args) (bb (Nat.beq g 10650) (m10650 pu L args) (bb (Nat.beq g 10660) (m10660 pu L args) (bb (Nat.beq g 10690) (m10690 pu L args) (bb (Nat.beq g 10700) (m10700 pu L args) (bb (Nat.beq g 10550) (m10550 pu L args) (bb (Nat.beq g 10551) (m10551 pu L args) (bb (Nat.beq g 10691) (m10691 pu L args) (bb (Nat.beq g 12) (ll args (some (.bool true)) fun _ _ => none) (none)))))))))))))))))))))))))))))))))
def puN : Nat → PureF := fun n => Nat.rec (motive := fun _ => PureF) (fun _ _ => none) (fun _ ih => disp ih) n
end
end Go.MdHM
