/- Models of the program's functions, and the proofs that runs give them: MADE BY PROGRAM (wip/tools/dec.py). -/
import Derived.Test.YthcmfnmmgejnaaaHpBMod1x
import Derived.Test.YthcmfnmmgejnaaaHpBMod2
import Derived.Test.YthcmfnmmgejnaaaHpBMod3
import Derived.Test.YthcmfnmmgejnaaaHpBMod4

set_option maxRecDepth 100000
set_option maxHeartbeats 20000000
set_option linter.unusedVariables false
namespace Go.HpBM
open Go.Sp Go.HpB
noncomputable section

def m81_ (pu : PureF) (n : Nat) (x0 : Int) : Option Value :=
  (some (.bool (nt (ieq x0 x0))))
def m81 (pu : PureF) (n : Nat) (args : List Value) : Option Value :=
  (ll args none fun a0 args => (ll args (oo (toI .i64 a0) none fun x0 => (m81_ pu n x0)) fun _ _ => none))
theorem r81 {call : CallF} (pu : PureF) (n : Nat) (hcall : call = callP tabs isP pu (inl pu)) {args : List Value} {v : Value} (hm : m81 pu n args = some v) (_ : ∀ x ∈ args, closed2 x = true) : args.length ≤ 6 ∧ Run tt call 0 c81_3 (Fr.made 6 args) (pureHeap tabs) (Fin tt 0 [.tmp 2] v) := by
  subst hcall
  unfold m81 at hm
  replace hm := ll_uncons hm; obtain ⟨a0, args_0, rfl, hm⟩ := hm
  replace hm := ll_end hm; obtain ⟨rfl, hm⟩ := hm
  replace hm := inv_toI hm; obtain ⟨x0, rfl, hm⟩ := hm
  unfold m81_ at hm
  refine ⟨by simp, ?_⟩
  refine .same (F' := (fr 6 [(0, (zI x0))])) (H' := (hp 0 [])) (by kernel_rfl) (by kernel_rfl) ?_
  refine .then ?_
  refine .rK ?_
  refine .ghs (fr 6 [(0, (zI x0))]) (hp 0 []) (.k0 [] [] [0]) ?_
  refine .then ?_
  refine .rK ?_
  refine .ghs (fr 6 [(2, (zB (nt (ieq x0 x0))))]) (hp 0 []) (.k0 [] [] [2]) ?_
  refine .ret ?_
  exact fin_ret (zB (nt (ieq x0 x0))) (by kernel_rfl) (by kernel_rfl) hm

def m10580_ (pu : PureF) (n : Nat) (n0 : Nat) (c0 : Nat) (q0 : List Value) : Option Value :=
  (bb (allL closed1 q0) (oo (pu 65 [(.int .u64 (wrapF .u64 (Int.ofNat n0)))]) none fun v0 => (oo (toI .i64 v0) none fun x0 => (bb (orr (Nat.ble 2 c0) (nilL q0)) (bb (allL closed1 q0) (oo (pu 10680 [(.slice (some ⟨0, 0, some 1⟩) n0 c0), (.int .i64 (0 : Int)), (.int .i64 (Int.ofNat n0)), (.int .i64 x0), (.func (.func 53) ⟨[]⟩ ⟨[]⟩), (.agg ⟨q0⟩)]) none fun v1 => (oo (vTup v1) none fun l0 => (ll l0 none fun v2 l0 => (ll l0 none fun v3 l0 => (ll l0 (bb (isNoV v2) (oo (vAgg v3) none fun q1 => (bb (allL closed1 q1) (bb (allL closed1 q1) (some (.tuple ⟨[(.tuple ⟨[]⟩), (.agg ⟨q1⟩)]⟩)) none) none)) none) fun _ _ => none))))) none) none))) none)
def m10580 (pu : PureF) (n : Nat) (args : List Value) : Option Value :=
  (ll args none fun a0 args => (ll args none fun a1 args => (ll args none fun o0 args => (ll args (oo (toSc 0 0 1 a0) none fun y0 => (oo (toFn 53 0 a1) none fun l0 => (ll l0 (oo (vAgg o0) none fun q0 => (m10580_ pu n (NC.n y0) (NC.c y0) q0)) fun _ _ => none))) fun _ _ => none))))
theorem q10580 (pu : PureF) (n : Nat) (n0 : Nat) (c0 : Nat) (q0 : List Value) {v : Value} (hm : m10580_ pu n n0 c0 q0 = some v) : Run tt (callP tabs isP pu (inl pu)) 1 c58_2 (fr 14 [(0, (sc 0 0 1 n0 c0)), (1, (.func (.func 53) ⟨[]⟩ ⟨[]⟩))]) (hp 1 [(oC q0)]) (FinO tt 0 1 [] v) := by
  unfold m10580_ at hm
  refine .then ?_
  refine .rK ?_
  replace hm := bb_inv hm; obtain ⟨h0, hm⟩ := hm
  refine .ghs (fr 14 [(0, (sc 0 0 1 n0 c0)), (1, (.func (.func 53) ⟨[]⟩ ⟨[]⟩)), (4, (zI (Int.ofNat n0)))]) (hp 1 [(oC q0)]) (.k [0] [false] [] [0, 1, 4] ⟨trE (by kernel_rfl) h0, trivial⟩) ?_
  replace hm := oo_inv hm; obtain ⟨v0, h1, hm⟩ := hm
  replace hm := inv_toI hm; obtain ⟨x0, rfl, hm⟩ := hm
  replace hm := bb_inv hm; obtain ⟨h2, hm⟩ := hm
  replace hm := bb_inv hm; obtain ⟨h3, hm⟩ := hm
  replace hm := oo_inv hm; obtain ⟨v1, h4, hm⟩ := hm
  replace hm := inv_vTup hm; obtain ⟨l0, rfl, hm⟩ := hm
  replace hm := ll_uncons hm; obtain ⟨v2, l38145_0, rfl, hm⟩ := hm
  replace hm := ll_uncons hm; obtain ⟨v3, l38145_1, rfl, hm⟩ := hm
  replace hm := ll_end hm; obtain ⟨rfl, hm⟩ := hm
  replace hm := bb_inv hm; obtain ⟨h5, hm⟩ := hm
  obtain rfl := isNoV_ok h5
  replace hm := inv_vAgg hm; obtain ⟨q1, rfl, hm⟩ := hm
  replace hm := bb_inv hm; obtain ⟨h6, hm⟩ := hm
  refine .reg (eC 4 ((oo (pu 65 [(zU (wrapF .u64 (Int.ofNat n0)))]) none fun v => some (v, (hp 1 [(oC q0)])))) (call_eq h1) (eC 1 (objG tabs [[none], [none], [none], [none], [none]] 5 [.tmp 0 false] [false] (pu 10680) [(sc 0 0 1 n0 c0), (zI (0 : Int)), (zI (Int.ofNat n0)), (zI x0), (.func (.func 53) ⟨[]⟩ ⟨[]⟩)] (hp 1 [(oC q0)])) (objG_eq (as := [(sc 0 0 1 n0 c0), (zI (0 : Int)), (zI (Int.ofNat n0)), (zI x0), (.func (.func 53) ⟨[]⟩ ⟨[]⟩)]) (H1 := (hp 1 [(oC q0)])) (gvAL_c (gvA_1 gv_n) (gvAL_c (gvA_1 gv_n) (gvAL_c (gvA_1 gv_n) (gvAL_c (gvA_1 gv_n) (gvAL_c (gvA_1 gv_n) gvAL_n))))) (objF_eq (H2 := (hp 1 [(oC q1)])) (v := (.tuple ⟨[]⟩)) (v' := (.tuple ⟨[]⟩)) [some 0] [(false, some 0)] [(oC q0)] [(sc 0 0 1 n0 c0), (zI (0 : Int)), (zI (Int.ofNat n0)), (zI x0), (.func (.func 53) ⟨[]⟩ ⟨[]⟩)] [(.agg ⟨q1⟩)] [(oC q1)] [some 0] [(false, (oC q1))] [(oC q1)] (trE (by kernel_rfl) (rootL h2 rfl)) (mapO_c (nO_list (anc := []) h3) mapO_n) (Eq.trans (by kernel_rfl) h4) (mapO_c rfl mapO_n) (mapO_c (bO_list h6) mapO_n))) (eE))) ?_
  replace hm := bb_inv hm; obtain ⟨h7, hm⟩ := hm
  refine .ghs (fr 14 []) (hp 1 [(oC q1)]) (.k [0] [false] [] [] ⟨trE (by kernel_rfl) h7, trivial⟩) ?_
  exact finO_end (.tuple ⟨[]⟩) [(oC q1)] (by kernel_rfl) hm (Nat.le_of_ble_eq_true rfl) (ooAt_cons (pO_c _) ooAt_nil)
theorem r10580 {call : CallF} (pu : PureF) (n : Nat) (hcall : call = callP tabs isP pu (inl pu)) {args : List Value} {os : List AObj} {z : Value} (ha : args.length = 2) (hk : os.length = 1) (hpl : ∀ o ∈ os, plainO o) (hm : m10580 pu n (args ++ os.map encO) = some z) : args.length ≤ 14 ∧ Run tt call (tabs.length + 1) c58_2 (Fr.made 14 args) (subHeap tabs os) (FinO tt tabs.length 1 [] z) := by
  subst hcall
  have hq := len_cons ha; clear ha; obtain ⟨a0, args, rfl, ha⟩ := hq
  have hq := len_cons ha; clear ha; obtain ⟨a1, args, rfl, ha⟩ := hq
  obtain rfl := len_nil ha
  have hq := len_cons hk; clear hk; obtain ⟨b0, os, rfl, hk⟩ := hq
  have hp0 : plainO b0 := hpl b0 (by simp)
  obtain rfl := len_nil hk
  replace hm : m10580 pu n [a0, a1, encO b0] = some z := hm
  unfold m10580 at hm
  replace hm : (oo (toSc 0 0 1 a0) none fun y0 => (oo (toFn 53 0 a1) none fun l0 => (ll l0 (oo (vAgg (encO b0)) none fun q0 => (m10580_ pu n (NC.n y0) (NC.c y0) q0)) fun _ _ => none))) = some z := hm
  replace hm := oo_inv hm; obtain ⟨y0, h0, hm⟩ := hm
  obtain rfl := toSc_some h0
  replace hm := oo_inv hm; obtain ⟨l0, h1, hm⟩ := hm
  obtain rfl := toFn_some h1
  replace hm := ll_end hm; obtain ⟨rfl, hm⟩ := hm
  replace hm := oo_inv hm; obtain ⟨q0, h2, hm⟩ := hm
  obtain rfl := vAgg_enc hp0 h2
  refine ⟨by simp, ?_⟩
  exact .same (F' := (fr 14 [(0, (sc 0 0 1 (NC.n y0) (NC.c y0))), (1, (.func (.func 53) ⟨[]⟩ ⟨[]⟩))])) (H' := (hp 1 [(oC q0)])) (by kernel_rfl) (by kernel_rfl) (q10580 pu n (NC.n y0) (NC.c y0) q0 hm)
def m10680_1 (pu : PureF) (n : Nat) (ih0 : Nat → Nat → Int → Int → Int → Bool → Bool → List Value → Option Value) (n0 : Nat) (c0 : Nat) (z0 : Int) (z1 : Int) (z2 : Int) (b0 : Bool) (b1 : Bool) (z3 : Int) (q0 : List Value) : Option Value :=
  none
def b10680_0 (pu : PureF) (n : Nat) (ih0 : Nat → Nat → Int → Int → Int → Bool → Bool → List Value → Option Value) (n0 : Nat) (c0 : Nat) (z0 : Int) (z1 : Int) (z2 : Int) (b0 : Bool) (b1 : Bool) (q0 : List Value) : Option Value :=
  (bb (allL closed1 q0) (bb (nt (ilt (12 : Int) (wrapF .i64 (Int.sub z1 z0)))) (bb (orr (Nat.ble 2 c0) (nilL q0)) (bb (allL closed1 q0) (oo (pu 10820 [(.slice (some ⟨0, 0, some 1⟩) n0 c0), (.int .i64 z0), (.int .i64 z1), (.func (.func 53) ⟨[]⟩ ⟨[]⟩), (.agg ⟨q0⟩)]) none fun v0 => (oo (vTup v0) none fun l0 => (ll l0 none fun v1 l0 => (ll l0 none fun v2 l0 => (ll l0 (bb (isNoV v1) (oo (vAgg v2) none fun q1 => (bb (allL closed1 q1) (bb (allL closed1 q1) (some (.tuple ⟨[(.tuple ⟨[]⟩), (.agg ⟨q1⟩)]⟩)) none) none)) none) fun _ _ => none))))) none) none) (bb (ieq z2 (0 : Int)) none (bb (nt b0) none (m10680_1 pu n ih0 n0 c0 z0 z1 z2 b0 b1 (wrapF .i64 (Int.sub z1 z0)) q0)))) none)
def l10680_0 (pu : PureF) (n : Nat) (w : Nat) : Nat → Nat → Int → Int → Int → Bool → Bool → List Value → Option Value :=
  Nat.rec (motive := fun _ => Nat → Nat → Int → Int → Int → Bool → Bool → List Value → Option Value) (fun _ _ _ _ _ _ _ _ => none) (fun _ ih0 => b10680_0 pu n ih0) w
def m10680_ (pu : PureF) (n : Nat) (n0 : Nat) (c0 : Nat) (z0 : Int) (z1 : Int) (z2 : Int) (q0 : List Value) : Option Value :=
  (bb (allL closed1 q0) (l10680_0 pu n n n0 c0 z0 z1 z2 true true q0) none)
def m10680 (pu : PureF) (n : Nat) (args : List Value) : Option Value :=
  (ll args none fun a0 args => (ll args none fun a1 args => (ll args none fun a2 args => (ll args none fun a3 args => (ll args none fun a4 args => (ll args none fun o0 args => (ll args (oo (toSc 0 0 1 a0) none fun y0 => (oo (toI .i64 a1) none fun x0 => (oo (toI .i64 a2) none fun x1 => (oo (toI .i64 a3) none fun x2 => (oo (toFn 53 0 a4) none fun l0 => (ll l0 (oo (vAgg o0) none fun q0 => (m10680_ pu n (NC.n y0) (NC.c y0) x0 x1 x2 q0)) fun _ _ => none)))))) fun _ _ => none)))))))
theorem q10680 (pu : PureF) (n : Nat) (n0 : Nat) (c0 : Nat) (z0 : Int) (z1 : Int) (z2 : Int) (q0 : List Value) {v : Value} (hm : m10680_ pu n n0 c0 z0 z1 z2 q0 = some v) : Run tt (callP tabs isP pu (inl pu)) 1 c68_74 (fr 148 [(0, (sc 0 0 1 n0 c0)), (1, (zI z0)), (2, (zI z1)), (3, (zI z2)), (4, (.func (.func 53) ⟨[]⟩ ⟨[]⟩))]) (hp 1 [(oC q0)]) (FinO tt 0 1 [] v) := by
  unfold m10680_ at hm
  refine .then ?_
  refine .rK ?_
  replace hm := bb_inv hm; obtain ⟨h0, hm⟩ := hm
  refine .ghs (fr 148 [(0, (sc 0 0 1 n0 c0)), (1, (zI z0)), (2, (zI z1)), (3, (zI z2)), (4, (.func (.func 53) ⟨[]⟩ ⟨[]⟩)), (10, (zB true))]) (hp 1 [(oC q0)]) (.k [0] [false] [] [0, 1, 2, 3, 4, 10] ⟨trE (by kernel_rfl) h0, trivial⟩) ?_
  refine .then ?_
  refine .rK ?_
  refine .ghs (fr 148 [(0, (sc 0 0 1 n0 c0)), (1, (zI z0)), (2, (zI z1)), (3, (zI z2)), (4, (.func (.func 53) ⟨[]⟩ ⟨[]⟩)), (10, (zB true)), (11, (zB true))]) (hp 1 [(oC q0)]) (.k [0] [false] [] [0, 1, 2, 3, 4, 10, 11] ⟨trE (by kernel_rfl) h0, trivial⟩) ?_
  refine .block ?_
  refine .loopM (v := v) (fun y : Nat × Nat × Int × Int × Int × Bool × Bool × List Value => ((fr 148 [(0, (sc 0 0 1 y.1 y.2.1)), (1, (zI y.2.2.1)), (2, (zI y.2.2.2.1)), (3, (zI y.2.2.2.2.1)), (4, (.func (.func 53) ⟨[]⟩ ⟨[]⟩)), (10, (zB y.2.2.2.2.2.1)), (11, (zB y.2.2.2.2.2.2.1))]), (hp 1 [(oC y.2.2.2.2.2.2.2)]))) (fun w y => l10680_0 pu n w y.1 y.2.1 y.2.2.1 y.2.2.2.1 y.2.2.2.2.1 y.2.2.2.2.2.1 y.2.2.2.2.2.2.1 y.2.2.2.2.2.2.2) n ⟨(n0, c0, z0, z1, z2, true, true, q0), hm, (.k [0] [false] [] [0, 1, 2, 3, 4, 10, 11] ⟨trE (by kernel_rfl) h0, trivial⟩)⟩ (fun _ => rfl) ?_
  rintro w0 ⟨n1, c1, z3, z4, z5, b0, b1, q1⟩ hm
  replace hm : b10680_0 pu n (l10680_0 pu n w0) n1 c1 z3 z4 z5 b0 b1 q1 = some v := hm
  unfold b10680_0 at hm
  refine .block ?_
  refine .then ?_
  refine .rK ?_
  replace hm := bb_inv hm; obtain ⟨h1, hm⟩ := hm
  refine .ghs (fr 148 [(0, (sc 0 0 1 n1 c1)), (1, (zI z3)), (2, (zI z4)), (3, (zI z5)), (4, (.func (.func 53) ⟨[]⟩ ⟨[]⟩)), (10, (zB b0)), (11, (zB b1)), (12, (zI (wrapF .i64 (Int.sub z4 z3))))]) (hp 1 [(oC q1)]) (.k [0] [false] [] [0, 1, 2, 3, 4, 10, 11, 12] ⟨trE (by kernel_rfl) h1, trivial⟩) ?_
  refine .then ?_
  refine .then ?_
  refine .rK ?_
  refine .ghs (fr 148 [(0, (sc 0 0 1 n1 c1)), (1, (zI z3)), (2, (zI z4)), (3, (zI z5)), (4, (.func (.func 53) ⟨[]⟩ ⟨[]⟩)), (10, (zB b0)), (11, (zB b1)), (12, (zI (wrapF .i64 (Int.sub z4 z3)))), (25, (zB (nt (ilt (12 : Int) (wrapF .i64 (Int.sub z4 z3))))))]) (hp 1 [(oC q1)]) (.k [0] [false] [] [0, 1, 2, 3, 4, 10, 11, 12, 25] ⟨trE (by kernel_rfl) h1, trivial⟩) ?_
  replace hm := bb_cases hm; rcases hm with ⟨h2, hm⟩ | ⟨h2, hm⟩
  · refine .ifT (nt (ilt (12 : Int) (wrapF .i64 (Int.sub z4 z3)))) (by kernel_rfl) h2 ?_
    refine .then ?_
    replace hm := bb_inv hm; obtain ⟨h3, hm⟩ := hm
    replace hm := bb_inv hm; obtain ⟨h4, hm⟩ := hm
    replace hm := oo_inv hm; obtain ⟨v0, h5, hm⟩ := hm
    replace hm := inv_vTup hm; obtain ⟨l0, rfl, hm⟩ := hm
    replace hm := ll_uncons hm; obtain ⟨v1, l38085_0, rfl, hm⟩ := hm
    replace hm := ll_uncons hm; obtain ⟨v2, l38085_1, rfl, hm⟩ := hm
    replace hm := ll_end hm; obtain ⟨rfl, hm⟩ := hm
    replace hm := bb_inv hm; obtain ⟨h6, hm⟩ := hm
    obtain rfl := isNoV_ok h6
    replace hm := inv_vAgg hm; obtain ⟨q2, rfl, hm⟩ := hm
    replace hm := bb_inv hm; obtain ⟨h7, hm⟩ := hm
    refine .reg (eC 4 (objG tabs [[none], [none], [none], [none]] 4 [.tmp 0 false] [false] (pu 10820) [(sc 0 0 1 n1 c1), (zI z3), (zI z4), (.func (.func 53) ⟨[]⟩ ⟨[]⟩)] (hp 1 [(oC q1)])) (objG_eq (as := [(sc 0 0 1 n1 c1), (zI z3), (zI z4), (.func (.func 53) ⟨[]⟩ ⟨[]⟩)]) (H1 := (hp 1 [(oC q1)])) (gvAL_c (gvA_1 gv_n) (gvAL_c (gvA_1 gv_n) (gvAL_c (gvA_1 gv_n) (gvAL_c (gvA_1 gv_n) gvAL_n)))) (objF_eq (H2 := (hp 1 [(oC q2)])) (v := (.tuple ⟨[]⟩)) (v' := (.tuple ⟨[]⟩)) [some 0] [(false, some 0)] [(oC q1)] [(sc 0 0 1 n1 c1), (zI z3), (zI z4), (.func (.func 53) ⟨[]⟩ ⟨[]⟩)] [(.agg ⟨q2⟩)] [(oC q2)] [some 0] [(false, (oC q2))] [(oC q2)] (trE (by kernel_rfl) (rootL h3 rfl)) (mapO_c (nO_list (anc := []) h4) mapO_n) (Eq.trans (by kernel_rfl) h5) (mapO_c rfl mapO_n) (mapO_c (bO_list h7) mapO_n))) (eE)) ?_
    replace hm := bb_inv hm; obtain ⟨h8, hm⟩ := hm
    refine .ghs (fr 148 []) (hp 1 [(oC q2)]) (.k [0] [false] [] [] ⟨trE (by kernel_rfl) h8, trivial⟩) ?_
    refine .ghs (fr 148 []) (hp 1 [(oC q2)]) (.k [0] [false] [] [] ⟨trE (by kernel_rfl) h8, trivial⟩) ?_
    refine .ret ?_
    exact finO_ret (.tuple ⟨[]⟩) [(oC q2)] (by kernel_rfl) hm (Nat.le_of_ble_eq_true rfl) (ooAt_cons (pO_c _) ooAt_nil)
  · refine .ifF (nt (ilt (12 : Int) (wrapF .i64 (Int.sub z4 z3)))) (by kernel_rfl) h2 ?_
    refine .skip ?_
    refine .ghs (fr 148 [(0, (sc 0 0 1 n1 c1)), (1, (zI z3)), (2, (zI z4)), (3, (zI z5)), (4, (.func (.func 53) ⟨[]⟩ ⟨[]⟩)), (10, (zB b0)), (11, (zB b1)), (12, (zI (wrapF .i64 (Int.sub z4 z3))))]) (hp 1 [(oC q1)]) (.k [0] [false] [] [0, 1, 2, 3, 4, 10, 11, 12] ⟨trE (by kernel_rfl) h1, trivial⟩) ?_
    refine .then ?_
    refine .then ?_
    refine .rK ?_
    refine .ghs (fr 148 [(0, (sc 0 0 1 n1 c1)), (1, (zI z3)), (2, (zI z4)), (3, (zI z5)), (4, (.func (.func 53) ⟨[]⟩ ⟨[]⟩)), (10, (zB b0)), (11, (zB b1)), (12, (zI (wrapF .i64 (Int.sub z4 z3)))), (32, (zB (ieq z5 (0 : Int))))]) (hp 1 [(oC q1)]) (.k [0] [false] [] [0, 1, 2, 3, 4, 10, 11, 12, 32] ⟨trE (by kernel_rfl) h1, trivial⟩) ?_
    replace hm := bb_cases hm; rcases hm with ⟨h9, hm⟩ | ⟨h9, hm⟩
    · refine .ifT (ieq z5 (0 : Int)) (by kernel_rfl) h9 ?_
      refine .then ?_
      cases hm
    · refine .ifF (ieq z5 (0 : Int)) (by kernel_rfl) h9 ?_
      refine .skip ?_
      refine .ghs (fr 148 [(0, (sc 0 0 1 n1 c1)), (1, (zI z3)), (2, (zI z4)), (3, (zI z5)), (4, (.func (.func 53) ⟨[]⟩ ⟨[]⟩)), (10, (zB b0)), (11, (zB b1)), (12, (zI (wrapF .i64 (Int.sub z4 z3))))]) (hp 1 [(oC q1)]) (.k [0] [false] [] [0, 1, 2, 3, 4, 10, 11, 12] ⟨trE (by kernel_rfl) h1, trivial⟩) ?_
      refine .join (v := v) (fun y : Nat × Nat × Int × Int × Int × Bool × Bool × Int × List Value => ((fr 148 [(0, (sc 0 0 1 y.1 y.2.1)), (1, (zI y.2.2.1)), (2, (zI y.2.2.2.1)), (3, (zI y.2.2.2.2.1)), (4, (.func (.func 53) ⟨[]⟩ ⟨[]⟩)), (10, (zB y.2.2.2.2.2.1)), (11, (zB y.2.2.2.2.2.2.1)), (12, (zI y.2.2.2.2.2.2.2.1))]), (hp 1 [(oC y.2.2.2.2.2.2.2.2)]))) (fun y => m10680_1 pu n (l10680_0 pu n w0) y.1 y.2.1 y.2.2.1 y.2.2.2.1 y.2.2.2.2.1 y.2.2.2.2.2.1 y.2.2.2.2.2.2.1 y.2.2.2.2.2.2.2.1 y.2.2.2.2.2.2.2.2) ?_ ?_
      · rintro ⟨n2, c2, z6, z7, z8, b2, b4, z9, q3⟩ hm
        unfold m10680_1 at hm
        refine .then ?_
        cases hm
      · refine .then ?_
        refine .rK ?_
        refine .ghs (fr 148 [(0, (sc 0 0 1 n1 c1)), (1, (zI z3)), (2, (zI z4)), (3, (zI z5)), (4, (.func (.func 53) ⟨[]⟩ ⟨[]⟩)), (10, (zB b0)), (11, (zB b1)), (12, (zI (wrapF .i64 (Int.sub z4 z3)))), (39, (zB (nt b0)))]) (hp 1 [(oC q1)]) (.k [0] [false] [] [0, 1, 2, 3, 4, 10, 11, 12, 39] ⟨trE (by kernel_rfl) h1, trivial⟩) ?_
        replace hm := bb_cases hm; rcases hm with ⟨h10, hm⟩ | ⟨h10, hm⟩
        · refine .ifT (nt b0) (by kernel_rfl) h10 ?_
          refine .then ?_
          cases hm
        · refine .ifF (nt b0) (by kernel_rfl) h10 ?_
          refine .skip ?_
          exact ⟨(n1, c1, z3, z4, z5, b0, b1, (wrapF .i64 (Int.sub z4 z3)), q1), hm, (.k [0] [false] [] [0, 1, 2, 3, 4, 10, 11, 12] ⟨trE (by kernel_rfl) h1, trivial⟩)⟩
theorem r10680 {call : CallF} (pu : PureF) (n : Nat) (hcall : call = callP tabs isP pu (inl pu)) {args : List Value} {os : List AObj} {z : Value} (ha : args.length = 5) (hk : os.length = 1) (hpl : ∀ o ∈ os, plainO o) (hm : m10680 pu n (args ++ os.map encO) = some z) : args.length ≤ 148 ∧ Run tt call (tabs.length + 1) c68_74 (Fr.made 148 args) (subHeap tabs os) (FinO tt tabs.length 1 [] z) := by
  subst hcall
  have hq := len_cons ha; clear ha; obtain ⟨a0, args, rfl, ha⟩ := hq
  have hq := len_cons ha; clear ha; obtain ⟨a1, args, rfl, ha⟩ := hq
  have hq := len_cons ha; clear ha; obtain ⟨a2, args, rfl, ha⟩ := hq
  have hq := len_cons ha; clear ha; obtain ⟨a3, args, rfl, ha⟩ := hq
  have hq := len_cons ha; clear ha; obtain ⟨a4, args, rfl, ha⟩ := hq
  obtain rfl := len_nil ha
  have hq := len_cons hk; clear hk; obtain ⟨b0, os, rfl, hk⟩ := hq
  have hp0 : plainO b0 := hpl b0 (by simp)
  obtain rfl := len_nil hk
  replace hm : m10680 pu n [a0, a1, a2, a3, a4, encO b0] = some z := hm
  unfold m10680 at hm
  replace hm : (oo (toSc 0 0 1 a0) none fun y0 => (oo (toI .i64 a1) none fun x0 => (oo (toI .i64 a2) none fun x1 => (oo (toI .i64 a3) none fun x2 => (oo (toFn 53 0 a4) none fun l0 => (ll l0 (oo (vAgg (encO b0)) none fun q0 => (m10680_ pu n (NC.n y0) (NC.c y0) x0 x1 x2 q0)) fun _ _ => none)))))) = some z := hm
  replace hm := oo_inv hm; obtain ⟨y0, h0, hm⟩ := hm
  obtain rfl := toSc_some h0
  replace hm := inv_toI hm; obtain ⟨x0, rfl, hm⟩ := hm
  replace hm := inv_toI hm; obtain ⟨x1, rfl, hm⟩ := hm
  replace hm := inv_toI hm; obtain ⟨x2, rfl, hm⟩ := hm
  replace hm := oo_inv hm; obtain ⟨l0, h1, hm⟩ := hm
  obtain rfl := toFn_some h1
  replace hm := ll_end hm; obtain ⟨rfl, hm⟩ := hm
  replace hm := oo_inv hm; obtain ⟨q0, h2, hm⟩ := hm
  obtain rfl := vAgg_enc hp0 h2
  refine ⟨by simp, ?_⟩
  exact .same (F' := (fr 148 [(0, (sc 0 0 1 (NC.n y0) (NC.c y0))), (1, (zI x0)), (2, (zI x1)), (3, (zI x2)), (4, (.func (.func 53) ⟨[]⟩ ⟨[]⟩))])) (H' := (hp 1 [(oC q0)])) (by kernel_rfl) (by kernel_rfl) (q10680 pu n (NC.n y0) (NC.c y0) x0 x1 x2 q0 hm)
def m10820_1 (pu : PureF) (n : Nat) (ih0 : Nat → Nat → Int → Int → Int → List Value → Option Value) (n0 : Nat) (c0 : Nat) (z0 : Int) (z1 : Int) (z2 : Int) (q0 : List Value) : Option Value :=
  (bb (allL closed1 q0) (ih0 n0 c0 z0 z1 (wrapF .i64 (Int.add z2 (1 : Int))) q0) none)
def m10820_3 (pu : PureF) (n : Nat) (ih0 : Nat → Nat → Int → Int → Int → List Value → Option Value) (ih1 : Nat → Nat → Int → Int → Int → Int → List Value → Option Value) (n0 : Nat) (c0 : Nat) (z0 : Int) (z1 : Int) (z2 : Int) (z3 : Int) (b0 : Bool) (q0 : List Value) : Option Value :=
  (bb b0 (bb (allL closed1 q0) (oo (toN (wrapF .i64 (Int.sub z3 (1 : Int)))) none fun k1 => (oo (toN (wrapF .i64 (Int.sub z3 (1 : Int)))) none fun k2 => (bb (an (Nat.blt k2 n0) true) (oo (nthL q0 (0 + k2 * 1)) none fun v0 => (oo (toSl 1 v0) none fun s0 => (oo (toN z3) none fun k3 => (bb (an (Nat.blt k3 n0) true) (oo (nthL q0 (0 + k3 * 1)) none fun v1 => (oo (toSl 1 v1) none fun s1 => (bb (an (Nat.blt k3 n0) true) (bb (an (Nat.ble ((0 + k3 * 1) + 1) (len q0)) true) (bb (an (Nat.blt k1 n0) true) (bb (an (Nat.ble ((0 + k1 * 1) + 1) (len (setL ([(Sl.v 1 s0)] : List Value) (0 + k3 * 1) q0))) true) (bb (allL closed1 (setL ([(Sl.v 1 s1)] : List Value) (0 + k1 * 1) (setL ([(Sl.v 1 s0)] : List Value) (0 + k3 * 1) q0))) (ih1 n0 c0 z0 z1 z2 (wrapF .i64 (Int.sub (Int.ofNat k3) (1 : Int))) (setL ([(Sl.v 1 s1)] : List Value) (0 + k1 * 1) (setL ([(Sl.v 1 s0)] : List Value) (0 + k3 * 1) q0))) none) none) none) none) none))) none)))) none))) none) (bb (allL closed1 q0) (m10820_1 pu n ih0 n0 c0 z0 z1 z2 q0) none))
def b10820_2 (pu : PureF) (n : Nat) (ih0 : Nat → Nat → Int → Int → Int → List Value → Option Value) (ih1 : Nat → Nat → Int → Int → Int → Int → List Value → Option Value) (n0 : Nat) (c0 : Nat) (z0 : Int) (z1 : Int) (z2 : Int) (z3 : Int) (q0 : List Value) : Option Value :=
  (bb (ilt z0 z3) (oo (toN z3) none fun k1 => (bb (an (Nat.blt k1 n0) true) (oo (nthL q0 (0 + k1 * 1)) none fun v0 => (oo (toSl 1 v0) none fun s0 => (oo (toN (wrapF .i64 (Int.sub (Int.ofNat k1) (1 : Int)))) none fun k2 => (bb (an (Nat.blt k2 n0) true) (oo (nthL q0 (0 + k2 * 1)) none fun v1 => (oo (toSl 1 v1) none fun s1 => (oo (pu 53 [(Sl.v 1 s0), (Sl.v 1 s1)]) none fun v2 => (oo (toI .i64 v2) none fun x0 => (bb (allL closed1 q0) (m10820_3 pu n ih0 ih1 n0 c0 z0 z1 z2 (Int.ofNat k1) (ilt x0 (0 : Int)) q0) none))))) none)))) none)) (bb (allL closed1 q0) (m10820_3 pu n ih0 ih1 n0 c0 z0 z1 z2 z3 false q0) none))
def l10820_2 (pu : PureF) (n : Nat) (ih0 : Nat → Nat → Int → Int → Int → List Value → Option Value) (w : Nat) : Nat → Nat → Int → Int → Int → Int → List Value → Option Value :=
  Nat.rec (motive := fun _ => Nat → Nat → Int → Int → Int → Int → List Value → Option Value) (fun _ _ _ _ _ _ _ => none) (fun _ ih1 => b10820_2 pu n ih0 ih1) w
def b10820_0 (pu : PureF) (n : Nat) (ih0 : Nat → Nat → Int → Int → Int → List Value → Option Value) (n0 : Nat) (c0 : Nat) (z0 : Int) (z1 : Int) (z2 : Int) (q0 : List Value) : Option Value :=
  (bb (allL closed1 q0) (bb (ilt z2 z1) (l10820_2 pu n ih0 n n0 c0 z0 z1 z2 z2 q0) (some (.tuple ⟨[(.tuple ⟨[]⟩), (.agg ⟨q0⟩)]⟩))) none)
def l10820_0 (pu : PureF) (n : Nat) (w : Nat) : Nat → Nat → Int → Int → Int → List Value → Option Value :=
  Nat.rec (motive := fun _ => Nat → Nat → Int → Int → Int → List Value → Option Value) (fun _ _ _ _ _ _ => none) (fun _ ih0 => b10820_0 pu n ih0) w
def m10820_ (pu : PureF) (n : Nat) (n0 : Nat) (c0 : Nat) (z0 : Int) (z1 : Int) (q0 : List Value) : Option Value :=
  (bb (allL closed1 q0) (l10820_0 pu n n n0 c0 z0 z1 (wrapF .i64 (Int.add z0 (1 : Int))) q0) none)
def m10820 (pu : PureF) (n : Nat) (args : List Value) : Option Value :=
  (ll args none fun a0 args => (ll args none fun a1 args => (ll args none fun a2 args => (ll args none fun a3 args => (ll args none fun o0 args => (ll args (oo (toSc 0 0 1 a0) none fun y0 => (oo (toI .i64 a1) none fun x0 => (oo (toI .i64 a2) none fun x1 => (oo (toFn 53 0 a3) none fun l0 => (ll l0 (oo (vAgg o0) none fun q0 => (m10820_ pu n (NC.n y0) (NC.c y0) x0 x1 q0)) fun _ _ => none))))) fun _ _ => none))))))
theorem q10820 (pu : PureF) (n : Nat) (n0 : Nat) (c0 : Nat) (z0 : Int) (z1 : Int) (q0 : List Value) {v : Value} (hm : m10820_ pu n n0 c0 z0 z1 q0 = some v) : Run tt (callP tabs isP pu (inl pu)) 1 c82_22 (fr 53 [(0, (sc 0 0 1 n0 c0)), (1, (zI z0)), (2, (zI z1)), (3, (.func (.func 53) ⟨[]⟩ ⟨[]⟩))]) (hp 1 [(oC q0)]) (FinO tt 0 1 [] v) := by
  unfold m10820_ at hm
  refine .then ?_
  refine .rK ?_
  replace hm := bb_inv hm; obtain ⟨h0, hm⟩ := hm
  refine .ghs (fr 53 [(0, (sc 0 0 1 n0 c0)), (1, (zI z0)), (2, (zI z1)), (3, (.func (.func 53) ⟨[]⟩ ⟨[]⟩)), (8, (zI (wrapF .i64 (Int.add z0 (1 : Int)))))]) (hp 1 [(oC q0)]) (.k [0] [false] [] [0, 1, 2, 3, 8] ⟨trE (by kernel_rfl) h0, trivial⟩) ?_
  refine .block ?_
  refine .loopM (v := v) (fun y : Nat × Nat × Int × Int × Int × List Value => ((fr 53 [(0, (sc 0 0 1 y.1 y.2.1)), (1, (zI y.2.2.1)), (2, (zI y.2.2.2.1)), (3, (.func (.func 53) ⟨[]⟩ ⟨[]⟩)), (8, (zI y.2.2.2.2.1))]), (hp 1 [(oC y.2.2.2.2.2)]))) (fun w y => l10820_0 pu n w y.1 y.2.1 y.2.2.1 y.2.2.2.1 y.2.2.2.2.1 y.2.2.2.2.2) n ⟨(n0, c0, z0, z1, (wrapF .i64 (Int.add z0 (1 : Int))), q0), hm, (.k [0] [false] [] [0, 1, 2, 3, 8] ⟨trE (by kernel_rfl) h0, trivial⟩)⟩ (fun _ => rfl) ?_
  rintro w0 ⟨n1, c1, z2, z3, z4, q1⟩ hm
  replace hm : b10820_0 pu n (l10820_0 pu n w0) n1 c1 z2 z3 z4 q1 = some v := hm
  unfold b10820_0 at hm
  refine .then ?_
  refine .then ?_
  refine .rK ?_
  replace hm := bb_inv hm; obtain ⟨h1, hm⟩ := hm
  refine .ghs (fr 53 [(0, (sc 0 0 1 n1 c1)), (1, (zI z2)), (2, (zI z3)), (3, (.func (.func 53) ⟨[]⟩ ⟨[]⟩)), (8, (zI z4)), (14, (zB (ilt z4 z3)))]) (hp 1 [(oC q1)]) (.k [0] [false] [] [0, 1, 2, 3, 8, 14] ⟨trE (by kernel_rfl) h1, trivial⟩) ?_
  replace hm := bb_cases hm; rcases hm with ⟨h2, hm⟩ | ⟨h2, hm⟩
  · refine .ifT (ilt z4 z3) (by kernel_rfl) h2 ?_
    refine .skip ?_
    refine .ghs (fr 53 [(0, (sc 0 0 1 n1 c1)), (1, (zI z2)), (2, (zI z3)), (3, (.func (.func 53) ⟨[]⟩ ⟨[]⟩)), (8, (zI z4))]) (hp 1 [(oC q1)]) (.k [0] [false] [] [0, 1, 2, 3, 8] ⟨trE (by kernel_rfl) h1, trivial⟩) ?_
    refine .join (v := v) (fun y : Nat × Nat × Int × Int × Int × List Value => ((fr 53 [(0, (sc 0 0 1 y.1 y.2.1)), (1, (zI y.2.2.1)), (2, (zI y.2.2.2.1)), (3, (.func (.func 53) ⟨[]⟩ ⟨[]⟩)), (8, (zI y.2.2.2.2.1))]), (hp 1 [(oC y.2.2.2.2.2)]))) (fun y => m10820_1 pu n (l10820_0 pu n w0) y.1 y.2.1 y.2.2.1 y.2.2.2.1 y.2.2.2.2.1 y.2.2.2.2.2) ?_ ?_
    · rintro ⟨n2, c2, z5, z6, z7, q2⟩ hm
      unfold m10820_1 at hm
      refine .rK ?_
      replace hm := bb_inv hm; obtain ⟨h3, hm⟩ := hm
      exact ⟨(n2, c2, z5, z6, (wrapF .i64 (Int.add z7 (1 : Int))), q2), hm, (.k [0] [false] [] [0, 1, 2, 3, 8] ⟨trE (by kernel_rfl) h3, trivial⟩)⟩
    · refine .block ?_
      refine .then ?_
      refine .rK ?_
      refine .ghs (fr 53 [(0, (sc 0 0 1 n1 c1)), (1, (zI z2)), (2, (zI z3)), (3, (.func (.func 53) ⟨[]⟩ ⟨[]⟩)), (8, (zI z4)), (9, (zI z4))]) (hp 1 [(oC q1)]) (.k [0] [false] [] [0, 1, 2, 3, 8, 9] ⟨trE (by kernel_rfl) h1, trivial⟩) ?_
      refine .block ?_
      refine .loopM (v := v) (fun y : Nat × Nat × Int × Int × Int × Int × List Value => ((fr 53 [(0, (sc 0 0 1 y.1 y.2.1)), (1, (zI y.2.2.1)), (2, (zI y.2.2.2.1)), (3, (.func (.func 53) ⟨[]⟩ ⟨[]⟩)), (8, (zI y.2.2.2.2.1)), (9, (zI y.2.2.2.2.2.1))]), (hp 1 [(oC y.2.2.2.2.2.2)]))) (fun w y => l10820_2 pu n (l10820_0 pu n w0) w y.1 y.2.1 y.2.2.1 y.2.2.2.1 y.2.2.2.2.1 y.2.2.2.2.2.1 y.2.2.2.2.2.2) n ⟨(n1, c1, z2, z3, z4, z4, q1), hm, (.k [0] [false] [] [0, 1, 2, 3, 8, 9] ⟨trE (by kernel_rfl) h1, trivial⟩)⟩ (fun _ => rfl) ?_
      rintro w1 ⟨n3, c4, z8, z9, z10, z11, q3⟩ hm
      replace hm : b10820_2 pu n (l10820_0 pu n w0) (l10820_2 pu n (l10820_0 pu n w0) w1) n3 c4 z8 z9 z10 z11 q3 = some v := hm
      unfold b10820_2 at hm
      refine .then ?_
      refine .join (v := v) (fun y : Nat × Nat × Int × Int × Int × Int × Bool × List Value => ((fr 53 [(0, (sc 0 0 1 y.1 y.2.1)), (1, (zI y.2.2.1)), (2, (zI y.2.2.2.1)), (3, (.func (.func 53) ⟨[]⟩ ⟨[]⟩)), (8, (zI y.2.2.2.2.1)), (9, (zI y.2.2.2.2.2.1)), (34, (zB y.2.2.2.2.2.2.1))]), (hp 1 [(oC y.2.2.2.2.2.2.2)]))) (fun y => m10820_3 pu n (l10820_0 pu n w0) (l10820_2 pu n (l10820_0 pu n w0) w1) y.1 y.2.1 y.2.2.1 y.2.2.2.1 y.2.2.2.2.1 y.2.2.2.2.2.1 y.2.2.2.2.2.2.1 y.2.2.2.2.2.2.2) ?_ ?_
      · rintro ⟨n4, c11, z12, z13, z14, z15, b0, q4⟩ hm
        unfold m10820_3 at hm
        replace hm := bb_cases hm; rcases hm with ⟨h4, hm⟩ | ⟨h4, hm⟩
        · refine .ifT b0 (by kernel_rfl) h4 ?_
          refine .skip ?_
          replace hm := bb_inv hm; obtain ⟨h5, hm⟩ := hm
          refine .ghs (fr 53 [(0, (sc 0 0 1 n4 c11)), (1, (zI z12)), (2, (zI z13)), (3, (.func (.func 53) ⟨[]⟩ ⟨[]⟩)), (8, (zI z14)), (9, (zI z15))]) (hp 1 [(oC q4)]) (.k [0] [false] [] [0, 1, 2, 3, 8, 9] ⟨trE (by kernel_rfl) h5, trivial⟩) ?_
          refine .then ?_
          refine .block ?_
          replace hm := oo_inv hm; obtain ⟨k1, h6, hm⟩ := hm
          replace hm := oo_inv hm; obtain ⟨k2, h7, hm⟩ := hm
          replace hm := bb_inv hm; obtain ⟨h8, hm⟩ := hm
          replace hm := oo_inv hm; obtain ⟨v0, h9, hm⟩ := hm
          replace hm := inv_toSl hm; obtain ⟨s0, rfl, hm⟩ := hm
          replace hm := oo_inv hm; obtain ⟨k3, h10, hm⟩ := hm
          obtain rfl := toN_some h10
          replace hm := bb_inv hm; obtain ⟨h11, hm⟩ := hm
          replace hm := oo_inv hm; obtain ⟨v1, h12, hm⟩ := hm
          replace hm := inv_toSl hm; obtain ⟨s1, rfl, hm⟩ := hm
          replace hm := bb_inv hm; obtain ⟨h13, hm⟩ := hm
          replace hm := bb_inv hm; obtain ⟨h14, hm⟩ := hm
          replace hm := bb_inv hm; obtain ⟨h15, hm⟩ := hm
          replace hm := bb_inv hm; obtain ⟨h16, hm⟩ := hm
          refine .reg (eN 9 (Fr.puts (fr 53 [(0, (sc 0 0 1 n4 c11)), (1, (zI z12)), (2, (zI z13)), (3, (.func (.func 53) ⟨[]⟩ ⟨[]⟩)), (8, (zI z14)), (9, (zI (Int.ofNat k3)))]) [(37, (sc 0 0 1 n4 c11)), (38, (zI (Int.ofNat k3))), (39, (sc 0 0 1 n4 c11)), (40, (zI (Int.ofNat k3))), (41, (zI (Int.ofNat k1))), (42, (sc 0 0 1 n4 c11)), (43, (zI (Int.ofNat k3))), (44, (zI (Int.ofNat k2))), (45, (.pointer (some ⟨0, (0 + k2 * 1), none⟩)))]) (hp 1 [(oC q4)]) (eC 4 (some ((zI (wrapF .i64 (Int.sub (Int.ofNat k3) (1 : Int)))), (hp 1 [(oC q4)]))) (show _ = some ((zI (Int.ofNat k1)), _) from (by rw [toN_some h6])) (eC 2 (some ((zI (wrapF .i64 (Int.sub (Int.ofNat k3) (1 : Int)))), (hp 1 [(oC q4)]))) (show _ = some ((zI (Int.ofNat k2)), _) from (by rw [toN_some h7])) (eD (keep (hp 1 [(oC q4)]) (bb (an (Nat.blt k2 n4) true) (some (.pointer (some ⟨0, (0 + k2 * 1), none⟩))) none)) (keep_bb h8) (by kernel_rfl)))) (eN 5 (Fr.puts (fr 53 [(0, (sc 0 0 1 n4 c11)), (1, (zI z12)), (2, (zI z13)), (3, (.func (.func 53) ⟨[]⟩ ⟨[]⟩)), (8, (zI z14)), (9, (zI (Int.ofNat k3)))]) [(37, (sc 0 0 1 n4 c11)), (38, (zI (Int.ofNat k3))), (39, (sc 0 0 1 n4 c11)), (40, (zI (Int.ofNat k3))), (41, (zI (Int.ofNat k1))), (42, (sc 0 0 1 n4 c11)), (43, (zI (Int.ofNat k3))), (44, (zI (Int.ofNat k2))), (45, (.pointer (some ⟨0, (0 + k2 * 1), none⟩))), (46, (Sl.v 1 s0)), (47, (sc 0 0 1 n4 c11)), (48, (zI (Int.ofNat k3))), (49, (.pointer (some ⟨0, (0 + k3 * 1), none⟩))), (50, (Sl.v 1 s1))]) (hp 1 [(oC q4)]) (eD (keep (hp 1 [(oC q4)]) (nthL q4 (0 + k2 * 1))) (keep_eq h9) (eC 2 (keep (hp 1 [(oC q4)]) (bb (an (Nat.blt k3 n4) true) (some (.pointer (some ⟨0, (0 + k3 * 1), none⟩))) none)) (keep_bb h11) (eD (keep (hp 1 [(oC q4)]) (nthL q4 (0 + k3 * 1))) (keep_eq h12) (by kernel_rfl)))) (eD (keep (hp 1 [(oC q4)]) (bb (an (Nat.blt k3 n4) true) (some (.pointer (some ⟨0, (0 + k3 * 1), none⟩))) none)) (keep_bb h13) (eD (done (bb (an (Nat.ble ((0 + k3 * 1) + 1) (len q4)) true) (some (hp 1 [(oC (setL ([(Sl.v 1 s0)] : List Value) (0 + k3 * 1) q4))])) none) undef) (done_bb h14) (eD (keep (hp 1 [(oC (setL ([(Sl.v 1 s0)] : List Value) (0 + k3 * 1) q4))]) (bb (an (Nat.blt k1 n4) true) (some (.pointer (some ⟨0, (0 + k1 * 1), none⟩))) none)) (keep_bb h15) (eD (done (bb (an (Nat.ble ((0 + k1 * 1) + 1) (len (setL ([(Sl.v 1 s0)] : List Value) (0 + k3 * 1) q4))) true) (some (hp 1 [(oC (setL ([(Sl.v 1 s1)] : List Value) (0 + k1 * 1) (setL ([(Sl.v 1 s0)] : List Value) (0 + k3 * 1) q4)))])) none) undef) (done_bb h16) (eE))))))) ?_
          replace hm := bb_inv hm; obtain ⟨h17, hm⟩ := hm
          refine .ghs (fr 53 [(0, (sc 0 0 1 n4 c11)), (1, (zI z12)), (2, (zI z13)), (3, (.func (.func 53) ⟨[]⟩ ⟨[]⟩)), (8, (zI z14)), (9, (zI (Int.ofNat k3)))]) (hp 1 [(oC (setL ([(Sl.v 1 s1)] : List Value) (0 + k1 * 1) (setL ([(Sl.v 1 s0)] : List Value) (0 + k3 * 1) q4)))]) (.k [0] [false] [] [0, 1, 2, 3, 8, 9] ⟨trE (by kernel_rfl) h17, trivial⟩) ?_
          refine .rK ?_
          exact ⟨(n4, c11, z12, z13, z14, (wrapF .i64 (Int.sub (Int.ofNat k3) (1 : Int))), (setL ([(Sl.v 1 s1)] : List Value) (0 + k1 * 1) (setL ([(Sl.v 1 s0)] : List Value) (0 + k3 * 1) q4))), hm, (.k [0] [false] [] [0, 1, 2, 3, 8, 9] ⟨trE (by kernel_rfl) h17, trivial⟩)⟩
        · refine .ifF b0 (by kernel_rfl) h4 ?_
          refine .exit ?_
          replace hm := bb_inv hm; obtain ⟨h18, hm⟩ := hm
          exact ⟨(n4, c11, z12, z13, z14, q4), hm, (.k [0] [false] [] [0, 1, 2, 3, 8] ⟨trE (by kernel_rfl) h18, trivial⟩)⟩
      · replace hm := bb_cases hm; rcases hm with ⟨h19, hm⟩ | ⟨h19, hm⟩
        · replace hm := oo_inv hm; obtain ⟨k4, h20, hm⟩ := hm
          obtain rfl := toN_some h20
          replace hm := bb_inv hm; obtain ⟨h21, hm⟩ := hm
          replace hm := oo_inv hm; obtain ⟨v2, h22, hm⟩ := hm
          replace hm := inv_toSl hm; obtain ⟨s2, rfl, hm⟩ := hm
          replace hm := oo_inv hm; obtain ⟨k5, h23, hm⟩ := hm
          replace hm := bb_inv hm; obtain ⟨h24, hm⟩ := hm
          replace hm := oo_inv hm; obtain ⟨v3, h25, hm⟩ := hm
          replace hm := inv_toSl hm; obtain ⟨s3, rfl, hm⟩ := hm
          replace hm := oo_inv hm; obtain ⟨v4, h26, hm⟩ := hm
          replace hm := inv_toI hm; obtain ⟨x0, rfl, hm⟩ := hm
          refine .reg (eN 9 (Fr.puts (fr 53 [(0, (sc 0 0 1 n3 c4)), (1, (zI z8)), (2, (zI z9)), (3, (.func (.func 53) ⟨[]⟩ ⟨[]⟩)), (8, (zI z10)), (9, (zI (Int.ofNat k4)))]) [(18, (zI (Int.ofNat k4))), (19, (zI z8)), (20, (zB true)), (21, (zB true)), (22, (.func (.func 53) ⟨[]⟩ ⟨[]⟩)), (23, (sc 0 0 1 n3 c4)), (24, (zI (Int.ofNat k4))), (25, (.pointer (some ⟨0, (0 + k4 * 1), none⟩))), (26, (Sl.v 1 s2))]) (hp 1 [(oC q3)]) (eC 2 (some ((zB (ilt z8 (Int.ofNat k4))), (hp 1 [(oC q3)]))) (show _ = some ((zB true), _) from (by rw [h19])) (eC 4 (keep (hp 1 [(oC q3)]) (bb (an (Nat.blt k4 n3) true) (some (.pointer (some ⟨0, (0 + k4 * 1), none⟩))) none)) (keep_bb h21) (eD (keep (hp 1 [(oC q3)]) (nthL q3 (0 + k4 * 1))) (keep_eq h22) (by kernel_rfl)))) (eC 2 (some ((zI (wrapF .i64 (Int.sub (Int.ofNat k4) (1 : Int)))), (hp 1 [(oC q3)]))) (show _ = some ((zI (Int.ofNat k5)), _) from (by rw [toN_some h23])) (eD (keep (hp 1 [(oC q3)]) (bb (an (Nat.blt k5 n3) true) (some (.pointer (some ⟨0, (0 + k5 * 1), none⟩))) none)) (keep_bb h24) (eD (keep (hp 1 [(oC q3)]) (nthL q3 (0 + k5 * 1))) (keep_eq h25) (eD ((oo (pu 53 [(Sl.v 1 s2), (Sl.v 1 s3)]) none fun v => some (v, (hp 1 [(oC q3)])))) (call_eq h26) (eE)))))) ?_
          replace hm := bb_inv hm; obtain ⟨h27, hm⟩ := hm
          exact ⟨(n3, c4, z8, z9, z10, (Int.ofNat k4), (ilt x0 (0 : Int)), q3), hm, (.k [0] [false] [] [0, 1, 2, 3, 8, 9, 34] ⟨trE (by kernel_rfl) h27, trivial⟩)⟩
        · refine .reg (eC 2 (some ((zB (ilt z8 z11)), (hp 1 [(oC q3)]))) (show _ = some ((zB false), _) from (by rw [h19])) (eE)) ?_
          replace hm := bb_inv hm; obtain ⟨h28, hm⟩ := hm
          exact ⟨(n3, c4, z8, z9, z10, z11, false, q3), hm, (.k [0] [false] [] [0, 1, 2, 3, 8, 9, 34] ⟨trE (by kernel_rfl) h28, trivial⟩)⟩
  · refine .ifF (ilt z4 z3) (by kernel_rfl) h2 ?_
    refine .exit ?_
    refine .ghs (fr 53 []) (hp 1 [(oC q1)]) (.k [0] [false] [] [] ⟨trE (by kernel_rfl) h1, trivial⟩) ?_
    exact finO_end (.tuple ⟨[]⟩) [(oC q1)] (by kernel_rfl) hm (Nat.le_of_ble_eq_true rfl) (ooAt_cons (pO_c _) ooAt_nil)
theorem r10820 {call : CallF} (pu : PureF) (n : Nat) (hcall : call = callP tabs isP pu (inl pu)) {args : List Value} {os : List AObj} {z : Value} (ha : args.length = 4) (hk : os.length = 1) (hpl : ∀ o ∈ os, plainO o) (hm : m10820 pu n (args ++ os.map encO) = some z) : args.length ≤ 53 ∧ Run tt call (tabs.length + 1) c82_22 (Fr.made 53 args) (subHeap tabs os) (FinO tt tabs.length 1 [] z) := by
  subst hcall
  have hq := len_cons ha; clear ha; obtain ⟨a0, args, rfl, ha⟩ := hq
  have hq := len_cons ha; clear ha; obtain ⟨a1, args, rfl, ha⟩ := hq
  have hq := len_cons ha; clear ha; obtain ⟨a2, args, rfl, ha⟩ := hq
  have hq := len_cons ha; clear ha; obtain ⟨a3, args, rfl, ha⟩ := hq
  obtain rfl := len_nil ha
  have hq := len_cons hk; clear hk; obtain ⟨b0, os, rfl, hk⟩ := hq
  have hp0 : plainO b0 := hpl b0 (by simp)
  obtain rfl := len_nil hk
  replace hm : m10820 pu n [a0, a1, a2, a3, encO b0] = some z := hm
  unfold m10820 at hm
  replace hm : (oo (toSc 0 0 1 a0) none fun y0 => (oo (toI .i64 a1) none fun x0 => (oo (toI .i64 a2) none fun x1 => (oo (toFn 53 0 a3) none fun l0 => (ll l0 (oo (vAgg (encO b0)) none fun q0 => (m10820_ pu n (NC.n y0) (NC.c y0) x0 x1 q0)) fun _ _ => none))))) = some z := hm
  replace hm := oo_inv hm; obtain ⟨y0, h0, hm⟩ := hm
  obtain rfl := toSc_some h0
  replace hm := inv_toI hm; obtain ⟨x0, rfl, hm⟩ := hm
  replace hm := inv_toI hm; obtain ⟨x1, rfl, hm⟩ := hm
  replace hm := oo_inv hm; obtain ⟨l0, h1, hm⟩ := hm
  obtain rfl := toFn_some h1
  replace hm := ll_end hm; obtain ⟨rfl, hm⟩ := hm
  replace hm := oo_inv hm; obtain ⟨q0, h2, hm⟩ := hm
  obtain rfl := vAgg_enc hp0 h2
  refine ⟨by simp, ?_⟩
  exact .same (F' := (fr 53 [(0, (sc 0 0 1 (NC.n y0) (NC.c y0))), (1, (zI x0)), (2, (zI x1)), (3, (.func (.func 53) ⟨[]⟩ ⟨[]⟩))])) (H' := (hp 1 [(oC q0)])) (by kernel_rfl) (by kernel_rfl) (q10820 pu n (NC.n y0) (NC.c y0) x0 x1 q0 hm)
end
end Go.HpBM
set_option maxRecDepth 100000
namespace Go.HpBM
open Go.Sp Go.HpB
noncomputable section
def L : Nat := 1000000
def disp (pu : PureF) : PureF := fun g args =>
  bb (Nat.beq g 3) (m3 pu L args) (bb (Nat.beq g 5) (m5 pu L args) (bb (Nat.beq g 7) (m7 pu L args) (bb (Nat.beq g 8) (m8 pu L args) (bb (Nat.beq g 9) (m9 pu L args) (bb (Nat.beq g 24) (m24 pu L args) (bb (Nat.beq g 26) (m26 pu L args) (bb (Nat.beq g 27) (m27 pu L args) (bb (Nat.beq g 28) (m28 pu L args) (bb (Nat.beq g 29) (m29 pu L args) (bb (Nat.beq g 30) (m30 pu L args) (bb (Nat.beq g 31) (m31 pu L args) (bb (Nat.beq g 32) (m32 pu L args) (bb (Nat.beq g 33) (m33 pu L args) (bb (Nat.beq g 34) (m34 pu L args) (bb (Nat.beq g 36) (m36 pu L args) (bb (Nat.beq g 40) (m40 pu L args) (bb (Nat.beq g 41) (m41 pu L args) (bb (Nat.beq g 42) (m42 pu L args) (bb (Nat.beq g 43) (m43 pu L args) (bb (Nat.beq g 44) (m44 pu L args) (bb (Nat.beq g 53) (m53 pu L args) (bb (Nat.beq g 57) (m57 pu L args) (bb (Nat.beq g 59) (m59 pu L args) (bb (Nat.beq g 65) (m65 pu L args) (bb (Nat.beq g 66) (m66 pu L args) (bb (Nat.beq g 79) (m79 pu L args) (bb (Nat.beq g 80) (m80 pu L args) (bb (Nat.beq g 81) (m81 pu L args) (bb (Nat.beq g 10580) (m10580 pu L args) (bb (Nat.beq g 10680) (m10680 pu L args) (bb (Nat.beq g 10820) (m10820 pu L args) (bb (Nat.beq g 6) (orc6 args) (bb (Nat.beq g 62) (orc62 args) (none))))))))))))))))))))))))))))))))))
def puN : Nat → PureF := fun n => Nat.rec (motive := fun _ => PureF) (fun _ _ => none) (fun _ ih => disp ih) n
end
end Go.HpBM
