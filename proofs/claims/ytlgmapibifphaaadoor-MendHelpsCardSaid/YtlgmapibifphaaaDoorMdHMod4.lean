/- Models of the program's functions, and the proofs that runs give them: MADE BY PROGRAM (wip/tools/dec.py). -/
import Derived.Test.YtlgmapibifphaaaDoorMdHMod0x

set_option maxRecDepth 100000
set_option maxHeartbeats 20000000
set_option linter.unusedVariables false
namespace Go.MdHM
open Go.Sp Go.MdH
noncomputable section
def m52_0 (pu : PureF) (n : Nat) (b0 : Bool) : Option Value :=
  (some (.bool b0))
def m52_ (pu : PureF) (n : Nat) (x0 : Int) (x1 : Int) (x2 : Int) : Option Value :=
  (bb (nt (ilt x1 x0)) (m52_0 pu n (nt (ilt x2 x1))) (m52_0 pu n false))
def m52 (pu : PureF) (n : Nat) (args : List Value) : Option Value :=
  (ll args none fun a0 args => (ll args none fun a1 args => (ll args none fun a2 args => (ll args (oo (toI .i64 a0) none fun x0 => (oo (toI .i64 a1) none fun x1 => (oo (toI .i64 a2) none fun x2 => (m52_ pu n x0 x1 x2)))) fun _ _ => none))))
theorem w52_0 (pu : PureF) (n : Nat) (b0 : Bool) {v : Value} (hm : m52_0 pu n b0 = some v) : Run tt (callP tabs isP pu (inl pu)) 1 .ret (fr 15 [(6, (zB b0))]) (hp 1 [(oT tab0)]) (Fin tt 1 [.tmp 6] v) := by
  unfold m52_0 at hm
  refine .ret ?_
  exact fin_ret (zB b0) (by kernel_rfl) (by kernel_rfl) hm
theorem r52 {call : CallF} (pu : PureF) (n : Nat) (hcall : call = callP tabs isP pu (inl pu)) {args : List Value} {v : Value} (hm : m52 pu n args = some v) (_ : ∀ x ∈ args, closed2 x = true) : args.length ≤ 15 ∧ Run tt call 1 c52_3 (Fr.made 15 args) (pureHeap tabs) (Fin tt 1 [.tmp 6] v) := by
  subst hcall
  unfold m52 at hm
  replace hm := ll_uncons hm; obtain ⟨a0, args_0, rfl, hm⟩ := hm
  replace hm := ll_uncons hm; obtain ⟨a1, args_1, rfl, hm⟩ := hm
  replace hm := ll_uncons hm; obtain ⟨a2, args_2, rfl, hm⟩ := hm
  replace hm := ll_end hm; obtain ⟨rfl, hm⟩ := hm
  replace hm := inv_toI hm; obtain ⟨x0, rfl, hm⟩ := hm
  replace hm := inv_toI hm; obtain ⟨x1, rfl, hm⟩ := hm
  replace hm := inv_toI hm; obtain ⟨x2, rfl, hm⟩ := hm
  unfold m52_ at hm
  refine ⟨by simp, ?_⟩
  refine .same (F' := (fr 15 [(0, (zI x0)), (1, (zI x1)), (2, (zI x2))])) (H' := (hp 1 [(oT tab0)])) (by kernel_rfl) (by kernel_rfl) ?_
  refine .then ?_
  refine .rK ?_
  refine .ghs (fr 15 [(0, (zI x0)), (1, (zI x1)), (2, (zI x2))]) (hp 1 [(oT tab0)]) (.k0 [false] [] [0, 1, 2]) ?_
  refine .join (v := v) (fun y : Bool => ((fr 15 [(6, (zB y))]), (hp 1 [(oT tab0)]))) (fun y => m52_0 pu n y) ?_ ?_
  · rintro b0 hm
    exact w52_0 pu n b0 hm
  · replace hm := bb_cases hm; rcases hm with ⟨h0, hm⟩ | ⟨h0, hm⟩
    · refine .reg (eC 2 (some ((zB (nt (ilt x1 x0))), (hp 1 [(oT tab0)]))) (show _ = some ((zB true), _) from (by rw [h0])) (eE)) ?_
      exact ⟨(nt (ilt x2 x1)), hm, (.k0 [false] [] [6])⟩
    · refine .reg (eC 2 (some ((zB (nt (ilt x1 x0))), (hp 1 [(oT tab0)]))) (show _ = some ((zB false), _) from (by rw [h0])) (eE)) ?_
      exact ⟨false, hm, (.k0 [false] [] [6])⟩

def m53_ (pu : PureF) (n : Nat) (x0 : Int) (x1 : Int) : Option Value :=
  (oo (toN x1) none fun k1 => (some (.bool (ieq (aand .u16 (shrI .u16 x0 k1) (1 : Int)) (1 : Int)))))
def m53 (pu : PureF) (n : Nat) (args : List Value) : Option Value :=
  (ll args none fun a0 args => (ll args none fun a1 args => (ll args (oo (toI .u16 a0) none fun x0 => (oo (toI .i64 a1) none fun x1 => (m53_ pu n x0 x1))) fun _ _ => none)))
theorem r53 {call : CallF} (pu : PureF) (n : Nat) (hcall : call = callP tabs isP pu (inl pu)) {args : List Value} {v : Value} (hm : m53 pu n args = some v) (_ : ∀ x ∈ args, closed2 x = true) : args.length ≤ 10 ∧ Run tt call 1 c53_3 (Fr.made 10 args) (pureHeap tabs) (Fin tt 1 [.tmp 4] v) := by
  subst hcall
  unfold m53 at hm
  replace hm := ll_uncons hm; obtain ⟨a0, args_0, rfl, hm⟩ := hm
  replace hm := ll_uncons hm; obtain ⟨a1, args_1, rfl, hm⟩ := hm
  replace hm := ll_end hm; obtain ⟨rfl, hm⟩ := hm
  replace hm := inv_toI hm; obtain ⟨x0, rfl, hm⟩ := hm
  replace hm := inv_toI hm; obtain ⟨x1, rfl, hm⟩ := hm
  unfold m53_ at hm
  refine ⟨by simp, ?_⟩
  refine .same (F' := (fr 10 [(0, (.int .u16 x0)), (1, (zI x1))])) (H' := (hp 1 [(oT tab0)])) (by kernel_rfl) (by kernel_rfl) ?_
  refine .then ?_
  refine .rK ?_
  refine .ghs (fr 10 [(0, (.int .u16 x0)), (1, (zI x1))]) (hp 1 [(oT tab0)]) (.k0 [false] [] [0, 1]) ?_
  refine .then ?_
  replace hm := oo_inv hm; obtain ⟨k1, h0, hm⟩ := hm
  obtain rfl := toN_some h0
  refine .rK ?_
  refine .ghs (fr 10 [(4, (zB (ieq (aand .u16 (shrI .u16 x0 k1) (1 : Int)) (1 : Int))))]) (hp 1 [(oT tab0)]) (.k0 [false] [] [4]) ?_
  refine .ret ?_
  exact fin_ret (zB (ieq (aand .u16 (shrI .u16 x0 k1) (1 : Int)) (1 : Int))) (by kernel_rfl) (by kernel_rfl) hm
def m54_0 (pu : PureF) (n : Nat) (b0 : Bool) : Option Value :=
  (some (.bool b0))
def m54_ (pu : PureF) (n : Nat) (x0 : Int) (x1 : Int) (x2 : Int) : Option Value :=
  (bb (nt (ilt x0 x1)) (m54_0 pu n (nt (ilt x2 x0))) (m54_0 pu n false))
def m54 (pu : PureF) (n : Nat) (args : List Value) : Option Value :=
  (ll args none fun a0 args => (ll args none fun a1 args => (ll args none fun a2 args => (ll args (oo (toI .i64 a0) none fun x0 => (oo (toI .i64 a1) none fun x1 => (oo (toI .i64 a2) none fun x2 => (m54_ pu n x0 x1 x2)))) fun _ _ => none))))
theorem w54_0 (pu : PureF) (n : Nat) (b0 : Bool) {v : Value} (hm : m54_0 pu n b0 = some v) : Run tt (callP tabs isP pu (inl pu)) 1 .ret (fr 15 [(6, (zB b0))]) (hp 1 [(oT tab0)]) (Fin tt 1 [.tmp 6] v) := by
  unfold m54_0 at hm
  refine .ret ?_
  exact fin_ret (zB b0) (by kernel_rfl) (by kernel_rfl) hm
theorem r54 {call : CallF} (pu : PureF) (n : Nat) (hcall : call = callP tabs isP pu (inl pu)) {args : List Value} {v : Value} (hm : m54 pu n args = some v) (_ : ∀ x ∈ args, closed2 x = true) : args.length ≤ 15 ∧ Run tt call 1 c54_3 (Fr.made 15 args) (pureHeap tabs) (Fin tt 1 [.tmp 6] v) := by
  subst hcall
  unfold m54 at hm
  replace hm := ll_uncons hm; obtain ⟨a0, args_0, rfl, hm⟩ := hm
  replace hm := ll_uncons hm; obtain ⟨a1, args_1, rfl, hm⟩ := hm
  replace hm := ll_uncons hm; obtain ⟨a2, args_2, rfl, hm⟩ := hm
  replace hm := ll_end hm; obtain ⟨rfl, hm⟩ := hm
  replace hm := inv_toI hm; obtain ⟨x0, rfl, hm⟩ := hm
  replace hm := inv_toI hm; obtain ⟨x1, rfl, hm⟩ := hm
  replace hm := inv_toI hm; obtain ⟨x2, rfl, hm⟩ := hm
  unfold m54_ at hm
  refine ⟨by simp, ?_⟩
  refine .same (F' := (fr 15 [(0, (zI x0)), (1, (zI x1)), (2, (zI x2))])) (H' := (hp 1 [(oT tab0)])) (by kernel_rfl) (by kernel_rfl) ?_
  refine .then ?_
  refine .rK ?_
  refine .ghs (fr 15 [(0, (zI x0)), (1, (zI x1)), (2, (zI x2))]) (hp 1 [(oT tab0)]) (.k0 [false] [] [0, 1, 2]) ?_
  refine .join (v := v) (fun y : Bool => ((fr 15 [(6, (zB y))]), (hp 1 [(oT tab0)]))) (fun y => m54_0 pu n y) ?_ ?_
  · rintro b0 hm
    exact w54_0 pu n b0 hm
  · replace hm := bb_cases hm; rcases hm with ⟨h0, hm⟩ | ⟨h0, hm⟩
    · refine .reg (eC 2 (some ((zB (nt (ilt x0 x1))), (hp 1 [(oT tab0)]))) (show _ = some ((zB true), _) from (by rw [h0])) (eE)) ?_
      exact ⟨(nt (ilt x2 x0)), hm, (.k0 [false] [] [6])⟩
    · refine .reg (eC 2 (some ((zB (nt (ilt x0 x1))), (hp 1 [(oT tab0)]))) (show _ = some ((zB false), _) from (by rw [h0])) (eE)) ?_
      exact ⟨false, hm, (.k0 [false] [] [6])⟩
def m56_0 (pu : PureF) (n : Nat) (n0 : Nat) (c0 : Nat) (q0 : List Value) : Option Value :=
  (bb (allL closed1 q0) (bb (an (Nat.ble (0 + n0 * 1) (len q0)) (allL closed1 (takeL (n0 * 1) (dropL 0 q0)))) (some (Sl.v 1 (Sl.mk n0 0 (takeL (n0 * 1) (dropL 0 q0))))) none) none)
def m56_2 (pu : PureF) (n : Nat) (ih0 : Nat → Nat → Int → Int → Sl → Sl → List Value → Option Value) (n0 : Nat) (c0 : Nat) (z0 : Int) (z1 : Int) (s0 : Sl) (s1 : Sl) (q0 : List Value) : Option Value :=
  (bb (allL closed1 q0) (ih0 n0 c0 (wrapF .i64 (Int.add z0 (1 : Int))) z1 s0 s1 q0) none)
def b56_1 (pu : PureF) (n : Nat) (ih0 : Nat → Nat → Int → Int → Sl → Sl → List Value → Option Value) (n0 : Nat) (c0 : Nat) (z0 : Int) (z1 : Int) (s0 : Sl) (s1 : Sl) (q0 : List Value) : Option Value :=
  (bb (allL closed1 q0) (bb (ilt z0 (Int.ofNat (Sl.n s0))) (oo (toN z0) none fun k1 => (bb (an (Nat.blt k1 (Sl.n s0)) true) (oo (nthL (Sl.cs s0) (k1 * 1)) none fun v0 => (oo (toI .i64 v0) none fun x0 => (bb (an (Nat.blt k1 (Sl.n s1)) true) (oo (nthL (Sl.cs s1) (k1 * 1)) none fun v1 => (oo (toI .i64 v1) none fun x1 => (bb (nt (ieq x0 x1)) (bb (growC 1 8 n0 c0 1 q0) (bb (allL closed1 (appL (dropL 0 q0) [(.int .i64 (Int.ofNat k1))])) (m56_2 pu n ih0 (n0 + 1) (2 * (n0 + 1) + bb false 1 0) (Int.ofNat k1) z1 s0 s1 (appL (dropL 0 q0) [(.int .i64 (Int.ofNat k1))])) none) none) (m56_2 pu n ih0 n0 c0 (Int.ofNat k1) z1 s0 s1 q0)))) none))) none)) (m56_0 pu n n0 c0 q0)) none)
def l56_1 (pu : PureF) (n : Nat) (w : Nat) : Nat → Nat → Int → Int → Sl → Sl → List Value → Option Value :=
  Nat.rec (motive := fun _ => Nat → Nat → Int → Int → Sl → Sl → List Value → Option Value) (fun _ _ _ _ _ _ _ => none) (fun _ ih0 => b56_1 pu n ih0) w
def m56_ (pu : PureF) (n : Nat) (x0 : Int) (s0 : Sl) (s1 : Sl) : Option Value :=
  (l56_1 pu n n 0 0 (0 : Int) x0 s0 s1 ([] : List Value))
def m56 (pu : PureF) (n : Nat) (args : List Value) : Option Value :=
  (ll args none fun a0 args => (ll args (oo (vAgg a0) none fun l0 => (ll l0 none fun v0 l0 => (ll l0 none fun v1 l0 => (ll l0 none fun v2 l0 => (ll l0 (oo (toI .i64 v0) none fun x0 => (oo (toSl 1 v1) none fun s0 => (oo (toSl 1 v2) none fun s1 => (m56_ pu n x0 s0 s1)))) fun _ _ => none))))) fun _ _ => none))
theorem w56_0 (pu : PureF) (n : Nat) (n0 : Nat) (c0 : Nat) (q0 : List Value) {v : Value} (hm : m56_0 pu n n0 c0 q0 = some v) : Run tt (callP tabs isP pu (inl pu)) 1 c56_18 (fr 28 [(3, (sc 1 0 1 n0 c0))]) (hp 2 [(oT tab0), (oC q0)]) (Fin tt 1 [.tmp 2] v) := by
  unfold m56_0 at hm
  refine .then ?_
  refine .rK ?_
  replace hm := bb_inv hm; obtain ⟨h0, hm⟩ := hm
  refine .ghs (fr 28 [(2, (sc 1 0 1 n0 c0))]) (hp 2 [(oT tab0), (oC q0)]) (.k [1] [false] [.tmp 2 false] [2] ⟨trE (by kernel_rfl) h0, trivial⟩) ?_
  replace hm := bb_inv hm; obtain ⟨h1, hm⟩ := hm
  refine .ghs (Fr.puts (fr 28 [(2, (sc 1 0 1 n0 c0))]) [(2, (Sl.v 1 (Sl.mk n0 0 (takeL (n0 * 1) (dropL 0 q0)))))]) (hp 2 [(oT tab0), .dead]) (.freezeC 1 2 1 (an (Nat.ble (0 + n0 * 1) (len q0)) (allL closed1 (takeL (n0 * 1) (dropL 0 q0)))) (F1 := (Fr.puts (fr 28 [(2, (sc 1 0 1 n0 c0))]) [(2, (Sl.v 1 (Sl.mk n0 0 (takeL (n0 * 1) (dropL 0 q0)))))])) (H1 := (hp 2 [(oT tab0), .dead])) (by kernel_rfl) (by kernel_rfl) h1 (GhS.id _ _)) ?_
  refine .ret ?_
  exact fin_ret (Sl.v 1 (Sl.mk n0 0 (takeL (n0 * 1) (dropL 0 q0)))) (by kernel_rfl) (by kernel_rfl) hm
theorem r56 {call : CallF} (pu : PureF) (n : Nat) (hcall : call = callP tabs isP pu (inl pu)) {args : List Value} {v : Value} (hm : m56 pu n args = some v) (_ : ∀ x ∈ args, closed2 x = true) : args.length ≤ 28 ∧ Run tt call 1 c56_21 (Fr.made 28 args) (pureHeap tabs) (Fin tt 1 [.tmp 2] v) := by
  subst hcall
  unfold m56 at hm
  replace hm := ll_uncons hm; obtain ⟨a0, args_0, rfl, hm⟩ := hm
  replace hm := ll_end hm; obtain ⟨rfl, hm⟩ := hm
  replace hm := inv_vAgg hm; obtain ⟨l0, rfl, hm⟩ := hm
  replace hm := ll_uncons hm; obtain ⟨v0, l17325_0, rfl, hm⟩ := hm
  replace hm := ll_uncons hm; obtain ⟨v1, l17325_1, rfl, hm⟩ := hm
  replace hm := ll_uncons hm; obtain ⟨v2, l17325_2, rfl, hm⟩ := hm
  replace hm := ll_end hm; obtain ⟨rfl, hm⟩ := hm
  replace hm := inv_toI hm; obtain ⟨x0, rfl, hm⟩ := hm
  replace hm := inv_toSl hm; obtain ⟨s0, rfl, hm⟩ := hm
  replace hm := inv_toSl hm; obtain ⟨s1, rfl, hm⟩ := hm
  unfold m56_ at hm
  refine ⟨by simp, ?_⟩
  refine .same (F' := (fr 28 [(0, (.agg ⟨[(zI x0), (Sl.v 1 s0), (Sl.v 1 s1)]⟩))])) (H' := (hp 1 [(oT tab0)])) (by kernel_rfl) (by kernel_rfl) ?_
  refine .then ?_
  refine .rK ?_
  refine .ghs (fr 28 [(1, (pt 1 0))]) (hp 2 [(oT tab0), (oC [(zI x0), (Sl.v 1 s0), (Sl.v 1 s1)])]) (.k0 [false] [.tmp 1 false] [1]) ?_
  refine .then ?_
  refine .rK ?_
  refine .ghs (fr 28 [(1, (pt 1 0)), (3, (.slice none 0 0))]) (hp 2 [(oT tab0), (oC [(zI x0), (Sl.v 1 s0), (Sl.v 1 s1)])]) (.k0 [false] [.tmp 1 false] [1, 3]) ?_
  refine .join (v := v) (fun y : Nat × Nat × List Value => ((fr 28 [(3, (sc 1 0 1 y.1 y.2.1))]), (hp 2 [(oT tab0), (oC y.2.2)]))) (fun y => m56_0 pu n y.1 y.2.1 y.2.2) ?_ ?_
  · rintro ⟨n0, c0, q0⟩ hm
    exact w56_0 pu n n0 c0 q0 hm
  · refine .then ?_
    refine .rK ?_
    refine .ghs (fr 28 [(1, (pt 1 0)), (3, (.slice none 0 0)), (4, (zI (0 : Int)))]) (hp 2 [(oT tab0), (oC [(zI x0), (Sl.v 1 s0), (Sl.v 1 s1)])]) (.k0 [false] [.tmp 1 false] [1, 3, 4]) ?_
    refine .block ?_
    refine .loopM (v := v) (fun y : Nat × Nat × Int × Int × Sl × Sl × List Value => ((fr 28 [(1, (pt 1 0)), (3, (sc 2 0 1 y.1 y.2.1)), (4, (zI y.2.2.1))]), (hp 3 [(oT tab0), (oC [(zI y.2.2.2.1), (Sl.v 1 y.2.2.2.2.1), (Sl.v 1 y.2.2.2.2.2.1)]), (oC y.2.2.2.2.2.2)]))) (fun w y => l56_1 pu n w y.1 y.2.1 y.2.2.1 y.2.2.2.1 y.2.2.2.2.1 y.2.2.2.2.2.1 y.2.2.2.2.2.2) n ⟨(0, 0, (0 : Int), x0, s0, s1, ([] : List Value)), hm, (.thaw 3 1 (by kernel_rfl) (.k0 [false] [.tmp 1 false, .tmp 3 false] [1, 3, 4]))⟩ (fun _ => rfl) ?_
    rintro w0 ⟨n1, c1, z0, z1, s2, s3, q1⟩ hm
    replace hm : b56_1 pu n (l56_1 pu n w0) n1 c1 z0 z1 s2 s3 q1 = some v := hm
    unfold b56_1 at hm
    refine .then ?_
    refine .then ?_
    refine .rK ?_
    replace hm := bb_inv hm; obtain ⟨h0, hm⟩ := hm
    refine .ghs (fr 28 [(1, (pt 1 0)), (3, (sc 2 0 1 n1 c1)), (4, (zI z0)), (9, (zB (ilt z0 (Int.ofNat (Sl.n s2)))))]) (hp 3 [(oT tab0), (oC [(zI z1), (Sl.v 1 s2), (Sl.v 1 s3)]), (oC q1)]) (.k [2] [false] [.tmp 1 false, .tmp 3 false] [1, 3, 4, 9] ⟨trE (by kernel_rfl) h0, trivial⟩) ?_
    replace hm := bb_cases hm; rcases hm with ⟨h1, hm⟩ | ⟨h1, hm⟩
    · refine .ifT (ilt z0 (Int.ofNat (Sl.n s2))) (by kernel_rfl) h1 ?_
      refine .skip ?_
      refine .ghs (fr 28 [(1, (pt 1 0)), (3, (sc 2 0 1 n1 c1)), (4, (zI z0))]) (hp 3 [(oT tab0), (oC [(zI z1), (Sl.v 1 s2), (Sl.v 1 s3)]), (oC q1)]) (.k [2] [false] [.tmp 1 false, .tmp 3 false] [1, 3, 4] ⟨trE (by kernel_rfl) h0, trivial⟩) ?_
      refine .join (v := v) (fun y : Nat × Nat × Int × Int × Sl × Sl × List Value => ((fr 28 [(1, (pt 1 0)), (3, (sc 2 0 1 y.1 y.2.1)), (4, (zI y.2.2.1))]), (hp 3 [(oT tab0), (oC [(zI y.2.2.2.1), (Sl.v 1 y.2.2.2.2.1), (Sl.v 1 y.2.2.2.2.2.1)]), (oC y.2.2.2.2.2.2)]))) (fun y => m56_2 pu n (l56_1 pu n w0) y.1 y.2.1 y.2.2.1 y.2.2.2.1 y.2.2.2.2.1 y.2.2.2.2.2.1 y.2.2.2.2.2.2) ?_ ?_
      · rintro ⟨n2, c2, z2, z3, s4, s5, q2⟩ hm
        unfold m56_2 at hm
        refine .rK ?_
        replace hm := bb_inv hm; obtain ⟨h2, hm⟩ := hm
        exact ⟨(n2, c2, (wrapF .i64 (Int.add z2 (1 : Int))), z3, s4, s5, q2), hm, (.k [2] [false] [.tmp 1 false, .tmp 3 false] [1, 3, 4] ⟨trE (by kernel_rfl) h2, trivial⟩)⟩
      · refine .block ?_
        refine .then ?_
        replace hm := oo_inv hm; obtain ⟨k1, h3, hm⟩ := hm
        obtain rfl := toN_some h3
        replace hm := bb_inv hm; obtain ⟨h4, hm⟩ := hm
        replace hm := oo_inv hm; obtain ⟨v3, h5, hm⟩ := hm
        replace hm := inv_toI hm; obtain ⟨x1, rfl, hm⟩ := hm
        replace hm := bb_inv hm; obtain ⟨h6, hm⟩ := hm
        replace hm := oo_inv hm; obtain ⟨v4, h7, hm⟩ := hm
        replace hm := inv_toI hm; obtain ⟨x2, rfl, hm⟩ := hm
        refine .reg (eC 3 (keep (hp 3 [(oT tab0), (oC [(zI z1), (Sl.v 1 s2), (Sl.v 1 s3)]), (oC q1)]) (bb (an (Nat.blt k1 (Sl.n s2)) true) (some (fpV (k1 * 1) (Sl.cs s2))) none)) (keep_bb h4) (eD (keep (hp 3 [(oT tab0), (oC [(zI z1), (Sl.v 1 s2), (Sl.v 1 s3)]), (oC q1)]) (nthL (Sl.cs s2) (k1 * 1))) (keep_eq h5) (eC 3 (keep (hp 3 [(oT tab0), (oC [(zI z1), (Sl.v 1 s2), (Sl.v 1 s3)]), (oC q1)]) (bb (an (Nat.blt k1 (Sl.n s3)) true) (some (fpV (k1 * 1) (Sl.cs s3))) none)) (keep_bb h6) (eD (keep (hp 3 [(oT tab0), (oC [(zI z1), (Sl.v 1 s2), (Sl.v 1 s3)]), (oC q1)]) (nthL (Sl.cs s3) (k1 * 1))) (keep_eq h7) (eE))))) ?_
        refine .ghs (fr 28 [(1, (pt 1 0)), (3, (sc 2 0 1 n1 c1)), (4, (zI (Int.ofNat k1))), (22, (zB (nt (ieq x1 x2))))]) (hp 3 [(oT tab0), (oC [(zI z1), (Sl.v 1 s2), (Sl.v 1 s3)]), (oC q1)]) (.k [2] [false] [.tmp 1 false, .tmp 3 false] [1, 3, 4, 22] ⟨trE (by kernel_rfl) h0, trivial⟩) ?_
        replace hm := bb_cases hm; rcases hm with ⟨h8, hm⟩ | ⟨h8, hm⟩
        · refine .ifT (nt (ieq x1 x2)) (by kernel_rfl) h8 ?_
          replace hm := bb_inv hm; obtain ⟨h9, hm⟩ := hm
          refine .reg (eC 3 (growD 1 8 n1 c1 1 2 q1 [(zI (Int.ofNat k1))] [] (hp 4 [(oT tab0), (oC [(zI z1), (Sl.v 1 s2), (Sl.v 1 s3)]), (oC q1), (oC [(zI (Int.ofNat k1))])])) (growD_eq h9) (eE)) ?_
          replace hm := bb_inv hm; obtain ⟨h10, hm⟩ := hm
          exact ⟨((n1 + 1), (d2 (n1 + 1)), (Int.ofNat k1), z1, s2, s3, (appL (dropL 0 q1) [(zI (Int.ofNat k1))])), hm, (.k [4] [false] [.tmp 1 false, .tmp 3 false] [1, 3, 4] ⟨trE (by kernel_rfl) h10, trivial⟩)⟩
        · refine .ifF (nt (ieq x1 x2)) (by kernel_rfl) h8 ?_
          refine .skip ?_
          exact ⟨(n1, c1, (Int.ofNat k1), z1, s2, s3, q1), hm, (.k [2] [false] [.tmp 1 false, .tmp 3 false] [1, 3, 4] ⟨trE (by kernel_rfl) h0, trivial⟩)⟩
    · refine .ifF (ilt z0 (Int.ofNat (Sl.n s2))) (by kernel_rfl) h1 ?_
      refine .exit ?_
      exact ⟨(n1, c1, q1), hm, (.k [2] [false] [.tmp 3 false] [3] ⟨trE (by kernel_rfl) h0, trivial⟩)⟩
def m62_0 (pu : PureF) (n : Nat) (n0 : Nat) (c0 : Nat) (q0 : List Value) : Option Value :=
  (bb (allL closed1 q0) (bb (an (Nat.ble (0 + n0 * 1) (len q0)) (allL closed1 (takeL (n0 * 1) (dropL 0 q0)))) (some (Sl.v 1 (Sl.mk n0 0 (takeL (n0 * 1) (dropL 0 q0))))) none) none)
def b62_1 (pu : PureF) (n : Nat) (ih0 : Int → Nat → Nat → List Value → Option Value) (z0 : Int) (n0 : Nat) (c0 : Nat) (q0 : List Value) : Option Value :=
  (bb (allL closed1 q0) (bb (nt (ieq z0 (0 : Int))) (oo (pu 67 [(.int .u16 z0)]) none fun v0 => (oo (toI .i64 v0) none fun x0 => (bb (growC 1 8 n0 c0 1 q0) (bb (allL closed1 (appL (dropL 0 q0) [(.int .i64 x0)])) (ih0 (aand .u16 z0 (wrapF .u16 (Int.sub z0 (1 : Int)))) (n0 + 1) (2 * (n0 + 1) + bb false 1 0) (appL (dropL 0 q0) [(.int .i64 x0)])) none) none))) (m62_0 pu n n0 c0 q0)) none)
def l62_1 (pu : PureF) (n : Nat) (w : Nat) : Int → Nat → Nat → List Value → Option Value :=
  Nat.rec (motive := fun _ => Int → Nat → Nat → List Value → Option Value) (fun _ _ _ _ => none) (fun _ ih0 => b62_1 pu n ih0) w
def m62_ (pu : PureF) (n : Nat) (x0 : Int) : Option Value :=
  (l62_1 pu n n x0 0 0 ([] : List Value))
def m62 (pu : PureF) (n : Nat) (args : List Value) : Option Value :=
  (ll args none fun a0 args => (ll args (oo (toI .u16 a0) none fun x0 => (m62_ pu n x0)) fun _ _ => none))
theorem w62_0 (pu : PureF) (n : Nat) (n0 : Nat) (c0 : Nat) (q0 : List Value) {v : Value} (hm : m62_0 pu n n0 c0 q0 = some v) : Run tt (callP tabs isP pu (inl pu)) 1 c62_13 (fr 16 [(3, (sc 1 0 1 n0 c0))]) (hp 2 [(oT tab0), (oC q0)]) (Fin tt 1 [.tmp 2] v) := by
  unfold m62_0 at hm
  refine .then ?_
  refine .rK ?_
  replace hm := bb_inv hm; obtain ⟨h0, hm⟩ := hm
  refine .ghs (fr 16 [(2, (sc 1 0 1 n0 c0))]) (hp 2 [(oT tab0), (oC q0)]) (.k [1] [false] [.tmp 2 false] [2] ⟨trE (by kernel_rfl) h0, trivial⟩) ?_
  replace hm := bb_inv hm; obtain ⟨h1, hm⟩ := hm
  refine .ghs (Fr.puts (fr 16 [(2, (sc 1 0 1 n0 c0))]) [(2, (Sl.v 1 (Sl.mk n0 0 (takeL (n0 * 1) (dropL 0 q0)))))]) (hp 2 [(oT tab0), .dead]) (.freezeC 1 2 1 (an (Nat.ble (0 + n0 * 1) (len q0)) (allL closed1 (takeL (n0 * 1) (dropL 0 q0)))) (F1 := (Fr.puts (fr 16 [(2, (sc 1 0 1 n0 c0))]) [(2, (Sl.v 1 (Sl.mk n0 0 (takeL (n0 * 1) (dropL 0 q0)))))])) (H1 := (hp 2 [(oT tab0), .dead])) (by kernel_rfl) (by kernel_rfl) h1 (GhS.id _ _)) ?_
  refine .ret ?_
  exact fin_ret (Sl.v 1 (Sl.mk n0 0 (takeL (n0 * 1) (dropL 0 q0)))) (by kernel_rfl) (by kernel_rfl) hm
theorem r62 {call : CallF} (pu : PureF) (n : Nat) (hcall : call = callP tabs isP pu (inl pu)) {args : List Value} {v : Value} (hm : m62 pu n args = some v) (_ : ∀ x ∈ args, closed2 x = true) : args.length ≤ 16 ∧ Run tt call 1 c62_16 (Fr.made 16 args) (pureHeap tabs) (Fin tt 1 [.tmp 2] v) := by
  subst hcall
  unfold m62 at hm
  replace hm := ll_uncons hm; obtain ⟨a0, args_0, rfl, hm⟩ := hm
  replace hm := ll_end hm; obtain ⟨rfl, hm⟩ := hm
  replace hm := inv_toI hm; obtain ⟨x0, rfl, hm⟩ := hm
  unfold m62_ at hm
  refine ⟨by simp, ?_⟩
  refine .same (F' := (fr 16 [(0, (.int .u16 x0))])) (H' := (hp 1 [(oT tab0)])) (by kernel_rfl) (by kernel_rfl) ?_
  refine .then ?_
  refine .rK ?_
  refine .ghs (fr 16 [(0, (.int .u16 x0))]) (hp 1 [(oT tab0)]) (.k0 [false] [] [0]) ?_
  refine .then ?_
  refine .rK ?_
  refine .ghs (fr 16 [(0, (.int .u16 x0)), (3, (.slice none 0 0))]) (hp 1 [(oT tab0)]) (.k0 [false] [] [0, 3]) ?_
  refine .join (v := v) (fun y : Nat × Nat × List Value => ((fr 16 [(3, (sc 1 0 1 y.1 y.2.1))]), (hp 2 [(oT tab0), (oC y.2.2)]))) (fun y => m62_0 pu n y.1 y.2.1 y.2.2) ?_ ?_
  · rintro ⟨n0, c0, q0⟩ hm
    exact w62_0 pu n n0 c0 q0 hm
  · refine .block ?_
    refine .loopM (v := v) (fun y : Int × Nat × Nat × List Value => ((fr 16 [(0, (.int .u16 y.1)), (3, (sc 1 0 1 y.2.1 y.2.2.1))]), (hp 2 [(oT tab0), (oC y.2.2.2)]))) (fun w y => l62_1 pu n w y.1 y.2.1 y.2.2.1 y.2.2.2) n ⟨(x0, 0, 0, ([] : List Value)), hm, (.thaw 3 1 (by kernel_rfl) (.k0 [false] [.tmp 3 false] [0, 3]))⟩ (fun _ => rfl) ?_
    rintro w0 ⟨z0, n1, c1, q1⟩ hm
    replace hm : b62_1 pu n (l62_1 pu n w0) z0 n1 c1 q1 = some v := hm
    unfold b62_1 at hm
    refine .then ?_
    refine .then ?_
    refine .rK ?_
    replace hm := bb_inv hm; obtain ⟨h0, hm⟩ := hm
    refine .ghs (fr 16 [(0, (.int .u16 z0)), (3, (sc 1 0 1 n1 c1)), (5, (zB (nt (ieq z0 (0 : Int)))))]) (hp 2 [(oT tab0), (oC q1)]) (.k [1] [false] [.tmp 3 false] [0, 3, 5] ⟨trE (by kernel_rfl) h0, trivial⟩) ?_
    replace hm := bb_cases hm; rcases hm with ⟨h1, hm⟩ | ⟨h1, hm⟩
    · refine .ifT (nt (ieq z0 (0 : Int))) (by kernel_rfl) h1 ?_
      refine .skip ?_
      refine .ghs (fr 16 [(0, (.int .u16 z0)), (3, (sc 1 0 1 n1 c1))]) (hp 2 [(oT tab0), (oC q1)]) (.k [1] [false] [.tmp 3 false] [0, 3] ⟨trE (by kernel_rfl) h0, trivial⟩) ?_
      refine .then ?_
      refine .block ?_
      replace hm := oo_inv hm; obtain ⟨v0, h2, hm⟩ := hm
      replace hm := inv_toI hm; obtain ⟨x1, rfl, hm⟩ := hm
      replace hm := bb_inv hm; obtain ⟨h3, hm⟩ := hm
      refine .reg (eC 2 ((oo (pu 67 [(.int .u16 z0)]) none fun v => some (v, (hp 2 [(oT tab0), (oC q1)])))) (call_eq h2) (eC 1 (growD 1 8 n1 c1 1 1 q1 [(zI x1)] [] (hp 3 [(oT tab0), (oC q1), (oC [(zI x1)])])) (growD_eq h3) (eE))) ?_
      replace hm := bb_inv hm; obtain ⟨h4, hm⟩ := hm
      refine .ghs (fr 16 [(0, (.int .u16 z0)), (3, (sc 1 0 1 (n1 + 1) (d2 (n1 + 1))))]) (hp 2 [(oT tab0), (oC (appL (dropL 0 q1) [(zI x1)]))]) (.k [3] [false] [.tmp 3 false] [0, 3] ⟨trE (by kernel_rfl) h4, trivial⟩) ?_
      refine .rK ?_
      exact ⟨((aand .u16 z0 (wrapF .u16 (Int.sub z0 (1 : Int)))), (n1 + 1), (d2 (n1 + 1)), (appL (dropL 0 q1) [(zI x1)])), hm, (.k [1] [false] [.tmp 3 false] [0, 3] ⟨trE (by kernel_rfl) h4, trivial⟩)⟩
    · refine .ifF (nt (ieq z0 (0 : Int))) (by kernel_rfl) h1 ?_
      refine .exit ?_
      exact ⟨(n1, c1, q1), hm, (.k [1] [false] [.tmp 3 false] [3] ⟨trE (by kernel_rfl) h0, trivial⟩)⟩

def m64_ (pu : PureF) (n : Nat) (x0 : Int) : Option Value :=
  (oo (toN (shrI .u16 x0 8)) none fun k1 => (oo (str0[k1]?) none fun c0 => (oo (toN (aand .u16 x0 (255 : Int))) none fun k2 => (oo (str0[k2]?) none fun c1 => (some (.int .i64 (wrapF .i64 (wrapF .u8 (Int.add (Int.ofNat (UInt8.toNat c0)) (Int.ofNat (UInt8.toNat c1)))))))))))
def m64 (pu : PureF) (n : Nat) (args : List Value) : Option Value :=
  (ll args none fun a0 args => (ll args (oo (toI .u16 a0) none fun x0 => (m64_ pu n x0)) fun _ _ => none))
theorem r64 {call : CallF} (pu : PureF) (n : Nat) (hcall : call = callP tabs isP pu (inl pu)) {args : List Value} {v : Value} (hm : m64 pu n args = some v) (_ : ∀ x ∈ args, closed2 x = true) : args.length ≤ 11 ∧ Run tt call 1 c64_3 (Fr.made 11 args) (pureHeap tabs) (Fin tt 1 [.tmp 2] v) := by
  subst hcall
  unfold m64 at hm
  replace hm := ll_uncons hm; obtain ⟨a0, args_0, rfl, hm⟩ := hm
  replace hm := ll_end hm; obtain ⟨rfl, hm⟩ := hm
  replace hm := inv_toI hm; obtain ⟨x0, rfl, hm⟩ := hm
  unfold m64_ at hm
  refine ⟨by simp, ?_⟩
  refine .same (F' := (fr 11 [(0, (.int .u16 x0))])) (H' := (hp 1 [(oT tab0)])) (by kernel_rfl) (by kernel_rfl) ?_
  refine .then ?_
  refine .rK ?_
  refine .ghs (fr 11 [(0, (.int .u16 x0))]) (hp 1 [(oT tab0)]) (.k0 [false] [] [0]) ?_
  refine .then ?_
  replace hm := oo_inv hm; obtain ⟨k1, h0, hm⟩ := hm
  replace hm := oo_inv hm; obtain ⟨c0, h1, hm⟩ := hm
  replace hm := oo_inv hm; obtain ⟨k2, h2, hm⟩ := hm
  replace hm := oo_inv hm; obtain ⟨c1, h3, hm⟩ := hm
  refine .reg (eC 1 (some ((.int .u16 (shrI .u16 x0 8)), (hp 1 [(oT tab0)]))) (show _ = some ((.int .u16 (Int.ofNat k1)), _) from (by rw [toN_some h0])) (eD (keep (hp 1 [(oT tab0)]) (oo (str0[k1]?) none fun b => iv .u8 (.ofNat b.toNat))) (ix_eq h1) (eC 1 (some ((.int .u16 (aand .u16 x0 (255 : Int))), (hp 1 [(oT tab0)]))) (show _ = some ((.int .u16 (Int.ofNat k2)), _) from (by rw [toN_some h2])) (eD (keep (hp 1 [(oT tab0)]) (oo (str0[k2]?) none fun b => iv .u8 (.ofNat b.toNat))) (ix_eq h3) (eE))))) ?_
  refine .ghs (fr 11 [(2, (zI (wrapF .i64 (wrapF .u8 (Int.add (Int.ofNat (UInt8.toNat c0)) (Int.ofNat (UInt8.toNat c1)))))))]) (hp 1 [(oT tab0)]) (.k0 [false] [] [2]) ?_
  refine .ret ?_
  exact fin_ret (zI (wrapF .i64 (wrapF .u8 (Int.add (Int.ofNat (UInt8.toNat c0)) (Int.ofNat (UInt8.toNat c1)))))) (by kernel_rfl) (by kernel_rfl) hm

def m67_ (pu : PureF) (n : Nat) (x0 : Int) : Option Value :=
  (bb (ieq x0 (0 : Int)) (some (.int .i64 (16 : Int))) (oo (toN (shrI .u32 (wrapF .u32 (Int.mul (wrapF .u32 (aand .u16 x0 (wrapF .u16 (Int.sub (.ofNat 0) x0)))) (125613361 : Int))) 27)) none fun k1 => (bb (Nat.blt k1 32) (oo (nthL tab0 (0 + k1 * 1)) none fun v0 => (oo (toI .u8 v0) none fun x1 => (some (.int .i64 (wrapF .i64 x1))))) none)))
def m67 (pu : PureF) (n : Nat) (args : List Value) : Option Value :=
  (ll args none fun a0 args => (ll args (oo (toI .u16 a0) none fun x0 => (m67_ pu n x0)) fun _ _ => none))
theorem r67 {call : CallF} (pu : PureF) (n : Nat) (hcall : call = callP tabs isP pu (inl pu)) {args : List Value} {v : Value} (hm : m67 pu n args = some v) (_ : ∀ x ∈ args, closed2 x = true) : args.length ≤ 15 ∧ Run tt call 1 c67_9 (Fr.made 15 args) (pureHeap tabs) (Fin tt 1 [.tmp 2] v) := by
  subst hcall
  unfold m67 at hm
  replace hm := ll_uncons hm; obtain ⟨a0, args_0, rfl, hm⟩ := hm
  replace hm := ll_end hm; obtain ⟨rfl, hm⟩ := hm
  replace hm := inv_toI hm; obtain ⟨x0, rfl, hm⟩ := hm
  unfold m67_ at hm
  refine ⟨by simp, ?_⟩
  refine .same (F' := (fr 15 [(0, (.int .u16 x0))])) (H' := (hp 1 [(oT tab0)])) (by kernel_rfl) (by kernel_rfl) ?_
  refine .then ?_
  refine .rK ?_
  refine .ghs (fr 15 [(0, (.int .u16 x0))]) (hp 1 [(oT tab0)]) (.k0 [false] [] [0]) ?_
  refine .then ?_
  refine .then ?_
  refine .rK ?_
  refine .ghs (fr 15 [(0, (.int .u16 x0)), (4, (zB (ieq x0 (0 : Int))))]) (hp 1 [(oT tab0)]) (.k0 [false] [] [0, 4]) ?_
  replace hm := bb_cases hm; rcases hm with ⟨h0, hm⟩ | ⟨h0, hm⟩
  · refine .ifT (ieq x0 (0 : Int)) (by kernel_rfl) h0 ?_
    refine .then ?_
    refine .rK ?_
    refine .ghs (fr 15 [(2, (zI (16 : Int)))]) (hp 1 [(oT tab0)]) (.k0 [false] [] [2]) ?_
    refine .ret ?_
    exact fin_ret (zI (16 : Int)) (by kernel_rfl) (by kernel_rfl) hm
  · refine .ifF (ieq x0 (0 : Int)) (by kernel_rfl) h0 ?_
    refine .skip ?_
    refine .ghs (fr 15 [(0, (.int .u16 x0))]) (hp 1 [(oT tab0)]) (.k0 [false] [] [0]) ?_
    refine .then ?_
    replace hm := oo_inv hm; obtain ⟨k1, h1, hm⟩ := hm
    replace hm := bb_inv hm; obtain ⟨h2, hm⟩ := hm
    replace hm := oo_inv hm; obtain ⟨v0, h3, hm⟩ := hm
    replace hm := inv_toI hm; obtain ⟨x1, rfl, hm⟩ := hm
    refine .reg (eC 6 (some ((.int .u32 (shrI .u32 (wrapF .u32 (Int.mul (wrapF .u32 (aand .u16 x0 (wrapF .u16 (Int.sub (.ofNat 0) x0)))) (125613361 : Int))) 27)), (hp 1 [(oT tab0)]))) (show _ = some ((.int .u32 (Int.ofNat k1)), _) from (by rw [toN_some h1])) (eD (keep (hp 1 [(oT tab0)]) (bb (Nat.blt k1 32) (some (.pointer (some ⟨0, (0 + k1 * 1), none⟩))) none)) (keep_bb h2) (eD (keep (hp 1 [(oT tab0)]) (nthL tab0 (0 + k1 * 1))) (keep_eq h3) (eE)))) ?_
    refine .ghs (fr 15 [(2, (zI (wrapF .i64 x1)))]) (hp 1 [(oT tab0)]) (.k0 [false] [] [2]) ?_
    refine .ret ?_
    exact fin_ret (zI (wrapF .i64 x1)) (by kernel_rfl) (by kernel_rfl) hm
def m71_0 (pu : PureF) (n : Nat) (q0 : List Value) : Option Value :=
  (bb (Nat.ble (0 + 5) (len q0)) (oo (nthL q0 0) none fun v0 => (oo (toI .i64 v0) none fun x0 => (oo (nthL q0 (0 + 1)) none fun v1 => (oo (toI .i64 v1) none fun x1 => (oo (nthL q0 ((0 + 1) + 1)) none fun v2 => (oo (toI .i64 v2) none fun x2 => (oo (nthL q0 (((0 + 1) + 1) + 1)) none fun v3 => (oo (toI .i64 v3) none fun x3 => (oo (nthL q0 ((((0 + 1) + 1) + 1) + 1)) none fun v4 => (oo (toI .i64 v4) none fun x4 => (some (.bool (bq true (an (ieq x0 (0 : Int)) (an (ieq x1 (0 : Int)) (an (ieq x2 (0 : Int)) (an (ieq x3 (0 : Int)) (an (ieq x4 (0 : Int)) true)))))))))))))))))) none)
def m71_2 (pu : PureF) (n : Nat) (ih0 : Int → Int → Int → Int → Sl → Sl → List Value → Option Value) (z0 : Int) (z1 : Int) (z2 : Int) (z3 : Int) (s0 : Sl) (s1 : Sl) (q0 : List Value) : Option Value :=
  (bb (allL closed1 q0) (ih0 z0 z1 (wrapF .i64 (Int.add z2 (1 : Int))) z3 s0 s1 q0) none)
def b71_1 (pu : PureF) (n : Nat) (ih0 : Int → Int → Int → Int → Sl → Sl → List Value → Option Value) (z0 : Int) (z1 : Int) (z2 : Int) (z3 : Int) (s0 : Sl) (s1 : Sl) (q0 : List Value) : Option Value :=
  (bb (allL closed1 q0) (bb (ilt z2 z1) (oo (pu 53 [(.int .u16 z0), (.int .i64 z2)]) none fun v0 => (oo (vBool v0) none fun b0 => (bb b0 (oo (toN z2) none fun k1 => (bb (an (Nat.blt k1 (Sl.n s0)) true) (oo (nthL (Sl.cs s0) (k1 * 1)) none fun v1 => (oo (toI .i64 v1) none fun x0 => (oo (toN x0) none fun k2 => (bb (Nat.blt k2 5) (oo (nthL q0 (0 + k2 * 1)) none fun v2 => (oo (toI .i64 v2) none fun x1 => (bb (Nat.blt k2 5) (bb (an (Nat.ble ((0 + k2 * 1) + 1) (len q0)) true) (bb (allL closed1 (setL ([(.int .i64 (wrapF .i64 (Int.add x1 (1 : Int))))] : List Value) (0 + k2 * 1) q0)) (bb (an (Nat.blt k1 (Sl.n s1)) true) (oo (nthL (Sl.cs s1) (k1 * 1)) none fun v3 => (oo (toI .i64 v3) none fun x2 => (oo (toN x2) none fun k3 => (bb (Nat.blt k3 5) (oo (nthL (setL ([(.int .i64 (wrapF .i64 (Int.add x1 (1 : Int))))] : List Value) (0 + k2 * 1) q0) (0 + k3 * 1)) none fun v4 => (oo (toI .i64 v4) none fun x3 => (bb (Nat.blt k3 5) (bb (an (Nat.ble ((0 + k3 * 1) + 1) (len (setL ([(.int .i64 (wrapF .i64 (Int.add x1 (1 : Int))))] : List Value) (0 + k2 * 1) q0))) true) (bb (allL closed1 (setL ([(.int .i64 (wrapF .i64 (Int.sub x3 (1 : Int))))] : List Value) (0 + k3 * 1) (setL ([(.int .i64 (wrapF .i64 (Int.add x1 (1 : Int))))] : List Value) (0 + k2 * 1) q0))) (m71_2 pu n ih0 z0 z1 (Int.ofNat k1) z3 s0 s1 (setL ([(.int .i64 (wrapF .i64 (Int.sub x3 (1 : Int))))] : List Value) (0 + k3 * 1) (setL ([(.int .i64 (wrapF .i64 (Int.add x1 (1 : Int))))] : List Value) (0 + k2 * 1) q0))) none) none) none))) none)))) none) none) none) none))) none)))) none)) (m71_2 pu n ih0 z0 z1 z2 z3 s0 s1 q0)))) (m71_0 pu n q0)) none)
def l71_1 (pu : PureF) (n : Nat) (w : Nat) : Int → Int → Int → Int → Sl → Sl → List Value → Option Value :=
  Nat.rec (motive := fun _ => Int → Int → Int → Int → Sl → Sl → List Value → Option Value) (fun _ _ _ _ _ _ _ => none) (fun _ ih0 => b71_1 pu n ih0) w
def m71_ (pu : PureF) (n : Nat) (x0 : Int) (s0 : Sl) (s1 : Sl) (x1 : Int) : Option Value :=
  (l71_1 pu n n x1 (Int.ofNat (Sl.n s0)) (0 : Int) x0 s0 s1 ([(.int .i64 (0 : Int)), (.int .i64 (0 : Int)), (.int .i64 (0 : Int)), (.int .i64 (0 : Int)), (.int .i64 (0 : Int))] : List Value))
def m71 (pu : PureF) (n : Nat) (args : List Value) : Option Value :=
  (ll args none fun a0 args => (ll args none fun a1 args => (ll args (oo (vAgg a0) none fun l0 => (ll l0 none fun v0 l0 => (ll l0 none fun v1 l0 => (ll l0 none fun v2 l0 => (ll l0 (oo (toI .i64 v0) none fun x0 => (oo (toSl 1 v1) none fun s0 => (oo (toSl 1 v2) none fun s1 => (oo (toI .u16 a1) none fun x1 => (m71_ pu n x0 s0 s1 x1))))) fun _ _ => none))))) fun _ _ => none)))
theorem w71_0 (pu : PureF) (n : Nat) (q0 : List Value) {v : Value} (hm : m71_0 pu n q0 = some v) : Run tt (callP tabs isP pu (inl pu)) 1 c71_22 (fr 38 [(5, (pt 1 0))]) (hp 2 [(oT tab0), (oC q0)]) (Fin tt 1 [.tmp 4] v) := by
  unfold m71_0 at hm
  refine .then ?_
  replace hm := bb_inv hm; obtain ⟨h0, hm⟩ := hm
  replace hm := oo_inv hm; obtain ⟨v0, h1, hm⟩ := hm
  replace hm := inv_toI hm; obtain ⟨x0, rfl, hm⟩ := hm
  replace hm := oo_inv hm; obtain ⟨v1, h2, hm⟩ := hm
  replace hm := inv_toI hm; obtain ⟨x1, rfl, hm⟩ := hm
  replace hm := oo_inv hm; obtain ⟨v2, h3, hm⟩ := hm
  replace hm := inv_toI hm; obtain ⟨x2, rfl, hm⟩ := hm
  replace hm := oo_inv hm; obtain ⟨v3, h4, hm⟩ := hm
  replace hm := inv_toI hm; obtain ⟨x3, rfl, hm⟩ := hm
  replace hm := oo_inv hm; obtain ⟨v4, h5, hm⟩ := hm
  replace hm := inv_toI hm; obtain ⟨x4, rfl, hm⟩ := hm
  refine .reg (eD (keep (hp 2 [(oT tab0), (oC q0)]) (bb (Nat.ble (0 + 5) (len q0)) (some (.agg ⟨takeL 5 (dropL 0 q0)⟩)) none)) (keep_agg h0 (takeL_cons h1 (takeL_cons h2 (takeL_cons h3 (takeL_cons h4 (takeL_cons h5 rfl)))))) (eE)) ?_
  refine .ghs (fr 38 [(4, (zB (bq true (an (ieq x0 (0 : Int)) (an (ieq x1 (0 : Int)) (an (ieq x2 (0 : Int)) (an (ieq x3 (0 : Int)) (an (ieq x4 (0 : Int)) true))))))))]) (hp 1 [(oT tab0)]) (.k0 [false] [] [4]) ?_
  refine .ret ?_
  exact fin_ret (zB (bq true (an (ieq x0 (0 : Int)) (an (ieq x1 (0 : Int)) (an (ieq x2 (0 : Int)) (an (ieq x3 (0 : Int)) (an (ieq x4 (0 : Int)) true))))))) (by kernel_rfl) (by kernel_rfl) hm
theorem r71 {call : CallF} (pu : PureF) (n : Nat) (hcall : call = callP tabs isP pu (inl pu)) {args : List Value} {v : Value} (hm : m71 pu n args = some v) (_ : ∀ x ∈ args, closed2 x = true) : args.length ≤ 38 ∧ Run tt call 1 c71_25 (Fr.made 38 args) (pureHeap tabs) (Fin tt 1 [.tmp 4] v) := by
  subst hcall
  unfold m71 at hm
  replace hm := ll_uncons hm; obtain ⟨a0, args_0, rfl, hm⟩ := hm
  replace hm := ll_uncons hm; obtain ⟨a1, args_1, rfl, hm⟩ := hm
  replace hm := ll_end hm; obtain ⟨rfl, hm⟩ := hm
  replace hm := inv_vAgg hm; obtain ⟨l0, rfl, hm⟩ := hm
  replace hm := ll_uncons hm; obtain ⟨v0, l17563_0, rfl, hm⟩ := hm
  replace hm := ll_uncons hm; obtain ⟨v1, l17563_1, rfl, hm⟩ := hm
  replace hm := ll_uncons hm; obtain ⟨v2, l17563_2, rfl, hm⟩ := hm
  replace hm := ll_end hm; obtain ⟨rfl, hm⟩ := hm
  replace hm := inv_toI hm; obtain ⟨x0, rfl, hm⟩ := hm
  replace hm := inv_toSl hm; obtain ⟨s0, rfl, hm⟩ := hm
  replace hm := inv_toSl hm; obtain ⟨s1, rfl, hm⟩ := hm
  replace hm := inv_toI hm; obtain ⟨x1, rfl, hm⟩ := hm
  unfold m71_ at hm
  refine ⟨by simp, ?_⟩
  refine .same (F' := (fr 38 [(0, (.agg ⟨[(zI x0), (Sl.v 1 s0), (Sl.v 1 s1)]⟩)), (1, (.int .u16 x1))])) (H' := (hp 1 [(oT tab0)])) (by kernel_rfl) (by kernel_rfl) ?_
  refine .then ?_
  refine .rK ?_
  refine .ghs (fr 38 [(1, (.int .u16 x1)), (2, (pt 1 0))]) (hp 2 [(oT tab0), (oC [(zI x0), (Sl.v 1 s0), (Sl.v 1 s1)])]) (.k0 [false] [.tmp 2 false] [1, 2]) ?_
  refine .then ?_
  refine .rK ?_
  refine .ghs (fr 38 [(1, (.int .u16 x1)), (2, (pt 1 0)), (5, (pt 2 0))]) (hp 3 [(oT tab0), (oC [(zI x0), (Sl.v 1 s0), (Sl.v 1 s1)]), (oC [(zI (0 : Int)), (zI (0 : Int)), (zI (0 : Int)), (zI (0 : Int)), (zI (0 : Int))])]) (.k0 [false] [.tmp 2 false, .tmp 5 false] [1, 2, 5]) ?_
  refine .join (v := v) (fun y : List Value => ((fr 38 [(5, (pt 1 0))]), (hp 2 [(oT tab0), (oC y)]))) (fun y => m71_0 pu n y) ?_ ?_
  · rintro q0 hm
    exact w71_0 pu n q0 hm
  · refine .then ?_
    refine .rK ?_
    refine .ghs (fr 38 [(1, (.int .u16 x1)), (2, (pt 1 0)), (5, (pt 2 0)), (9, (zI (Int.ofNat (Sl.n s0)))), (10, (zI (0 : Int)))]) (hp 3 [(oT tab0), (oC [(zI x0), (Sl.v 1 s0), (Sl.v 1 s1)]), (oC [(zI (0 : Int)), (zI (0 : Int)), (zI (0 : Int)), (zI (0 : Int)), (zI (0 : Int))])]) (.k0 [false] [.tmp 2 false, .tmp 5 false] [1, 2, 5, 9, 10]) ?_
    refine .block ?_
    refine .loopM (v := v) (fun y : Int × Int × Int × Int × Sl × Sl × List Value => ((fr 38 [(1, (.int .u16 y.1)), (2, (pt 1 0)), (5, (pt 2 0)), (9, (zI y.2.1)), (10, (zI y.2.2.1))]), (hp 3 [(oT tab0), (oC [(zI y.2.2.2.1), (Sl.v 1 y.2.2.2.2.1), (Sl.v 1 y.2.2.2.2.2.1)]), (oC y.2.2.2.2.2.2)]))) (fun w y => l71_1 pu n w y.1 y.2.1 y.2.2.1 y.2.2.2.1 y.2.2.2.2.1 y.2.2.2.2.2.1 y.2.2.2.2.2.2) n ⟨(x1, (Int.ofNat (Sl.n s0)), (0 : Int), x0, s0, s1, ([(zI (0 : Int)), (zI (0 : Int)), (zI (0 : Int)), (zI (0 : Int)), (zI (0 : Int))] : List Value)), hm, (.k0 [false] [.tmp 2 false, .tmp 5 false] [1, 2, 5, 9, 10])⟩ (fun _ => rfl) ?_
    rintro w0 ⟨z0, z1, z2, z3, s2, s3, q1⟩ hm
    replace hm : b71_1 pu n (l71_1 pu n w0) z0 z1 z2 z3 s2 s3 q1 = some v := hm
    unfold b71_1 at hm
    refine .then ?_
    refine .rK ?_
    replace hm := bb_inv hm; obtain ⟨h0, hm⟩ := hm
    refine .ghs (fr 38 [(1, (.int .u16 z0)), (2, (pt 1 0)), (5, (pt 2 0)), (9, (zI z1)), (10, (zI z2)), (11, (zB (ilt z2 z1)))]) (hp 3 [(oT tab0), (oC [(zI z3), (Sl.v 1 s2), (Sl.v 1 s3)]), (oC q1)]) (.k [2] [false] [.tmp 2 false, .tmp 5 false] [1, 2, 5, 9, 10, 11] ⟨trE (by kernel_rfl) h0, trivial⟩) ?_
    refine .then ?_
    replace hm := bb_cases hm; rcases hm with ⟨h1, hm⟩ | ⟨h1, hm⟩
    · refine .ifT (ilt z2 z1) (by kernel_rfl) h1 ?_
      refine .skip ?_
      refine .ghs (fr 38 [(1, (.int .u16 z0)), (2, (pt 1 0)), (5, (pt 2 0)), (9, (zI z1)), (10, (zI z2))]) (hp 3 [(oT tab0), (oC [(zI z3), (Sl.v 1 s2), (Sl.v 1 s3)]), (oC q1)]) (.k [2] [false] [.tmp 2 false, .tmp 5 false] [1, 2, 5, 9, 10] ⟨trE (by kernel_rfl) h0, trivial⟩) ?_
      refine .join (v := v) (fun y : Int × Int × Int × Int × Sl × Sl × List Value => ((fr 38 [(1, (.int .u16 y.1)), (2, (pt 1 0)), (5, (pt 2 0)), (9, (zI y.2.1)), (10, (zI y.2.2.1))]), (hp 3 [(oT tab0), (oC [(zI y.2.2.2.1), (Sl.v 1 y.2.2.2.2.1), (Sl.v 1 y.2.2.2.2.2.1)]), (oC y.2.2.2.2.2.2)]))) (fun y => m71_2 pu n (l71_1 pu n w0) y.1 y.2.1 y.2.2.1 y.2.2.2.1 y.2.2.2.2.1 y.2.2.2.2.2.1 y.2.2.2.2.2.2) ?_ ?_
      · rintro ⟨z4, z5, z6, z7, s4, s5, q2⟩ hm
        unfold m71_2 at hm
        refine .rK ?_
        replace hm := bb_inv hm; obtain ⟨h2, hm⟩ := hm
        exact ⟨(z4, z5, (wrapF .i64 (Int.add z6 (1 : Int))), z7, s4, s5, q2), hm, (.k [2] [false] [.tmp 2 false, .tmp 5 false] [1, 2, 5, 9, 10] ⟨trE (by kernel_rfl) h2, trivial⟩)⟩
      · refine .block ?_
        refine .then ?_
        refine .rK ?_
        refine .ghs (fr 38 [(1, (.int .u16 z0)), (2, (pt 1 0)), (5, (pt 2 0)), (6, (zI z2)), (9, (zI z1)), (10, (zI z2))]) (hp 3 [(oT tab0), (oC [(zI z3), (Sl.v 1 s2), (Sl.v 1 s3)]), (oC q1)]) (.k [2] [false] [.tmp 2 false, .tmp 5 false] [1, 2, 5, 6, 9, 10] ⟨trE (by kernel_rfl) h0, trivial⟩) ?_
        refine .then ?_
        replace hm := oo_inv hm; obtain ⟨v3, h3, hm⟩ := hm
        replace hm := inv_vBool hm; obtain ⟨b0, rfl, hm⟩ := hm
        refine .reg (eC 2 ((oo (pu 53 [(.int .u16 z0), (zI z2)]) none fun v => some (v, (hp 3 [(oT tab0), (oC [(zI z3), (Sl.v 1 s2), (Sl.v 1 s3)]), (oC q1)])))) (call_eq h3) (eE)) ?_
        refine .ghs (fr 38 [(1, (.int .u16 z0)), (2, (pt 1 0)), (5, (pt 2 0)), (6, (zI z2)), (9, (zI z1)), (10, (zI z2)), (15, (zB b0))]) (hp 3 [(oT tab0), (oC [(zI z3), (Sl.v 1 s2), (Sl.v 1 s3)]), (oC q1)]) (.k [2] [false] [.tmp 2 false, .tmp 5 false] [1, 2, 5, 6, 9, 10, 15] ⟨trE (by kernel_rfl) h0, trivial⟩) ?_
        replace hm := bb_cases hm; rcases hm with ⟨h4, hm⟩ | ⟨h4, hm⟩
        · refine .ifT b0 (by kernel_rfl) h4 ?_
          refine .then ?_
          replace hm := oo_inv hm; obtain ⟨k1, h5, hm⟩ := hm
          obtain rfl := toN_some h5
          replace hm := bb_inv hm; obtain ⟨h6, hm⟩ := hm
          replace hm := oo_inv hm; obtain ⟨v4, h7, hm⟩ := hm
          replace hm := inv_toI hm; obtain ⟨x2, rfl, hm⟩ := hm
          replace hm := oo_inv hm; obtain ⟨k2, h8, hm⟩ := hm
          obtain rfl := toN_some h8
          replace hm := bb_inv hm; obtain ⟨h9, hm⟩ := hm
          replace hm := oo_inv hm; obtain ⟨v5, h10, hm⟩ := hm
          replace hm := inv_toI hm; obtain ⟨x3, rfl, hm⟩ := hm
          replace hm := bb_inv hm; obtain ⟨h11, hm⟩ := hm
          replace hm := bb_inv hm; obtain ⟨h12, hm⟩ := hm
          refine .reg (eN 6 (Fr.puts (fr 38 [(1, (.int .u16 z0)), (2, (pt 1 0)), (5, (pt 2 0)), (6, (zI (Int.ofNat k1))), (9, (zI z1)), (10, (zI (Int.ofNat k1))), (15, (zB b0))]) [(16, (pt 1 1)), (17, (Sl.v 1 s2)), (18, (zI (Int.ofNat k1))), (19, (fpV (k1 * 1) (Sl.cs s2))), (20, (zI (Int.ofNat k2))), (21, (.pointer (some ⟨2, (0 + k2 * 1), none⟩)))]) (hp 3 [(oT tab0), (oC [(zI z3), (Sl.v 1 s2), (Sl.v 1 s3)]), (oC q1)]) (eC 3 (keep (hp 3 [(oT tab0), (oC [(zI z3), (Sl.v 1 s2), (Sl.v 1 s3)]), (oC q1)]) (bb (an (Nat.blt k1 (Sl.n s2)) true) (some (fpV (k1 * 1) (Sl.cs s2))) none)) (keep_bb h6) (eD (keep (hp 3 [(oT tab0), (oC [(zI z3), (Sl.v 1 s2), (Sl.v 1 s3)]), (oC q1)]) (nthL (Sl.cs s2) (k1 * 1))) (keep_eq h7) (eD (keep (hp 3 [(oT tab0), (oC [(zI z3), (Sl.v 1 s2), (Sl.v 1 s3)]), (oC q1)]) (bb (Nat.blt k2 5) (some (.pointer (some ⟨2, (0 + k2 * 1), none⟩))) none)) (keep_bb h9) (by kernel_rfl)))) (eD (keep (hp 3 [(oT tab0), (oC [(zI z3), (Sl.v 1 s2), (Sl.v 1 s3)]), (oC q1)]) (nthL q1 (0 + k2 * 1))) (keep_eq h10) (eC 1 (keep (hp 3 [(oT tab0), (oC [(zI z3), (Sl.v 1 s2), (Sl.v 1 s3)]), (oC q1)]) (bb (Nat.blt k2 5) (some (.pointer (some ⟨2, (0 + k2 * 1), none⟩))) none)) (keep_bb h11) (eD (done (bb (an (Nat.ble ((0 + k2 * 1) + 1) (len q1)) true) (some (hp 3 [(oT tab0), (oC [(zI z3), (Sl.v 1 s2), (Sl.v 1 s3)]), (oC (setL ([(zI (wrapF .i64 (Int.add x3 (1 : Int))))] : List Value) (0 + k2 * 1) q1))])) none) undef) (done_bb h12) (eE))))) ?_
          replace hm := bb_inv hm; obtain ⟨h13, hm⟩ := hm
          refine .ghs (fr 38 [(1, (.int .u16 z0)), (2, (pt 1 0)), (5, (pt 2 0)), (6, (zI (Int.ofNat k1))), (9, (zI z1)), (10, (zI (Int.ofNat k1)))]) (hp 3 [(oT tab0), (oC [(zI z3), (Sl.v 1 s2), (Sl.v 1 s3)]), (oC (setL ([(zI (wrapF .i64 (Int.add x3 (1 : Int))))] : List Value) (0 + k2 * 1) q1))]) (.k [2] [false] [.tmp 2 false, .tmp 5 false] [1, 2, 5, 6, 9, 10] ⟨trE (by kernel_rfl) h13, trivial⟩) ?_
          replace hm := bb_inv hm; obtain ⟨h14, hm⟩ := hm
          replace hm := oo_inv hm; obtain ⟨v6, h15, hm⟩ := hm
          replace hm := inv_toI hm; obtain ⟨x4, rfl, hm⟩ := hm
          replace hm := oo_inv hm; obtain ⟨k3, h16, hm⟩ := hm
          obtain rfl := toN_some h16
          replace hm := bb_inv hm; obtain ⟨h17, hm⟩ := hm
          replace hm := oo_inv hm; obtain ⟨v7, h18, hm⟩ := hm
          replace hm := inv_toI hm; obtain ⟨x5, rfl, hm⟩ := hm
          replace hm := bb_inv hm; obtain ⟨h19, hm⟩ := hm
          replace hm := bb_inv hm; obtain ⟨h20, hm⟩ := hm
          refine .reg (eN 6 (Fr.puts (fr 38 [(1, (.int .u16 z0)), (2, (pt 1 0)), (5, (pt 2 0)), (6, (zI (Int.ofNat k1))), (9, (zI z1)), (10, (zI (Int.ofNat k1)))]) [(25, (pt 1 2)), (26, (Sl.v 1 s3)), (27, (zI (Int.ofNat k1))), (28, (fpV (k1 * 1) (Sl.cs s3))), (29, (zI (Int.ofNat k3))), (30, (.pointer (some ⟨2, (0 + k3 * 1), none⟩)))]) (hp 3 [(oT tab0), (oC [(zI z3), (Sl.v 1 s2), (Sl.v 1 s3)]), (oC (setL ([(zI (wrapF .i64 (Int.add x3 (1 : Int))))] : List Value) (0 + k2 * 1) q1))]) (eC 3 (keep (hp 3 [(oT tab0), (oC [(zI z3), (Sl.v 1 s2), (Sl.v 1 s3)]), (oC (setL ([(zI (wrapF .i64 (Int.add x3 (1 : Int))))] : List Value) (0 + k2 * 1) q1))]) (bb (an (Nat.blt k1 (Sl.n s3)) true) (some (fpV (k1 * 1) (Sl.cs s3))) none)) (keep_bb h14) (eD (keep (hp 3 [(oT tab0), (oC [(zI z3), (Sl.v 1 s2), (Sl.v 1 s3)]), (oC (setL ([(zI (wrapF .i64 (Int.add x3 (1 : Int))))] : List Value) (0 + k2 * 1) q1))]) (nthL (Sl.cs s3) (k1 * 1))) (keep_eq h15) (eD (keep (hp 3 [(oT tab0), (oC [(zI z3), (Sl.v 1 s2), (Sl.v 1 s3)]), (oC (setL ([(zI (wrapF .i64 (Int.add x3 (1 : Int))))] : List Value) (0 + k2 * 1) q1))]) (bb (Nat.blt k3 5) (some (.pointer (some ⟨2, (0 + k3 * 1), none⟩))) none)) (keep_bb h17) (by kernel_rfl)))) (eD (keep (hp 3 [(oT tab0), (oC [(zI z3), (Sl.v 1 s2), (Sl.v 1 s3)]), (oC (setL ([(zI (wrapF .i64 (Int.add x3 (1 : Int))))] : List Value) (0 + k2 * 1) q1))]) (nthL (setL ([(zI (wrapF .i64 (Int.add x3 (1 : Int))))] : List Value) (0 + k2 * 1) q1) (0 + k3 * 1))) (keep_eq h18) (eC 1 (keep (hp 3 [(oT tab0), (oC [(zI z3), (Sl.v 1 s2), (Sl.v 1 s3)]), (oC (setL ([(zI (wrapF .i64 (Int.add x3 (1 : Int))))] : List Value) (0 + k2 * 1) q1))]) (bb (Nat.blt k3 5) (some (.pointer (some ⟨2, (0 + k3 * 1), none⟩))) none)) (keep_bb h19) (eD (done (bb (an (Nat.ble ((0 + k3 * 1) + 1) (len (setL ([(zI (wrapF .i64 (Int.add x3 (1 : Int))))] : List Value) (0 + k2 * 1) q1))) true) (some (hp 3 [(oT tab0), (oC [(zI z3), (Sl.v 1 s2), (Sl.v 1 s3)]), (oC (setL ([(zI (wrapF .i64 (Int.sub x5 (1 : Int))))] : List Value) (0 + k3 * 1) (setL ([(zI (wrapF .i64 (Int.add x3 (1 : Int))))] : List Value) (0 + k2 * 1) q1)))])) none) undef) (done_bb h20) (eE))))) ?_
          replace hm := bb_inv hm; obtain ⟨h21, hm⟩ := hm
          exact ⟨(z0, z1, (Int.ofNat k1), z3, s2, s3, (setL ([(zI (wrapF .i64 (Int.sub x5 (1 : Int))))] : List Value) (0 + k3 * 1) (setL ([(zI (wrapF .i64 (Int.add x3 (1 : Int))))] : List Value) (0 + k2 * 1) q1))), hm, (.k [2] [false] [.tmp 2 false, .tmp 5 false] [1, 2, 5, 9, 10] ⟨trE (by kernel_rfl) h21, trivial⟩)⟩
        · refine .ifF b0 (by kernel_rfl) h4 ?_
          refine .skip ?_
          exact ⟨(z0, z1, z2, z3, s2, s3, q1), hm, (.k [2] [false] [.tmp 2 false, .tmp 5 false] [1, 2, 5, 9, 10] ⟨trE (by kernel_rfl) h0, trivial⟩)⟩
    · refine .ifF (ilt z2 z1) (by kernel_rfl) h1 ?_
      refine .exit ?_
      exact ⟨q1, hm, (.k [2] [false] [.tmp 5 false] [5] ⟨trE (by kernel_rfl) h0, trivial⟩)⟩
def m73_0 (pu : PureF) (n : Nat) (n0 : Nat) (c0 : Nat) (q0 : List Value) : Option Value :=
  (bb (allL closed1 q0) (bb (an (Nat.ble (0 + n0 * 1) (len q0)) (allL closed1 (takeL (n0 * 1) (dropL 0 q0)))) (some (Sl.v 1 (Sl.mk n0 0 (takeL (n0 * 1) (dropL 0 q0))))) none) none)
def m73_2 (pu : PureF) (n : Nat) (ih0 : Sl → Sl → Nat → Nat → Nat → Nat → Int → List Value → List Value → Option Value) (s0 : Sl) (s1 : Sl) (n0 : Nat) (c0 : Nat) (n1 : Nat) (c1 : Nat) (z0 : Int) (q0 : List Value) (q1 : List Value) : Option Value :=
  (bb (allL closed1 q0) (bb (allL closed1 q1) (ih0 s0 s1 n0 c0 n1 c1 (wrapF .i64 (Int.add z0 (1 : Int))) q0 q1) none) none)
def m73_3 (pu : PureF) (n : Nat) (ih0 : Sl → Sl → Nat → Nat → Nat → Nat → Int → List Value → List Value → Option Value) (s0 : Sl) (s1 : Sl) (n0 : Nat) (c0 : Nat) (n1 : Nat) (c1 : Nat) (z0 : Int) (n2 : Nat) (c2 : Nat) (q0 : List Value) (q1 : List Value) (q2 : List Value) : Option Value :=
  (bb (an (Nat.ble (0 + n2 * 1) (len q2)) (allL closed1 (takeL (n2 * 1) (dropL 0 q2)))) (bb (growC 1 24 n0 c0 1 q0) (bb (allL closed1 (appL (dropL 0 q0) [(Sl.v 1 (Sl.mk n2 0 (takeL (n2 * 1) (dropL 0 q2))))])) (bb (allL closed1 q1) (bb (Nat.beq (Sl.n (Sl.mk n2 0 (takeL (n2 * 1) (dropL 0 q2)))) 0) (m73_2 pu n ih0 s0 s1 (n0 + 1) (2 * (n0 + 1) + bb false 1 0) n1 c1 z0 (appL (dropL 0 q0) [(Sl.v 1 (Sl.mk n2 0 (takeL (n2 * 1) (dropL 0 q2))))]) q1) (bb (an (allL scalarB (takeL ((Sl.n (Sl.mk n2 0 (takeL (n2 * 1) (dropL 0 q2)))) * 1) (Sl.cs (Sl.mk n2 0 (takeL (n2 * 1) (dropL 0 q2)))))) (growC 1 8 n1 c1 (Sl.n (Sl.mk n2 0 (takeL (n2 * 1) (dropL 0 q2)))) q1)) (bb (allL closed1 (appL (dropL 0 q1) (takeL ((Sl.n (Sl.mk n2 0 (takeL (n2 * 1) (dropL 0 q2)))) * 1) (Sl.cs (Sl.mk n2 0 (takeL (n2 * 1) (dropL 0 q2))))))) (m73_2 pu n ih0 s0 s1 (n0 + 1) (2 * (n0 + 1) + bb false 1 0) (n1 + (Sl.n (Sl.mk n2 0 (takeL (n2 * 1) (dropL 0 q2))))) (2 * (n1 + (Sl.n (Sl.mk n2 0 (takeL (n2 * 1) (dropL 0 q2))))) + bb false 1 0) z0 (appL (dropL 0 q0) [(Sl.v 1 (Sl.mk n2 0 (takeL (n2 * 1) (dropL 0 q2))))]) (appL (dropL 0 q1) (takeL ((Sl.n (Sl.mk n2 0 (takeL (n2 * 1) (dropL 0 q2)))) * 1) (Sl.cs (Sl.mk n2 0 (takeL (n2 * 1) (dropL 0 q2))))))) none) none)) none) none) none) none)
def m73_5 (pu : PureF) (n : Nat) (ih0 : Sl → Sl → Nat → Nat → Nat → Nat → Int → List Value → List Value → Option Value) (ih1 : Sl → Sl → Nat → Nat → Nat → Nat → Int → Nat → Nat → Int → List Value → List Value → List Value → Option Value) (s0 : Sl) (s1 : Sl) (n0 : Nat) (c0 : Nat) (n1 : Nat) (c1 : Nat) (z0 : Int) (n2 : Nat) (c2 : Nat) (z1 : Int) (q0 : List Value) (q1 : List Value) (q2 : List Value) : Option Value :=
  (oo (toN z1) none fun k1 => (bb (an (Nat.blt k1 (Sl.n s1)) true) (oo (nthL (Sl.cs s1) (k1 * 1)) none fun v0 => (oo (toI .i64 v0) none fun x0 => (bb (allL closed1 q0) (bb (allL closed1 q1) (bb (allL closed1 q2) (ih1 s0 s1 n0 c0 n1 c1 z0 n2 c2 x0 q0 q1 q2) none) none) none))) none))
def b73_6 (pu : PureF) (n : Nat) (ih0 : Sl → Sl → Nat → Nat → Nat → Nat → Int → List Value → List Value → Option Value) (ih1 : Sl → Sl → Nat → Nat → Nat → Nat → Int → Nat → Nat → Int → List Value → List Value → List Value → Option Value) (ih2 : Sl → Sl → Nat → Nat → Nat → Nat → Int → Nat → Nat → Int → Int → List Value → List Value → List Value → Option Value) (s0 : Sl) (s1 : Sl) (n0 : Nat) (c0 : Nat) (n1 : Nat) (c1 : Nat) (z0 : Int) (n2 : Nat) (c2 : Nat) (z1 : Int) (z2 : Int) (q0 : List Value) (q1 : List Value) (q2 : List Value) : Option Value :=
  (oo (toN z2) none fun k1 => (bb (an (Nat.blt k1 (Sl.n s0)) true) (oo (nthL (Sl.cs s0) (k1 * 1)) none fun v0 => (oo (toI .i64 v0) none fun x0 => (bb (allL closed1 q0) (bb (allL closed1 q1) (bb (allL closed1 q2) (bb (nt (ieq x0 z1)) (ih2 s0 s1 n0 c0 n1 c1 z0 n2 c2 z1 (wrapF .i64 (Int.add (Int.ofNat k1) (1 : Int))) q0 q1 q2) (m73_5 pu n ih0 ih1 s0 s1 n0 c0 n1 c1 z0 n2 c2 (Int.ofNat k1) q0 q1 q2)) none) none) none))) none))
def l73_6 (pu : PureF) (n : Nat) (ih0 : Sl → Sl → Nat → Nat → Nat → Nat → Int → List Value → List Value → Option Value) (ih1 : Sl → Sl → Nat → Nat → Nat → Nat → Int → Nat → Nat → Int → List Value → List Value → List Value → Option Value) (w : Nat) : Sl → Sl → Nat → Nat → Nat → Nat → Int → Nat → Nat → Int → Int → List Value → List Value → List Value → Option Value :=
  Nat.rec (motive := fun _ => Sl → Sl → Nat → Nat → Nat → Nat → Int → Nat → Nat → Int → Int → List Value → List Value → List Value → Option Value) (fun _ _ _ _ _ _ _ _ _ _ _ _ _ _ => none) (fun _ ih2 => b73_6 pu n ih0 ih1 ih2) w
def b73_4 (pu : PureF) (n : Nat) (ih0 : Sl → Sl → Nat → Nat → Nat → Nat → Int → List Value → List Value → Option Value) (ih1 : Sl → Sl → Nat → Nat → Nat → Nat → Int → Nat → Nat → Int → List Value → List Value → List Value → Option Value) (s0 : Sl) (s1 : Sl) (n0 : Nat) (c0 : Nat) (n1 : Nat) (c1 : Nat) (z0 : Int) (n2 : Nat) (c2 : Nat) (z1 : Int) (q0 : List Value) (q1 : List Value) (q2 : List Value) : Option Value :=
  (bb (orr (Nat.ble 2 c2) (nilL q2)) (bb (allL closed1 q2) (oo (pu 10551 [(.slice (some ⟨1, 0, some 1⟩) n2 c2), (.int .i64 z1), (.agg ⟨q2⟩)]) none fun v0 => (oo (vTup v0) none fun l0 => (ll l0 none fun v1 l0 => (ll l0 none fun v2 l0 => (ll l0 (oo (vBool v1) none fun b0 => (oo (vAgg v2) none fun q3 => (bb (allL closed1 q3) (bb (allL closed1 q0) (bb (allL closed1 q1) (bb (allL closed1 q3) (bb (nt b0) (bb (growC 1 8 n2 c2 1 q3) (bb (allL closed1 (appL (dropL 0 q3) [(.int .i64 z1)])) (l73_6 pu n ih0 ih1 n s0 s1 n0 c0 n1 c1 z0 (n2 + 1) (2 * (n2 + 1) + bb false 1 0) z1 (0 : Int) q0 q1 (appL (dropL 0 q3) [(.int .i64 z1)])) none) none) (m73_3 pu n ih0 s0 s1 n0 c0 n1 c1 z0 n2 c2 q0 q1 q3)) none) none) none) none))) fun _ _ => none))))) none) none)
def l73_4 (pu : PureF) (n : Nat) (ih0 : Sl → Sl → Nat → Nat → Nat → Nat → Int → List Value → List Value → Option Value) (w : Nat) : Sl → Sl → Nat → Nat → Nat → Nat → Int → Nat → Nat → Int → List Value → List Value → List Value → Option Value :=
  Nat.rec (motive := fun _ => Sl → Sl → Nat → Nat → Nat → Nat → Int → Nat → Nat → Int → List Value → List Value → List Value → Option Value) (fun _ _ _ _ _ _ _ _ _ _ _ _ _ => none) (fun _ ih1 => b73_4 pu n ih0 ih1) w
def b73_1 (pu : PureF) (n : Nat) (ih0 : Sl → Sl → Nat → Nat → Nat → Nat → Int → List Value → List Value → Option Value) (s0 : Sl) (s1 : Sl) (n0 : Nat) (c0 : Nat) (n1 : Nat) (c1 : Nat) (z0 : Int) (q0 : List Value) (q1 : List Value) : Option Value :=
  (bb (allL closed1 q0) (bb (allL closed1 q1) (bb (ilt z0 (Int.ofNat (Sl.n s0))) (oo (toN z0) none fun k1 => (bb (an (Nat.blt k1 (Sl.n s0)) true) (oo (nthL (Sl.cs s0) (k1 * 1)) none fun v0 => (oo (toI .i64 v0) none fun x0 => (bb (orr (Nat.ble 2 c1) (nilL q1)) (bb (allL closed1 q1) (oo (pu 10551 [(.slice (some ⟨1, 0, some 1⟩) n1 c1), (.int .i64 x0), (.agg ⟨q1⟩)]) none fun v1 => (oo (vTup v1) none fun l0 => (ll l0 none fun v2 l0 => (ll l0 none fun v3 l0 => (ll l0 (oo (vBool v2) none fun b0 => (oo (vAgg v3) none fun q2 => (bb (allL closed1 q2) (bb (allL closed1 q2) (bb b0 (m73_2 pu n ih0 s0 s1 n0 c0 n1 c1 (Int.ofNat k1) q0 q2) (bb (an (Nat.blt k1 (Sl.n s0)) true) (oo (nthL (Sl.cs s0) (k1 * 1)) none fun v4 => (oo (toI .i64 v4) none fun x1 => (l73_4 pu n ih0 n s0 s1 n0 c0 n1 c1 (Int.ofNat k1) 0 0 x1 q0 q2 ([] : List Value)))) none)) none) none))) fun _ _ => none))))) none) none))) none)) (m73_0 pu n n0 c0 q0)) none) none)
def l73_1 (pu : PureF) (n : Nat) (w : Nat) : Sl → Sl → Nat → Nat → Nat → Nat → Int → List Value → List Value → Option Value :=
  Nat.rec (motive := fun _ => Sl → Sl → Nat → Nat → Nat → Nat → Int → List Value → List Value → Option Value) (fun _ _ _ _ _ _ _ _ _ => none) (fun _ ih0 => b73_1 pu n ih0) w
def m73_ (pu : PureF) (n : Nat) (s0 : Sl) (s1 : Sl) : Option Value :=
  (l73_1 pu n n s0 s1 0 0 0 0 (0 : Int) ([] : List Value) ([] : List Value))
def m73 (pu : PureF) (n : Nat) (args : List Value) : Option Value :=
  (ll args none fun a0 args => (ll args none fun a1 args => (ll args (oo (toSl 1 a0) none fun s0 => (oo (toSl 1 a1) none fun s1 => (m73_ pu n s0 s1))) fun _ _ => none)))
theorem w73_0 (pu : PureF) (n : Nat) (n0 : Nat) (c0 : Nat) (q0 : List Value) {v : Value} (hm : m73_0 pu n n0 c0 q0 = some v) : Run tt (callP tabs isP pu (inl pu)) 1 c73_48 (fr 55 [(5, (sc 1 0 1 n0 c0))]) (hp 2 [(oT tab0), (oC q0)]) (Fin tt 1 [.tmp 4] v) := by
  unfold m73_0 at hm
  refine .then ?_
  refine .rK ?_
  replace hm := bb_inv hm; obtain ⟨h0, hm⟩ := hm
  refine .ghs (fr 55 [(4, (sc 1 0 1 n0 c0))]) (hp 2 [(oT tab0), (oC q0)]) (.k [1] [false] [.tmp 4 false] [4] ⟨trE (by kernel_rfl) h0, trivial⟩) ?_
  replace hm := bb_inv hm; obtain ⟨h1, hm⟩ := hm
  refine .ghs (Fr.puts (fr 55 [(4, (sc 1 0 1 n0 c0))]) [(4, (Sl.v 1 (Sl.mk n0 0 (takeL (n0 * 1) (dropL 0 q0)))))]) (hp 2 [(oT tab0), .dead]) (.freezeC 1 4 1 (an (Nat.ble (0 + n0 * 1) (len q0)) (allL closed1 (takeL (n0 * 1) (dropL 0 q0)))) (F1 := (Fr.puts (fr 55 [(4, (sc 1 0 1 n0 c0))]) [(4, (Sl.v 1 (Sl.mk n0 0 (takeL (n0 * 1) (dropL 0 q0)))))])) (H1 := (hp 2 [(oT tab0), .dead])) (by kernel_rfl) (by kernel_rfl) h1 (GhS.id _ _)) ?_
  refine .ret ?_
  exact fin_ret (Sl.v 1 (Sl.mk n0 0 (takeL (n0 * 1) (dropL 0 q0)))) (by kernel_rfl) (by kernel_rfl) hm
theorem r73 {call : CallF} (pu : PureF) (n : Nat) (hcall : call = callP tabs isP pu (inl pu)) {args : List Value} {v : Value} (hm : m73 pu n args = some v) (_ : ∀ x ∈ args, closed2 x = true) : args.length ≤ 55 ∧ Run tt call 1 c73_52 (Fr.made 55 args) (pureHeap tabs) (Fin tt 1 [.tmp 4] v) := by
  subst hcall
  unfold m73 at hm
  replace hm := ll_uncons hm; obtain ⟨a0, args_0, rfl, hm⟩ := hm
  replace hm := ll_uncons hm; obtain ⟨a1, args_1, rfl, hm⟩ := hm
  replace hm := ll_end hm; obtain ⟨rfl, hm⟩ := hm
  replace hm := inv_toSl hm; obtain ⟨s0, rfl, hm⟩ := hm
  replace hm := inv_toSl hm; obtain ⟨s1, rfl, hm⟩ := hm
  unfold m73_ at hm
  refine ⟨by simp, ?_⟩
  refine .same (F' := (fr 55 [(0, (Sl.v 1 s0)), (1, (Sl.v 1 s1))])) (H' := (hp 1 [(oT tab0)])) (by kernel_rfl) (by kernel_rfl) ?_
  refine .then ?_
  refine .rK ?_
  refine .ghs (fr 55 [(0, (Sl.v 1 s0)), (1, (Sl.v 1 s1))]) (hp 1 [(oT tab0)]) (.k0 [false] [] [0, 1]) ?_
  refine .then ?_
  refine .rK ?_
  refine .ghs (fr 55 [(0, (Sl.v 1 s0)), (1, (Sl.v 1 s1)), (5, (.slice none 0 0))]) (hp 1 [(oT tab0)]) (.k0 [false] [] [0, 1, 5]) ?_
  refine .then ?_
  refine .rK ?_
  refine .ghs (fr 55 [(0, (Sl.v 1 s0)), (1, (Sl.v 1 s1)), (5, (.slice none 0 0)), (6, (.slice none 0 0))]) (hp 1 [(oT tab0)]) (.k0 [false] [] [0, 1, 5, 6]) ?_
  refine .join (v := v) (fun y : Nat × Nat × List Value => ((fr 55 [(5, (sc 1 0 1 y.1 y.2.1))]), (hp 2 [(oT tab0), (oC y.2.2)]))) (fun y => m73_0 pu n y.1 y.2.1 y.2.2) ?_ ?_
  · rintro ⟨n0, c0, q0⟩ hm
    exact w73_0 pu n n0 c0 q0 hm
  · refine .then ?_
    refine .rK ?_
    refine .ghs (fr 55 [(0, (Sl.v 1 s0)), (1, (Sl.v 1 s1)), (5, (.slice none 0 0)), (6, (.slice none 0 0)), (7, (zI (0 : Int)))]) (hp 1 [(oT tab0)]) (.k0 [false] [] [0, 1, 5, 6, 7]) ?_
    refine .block ?_
    refine .loopM (v := v) (fun y : Sl × Sl × Nat × Nat × Nat × Nat × Int × List Value × List Value => ((fr 55 [(0, (Sl.v 1 y.1)), (1, (Sl.v 1 y.2.1)), (5, (sc 1 0 1 y.2.2.1 y.2.2.2.1)), (6, (sc 2 0 1 y.2.2.2.2.1 y.2.2.2.2.2.1)), (7, (zI y.2.2.2.2.2.2.1))]), (hp 3 [(oT tab0), (oC y.2.2.2.2.2.2.2.1), (oC y.2.2.2.2.2.2.2.2)]))) (fun w y => l73_1 pu n w y.1 y.2.1 y.2.2.1 y.2.2.2.1 y.2.2.2.2.1 y.2.2.2.2.2.1 y.2.2.2.2.2.2.1 y.2.2.2.2.2.2.2.1 y.2.2.2.2.2.2.2.2) n ⟨(s0, s1, 0, 0, 0, 0, (0 : Int), ([] : List Value), ([] : List Value)), hm, (.thaw 5 1 (by kernel_rfl) (.thaw 6 1 (by kernel_rfl) (.k0 [false] [.tmp 5 false, .tmp 6 false] [0, 1, 5, 6, 7])))⟩ (fun _ => rfl) ?_
    rintro w0 ⟨s2, s3, n1, c1, n2, c4, z0, q1, q2⟩ hm
    replace hm : b73_1 pu n (l73_1 pu n w0) s2 s3 n1 c1 n2 c4 z0 q1 q2 = some v := hm
    unfold b73_1 at hm
    refine .then ?_
    refine .then ?_
    refine .rK ?_
    replace hm := bb_inv hm; obtain ⟨h0, hm⟩ := hm
    replace hm := bb_inv hm; obtain ⟨h1, hm⟩ := hm
    refine .ghs (fr 55 [(0, (Sl.v 1 s2)), (1, (Sl.v 1 s3)), (5, (sc 1 0 1 n1 c1)), (6, (sc 2 0 1 n2 c4)), (7, (zI z0)), (14, (zB (ilt z0 (Int.ofNat (Sl.n s2)))))]) (hp 3 [(oT tab0), (oC q1), (oC q2)]) (.k [1, 2] [false] [.tmp 5 false, .tmp 6 false] [0, 1, 5, 6, 7, 14] ⟨trE (by kernel_rfl) h0, trE (by kernel_rfl) h1, trivial⟩) ?_
    replace hm := bb_cases hm; rcases hm with ⟨h2, hm⟩ | ⟨h2, hm⟩
    · refine .ifT (ilt z0 (Int.ofNat (Sl.n s2))) (by kernel_rfl) h2 ?_
      refine .skip ?_
      refine .ghs (fr 55 [(0, (Sl.v 1 s2)), (1, (Sl.v 1 s3)), (5, (sc 1 0 1 n1 c1)), (6, (sc 2 0 1 n2 c4)), (7, (zI z0))]) (hp 3 [(oT tab0), (oC q1), (oC q2)]) (.k [1, 2] [false] [.tmp 5 false, .tmp 6 false] [0, 1, 5, 6, 7] ⟨trE (by kernel_rfl) h0, trE (by kernel_rfl) h1, trivial⟩) ?_
      refine .join (v := v) (fun y : Sl × Sl × Nat × Nat × Nat × Nat × Int × List Value × List Value => ((fr 55 [(0, (Sl.v 1 y.1)), (1, (Sl.v 1 y.2.1)), (5, (sc 1 0 1 y.2.2.1 y.2.2.2.1)), (6, (sc 2 0 1 y.2.2.2.2.1 y.2.2.2.2.2.1)), (7, (zI y.2.2.2.2.2.2.1))]), (hp 3 [(oT tab0), (oC y.2.2.2.2.2.2.2.1), (oC y.2.2.2.2.2.2.2.2)]))) (fun y => m73_2 pu n (l73_1 pu n w0) y.1 y.2.1 y.2.2.1 y.2.2.2.1 y.2.2.2.2.1 y.2.2.2.2.2.1 y.2.2.2.2.2.2.1 y.2.2.2.2.2.2.2.1 y.2.2.2.2.2.2.2.2) ?_ ?_
      · rintro ⟨s4, s5, n3, c5, n4, c6, z1, q3, q4⟩ hm
        unfold m73_2 at hm
        refine .rK ?_
        replace hm := bb_inv hm; obtain ⟨h3, hm⟩ := hm
        replace hm := bb_inv hm; obtain ⟨h4, hm⟩ := hm
        exact ⟨(s4, s5, n3, c5, n4, c6, (wrapF .i64 (Int.add z1 (1 : Int))), q3, q4), hm, (.k [1, 2] [false] [.tmp 5 false, .tmp 6 false] [0, 1, 5, 6, 7] ⟨trE (by kernel_rfl) h3, trE (by kernel_rfl) h4, trivial⟩)⟩
      · refine .block ?_
        refine .then ?_
        refine .then ?_
        replace hm := oo_inv hm; obtain ⟨k1, h5, hm⟩ := hm
        obtain rfl := toN_some h5
        replace hm := bb_inv hm; obtain ⟨h6, hm⟩ := hm
        replace hm := oo_inv hm; obtain ⟨v0, h7, hm⟩ := hm
        replace hm := inv_toI hm; obtain ⟨x0, rfl, hm⟩ := hm
        replace hm := bb_inv hm; obtain ⟨h8, hm⟩ := hm
        replace hm := bb_inv hm; obtain ⟨h9, hm⟩ := hm
        replace hm := oo_inv hm; obtain ⟨v1, h10, hm⟩ := hm
        replace hm := inv_vTup hm; obtain ⟨l0, rfl, hm⟩ := hm
        replace hm := ll_uncons hm; obtain ⟨v2, l19521_0, rfl, hm⟩ := hm
        replace hm := ll_uncons hm; obtain ⟨v3, l19521_1, rfl, hm⟩ := hm
        replace hm := ll_end hm; obtain ⟨rfl, hm⟩ := hm
        replace hm := inv_vBool hm; obtain ⟨b0, rfl, hm⟩ := hm
        replace hm := inv_vAgg hm; obtain ⟨q5, rfl, hm⟩ := hm
        replace hm := bb_inv hm; obtain ⟨h11, hm⟩ := hm
        refine .reg (eC 3 (keep (hp 3 [(oT tab0), (oC q1), (oC q2)]) (bb (an (Nat.blt k1 (Sl.n s2)) true) (some (fpV (k1 * 1) (Sl.cs s2))) none)) (keep_bb h6) (eD (keep (hp 3 [(oT tab0), (oC q1), (oC q2)]) (nthL (Sl.cs s2) (k1 * 1))) (keep_eq h7) (eD (objG tabs [[none], [none]] 2 [.tmp 0 false] [false] (pu 10551) [(sc 2 0 1 n2 c4), (zI x0)] (hp 3 [(oT tab0), (oC q1), (oC q2)])) (objG_eq (as := [(sc 2 0 1 n2 c4), (zI x0)]) (H1 := (hp 3 [(oT tab0), (oC q1), (oC q2)])) (gvAL_c (gvA_1 gv_n) (gvAL_c (gvA_1 gv_n) gvAL_n)) (objF_eq (H2 := (hp 3 [(oT tab0), (oC q1), (oC q5)])) (v := (zB b0)) (v' := (zB b0)) [some 0, some 2] [(false, some 2)] [(oC q2)] [(sc 1 0 1 n2 c4), (zI x0)] [(.agg ⟨q5⟩)] [(oC q5)] [some 0, none, some 1] [(false, (oC q5))] [(oC q5)] (trE (by kernel_rfl) (rootL h8 rfl)) (mapO_c (nO_list (anc := []) h9) mapO_n) (Eq.trans (by kernel_rfl) h10) (mapO_c rfl mapO_n) (mapO_c (bO_list h11) mapO_n))) (eE)))) ?_
        replace hm := bb_inv hm; obtain ⟨h12, hm⟩ := hm
        refine .ghs (fr 55 [(0, (Sl.v 1 s2)), (1, (Sl.v 1 s3)), (5, (sc 1 0 1 n1 c1)), (6, (sc 2 0 1 n2 c4)), (7, (zI (Int.ofNat k1))), (22, (zB b0))]) (hp 3 [(oT tab0), (oC q1), (oC q5)]) (.k [1, 2] [false] [.tmp 5 false, .tmp 6 false] [0, 1, 5, 6, 7, 22] ⟨trE (by kernel_rfl) h0, trE (by kernel_rfl) h12, trivial⟩) ?_
        replace hm := bb_cases hm; rcases hm with ⟨h13, hm⟩ | ⟨h13, hm⟩
        · refine .ifT b0 (by kernel_rfl) h13 ?_
          refine .exit ?_
          exact ⟨(s2, s3, n1, c1, n2, c4, (Int.ofNat k1), q1, q5), hm, (.k [1, 2] [false] [.tmp 5 false, .tmp 6 false] [0, 1, 5, 6, 7] ⟨trE (by kernel_rfl) h0, trE (by kernel_rfl) h12, trivial⟩)⟩
        · refine .ifF b0 (by kernel_rfl) h13 ?_
          refine .skip ?_
          refine .ghs (fr 55 [(0, (Sl.v 1 s2)), (1, (Sl.v 1 s3)), (5, (sc 1 0 1 n1 c1)), (6, (sc 2 0 1 n2 c4)), (7, (zI (Int.ofNat k1)))]) (hp 3 [(oT tab0), (oC q1), (oC q5)]) (.k [1, 2] [false] [.tmp 5 false, .tmp 6 false] [0, 1, 5, 6, 7] ⟨trE (by kernel_rfl) h0, trE (by kernel_rfl) h12, trivial⟩) ?_
          refine .then ?_
          refine .rK ?_
          refine .ghs (fr 55 [(0, (Sl.v 1 s2)), (1, (Sl.v 1 s3)), (5, (sc 1 0 1 n1 c1)), (6, (sc 2 0 1 n2 c4)), (7, (zI (Int.ofNat k1))), (8, (.slice none 0 0))]) (hp 3 [(oT tab0), (oC q1), (oC q5)]) (.k [1, 2] [false] [.tmp 5 false, .tmp 6 false] [0, 1, 5, 6, 7, 8] ⟨trE (by kernel_rfl) h0, trE (by kernel_rfl) h12, trivial⟩) ?_
          refine .join (v := v) (fun y : Sl × Sl × Nat × Nat × Nat × Nat × Int × Nat × Nat × List Value × List Value × List Value => ((fr 55 [(0, (Sl.v 1 y.1)), (1, (Sl.v 1 y.2.1)), (5, (sc 1 0 1 y.2.2.1 y.2.2.2.1)), (6, (sc 2 0 1 y.2.2.2.2.1 y.2.2.2.2.2.1)), (7, (zI y.2.2.2.2.2.2.1)), (8, (sc 3 0 1 y.2.2.2.2.2.2.2.1 y.2.2.2.2.2.2.2.2.1))]), (hp 4 [(oT tab0), (oC y.2.2.2.2.2.2.2.2.2.1), (oC y.2.2.2.2.2.2.2.2.2.2.1), (oC y.2.2.2.2.2.2.2.2.2.2.2)]))) (fun y => m73_3 pu n (l73_1 pu n w0) y.1 y.2.1 y.2.2.1 y.2.2.2.1 y.2.2.2.2.1 y.2.2.2.2.2.1 y.2.2.2.2.2.2.1 y.2.2.2.2.2.2.2.1 y.2.2.2.2.2.2.2.2.1 y.2.2.2.2.2.2.2.2.2.1 y.2.2.2.2.2.2.2.2.2.2.1 y.2.2.2.2.2.2.2.2.2.2.2) ?_ ?_
          · rintro ⟨s6, s7, n5, c7, n6, c8, z2, n7, c9, q6, q7, q8⟩ hm
            unfold m73_3 at hm
            refine .then ?_
            replace hm := bb_inv hm; obtain ⟨h14, hm⟩ := hm
            refine .ghs (Fr.puts (fr 55 [(0, (Sl.v 1 s6)), (1, (Sl.v 1 s7)), (5, (sc 1 0 1 n5 c7)), (6, (sc 2 0 1 n6 c8)), (7, (zI z2)), (8, (sc 3 0 1 n7 c9))]) [(8, (Sl.v 1 (Sl.mk n7 0 (takeL (n7 * 1) (dropL 0 q8)))))]) (hp 4 [(oT tab0), (oC q6), (oC q7), .dead]) (.freezeC 1 8 1 (an (Nat.ble (0 + n7 * 1) (len q8)) (allL closed1 (takeL (n7 * 1) (dropL 0 q8)))) (F1 := (Fr.puts (fr 55 [(0, (Sl.v 1 s6)), (1, (Sl.v 1 s7)), (5, (sc 1 0 1 n5 c7)), (6, (sc 2 0 1 n6 c8)), (7, (zI z2)), (8, (sc 3 0 1 n7 c9))]) [(8, (Sl.v 1 (Sl.mk n7 0 (takeL (n7 * 1) (dropL 0 q8)))))])) (H1 := (hp 4 [(oT tab0), (oC q6), (oC q7), .dead])) (by kernel_rfl) (by kernel_rfl) h14 (GhS.id _ _)) ?_
            replace hm := bb_inv hm; obtain ⟨h15, hm⟩ := hm
            refine .reg (eC 3 (growD 1 24 n5 c7 1 1 q6 [(Sl.v 1 (Sl.mk n7 0 (takeL (n7 * 1) (dropL 0 q8))))] [] (hp 5 [(oT tab0), (oC q6), (oC q7), .dead, (oC [(Sl.v 1 (Sl.mk n7 0 (takeL (n7 * 1) (dropL 0 q8))))])])) (growD_eq h15) (eE)) ?_
            replace hm := bb_inv hm; obtain ⟨h16, hm⟩ := hm
            replace hm := bb_inv hm; obtain ⟨h17, hm⟩ := hm
            refine .ghs (fr 55 [(0, (Sl.v 1 s6)), (1, (Sl.v 1 s7)), (5, (sc 1 0 1 (n5 + 1) (d2 (n5 + 1)))), (6, (sc 2 0 1 n6 c8)), (7, (zI z2)), (8, (Sl.v 1 (Sl.mk n7 0 (takeL (n7 * 1) (dropL 0 q8)))))]) (hp 3 [(oT tab0), (oC (appL (dropL 0 q6) [(Sl.v 1 (Sl.mk n7 0 (takeL (n7 * 1) (dropL 0 q8))))])), (oC q7)]) (.k [5, 2] [false] [.tmp 5 false, .tmp 6 false] [0, 1, 5, 6, 7, 8] ⟨trE (by kernel_rfl) h16, trE (by kernel_rfl) h17, trivial⟩) ?_
            replace hm := bb_cases hm; rcases hm with ⟨h18, hm⟩ | ⟨h18, hm⟩
            · refine .reg (eC 2 (appFs (hp 3 [(oT tab0), (oC (appL (dropL 0 q6) [(Sl.v 1 (Sl.mk n7 0 (takeL (n7 * 1) (dropL 0 q8))))])), (oC q7)]) 1 8 (sc 2 0 1 n6 c8) (Sl.mk n7 0 (takeL (n7 * 1) (dropL 0 q8)))) (appFs_sl0 h18) (eE)) ?_
              exact ⟨(s6, s7, (n5 + 1), (d2 (n5 + 1)), n6, c8, z2, (appL (dropL 0 q6) [(Sl.v 1 (Sl.mk n7 0 (takeL (n7 * 1) (dropL 0 q8))))]), q7), hm, (.k [1, 2] [false] [.tmp 5 false, .tmp 6 false] [0, 1, 5, 6, 7] ⟨trE (by kernel_rfl) h16, trE (by kernel_rfl) h17, trivial⟩)⟩
            · replace hm := bb_inv hm; obtain ⟨h19, hm⟩ := hm
              refine .reg (eC 2 (appFs (hp 3 [(oT tab0), (oC (appL (dropL 0 q6) [(Sl.v 1 (Sl.mk n7 0 (takeL (n7 * 1) (dropL 0 q8))))])), (oC q7)]) 1 8 (sc 2 0 1 n6 c8) (Sl.mk n7 0 (takeL (n7 * 1) (dropL 0 q8)))) (appFs_grow (H := (hp 3 [(oT tab0), (oC (appL (dropL 0 q6) [(Sl.v 1 (Sl.mk n7 0 (takeL (n7 * 1) (dropL 0 q8))))])), (oC q7)])) (id := 2) (n := n6) (c2 := c8) (xs := q7) (anc := []) h18 (by kernel_rfl) (by kernel_rfl) h19) (eE)) ?_
              replace hm := bb_inv hm; obtain ⟨h20, hm⟩ := hm
              exact ⟨(s6, s7, (n5 + 1), (d2 (n5 + 1)), (n6 + (Sl.n (Sl.mk n7 0 (takeL (n7 * 1) (dropL 0 q8))))), (d2 (n6 + (Sl.n (Sl.mk n7 0 (takeL (n7 * 1) (dropL 0 q8)))))), z2, (appL (dropL 0 q6) [(Sl.v 1 (Sl.mk n7 0 (takeL (n7 * 1) (dropL 0 q8))))]), (appL (dropL 0 q7) (takeL ((Sl.n (Sl.mk n7 0 (takeL (n7 * 1) (dropL 0 q8)))) * 1) (Sl.cs (Sl.mk n7 0 (takeL (n7 * 1) (dropL 0 q8))))))), hm, (.k [1, 3] [false] [.tmp 5 false, .tmp 6 false] [0, 1, 5, 6, 7] ⟨trE (by kernel_rfl) h16, trE (by kernel_rfl) h20, trivial⟩)⟩
          · refine .then ?_
            replace hm := bb_inv hm; obtain ⟨h21, hm⟩ := hm
            replace hm := oo_inv hm; obtain ⟨v4, h22, hm⟩ := hm
            replace hm := inv_toI hm; obtain ⟨x1, rfl, hm⟩ := hm
            refine .reg (eC 2 (keep (hp 3 [(oT tab0), (oC q1), (oC q5)]) (bb (an (Nat.blt k1 (Sl.n s2)) true) (some (fpV (k1 * 1) (Sl.cs s2))) none)) (keep_bb h21) (eD (keep (hp 3 [(oT tab0), (oC q1), (oC q5)]) (nthL (Sl.cs s2) (k1 * 1))) (keep_eq h22) (eE))) ?_
            refine .ghs (fr 55 [(0, (Sl.v 1 s2)), (1, (Sl.v 1 s3)), (5, (sc 1 0 1 n1 c1)), (6, (sc 2 0 1 n2 c4)), (7, (zI (Int.ofNat k1))), (8, (.slice none 0 0)), (9, (zI x1))]) (hp 3 [(oT tab0), (oC q1), (oC q5)]) (.k [1, 2] [false] [.tmp 5 false, .tmp 6 false] [0, 1, 5, 6, 7, 8, 9] ⟨trE (by kernel_rfl) h0, trE (by kernel_rfl) h12, trivial⟩) ?_
            refine .block ?_
            refine .loopM (v := v) (fun y : Sl × Sl × Nat × Nat × Nat × Nat × Int × Nat × Nat × Int × List Value × List Value × List Value => ((fr 55 [(0, (Sl.v 1 y.1)), (1, (Sl.v 1 y.2.1)), (5, (sc 1 0 1 y.2.2.1 y.2.2.2.1)), (6, (sc 2 0 1 y.2.2.2.2.1 y.2.2.2.2.2.1)), (7, (zI y.2.2.2.2.2.2.1)), (8, (sc 3 0 1 y.2.2.2.2.2.2.2.1 y.2.2.2.2.2.2.2.2.1)), (9, (zI y.2.2.2.2.2.2.2.2.2.1))]), (hp 4 [(oT tab0), (oC y.2.2.2.2.2.2.2.2.2.2.1), (oC y.2.2.2.2.2.2.2.2.2.2.2.1), (oC y.2.2.2.2.2.2.2.2.2.2.2.2)]))) (fun w y => l73_4 pu n (l73_1 pu n w0) w y.1 y.2.1 y.2.2.1 y.2.2.2.1 y.2.2.2.2.1 y.2.2.2.2.2.1 y.2.2.2.2.2.2.1 y.2.2.2.2.2.2.2.1 y.2.2.2.2.2.2.2.2.1 y.2.2.2.2.2.2.2.2.2.1 y.2.2.2.2.2.2.2.2.2.2.1 y.2.2.2.2.2.2.2.2.2.2.2.1 y.2.2.2.2.2.2.2.2.2.2.2.2) n ⟨(s2, s3, n1, c1, n2, c4, (Int.ofNat k1), 0, 0, x1, q1, q5, ([] : List Value)), hm, (.thaw 8 1 (by kernel_rfl) (.k [1, 2] [false] [.tmp 5 false, .tmp 6 false, .tmp 8 false] [0, 1, 5, 6, 7, 8, 9] ⟨trE (by kernel_rfl) h0, trE (by kernel_rfl) h12, trivial⟩))⟩ (fun _ => rfl) ?_
            rintro w1 ⟨s8, s9, n8, c10, n9, c17, z3, n10, c19, z4, q9, q10, q11⟩ hm
            replace hm : b73_4 pu n (l73_1 pu n w0) (l73_4 pu n (l73_1 pu n w0) w1) s8 s9 n8 c10 n9 c17 z3 n10 c19 z4 q9 q10 q11 = some v := hm
            unfold b73_4 at hm
            refine .then ?_
            refine .then ?_
            replace hm := bb_inv hm; obtain ⟨h23, hm⟩ := hm
            replace hm := bb_inv hm; obtain ⟨h24, hm⟩ := hm
            replace hm := oo_inv hm; obtain ⟨v5, h25, hm⟩ := hm
            replace hm := inv_vTup hm; obtain ⟨l1, rfl, hm⟩ := hm
            replace hm := ll_uncons hm; obtain ⟨v6, l19760_0, rfl, hm⟩ := hm
            replace hm := ll_uncons hm; obtain ⟨v7, l19760_1, rfl, hm⟩ := hm
            replace hm := ll_end hm; obtain ⟨rfl, hm⟩ := hm
            replace hm := inv_vBool hm; obtain ⟨b1, rfl, hm⟩ := hm
            replace hm := inv_vAgg hm; obtain ⟨q12, rfl, hm⟩ := hm
            replace hm := bb_inv hm; obtain ⟨h26, hm⟩ := hm
            refine .reg (eC 2 (objG tabs [[none], [none]] 2 [.tmp 0 false] [false] (pu 10551) [(sc 3 0 1 n10 c19), (zI z4)] (hp 4 [(oT tab0), (oC q9), (oC q10), (oC q11)])) (objG_eq (as := [(sc 3 0 1 n10 c19), (zI z4)]) (H1 := (hp 4 [(oT tab0), (oC q9), (oC q10), (oC q11)])) (gvAL_c (gvA_1 gv_n) (gvAL_c (gvA_1 gv_n) gvAL_n)) (objF_eq (H2 := (hp 4 [(oT tab0), (oC q9), (oC q10), (oC q12)])) (v := (zB b1)) (v' := (zB b1)) [some 0, some 3] [(false, some 3)] [(oC q11)] [(sc 1 0 1 n10 c19), (zI z4)] [(.agg ⟨q12⟩)] [(oC q12)] [some 0, none, none, some 1] [(false, (oC q12))] [(oC q12)] (trE (by kernel_rfl) (rootL h23 rfl)) (mapO_c (nO_list (anc := []) h24) mapO_n) (Eq.trans (by kernel_rfl) h25) (mapO_c rfl mapO_n) (mapO_c (bO_list h26) mapO_n))) (eE)) ?_
            replace hm := bb_inv hm; obtain ⟨h27, hm⟩ := hm
            replace hm := bb_inv hm; obtain ⟨h28, hm⟩ := hm
            replace hm := bb_inv hm; obtain ⟨h29, hm⟩ := hm
            refine .ghs (fr 55 [(0, (Sl.v 1 s8)), (1, (Sl.v 1 s9)), (5, (sc 1 0 1 n8 c10)), (6, (sc 2 0 1 n9 c17)), (7, (zI z3)), (8, (sc 3 0 1 n10 c19)), (9, (zI z4)), (30, (zB (nt b1)))]) (hp 4 [(oT tab0), (oC q9), (oC q10), (oC q12)]) (.k [1, 2, 3] [false] [.tmp 5 false, .tmp 6 false, .tmp 8 false] [0, 1, 5, 6, 7, 8, 9, 30] ⟨trE (by kernel_rfl) h27, trE (by kernel_rfl) h28, trE (by kernel_rfl) h29, trivial⟩) ?_
            replace hm := bb_cases hm; rcases hm with ⟨h30, hm⟩ | ⟨h30, hm⟩
            · refine .ifT (nt b1) (by kernel_rfl) h30 ?_
              refine .skip ?_
              refine .ghs (fr 55 [(0, (Sl.v 1 s8)), (1, (Sl.v 1 s9)), (5, (sc 1 0 1 n8 c10)), (6, (sc 2 0 1 n9 c17)), (7, (zI z3)), (8, (sc 3 0 1 n10 c19)), (9, (zI z4))]) (hp 4 [(oT tab0), (oC q9), (oC q10), (oC q12)]) (.k [1, 2, 3] [false] [.tmp 5 false, .tmp 6 false, .tmp 8 false] [0, 1, 5, 6, 7, 8, 9] ⟨trE (by kernel_rfl) h27, trE (by kernel_rfl) h28, trE (by kernel_rfl) h29, trivial⟩) ?_
              refine .block ?_
              refine .then ?_
              replace hm := bb_inv hm; obtain ⟨h31, hm⟩ := hm
              refine .reg (eC 3 (growD 1 8 n10 c19 1 3 q12 [(zI z4)] [] (hp 5 [(oT tab0), (oC q9), (oC q10), (oC q12), (oC [(zI z4)])])) (growD_eq h31) (eE)) ?_
              replace hm := bb_inv hm; obtain ⟨h32, hm⟩ := hm
              refine .ghs (fr 55 [(0, (Sl.v 1 s8)), (1, (Sl.v 1 s9)), (5, (sc 1 0 1 n8 c10)), (6, (sc 2 0 1 n9 c17)), (7, (zI z3)), (8, (sc 3 0 1 (n10 + 1) (d2 (n10 + 1)))), (9, (zI z4))]) (hp 4 [(oT tab0), (oC q9), (oC q10), (oC (appL (dropL 0 q12) [(zI z4)]))]) (.k [1, 2, 5] [false] [.tmp 5 false, .tmp 6 false, .tmp 8 false] [0, 1, 5, 6, 7, 8, 9] ⟨trE (by kernel_rfl) h27, trE (by kernel_rfl) h28, trE (by kernel_rfl) h32, trivial⟩) ?_
              refine .then ?_
              refine .rK ?_
              refine .ghs (fr 55 [(0, (Sl.v 1 s8)), (1, (Sl.v 1 s9)), (5, (sc 1 0 1 n8 c10)), (6, (sc 2 0 1 n9 c17)), (7, (zI z3)), (8, (sc 3 0 1 (n10 + 1) (d2 (n10 + 1)))), (9, (zI z4)), (10, (zI (0 : Int)))]) (hp 4 [(oT tab0), (oC q9), (oC q10), (oC (appL (dropL 0 q12) [(zI z4)]))]) (.k [1, 2, 3] [false] [.tmp 5 false, .tmp 6 false, .tmp 8 false] [0, 1, 5, 6, 7, 8, 9, 10] ⟨trE (by kernel_rfl) h27, trE (by kernel_rfl) h28, trE (by kernel_rfl) h32, trivial⟩) ?_
              refine .join (v := v) (fun y : Sl × Sl × Nat × Nat × Nat × Nat × Int × Nat × Nat × Int × List Value × List Value × List Value => ((fr 55 [(0, (Sl.v 1 y.1)), (1, (Sl.v 1 y.2.1)), (5, (sc 1 0 1 y.2.2.1 y.2.2.2.1)), (6, (sc 2 0 1 y.2.2.2.2.1 y.2.2.2.2.2.1)), (7, (zI y.2.2.2.2.2.2.1)), (8, (sc 3 0 1 y.2.2.2.2.2.2.2.1 y.2.2.2.2.2.2.2.2.1)), (10, (zI y.2.2.2.2.2.2.2.2.2.1))]), (hp 4 [(oT tab0), (oC y.2.2.2.2.2.2.2.2.2.2.1), (oC y.2.2.2.2.2.2.2.2.2.2.2.1), (oC y.2.2.2.2.2.2.2.2.2.2.2.2)]))) (fun y => m73_5 pu n (l73_1 pu n w0) (l73_4 pu n (l73_1 pu n w0) w1) y.1 y.2.1 y.2.2.1 y.2.2.2.1 y.2.2.2.2.1 y.2.2.2.2.2.1 y.2.2.2.2.2.2.1 y.2.2.2.2.2.2.2.1 y.2.2.2.2.2.2.2.2.1 y.2.2.2.2.2.2.2.2.2.1 y.2.2.2.2.2.2.2.2.2.2.1 y.2.2.2.2.2.2.2.2.2.2.2.1 y.2.2.2.2.2.2.2.2.2.2.2.2) ?_ ?_
              · rintro ⟨s10, s11, n11, c21, n12, c22, z5, n13, c23, z6, q13, q14, q15⟩ hm
                unfold m73_5 at hm
                replace hm := oo_inv hm; obtain ⟨k2, h33, hm⟩ := hm
                obtain rfl := toN_some h33
                replace hm := bb_inv hm; obtain ⟨h34, hm⟩ := hm
                replace hm := oo_inv hm; obtain ⟨v8, h35, hm⟩ := hm
                replace hm := inv_toI hm; obtain ⟨x2, rfl, hm⟩ := hm
                refine .reg (eC 2 (keep (hp 4 [(oT tab0), (oC q13), (oC q14), (oC q15)]) (bb (an (Nat.blt k2 (Sl.n s11)) true) (some (fpV (k2 * 1) (Sl.cs s11))) none)) (keep_bb h34) (eD (keep (hp 4 [(oT tab0), (oC q13), (oC q14), (oC q15)]) (nthL (Sl.cs s11) (k2 * 1))) (keep_eq h35) (eE))) ?_
                replace hm := bb_inv hm; obtain ⟨h36, hm⟩ := hm
                replace hm := bb_inv hm; obtain ⟨h37, hm⟩ := hm
                replace hm := bb_inv hm; obtain ⟨h38, hm⟩ := hm
                exact ⟨(s10, s11, n11, c21, n12, c22, z5, n13, c23, x2, q13, q14, q15), hm, (.k [1, 2, 3] [false] [.tmp 5 false, .tmp 6 false, .tmp 8 false] [0, 1, 5, 6, 7, 8, 9] ⟨trE (by kernel_rfl) h36, trE (by kernel_rfl) h37, trE (by kernel_rfl) h38, trivial⟩)⟩
              · refine .block ?_
                refine .loopM (v := v) (fun y : Sl × Sl × Nat × Nat × Nat × Nat × Int × Nat × Nat × Int × Int × List Value × List Value × List Value => ((fr 55 [(0, (Sl.v 1 y.1)), (1, (Sl.v 1 y.2.1)), (5, (sc 1 0 1 y.2.2.1 y.2.2.2.1)), (6, (sc 2 0 1 y.2.2.2.2.1 y.2.2.2.2.2.1)), (7, (zI y.2.2.2.2.2.2.1)), (8, (sc 3 0 1 y.2.2.2.2.2.2.2.1 y.2.2.2.2.2.2.2.2.1)), (9, (zI y.2.2.2.2.2.2.2.2.2.1)), (10, (zI y.2.2.2.2.2.2.2.2.2.2.1))]), (hp 4 [(oT tab0), (oC y.2.2.2.2.2.2.2.2.2.2.2.1), (oC y.2.2.2.2.2.2.2.2.2.2.2.2.1), (oC y.2.2.2.2.2.2.2.2.2.2.2.2.2)]))) (fun w y => l73_6 pu n (l73_1 pu n w0) (l73_4 pu n (l73_1 pu n w0) w1) w y.1 y.2.1 y.2.2.1 y.2.2.2.1 y.2.2.2.2.1 y.2.2.2.2.2.1 y.2.2.2.2.2.2.1 y.2.2.2.2.2.2.2.1 y.2.2.2.2.2.2.2.2.1 y.2.2.2.2.2.2.2.2.2.1 y.2.2.2.2.2.2.2.2.2.2.1 y.2.2.2.2.2.2.2.2.2.2.2.1 y.2.2.2.2.2.2.2.2.2.2.2.2.1 y.2.2.2.2.2.2.2.2.2.2.2.2.2) n ⟨(s8, s9, n8, c10, n9, c17, z3, (n10 + 1), (d2 (n10 + 1)), z4, (0 : Int), q9, q10, (appL (dropL 0 q12) [(zI z4)])), hm, (.k [1, 2, 3] [false] [.tmp 5 false, .tmp 6 false, .tmp 8 false] [0, 1, 5, 6, 7, 8, 9, 10] ⟨trE (by kernel_rfl) h27, trE (by kernel_rfl) h28, trE (by kernel_rfl) h32, trivial⟩)⟩ (fun _ => rfl) ?_
                rintro w2 ⟨s12, s13, n14, c24, n15, c28, z7, n16, c33, z8, z9, q16, q17, q18⟩ hm
                replace hm : b73_6 pu n (l73_1 pu n w0) (l73_4 pu n (l73_1 pu n w0) w1) (l73_6 pu n (l73_1 pu n w0) (l73_4 pu n (l73_1 pu n w0) w1) w2) s12 s13 n14 c24 n15 c28 z7 n16 c33 z8 z9 q16 q17 q18 = some v := hm
                unfold b73_6 at hm
                refine .then ?_
                refine .then ?_
                replace hm := oo_inv hm; obtain ⟨k3, h39, hm⟩ := hm
                obtain rfl := toN_some h39
                replace hm := bb_inv hm; obtain ⟨h40, hm⟩ := hm
                replace hm := oo_inv hm; obtain ⟨v9, h41, hm⟩ := hm
                replace hm := inv_toI hm; obtain ⟨x3, rfl, hm⟩ := hm
                refine .reg (eC 2 (keep (hp 4 [(oT tab0), (oC q16), (oC q17), (oC q18)]) (bb (an (Nat.blt k3 (Sl.n s12)) true) (some (fpV (k3 * 1) (Sl.cs s12))) none)) (keep_bb h40) (eD (keep (hp 4 [(oT tab0), (oC q16), (oC q17), (oC q18)]) (nthL (Sl.cs s12) (k3 * 1))) (keep_eq h41) (eE))) ?_
                replace hm := bb_inv hm; obtain ⟨h42, hm⟩ := hm
                replace hm := bb_inv hm; obtain ⟨h43, hm⟩ := hm
                replace hm := bb_inv hm; obtain ⟨h44, hm⟩ := hm
                refine .ghs (fr 55 [(0, (Sl.v 1 s12)), (1, (Sl.v 1 s13)), (5, (sc 1 0 1 n14 c24)), (6, (sc 2 0 1 n15 c28)), (7, (zI z7)), (8, (sc 3 0 1 n16 c33)), (9, (zI z8)), (10, (zI (Int.ofNat k3))), (40, (zB (nt (ieq x3 z8))))]) (hp 4 [(oT tab0), (oC q16), (oC q17), (oC q18)]) (.k [1, 2, 3] [false] [.tmp 5 false, .tmp 6 false, .tmp 8 false] [0, 1, 5, 6, 7, 8, 9, 10, 40] ⟨trE (by kernel_rfl) h42, trE (by kernel_rfl) h43, trE (by kernel_rfl) h44, trivial⟩) ?_
                replace hm := bb_cases hm; rcases hm with ⟨h45, hm⟩ | ⟨h45, hm⟩
                · refine .ifT (nt (ieq x3 z8)) (by kernel_rfl) h45 ?_
                  refine .skip ?_
                  refine .ghs (fr 55 [(0, (Sl.v 1 s12)), (1, (Sl.v 1 s13)), (5, (sc 1 0 1 n14 c24)), (6, (sc 2 0 1 n15 c28)), (7, (zI z7)), (8, (sc 3 0 1 n16 c33)), (9, (zI z8)), (10, (zI (Int.ofNat k3)))]) (hp 4 [(oT tab0), (oC q16), (oC q17), (oC q18)]) (.k [1, 2, 3] [false] [.tmp 5 false, .tmp 6 false, .tmp 8 false] [0, 1, 5, 6, 7, 8, 9, 10] ⟨trE (by kernel_rfl) h42, trE (by kernel_rfl) h43, trE (by kernel_rfl) h44, trivial⟩) ?_
                  refine .block ?_
                  refine .rK ?_
                  exact ⟨(s12, s13, n14, c24, n15, c28, z7, n16, c33, z8, (wrapF .i64 (Int.add (Int.ofNat k3) (1 : Int))), q16, q17, q18), hm, (.k [1, 2, 3] [false] [.tmp 5 false, .tmp 6 false, .tmp 8 false] [0, 1, 5, 6, 7, 8, 9, 10] ⟨trE (by kernel_rfl) h42, trE (by kernel_rfl) h43, trE (by kernel_rfl) h44, trivial⟩)⟩
                · refine .ifF (nt (ieq x3 z8)) (by kernel_rfl) h45 ?_
                  refine .exit ?_
                  exact ⟨(s12, s13, n14, c24, n15, c28, z7, n16, c33, (Int.ofNat k3), q16, q17, q18), hm, (.k [1, 2, 3] [false] [.tmp 5 false, .tmp 6 false, .tmp 8 false] [0, 1, 5, 6, 7, 8, 10] ⟨trE (by kernel_rfl) h42, trE (by kernel_rfl) h43, trE (by kernel_rfl) h44, trivial⟩)⟩
            · refine .ifF (nt b1) (by kernel_rfl) h30 ?_
              refine .exit ?_
              exact ⟨(s8, s9, n8, c10, n9, c17, z3, n10, c19, q9, q10, q12), hm, (.k [1, 2, 3] [false] [.tmp 5 false, .tmp 6 false, .tmp 8 false] [0, 1, 5, 6, 7, 8] ⟨trE (by kernel_rfl) h27, trE (by kernel_rfl) h28, trE (by kernel_rfl) h29, trivial⟩)⟩
    · refine .ifF (ilt z0 (Int.ofNat (Sl.n s2))) (by kernel_rfl) h2 ?_
      refine .exit ?_
      exact ⟨(n1, c1, q1), hm, (.k [1] [false] [.tmp 5 false] [5] ⟨trE (by kernel_rfl) h0, trivial⟩)⟩
end
end Go.MdHM
