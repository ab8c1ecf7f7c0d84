/- Made from wip. -/
import Derived.Test.YtlgmapibifphaaaDoorMdRMod0x

set_option maxRecDepth 100000
set_option maxHeartbeats 20000000
set_option linter.unusedVariables false
namespace Go.MdRM
open Go.Sp Go.MdR
noncomputable section
def m19_0 (pu : PureF) (n : Nat) (s0 : Sl) (n0 c0 : Nat) (z0 : Int) (s1 s2 : Sl) (q0 : LV) : OV :=
 (oo (pu 56 [(.agg ⟨[.int .i64 z0, Sl.v 1 s1, Sl.v 1 s2]⟩)]) none fun v0 => (oo (toSl 1 v0) none fun s3 => (bb (ilt (Int.ofNat n0) (Int.ofNat (Sl.n s3))) (some (.tuple ⟨[(.int .i64 (0 : Int)), (.int .i64 (21 : Int))]⟩)) (some (.tuple ⟨[(.int .i64 (Int.ofNat (Sl.n s0))), (.int .i64 (0 : Int))]⟩)))))
def m19_2 (pu : PureF) (n : Nat) (ih0 : Sl → Nat → Nat → Int → Int → Sl → Sl → LV → OV) (s0 : Sl) (n0 c0 : Nat) (z0 z1 : Int) (s1 s2 : Sl) (q0 : LV) : OV :=
 (bb (allL closed1 q0) (ih0 s0 n0 c0 (wrapF .i64 (Int.add z0 (1 : Int))) z1 s1 s2 q0) none)
def b19_4 (pu : PureF) (n : Nat) (ih0 : Sl → Nat → Nat → Int → Int → Sl → Sl → LV → OV) (ih1 : Sl → Nat → Nat → Int → Sl → Int → Int → Sl → Sl → LV → OV) (s0 : Sl) (n0 c0 : Nat) (z0 : Int) (s1 : Sl) (z1 z2 : Int) (s2 s3 : Sl) (q0 : LV) : OV :=
 (bb (allL closed1 q0) (bb (ilt z1 (Int.ofNat (Sl.n s1))) (oo (toN z1) none fun k1 => (bb (an (Nat.blt k1 (Sl.n s1)) true) (oo (nthL (Sl.cs s1) (k1 * 1)) none fun v0 => (oo (toI .i64 v0) none fun x0 => (oo (toN x0) none fun k2 => (bb (an (Nat.blt k2 (Sl.n s3)) true) (oo (nthL (Sl.cs s3) (k2 * 1)) none fun v1 => (oo (toI .i64 v1) none fun x1 => (bb (nt (ieq (Int.ofNat (Sl.n s1)) (0 : Int))) (oo (toN (Int.tmod (wrapF .i64 (Int.add (Int.ofNat k1) (1 : Int))) (Int.ofNat (Sl.n s1)))) none fun k3 => (bb (an (Nat.blt k3 (Sl.n s1)) true) (oo (nthL (Sl.cs s1) (k3 * 1)) none fun v2 => (oo (toI .i64 v2) none fun x2 => (oo (toN x2) none fun k4 => (bb (an (Nat.blt k4 (Sl.n s2)) true) (oo (nthL (Sl.cs s2) (k4 * 1)) none fun v3 => (oo (toI .i64 v3) none fun x3 => (bb (nt (ieq x1 x3)) (some (.tuple ⟨[(.int .i64 (0 : Int)), (.int .i64 (14 : Int))]⟩)) (ih1 s0 n0 c0 z0 s1 (wrapF .i64 (Int.add (Int.ofNat k1) (1 : Int))) z2 s2 s3 q0)))) none)))) none)) none))) none)))) none)) (m19_2 pu n ih0 s0 n0 c0 z0 z2 s2 s3 q0)) none)
def l19_4 (pu : PureF) (n : Nat) (ih0 : Sl → Nat → Nat → Int → Int → Sl → Sl → LV → OV) (w : Nat) : Sl → Nat → Nat → Int → Sl → Int → Int → Sl → Sl → LV → OV :=
 Nat.rec (motive := fun _ => Sl → Nat → Nat → Int → Sl → Int → Int → Sl → Sl → LV → OV) (fun _ _ _ _ _ _ _ _ _ _ => none) (fun _ ih1 => b19_4 pu n ih0 ih1) w
def m19_3 (pu : PureF) (n : Nat) (ih0 : Sl → Nat → Nat → Int → Int → Sl → Sl → LV → OV) (s0 : Sl) (n0 c0 : Nat) (z0 : Int) (s1 : Sl) (z1 : Int) (s2 s3 : Sl) (q0 : LV) : OV :=
 (bb (allL closed1 q0) (l19_4 pu n ih0 n s0 n0 c0 z0 s1 (0 : Int) z1 s2 s3 q0) none)
def b19_5 (pu : PureF) (n : Nat) (ih0 : Sl → Nat → Nat → Int → Int → Sl → Sl → LV → OV) (ih1 : Sl → Nat → Nat → Int → Sl → Int → Int → Sl → Sl → LV → OV) (s0 : Sl) (n0 c0 : Nat) (z0 : Int) (s1 : Sl) (z1 z2 : Int) (s2 s3 : Sl) (q0 : LV) : OV :=
 (bb (allL closed1 q0) (bb (ilt z1 (Int.ofNat (Sl.n s1))) (oo (toN z1) none fun k1 => (bb (an (Nat.blt k1 (Sl.n s1)) true) (oo (nthL (Sl.cs s1) (k1 * 1)) none fun v0 => (oo (toI .i64 v0) none fun x0 => (oo (pu 54 [.int .i64 x0, (.int .i64 (0 : Int)), (.int .i64 (wrapF .i64 (Int.sub (Int.ofNat (Sl.n s2)) (1 : Int))))]) none fun v1 => (oo (vBool v1) none fun b0 => (bb (nt b0) (some (.tuple ⟨[(.int .i64 (0 : Int)), (.int .i64 (2 : Int))]⟩)) (bb (an (Nat.blt k1 (Sl.n s1)) true) (oo (nthL (Sl.cs s1) (k1 * 1)) none fun v2 => (oo (toI .i64 v2) none fun x1 => (bb (orr (Nat.ble 2 c0) (nilL q0)) (bb (allL closed1 q0) (oo (pu 10550 [(.slice (some ⟨1, 0, some 1⟩) n0 c0), .int .i64 x1, (.agg ⟨q0⟩)]) none fun v3 => (oo (vTup v3) none fun l0 => (ll l0 none fun v4 l0 => (ll l0 none fun v5 l0 => (ll l0 (oo (vBool v4) none fun b1 => (oo (vAgg v5) none fun q1 => (bb (allL closed1 q1) (bb (allL closed1 q1) (bb b1 (some (.tuple ⟨[(.int .i64 (0 : Int)), (.int .i64 (6 : Int))]⟩)) (bb (an (Nat.blt k1 (Sl.n s1)) true) (oo (nthL (Sl.cs s1) (k1 * 1)) none fun v6 => (oo (toI .i64 v6) none fun x2 => (oo (toN x2) none fun k2 => (bb (an (Nat.blt k2 (Sl.n s2)) true) (oo (nthL (Sl.cs s2) (k2 * 1)) none fun v7 => (oo (toI .i64 v7) none fun x3 => (bb (an (Nat.blt k1 (Sl.n s1)) true) (oo (nthL (Sl.cs s1) (k1 * 1)) none fun v8 => (oo (toI .i64 v8) none fun x4 => (oo (toN x4) none fun k3 => (bb (an (Nat.blt k3 (Sl.n s3)) true) (oo (nthL (Sl.cs s3) (k3 * 1)) none fun v9 => (oo (toI .i64 v9) none fun x5 => (bb (ieq x3 x5) (some (.tuple ⟨[(.int .i64 (0 : Int)), (.int .i64 (13 : Int))]⟩)) (bb (an (Nat.blt k1 (Sl.n s1)) true) (oo (nthL (Sl.cs s1) (k1 * 1)) none fun v10 => (oo (toI .i64 v10) none fun x6 => (bb (growC 1 8 n0 c0 1 q1) (bb (allL closed1 (appL (dropL 0 q1) [.int .i64 x6])) (ih1 s0 (n0 + 1) (2 * (n0 + 1) + bb false 1 0) z0 s1 (wrapF .i64 (Int.add (Int.ofNat k1) (1 : Int))) z2 s2 s3 (appL (dropL 0 q1) [.int .i64 x6])) none) none))) none)))) none)))) none))) none)))) none)) none) none))) fun _ _ => none))))) none) none))) none)))))) none)) (m19_3 pu n ih0 s0 n0 c0 z0 s1 z2 s2 s3 q0)) none)
def l19_5 (pu : PureF) (n : Nat) (ih0 : Sl → Nat → Nat → Int → Int → Sl → Sl → LV → OV) (w : Nat) : Sl → Nat → Nat → Int → Sl → Int → Int → Sl → Sl → LV → OV :=
 Nat.rec (motive := fun _ => Sl → Nat → Nat → Int → Sl → Int → Int → Sl → Sl → LV → OV) (fun _ _ _ _ _ _ _ _ _ _ => none) (fun _ ih1 => b19_5 pu n ih0 ih1) w
def b19_1 (pu : PureF) (n : Nat) (ih0 : Sl → Nat → Nat → Int → Int → Sl → Sl → LV → OV) (s0 : Sl) (n0 c0 : Nat) (z0 z1 : Int) (s1 s2 : Sl) (q0 : LV) : OV :=
 (bb (allL closed1 q0) (bb (ilt z0 (Int.ofNat (Sl.n s0))) (oo (toN z0) none fun k1 => (bb (an (Nat.blt k1 (Sl.n s0)) true) (oo (nthL (Sl.cs s0) (k1 * 1)) none fun v0 => (oo (toSl 1 v0) none fun s3 => (bb (ieq (Int.ofNat (Sl.n s3)) (0 : Int)) (some (.tuple ⟨[(.int .i64 (0 : Int)), (.int .i64 (4 : Int))]⟩)) (l19_5 pu n ih0 n s0 n0 c0 (Int.ofNat k1) s3 (0 : Int) z1 s1 s2 q0)))) none)) (m19_0 pu n s0 n0 c0 z1 s1 s2 q0)) none)
def l19_1 (pu : PureF) (n w : Nat) : Sl → Nat → Nat → Int → Int → Sl → Sl → LV → OV :=
 Nat.rec (motive := fun _ => Sl → Nat → Nat → Int → Int → Sl → Sl → LV → OV) (fun _ _ _ _ _ _ _ _ => none) (fun _ ih0 => b19_1 pu n ih0) w
def m19_ (pu : PureF) (n : Nat) (x0 : Int) (s0 s1 s2 : Sl) : OV :=
 (oo (pu 49 [(.agg ⟨[.int .i64 x0, Sl.v 1 s0, Sl.v 1 s1]⟩)]) none fun v0 => (oo (toI .i64 v0) none fun x1 => (bb (nt (ieq x1 (0 : Int))) (some (.tuple ⟨[(.int .i64 (0 : Int)), .int .i64 x1]⟩)) (l19_1 pu n n s2 0 0 (0 : Int) x0 s0 s1 ([] : LV)))))
def m19 (pu : PureF) (n : Nat) (args : LV) : OV :=
 (ll args none fun a0 args => (ll args none fun a1 args => (ll args (oo (vAgg a0) none fun l0 => (ll l0 none fun v0 l0 => (ll l0 none fun v1 l0 => (ll l0 none fun v2 l0 => (ll l0 (oo (toI .i64 v0) none fun x0 => (oo (toSl 1 v1) none fun s0 => (oo (toSl 1 v2) none fun s1 => (oo (toSl 1 a1) none fun s2 => (m19_ pu n x0 s0 s1 s2))))) fun _ _ => none))))) fun _ _ => none)))
theorem w19_0 (pu : PureF) (n : Nat) (s0 : Sl) (n0 c0 : Nat) (z0 : Int) (s1 s2 : Sl) (q0 : LV) {v : Value} (hm : m19_0 pu n s0 n0 c0 z0 s1 s2 q0 = some v) : Run tt (callP tabs isP pu (inl pu)) 1 c19_81 (fr 111 [(1, Sl.v 1 s0), (2, pt 1 0), (7, sc 2 0 1 n0 c0)]) (hT 3 [(oC [zI z0, Sl.v 1 s1, Sl.v 1 s2]), oC q0]) (Fin tt 1 [.tmp 4, .tmp 5] v) := by
 unfold m19_0 at hm
 refine .then ?_
 refine .then ?_
 replace hm := oo_inv hm; obtain ⟨v0, h0, hm⟩ := hm
 replace hm := inv_toSl hm; obtain ⟨s3, rfl, hm⟩ := hm
 refine .reg (eC 3 ((oo (pu 56 [(.agg ⟨[zI z0, Sl.v 1 s1, Sl.v 1 s2]⟩)]) none fun v => some (v, (hT 3 [(oC [zI z0, Sl.v 1 s1, Sl.v 1 s2]), oC q0])))) (call_eq h0) (eE)) ?_
 refine .ghs (fr 111 [(1, Sl.v 1 s0), (108, (zB (ilt (Int.ofNat n0) (Int.ofNat (Sl.n s3)))))]) (hp 1 [(oT tab0)]) (.k0 [false] [] [1, 108]) ?_
 replace hm := bb_cases hm; rcases hm with ⟨h1, hm⟩ | ⟨h1, hm⟩
 ·refine .ifT (ilt (Int.ofNat n0) (Int.ofNat (Sl.n s3))) (by kernel_rfl) h1 ?_
  refine .then (.rK ?_)
  refine .ghs (fr 111 [(4, (zI (0 : Int))), (5, (zI (21 : Int)))]) (hp 1 [(oT tab0)]) (.k0 [false] [] [4, 5]) ?_
  refine .ret ?_
  exact fin_ret (.tuple ⟨[(zI (0 : Int)), (zI (21 : Int))]⟩) (by kernel_rfl) (by kernel_rfl) hm
 ·refine .ifF (ilt (Int.ofNat n0) (Int.ofNat (Sl.n s3))) (by kernel_rfl) h1 ?_
  refine .skip ?_
  refine .ghs (fr 111 [(1, Sl.v 1 s0)]) (hp 1 [(oT tab0)]) (.k0 [false] [] [1]) ?_
  refine .then (.rK ?_)
  refine .ghs (fr 111 [(4, (zI (Int.ofNat (Sl.n s0)))), (5, (zI (0 : Int)))]) (hp 1 [(oT tab0)]) (.k0 [false] [] [4, 5]) ?_
  refine .ret ?_
  exact fin_ret (.tuple ⟨[(zI (Int.ofNat (Sl.n s0))), (zI (0 : Int))]⟩) (by kernel_rfl) (by kernel_rfl) hm
theorem r19 {call : CallF} (pu : PureF) (n : Nat) (hcall : call = callP tabs isP pu (inl pu)) {args : LV} {v : Value} (hm : m19 pu n args = some v) (_ : ∀ x ∈ args, closed2 x = true) : args.length ≤ 111 ∧ Run tt call 1 c19_86 (Fr.made 111 args) (pureHeap tabs) (Fin tt 1 [.tmp 4, .tmp 5] v) := by
 subst hcall
 unfold m19 at hm
 replace hm := ll_uncons hm; obtain ⟨a0, args_0, rfl, hm⟩ := hm
 replace hm := ll_uncons hm; obtain ⟨a1, args_1, rfl, hm⟩ := hm
 replace hm := ll_end hm; obtain ⟨rfl, hm⟩ := hm
 replace hm := inv_vAgg hm; obtain ⟨l0, rfl, hm⟩ := hm
 replace hm := ll_uncons hm; obtain ⟨v0, l1239_0, rfl, hm⟩ := hm
 replace hm := ll_uncons hm; obtain ⟨v1, l1239_1, rfl, hm⟩ := hm
 replace hm := ll_uncons hm; obtain ⟨v2, l1239_2, rfl, hm⟩ := hm
 replace hm := ll_end hm; obtain ⟨rfl, hm⟩ := hm
 replace hm := inv_toI hm; obtain ⟨x0, rfl, hm⟩ := hm
 replace hm := inv_toSl hm; obtain ⟨s0, rfl, hm⟩ := hm
 replace hm := inv_toSl hm; obtain ⟨s1, rfl, hm⟩ := hm
 replace hm := inv_toSl hm; obtain ⟨s2, rfl, hm⟩ := hm
 unfold m19_ at hm
 refine ⟨by simp, ?_⟩
 refine .same (F' := (fr 111 [(0, (.agg ⟨[zI x0, Sl.v 1 s0, Sl.v 1 s1]⟩)), (1, Sl.v 1 s2)])) (H' := (hp 1 [(oT tab0)])) (by kernel_rfl) (by kernel_rfl) ?_
 refine .then (.rK ?_)
 refine .ghs (fr 111 [(1, Sl.v 1 s2), (2, pt 1 0)]) (hT 2 [(oC [zI x0, Sl.v 1 s0, Sl.v 1 s1])]) (.k0 [false] [.tmp 2 false] [1, 2]) ?_
 refine .then ?_
 replace hm := oo_inv hm; obtain ⟨v3, h0, hm⟩ := hm
 replace hm := inv_toI hm; obtain ⟨x1, rfl, hm⟩ := hm
 refine .reg (eC 1 ((oo (pu 49 [(.agg ⟨[zI x0, Sl.v 1 s0, Sl.v 1 s1]⟩)]) none fun v => some (v, (hT 2 [(oC [zI x0, Sl.v 1 s0, Sl.v 1 s1])])))) (call_eq h0) (eE)) ?_
 refine .ghs (fr 111 [(1, Sl.v 1 s2), (2, pt 1 0), (6, zI x1)]) (hT 2 [(oC [zI x0, Sl.v 1 s0, Sl.v 1 s1])]) (.k0 [false] [.tmp 2 false] [1, 2, 6]) ?_
 refine .then ?_
 refine .then (.rK ?_)
 refine .ghs (fr 111 [(1, Sl.v 1 s2), (2, pt 1 0), (6, zI x1), (15, (zB (nt (ieq x1 (0 : Int)))))]) (hT 2 [(oC [zI x0, Sl.v 1 s0, Sl.v 1 s1])]) (.k0 [false] [.tmp 2 false] [1, 2, 6, 15]) ?_
 replace hm := bb_cases hm; rcases hm with ⟨h1, hm⟩ | ⟨h1, hm⟩
 ·refine .ifT (nt (ieq x1 (0 : Int))) (by kernel_rfl) h1 ?_
  refine .then (.rK ?_)
  refine .ghs (fr 111 [(4, (zI (0 : Int))), (5, zI x1)]) (hp 1 [(oT tab0)]) (.k0 [false] [] [4, 5]) ?_
  refine .ret ?_
  exact fin_ret (.tuple ⟨[(zI (0 : Int)), zI x1]⟩) (by kernel_rfl) (by kernel_rfl) hm
 ·refine .ifF (nt (ieq x1 (0 : Int))) (by kernel_rfl) h1 ?_
  refine .skip ?_
  refine .ghs (fr 111 [(1, Sl.v 1 s2), (2, pt 1 0)]) (hT 2 [(oC [zI x0, Sl.v 1 s0, Sl.v 1 s1])]) (.k0 [false] [.tmp 2 false] [1, 2]) ?_
  refine .then (.rK ?_)
  refine .ghs (fr 111 [(1, Sl.v 1 s2), (2, pt 1 0), (7, (.slice none 0 0))]) (hT 2 [(oC [zI x0, Sl.v 1 s0, Sl.v 1 s1])]) (.k0 [false] [.tmp 2 false] [1, 2, 7]) ?_
  refine .join (v := v) (fun y : Sl × Nat × Nat × Int × Sl × Sl × LV => ((fr 111 [(1, (Sl.v 1 y.1)), (2, pt 1 0), (7, (sc 2 0 1 y.2.1 y.2.2.1))]), (hT 3 [(oC [(zI y.2.2.2.1), (Sl.v 1 y.2.2.2.2.1), (Sl.v 1 y.2.2.2.2.2.1)]), (oC y.2.2.2.2.2.2)]))) (fun y => m19_0 pu n y.1 y.2.1 y.2.2.1 y.2.2.2.1 y.2.2.2.2.1 y.2.2.2.2.2.1 y.2.2.2.2.2.2) ?_ ?_
  ·rintro ⟨s3, n0, c0, z0, s4, s5, q0⟩ hm
   exact w19_0 pu n s3 n0 c0 z0 s4 s5 q0 hm
  ·refine .then (.rK ?_)
   refine .ghs (fr 111 [(1, Sl.v 1 s2), (2, pt 1 0), (7, (.slice none 0 0)), (8, (zI (0 : Int)))]) (hT 2 [(oC [zI x0, Sl.v 1 s0, Sl.v 1 s1])]) (.k0 [false] [.tmp 2 false] [1, 2, 7, 8]) ?_
   refine .block ?_
   refine .loopM (v := v) (fun y : Sl × Nat × Nat × Int × Int × Sl × Sl × LV => ((fr 111 [(1, (Sl.v 1 y.1)), (2, pt 1 0), (7, (sc 2 0 1 y.2.1 y.2.2.1)), (8, (zI y.2.2.2.1))]), (hT 3 [(oC [(zI y.2.2.2.2.1), (Sl.v 1 y.2.2.2.2.2.1), (Sl.v 1 y.2.2.2.2.2.2.1)]), (oC y.2.2.2.2.2.2.2)]))) (fun w y => l19_1 pu n w y.1 y.2.1 y.2.2.1 y.2.2.2.1 y.2.2.2.2.1 y.2.2.2.2.2.1 y.2.2.2.2.2.2.1 y.2.2.2.2.2.2.2) n ⟨(s2, 0, 0, (0 : Int), x0, s0, s1, ([] : LV)), hm, (.thaw 7 1 (by kernel_rfl) (.k0 [false] [.tmp 2 false, .tmp 7 false] [1, 2, 7, 8]))⟩ (fun _ => rfl) ?_
   rintro w0 ⟨s6, n1, c1, z1, z2, s7, s8, q1⟩ hm
   replace hm : b19_1 pu n (l19_1 pu n w0) s6 n1 c1 z1 z2 s7 s8 q1 = some v := hm
   unfold b19_1 at hm
   refine .then ?_
   refine .then (.rK ?_)
   replace hm := bb_inv hm; obtain ⟨h2, hm⟩ := hm
   refine .ghs (fr 111 [(1, Sl.v 1 s6), (2, pt 1 0), (7, sc 2 0 1 n1 c1), (8, zI z1), (20, (zB (ilt z1 (Int.ofNat (Sl.n s6)))))]) (hT 3 [(oC [zI z2, Sl.v 1 s7, Sl.v 1 s8]), oC q1]) (.k [2] [false] [.tmp 2 false, .tmp 7 false] [1, 2, 7, 8, 20] ⟨trF h2, trivial⟩) ?_
   replace hm := bb_cases hm; rcases hm with ⟨h3, hm⟩ | ⟨h3, hm⟩
   ·refine .ifT (ilt z1 (Int.ofNat (Sl.n s6))) (by kernel_rfl) h3 ?_
    refine .skip ?_
    refine .ghs (fr 111 [(1, Sl.v 1 s6), (2, pt 1 0), (7, sc 2 0 1 n1 c1), (8, zI z1)]) (hT 3 [(oC [zI z2, Sl.v 1 s7, Sl.v 1 s8]), oC q1]) (.k [2] [false] [.tmp 2 false, .tmp 7 false] [1, 2, 7, 8] ⟨trF h2, trivial⟩) ?_
    refine .join (v := v) (fun y : Sl × Nat × Nat × Int × Int × Sl × Sl × LV => ((fr 111 [(1, (Sl.v 1 y.1)), (2, pt 1 0), (7, (sc 2 0 1 y.2.1 y.2.2.1)), (8, (zI y.2.2.2.1))]), (hT 3 [(oC [(zI y.2.2.2.2.1), (Sl.v 1 y.2.2.2.2.2.1), (Sl.v 1 y.2.2.2.2.2.2.1)]), (oC y.2.2.2.2.2.2.2)]))) (fun y => m19_2 pu n (l19_1 pu n w0) y.1 y.2.1 y.2.2.1 y.2.2.2.1 y.2.2.2.2.1 y.2.2.2.2.2.1 y.2.2.2.2.2.2.1 y.2.2.2.2.2.2.2) ?_ ?_
    ·rintro ⟨s9, n2, c2, z3, z4, s10, s11, q2⟩ hm
     unfold m19_2 at hm
     refine .rK ?_
     replace hm := bb_inv hm; obtain ⟨h4, hm⟩ := hm
     exact ⟨(s9, n2, c2, (wrapF .i64 (Int.add z3 (1 : Int))), z4, s10, s11, q2), hm, (.k [2] [false] [.tmp 2 false, .tmp 7 false] [1, 2, 7, 8] ⟨trF h4, trivial⟩)⟩
    ·refine .block ?_
     refine .then ?_
     replace hm := oo_inv hm; obtain ⟨k1, h5, hm⟩ := hm
     obtain rfl := toN_some h5
     replace hm := bb_inv hm; obtain ⟨h6, hm⟩ := hm
     replace hm := oo_inv hm; obtain ⟨v4, h7, hm⟩ := hm
     replace hm := inv_toSl hm; obtain ⟨s12, rfl, hm⟩ := hm
     refine .reg (eC 2 (keep (hT 3 [(oC [zI z2, Sl.v 1 s7, Sl.v 1 s8]), oC q1]) (bb (an (Nat.blt k1 (Sl.n s6)) true) (some (fpV (k1 * 1) (Sl.cs s6))) none)) (keep_bb h6) (eD (keep (hT 3 [(oC [zI z2, Sl.v 1 s7, Sl.v 1 s8]), oC q1]) (nthL (Sl.cs s6) (k1 * 1))) (keep_eq h7) (eE))) ?_
     refine .ghs (fr 111 [(1, Sl.v 1 s6), (2, pt 1 0), (7, sc 2 0 1 n1 c1), (8, (zI (Int.ofNat k1))), (9, Sl.v 1 s12)]) (hT 3 [(oC [zI z2, Sl.v 1 s7, Sl.v 1 s8]), oC q1]) (.k [2] [false] [.tmp 2 false, .tmp 7 false] [1, 2, 7, 8, 9] ⟨trF h2, trivial⟩) ?_
     refine .then ?_
     refine .then (.rK ?_)
     refine .ghs (fr 111 [(1, Sl.v 1 s6), (2, pt 1 0), (7, sc 2 0 1 n1 c1), (8, (zI (Int.ofNat k1))), (9, Sl.v 1 s12), (29, (zB (ieq (Int.ofNat (Sl.n s12)) (0 : Int))))]) (hT 3 [(oC [zI z2, Sl.v 1 s7, Sl.v 1 s8]), oC q1]) (.k [2] [false] [.tmp 2 false, .tmp 7 false] [1, 2, 7, 8, 9, 29] ⟨trF h2, trivial⟩) ?_
     replace hm := bb_cases hm; rcases hm with ⟨h8, hm⟩ | ⟨h8, hm⟩
     ·refine .ifT (ieq (Int.ofNat (Sl.n s12)) (0 : Int)) (by kernel_rfl) h8 ?_
      refine .then (.rK ?_)
      refine .ghs (fr 111 [(4, (zI (0 : Int))), (5, (zI (4 : Int)))]) (hp 1 [(oT tab0)]) (.k0 [false] [] [4, 5]) ?_
      refine .ret ?_
      exact fin_ret (.tuple ⟨[(zI (0 : Int)), (zI (4 : Int))]⟩) (by kernel_rfl) (by kernel_rfl) hm
     ·refine .ifF (ieq (Int.ofNat (Sl.n s12)) (0 : Int)) (by kernel_rfl) h8 ?_
      refine .skip ?_
      refine .ghs (fr 111 [(1, Sl.v 1 s6), (2, pt 1 0), (7, sc 2 0 1 n1 c1), (8, (zI (Int.ofNat k1))), (9, Sl.v 1 s12)]) (hT 3 [(oC [zI z2, Sl.v 1 s7, Sl.v 1 s8]), oC q1]) (.k [2] [false] [.tmp 2 false, .tmp 7 false] [1, 2, 7, 8, 9] ⟨trF h2, trivial⟩) ?_
      refine .join (v := v) (fun y : Sl × Nat × Nat × Int × Sl × Int × Sl × Sl × LV => ((fr 111 [(1, (Sl.v 1 y.1)), (2, pt 1 0), (7, (sc 2 0 1 y.2.1 y.2.2.1)), (8, (zI y.2.2.2.1)), (9, (Sl.v 1 y.2.2.2.2.1))]), (hT 3 [(oC [(zI y.2.2.2.2.2.1), (Sl.v 1 y.2.2.2.2.2.2.1), (Sl.v 1 y.2.2.2.2.2.2.2.1)]), (oC y.2.2.2.2.2.2.2.2)]))) (fun y => m19_3 pu n (l19_1 pu n w0) y.1 y.2.1 y.2.2.1 y.2.2.2.1 y.2.2.2.2.1 y.2.2.2.2.2.1 y.2.2.2.2.2.2.1 y.2.2.2.2.2.2.2.1 y.2.2.2.2.2.2.2.2) ?_ ?_
      ·rintro ⟨s13, n3, c3, z5, s14, z6, s15, s16, q3⟩ hm
       unfold m19_3 at hm
       refine .then (.rK ?_)
       replace hm := bb_inv hm; obtain ⟨h9, hm⟩ := hm
       refine .ghs (fr 111 [(1, Sl.v 1 s13), (2, pt 1 0), (7, sc 2 0 1 n3 c3), (8, zI z5), (9, Sl.v 1 s14), (11, (zI (0 : Int)))]) (hT 3 [(oC [zI z6, Sl.v 1 s15, Sl.v 1 s16]), oC q3]) (.k [2] [false] [.tmp 2 false, .tmp 7 false] [1, 2, 7, 8, 9, 11] ⟨trF h9, trivial⟩) ?_
       refine .block ?_
       refine .loopM (v := v) (fun y : Sl × Nat × Nat × Int × Sl × Int × Int × Sl × Sl × LV => ((fr 111 [(1, (Sl.v 1 y.1)), (2, pt 1 0), (7, (sc 2 0 1 y.2.1 y.2.2.1)), (8, (zI y.2.2.2.1)), (9, (Sl.v 1 y.2.2.2.2.1)), (11, (zI y.2.2.2.2.2.1))]), (hT 3 [(oC [(zI y.2.2.2.2.2.2.1), (Sl.v 1 y.2.2.2.2.2.2.2.1), (Sl.v 1 y.2.2.2.2.2.2.2.2.1)]), (oC y.2.2.2.2.2.2.2.2.2)]))) (fun w y => l19_4 pu n (l19_1 pu n w0) w y.1 y.2.1 y.2.2.1 y.2.2.2.1 y.2.2.2.2.1 y.2.2.2.2.2.1 y.2.2.2.2.2.2.1 y.2.2.2.2.2.2.2.1 y.2.2.2.2.2.2.2.2.1 y.2.2.2.2.2.2.2.2.2) n ⟨(s13, n3, c3, z5, s14, (0 : Int), z6, s15, s16, q3), hm, (.k [2] [false] [.tmp 2 false, .tmp 7 false] [1, 2, 7, 8, 9, 11] ⟨trF h9, trivial⟩)⟩ (fun _ => rfl) ?_
       rintro w1 ⟨s17, n4, c5, z7, s18, z8, z9, s19, s20, q4⟩ hm
       replace hm : b19_4 pu n (l19_1 pu n w0) (l19_4 pu n (l19_1 pu n w0) w1) s17 n4 c5 z7 s18 z8 z9 s19 s20 q4 = some v := hm
       unfold b19_4 at hm
       refine .then ?_
       refine .then (.rK ?_)
       replace hm := bb_inv hm; obtain ⟨h10, hm⟩ := hm
       refine .ghs (fr 111 [(1, Sl.v 1 s17), (2, pt 1 0), (7, sc 2 0 1 n4 c5), (8, zI z7), (9, Sl.v 1 s18), (11, zI z8), (79, (zB (ilt z8 (Int.ofNat (Sl.n s18)))))]) (hT 3 [(oC [zI z9, Sl.v 1 s19, Sl.v 1 s20]), oC q4]) (.k [2] [false] [.tmp 2 false, .tmp 7 false] [1, 2, 7, 8, 9, 11, 79] ⟨trF h10, trivial⟩) ?_
       replace hm := bb_cases hm; rcases hm with ⟨h11, hm⟩ | ⟨h11, hm⟩
       ·refine .ifT (ilt z8 (Int.ofNat (Sl.n s18))) (by kernel_rfl) h11 ?_
        refine .skip ?_
        refine .ghs (fr 111 [(1, Sl.v 1 s17), (2, pt 1 0), (7, sc 2 0 1 n4 c5), (8, zI z7), (9, Sl.v 1 s18), (11, zI z8)]) (hT 3 [(oC [zI z9, Sl.v 1 s19, Sl.v 1 s20]), oC q4]) (.k [2] [false] [.tmp 2 false, .tmp 7 false] [1, 2, 7, 8, 9, 11] ⟨trF h10, trivial⟩) ?_
        refine .then ?_
        refine .block ?_
        refine .then ?_
        replace hm := oo_inv hm; obtain ⟨k2, h12, hm⟩ := hm
        obtain rfl := toN_some h12
        replace hm := bb_inv hm; obtain ⟨h13, hm⟩ := hm
        replace hm := oo_inv hm; obtain ⟨v5, h14, hm⟩ := hm
        replace hm := inv_toI hm; obtain ⟨x2, rfl, hm⟩ := hm
        replace hm := oo_inv hm; obtain ⟨k3, h15, hm⟩ := hm
        obtain rfl := toN_some h15
        replace hm := bb_inv hm; obtain ⟨h16, hm⟩ := hm
        replace hm := oo_inv hm; obtain ⟨v6, h17, hm⟩ := hm
        replace hm := inv_toI hm; obtain ⟨x3, rfl, hm⟩ := hm
        replace hm := bb_inv hm; obtain ⟨h18, hm⟩ := hm
        replace hm := oo_inv hm; obtain ⟨k4, h19, hm⟩ := hm
        replace hm := bb_inv hm; obtain ⟨h20, hm⟩ := hm
        replace hm := oo_inv hm; obtain ⟨v7, h21, hm⟩ := hm
        replace hm := inv_toI hm; obtain ⟨x4, rfl, hm⟩ := hm
        replace hm := oo_inv hm; obtain ⟨k5, h22, hm⟩ := hm
        obtain rfl := toN_some h22
        replace hm := bb_inv hm; obtain ⟨h23, hm⟩ := hm
        replace hm := oo_inv hm; obtain ⟨v8, h24, hm⟩ := hm
        replace hm := inv_toI hm; obtain ⟨x5, rfl, hm⟩ := hm
        refine .reg (eN 7 (Fr.puts (fr 111 [(1, Sl.v 1 s17), (2, pt 1 0), (7, sc 2 0 1 n4 c5), (8, zI z7), (9, Sl.v 1 s18), (11, (zI (Int.ofNat k2)))]) [(82, pt 1 2), (83, Sl.v 1 s20), (84, Sl.v 1 s18), (85, (zI (Int.ofNat k2))), (86, (fpV (k2 * 1) (Sl.cs s18))), (87, (zI (Int.ofNat k3))), (88, (fpV (k3 * 1) (Sl.cs s20)))]) (hT 3 [(oC [zI z9, Sl.v 1 s19, Sl.v 1 s20]), oC q4]) (eC 4 (keep (hT 3 [(oC [zI z9, Sl.v 1 s19, Sl.v 1 s20]), oC q4]) (bb (an (Nat.blt k2 (Sl.n s18)) true) (some (fpV (k2 * 1) (Sl.cs s18))) none)) (keep_bb h13) (eD (keep (hT 3 [(oC [zI z9, Sl.v 1 s19, Sl.v 1 s20]), oC q4]) (nthL (Sl.cs s18) (k2 * 1))) (keep_eq h14) (eD (keep (hT 3 [(oC [zI z9, Sl.v 1 s19, Sl.v 1 s20]), oC q4]) (bb (an (Nat.blt k3 (Sl.n s20)) true) (some (fpV (k3 * 1) (Sl.cs s20))) none)) (keep_bb h16) (by kernel_rfl)))) (eN 10 (Fr.puts (fr 111 [(1, Sl.v 1 s17), (2, pt 1 0), (7, sc 2 0 1 n4 c5), (8, zI z7), (9, Sl.v 1 s18), (11, (zI (Int.ofNat k2)))]) [(82, pt 1 2), (83, Sl.v 1 s20), (84, Sl.v 1 s18), (85, (zI (Int.ofNat k2))), (86, (fpV (k2 * 1) (Sl.cs s18))), (87, (zI (Int.ofNat k3))), (88, (fpV (k3 * 1) (Sl.cs s20))), (89, zI x3), (90, pt 1 1), (91, Sl.v 1 s19), (92, Sl.v 1 s18), (93, (zI (Int.ofNat k2))), (94, (zI (wrapF .i64 (Int.add (Int.ofNat k2) (1 : Int))))), (95, Sl.v 1 s18), (96, (zI (Int.ofNat (Sl.n s18)))), (97, (zI (Int.ofNat k4))), (98, (fpV (k4 * 1) (Sl.cs s18)))]) (hT 3 [(oC [zI z9, Sl.v 1 s19, Sl.v 1 s20]), oC q4]) (eD (keep (hT 3 [(oC [zI z9, Sl.v 1 s19, Sl.v 1 s20]), oC q4]) (nthL (Sl.cs s20) (k3 * 1))) (keep_eq h17) (eC 7 (keep (hT 3 [(oC [zI z9, Sl.v 1 s19, Sl.v 1 s20]), oC q4]) (bb (ieq (Int.ofNat (Sl.n s18)) (0 : Int)) none (some (zI (Int.tmod (wrapF .i64 (Int.add (Int.ofNat k2) (1 : Int))) (Int.ofNat (Sl.n s18))))))) (show _ = some ((zI (Int.ofNat k4)), _) from (nat_eq (X := (Int.tmod (wrapF .i64 (Int.add (Int.ofNat k2) (1 : Int))) (Int.ofNat (Sl.n s18)))) (keep_nb h18) h19)) (eD (keep (hT 3 [(oC [zI z9, Sl.v 1 s19, Sl.v 1 s20]), oC q4]) (bb (an (Nat.blt k4 (Sl.n s18)) true) (some (fpV (k4 * 1) (Sl.cs s18))) none)) (keep_bb h20) (by kernel_rfl)))) (eD (keep (hT 3 [(oC [zI z9, Sl.v 1 s19, Sl.v 1 s20]), oC q4]) (nthL (Sl.cs s18) (k4 * 1))) (keep_eq h21) (eD (keep (hT 3 [(oC [zI z9, Sl.v 1 s19, Sl.v 1 s20]), oC q4]) (bb (an (Nat.blt k5 (Sl.n s19)) true) (some (fpV (k5 * 1) (Sl.cs s19))) none)) (keep_bb h23) (eD (keep (hT 3 [(oC [zI z9, Sl.v 1 s19, Sl.v 1 s20]), oC q4]) (nthL (Sl.cs s19) (k5 * 1))) (keep_eq h24) (eE)))))) ?_
        refine .ghs (fr 111 [(1, Sl.v 1 s17), (2, pt 1 0), (7, sc 2 0 1 n4 c5), (8, zI z7), (9, Sl.v 1 s18), (11, (zI (Int.ofNat k2))), (102, (zB (nt (ieq x3 x5))))]) (hT 3 [(oC [zI z9, Sl.v 1 s19, Sl.v 1 s20]), oC q4]) (.k [2] [false] [.tmp 2 false, .tmp 7 false] [1, 2, 7, 8, 9, 11, 102] ⟨trF h10, trivial⟩) ?_
        replace hm := bb_cases hm; rcases hm with ⟨h25, hm⟩ | ⟨h25, hm⟩
        ·refine .ifT (nt (ieq x3 x5)) (by kernel_rfl) h25 ?_
         refine .then (.rK ?_)
         refine .ghs (fr 111 [(4, (zI (0 : Int))), (5, (zI (14 : Int)))]) (hp 1 [(oT tab0)]) (.k0 [false] [] [4, 5]) ?_
         refine .ret ?_
         exact fin_ret (.tuple ⟨[(zI (0 : Int)), (zI (14 : Int))]⟩) (by kernel_rfl) (by kernel_rfl) hm
        ·refine .ifF (nt (ieq x3 x5)) (by kernel_rfl) h25 ?_
         refine .skip ?_
         refine .ghs (fr 111 [(1, Sl.v 1 s17), (2, pt 1 0), (7, sc 2 0 1 n4 c5), (8, zI z7), (9, Sl.v 1 s18), (11, (zI (Int.ofNat k2)))]) (hT 3 [(oC [zI z9, Sl.v 1 s19, Sl.v 1 s20]), oC q4]) (.k [2] [false] [.tmp 2 false, .tmp 7 false] [1, 2, 7, 8, 9, 11] ⟨trF h10, trivial⟩) ?_
         refine .rK ?_
         exact ⟨(s17, n4, c5, z7, s18, (wrapF .i64 (Int.add (Int.ofNat k2) (1 : Int))), z9, s19, s20, q4), hm, (.k [2] [false] [.tmp 2 false, .tmp 7 false] [1, 2, 7, 8, 9, 11] ⟨trF h10, trivial⟩)⟩
       ·refine .ifF (ilt z8 (Int.ofNat (Sl.n s18))) (by kernel_rfl) h11 ?_
        refine .exit ?_
        exact ⟨(s17, n4, c5, z7, z9, s19, s20, q4), hm, (.k [2] [false] [.tmp 2 false, .tmp 7 false] [1, 2, 7, 8] ⟨trF h10, trivial⟩)⟩
      ·refine .then (.rK ?_)
       refine .ghs (fr 111 [(1, Sl.v 1 s6), (2, pt 1 0), (7, sc 2 0 1 n1 c1), (8, (zI (Int.ofNat k1))), (9, Sl.v 1 s12), (10, (zI (0 : Int)))]) (hT 3 [(oC [zI z2, Sl.v 1 s7, Sl.v 1 s8]), oC q1]) (.k [2] [false] [.tmp 2 false, .tmp 7 false] [1, 2, 7, 8, 9, 10] ⟨trF h2, trivial⟩) ?_
       refine .block ?_
       refine .loopM (v := v) (fun y : Sl × Nat × Nat × Int × Sl × Int × Int × Sl × Sl × LV => ((fr 111 [(1, (Sl.v 1 y.1)), (2, pt 1 0), (7, (sc 2 0 1 y.2.1 y.2.2.1)), (8, (zI y.2.2.2.1)), (9, (Sl.v 1 y.2.2.2.2.1)), (10, (zI y.2.2.2.2.2.1))]), (hT 3 [(oC [(zI y.2.2.2.2.2.2.1), (Sl.v 1 y.2.2.2.2.2.2.2.1), (Sl.v 1 y.2.2.2.2.2.2.2.2.1)]), (oC y.2.2.2.2.2.2.2.2.2)]))) (fun w y => l19_5 pu n (l19_1 pu n w0) w y.1 y.2.1 y.2.2.1 y.2.2.2.1 y.2.2.2.2.1 y.2.2.2.2.2.1 y.2.2.2.2.2.2.1 y.2.2.2.2.2.2.2.1 y.2.2.2.2.2.2.2.2.1 y.2.2.2.2.2.2.2.2.2) n ⟨(s6, n1, c1, (Int.ofNat k1), s12, (0 : Int), z2, s7, s8, q1), hm, (.k [2] [false] [.tmp 2 false, .tmp 7 false] [1, 2, 7, 8, 9, 10] ⟨trF h2, trivial⟩)⟩ (fun _ => rfl) ?_
       rintro w1 ⟨s21, n5, c6, z10, s22, z11, z12, s23, s24, q5⟩ hm
       replace hm : b19_5 pu n (l19_1 pu n w0) (l19_5 pu n (l19_1 pu n w0) w1) s21 n5 c6 z10 s22 z11 z12 s23 s24 q5 = some v := hm
       unfold b19_5 at hm
       refine .then ?_
       refine .then (.rK ?_)
       replace hm := bb_inv hm; obtain ⟨h26, hm⟩ := hm
       refine .ghs (fr 111 [(1, Sl.v 1 s21), (2, pt 1 0), (7, sc 2 0 1 n5 c6), (8, zI z10), (9, Sl.v 1 s22), (10, zI z11), (33, (zB (ilt z11 (Int.ofNat (Sl.n s22)))))]) (hT 3 [(oC [zI z12, Sl.v 1 s23, Sl.v 1 s24]), oC q5]) (.k [2] [false] [.tmp 2 false, .tmp 7 false] [1, 2, 7, 8, 9, 10, 33] ⟨trF h26, trivial⟩) ?_
       replace hm := bb_cases hm; rcases hm with ⟨h27, hm⟩ | ⟨h27, hm⟩
       ·refine .ifT (ilt z11 (Int.ofNat (Sl.n s22))) (by kernel_rfl) h27 ?_
        refine .skip ?_
        refine .ghs (fr 111 [(1, Sl.v 1 s21), (2, pt 1 0), (7, sc 2 0 1 n5 c6), (8, zI z10), (9, Sl.v 1 s22), (10, zI z11)]) (hT 3 [(oC [zI z12, Sl.v 1 s23, Sl.v 1 s24]), oC q5]) (.k [2] [false] [.tmp 2 false, .tmp 7 false] [1, 2, 7, 8, 9, 10] ⟨trF h26, trivial⟩) ?_
        refine .then ?_
        refine .block ?_
        refine .then ?_
        refine .then ?_
        replace hm := oo_inv hm; obtain ⟨k6, h28, hm⟩ := hm
        obtain rfl := toN_some h28
        replace hm := bb_inv hm; obtain ⟨h29, hm⟩ := hm
        replace hm := oo_inv hm; obtain ⟨v9, h30, hm⟩ := hm
        replace hm := inv_toI hm; obtain ⟨x6, rfl, hm⟩ := hm
        replace hm := oo_inv hm; obtain ⟨v10, h31, hm⟩ := hm
        replace hm := inv_vBool hm; obtain ⟨b0, rfl, hm⟩ := hm
        refine .reg (eC 2 (keep (hT 3 [(oC [zI z12, Sl.v 1 s23, Sl.v 1 s24]), oC q5]) (bb (an (Nat.blt k6 (Sl.n s22)) true) (some (fpV (k6 * 1) (Sl.cs s22))) none)) (keep_bb h29) (eD (keep (hT 3 [(oC [zI z12, Sl.v 1 s23, Sl.v 1 s24]), oC q5]) (nthL (Sl.cs s22) (k6 * 1))) (keep_eq h30) (eC 4 ((oo (pu 54 [zI x6, (zI (0 : Int)), (zI (wrapF .i64 (Int.sub (Int.ofNat (Sl.n s23)) (1 : Int))))]) none fun v => some (v, (hT 3 [(oC [zI z12, Sl.v 1 s23, Sl.v 1 s24]), oC q5])))) (call_eq h31) (eE)))) ?_
        refine .ghs (fr 111 [(1, Sl.v 1 s21), (2, pt 1 0), (7, sc 2 0 1 n5 c6), (8, zI z10), (9, Sl.v 1 s22), (10, (zI (Int.ofNat k6))), (45, (zB (nt b0)))]) (hT 3 [(oC [zI z12, Sl.v 1 s23, Sl.v 1 s24]), oC q5]) (.k [2] [false] [.tmp 2 false, .tmp 7 false] [1, 2, 7, 8, 9, 10, 45] ⟨trF h26, trivial⟩) ?_
        replace hm := bb_cases hm; rcases hm with ⟨h32, hm⟩ | ⟨h32, hm⟩
        ·refine .ifT (nt b0) (by kernel_rfl) h32 ?_
         refine .then (.rK ?_)
         refine .ghs (fr 111 [(4, (zI (0 : Int))), (5, (zI (2 : Int)))]) (hp 1 [(oT tab0)]) (.k0 [false] [] [4, 5]) ?_
         refine .ret ?_
         exact fin_ret (.tuple ⟨[(zI (0 : Int)), (zI (2 : Int))]⟩) (by kernel_rfl) (by kernel_rfl) hm
        ·refine .ifF (nt b0) (by kernel_rfl) h32 ?_
         refine .skip ?_
         refine .ghs (fr 111 [(1, Sl.v 1 s21), (2, pt 1 0), (7, sc 2 0 1 n5 c6), (8, zI z10), (9, Sl.v 1 s22), (10, (zI (Int.ofNat k6)))]) (hT 3 [(oC [zI z12, Sl.v 1 s23, Sl.v 1 s24]), oC q5]) (.k [2] [false] [.tmp 2 false, .tmp 7 false] [1, 2, 7, 8, 9, 10] ⟨trF h26, trivial⟩) ?_
         refine .then ?_
         refine .then ?_
         replace hm := bb_inv hm; obtain ⟨h33, hm⟩ := hm
         replace hm := oo_inv hm; obtain ⟨v11, h34, hm⟩ := hm
         replace hm := inv_toI hm; obtain ⟨x7, rfl, hm⟩ := hm
         replace hm := bb_inv hm; obtain ⟨h35, hm⟩ := hm
         replace hm := bb_inv hm; obtain ⟨h36, hm⟩ := hm
         replace hm := oo_inv hm; obtain ⟨v12, h37, hm⟩ := hm
         replace hm := inv_vTup hm; obtain ⟨l1, rfl, hm⟩ := hm
         replace hm := ll_uncons hm; obtain ⟨v13, l2916_0, rfl, hm⟩ := hm
         replace hm := ll_uncons hm; obtain ⟨v14, l2916_1, rfl, hm⟩ := hm
         replace hm := ll_end hm; obtain ⟨rfl, hm⟩ := hm
         replace hm := inv_vBool hm; obtain ⟨b1, rfl, hm⟩ := hm
         replace hm := inv_vAgg hm; obtain ⟨q6, rfl, hm⟩ := hm
         replace hm := bb_inv hm; obtain ⟨h38, hm⟩ := hm
         refine .reg (eC 3 (keep (hT 3 [(oC [zI z12, Sl.v 1 s23, Sl.v 1 s24]), oC q5]) (bb (an (Nat.blt k6 (Sl.n s22)) true) (some (fpV (k6 * 1) (Sl.cs s22))) none)) (keep_bb h33) (eD (keep (hT 3 [(oC [zI z12, Sl.v 1 s23, Sl.v 1 s24]), oC q5]) (nthL (Sl.cs s22) (k6 * 1))) (keep_eq h34) (eD (objG tabs [[none], [none]] 2 [.tmp 0 false] [false] (pu 10550) [sc 2 0 1 n5 c6, zI x7] (hT 3 [(oC [zI z12, Sl.v 1 s23, Sl.v 1 s24]), oC q5])) (objG_eq (as := [sc 2 0 1 n5 c6, zI x7]) (H1 := (hT 3 [(oC [zI z12, Sl.v 1 s23, Sl.v 1 s24]), oC q5])) (gvAL_c (gvA_1 gv_n) (gvAL_c (gvA_1 gv_n) gvAL_n)) (objF_eq (H2 := (hT 3 [(oC [zI z12, Sl.v 1 s23, Sl.v 1 s24]), oC q6])) (v := (zB b1)) (v' := (zB b1)) [some 0, some 2] [(false, some 2)] [oC q5] [sc 1 0 1 n5 c6, zI x7] [(.agg ⟨q6⟩)] [oC q6] [some 0, none, some 1] [(false, oC q6)] [oC q6] (trE (by kernel_rfl) (rootL h35 rfl)) (mapO_c (nO_list (anc := []) h36) mapO_n) (Eq.trans (by kernel_rfl) h37) (mapO_c rfl mapO_n) (mapO_c (bO_list h38) mapO_n))) (eE)))) ?_
         replace hm := bb_inv hm; obtain ⟨h39, hm⟩ := hm
         refine .ghs (fr 111 [(1, Sl.v 1 s21), (2, pt 1 0), (7, sc 2 0 1 n5 c6), (8, zI z10), (9, Sl.v 1 s22), (10, (zI (Int.ofNat k6))), (51, zB b1)]) (hT 3 [(oC [zI z12, Sl.v 1 s23, Sl.v 1 s24]), oC q6]) (.k [2] [false] [.tmp 2 false, .tmp 7 false] [1, 2, 7, 8, 9, 10, 51] ⟨trF h39, trivial⟩) ?_
         replace hm := bb_cases hm; rcases hm with ⟨h40, hm⟩ | ⟨h40, hm⟩
         ·refine .ifT b1 (by kernel_rfl) h40 ?_
          refine .then (.rK ?_)
          refine .ghs (fr 111 [(4, (zI (0 : Int))), (5, (zI (6 : Int)))]) (hp 1 [(oT tab0)]) (.k0 [false] [] [4, 5]) ?_
          refine .ret ?_
          exact fin_ret (.tuple ⟨[(zI (0 : Int)), (zI (6 : Int))]⟩) (by kernel_rfl) (by kernel_rfl) hm
         ·refine .ifF b1 (by kernel_rfl) h40 ?_
          refine .skip ?_
          refine .ghs (fr 111 [(1, Sl.v 1 s21), (2, pt 1 0), (7, sc 2 0 1 n5 c6), (8, zI z10), (9, Sl.v 1 s22), (10, (zI (Int.ofNat k6)))]) (hT 3 [(oC [zI z12, Sl.v 1 s23, Sl.v 1 s24]), oC q6]) (.k [2] [false] [.tmp 2 false, .tmp 7 false] [1, 2, 7, 8, 9, 10] ⟨trF h39, trivial⟩) ?_
          refine .then ?_
          refine .then ?_
          replace hm := bb_inv hm; obtain ⟨h41, hm⟩ := hm
          replace hm := oo_inv hm; obtain ⟨v15, h42, hm⟩ := hm
          replace hm := inv_toI hm; obtain ⟨x8, rfl, hm⟩ := hm
          replace hm := oo_inv hm; obtain ⟨k7, h43, hm⟩ := hm
          obtain rfl := toN_some h43
          replace hm := bb_inv hm; obtain ⟨h44, hm⟩ := hm
          replace hm := oo_inv hm; obtain ⟨v16, h45, hm⟩ := hm
          replace hm := inv_toI hm; obtain ⟨x9, rfl, hm⟩ := hm
          replace hm := bb_inv hm; obtain ⟨h46, hm⟩ := hm
          replace hm := oo_inv hm; obtain ⟨v17, h47, hm⟩ := hm
          replace hm := inv_toI hm; obtain ⟨x10, rfl, hm⟩ := hm
          replace hm := oo_inv hm; obtain ⟨k8, h48, hm⟩ := hm
          obtain rfl := toN_some h48
          replace hm := bb_inv hm; obtain ⟨h49, hm⟩ := hm
          replace hm := oo_inv hm; obtain ⟨v18, h50, hm⟩ := hm
          replace hm := inv_toI hm; obtain ⟨x11, rfl, hm⟩ := hm
          refine .reg (eN 7 (Fr.puts (fr 111 [(1, Sl.v 1 s21), (2, pt 1 0), (7, sc 2 0 1 n5 c6), (8, zI z10), (9, Sl.v 1 s22), (10, (zI (Int.ofNat k6)))]) [(52, pt 1 1), (53, Sl.v 1 s23), (54, Sl.v 1 s22), (55, (zI (Int.ofNat k6))), (56, (fpV (k6 * 1) (Sl.cs s22))), (57, (zI (Int.ofNat k7))), (58, (fpV (k7 * 1) (Sl.cs s23)))]) (hT 3 [(oC [zI z12, Sl.v 1 s23, Sl.v 1 s24]), oC q6]) (eC 4 (keep (hT 3 [(oC [zI z12, Sl.v 1 s23, Sl.v 1 s24]), oC q6]) (bb (an (Nat.blt k6 (Sl.n s22)) true) (some (fpV (k6 * 1) (Sl.cs s22))) none)) (keep_bb h41) (eD (keep (hT 3 [(oC [zI z12, Sl.v 1 s23, Sl.v 1 s24]), oC q6]) (nthL (Sl.cs s22) (k6 * 1))) (keep_eq h42) (eD (keep (hT 3 [(oC [zI z12, Sl.v 1 s23, Sl.v 1 s24]), oC q6]) (bb (an (Nat.blt k7 (Sl.n s23)) true) (some (fpV (k7 * 1) (Sl.cs s23))) none)) (keep_bb h44) (by kernel_rfl)))) (eD (keep (hT 3 [(oC [zI z12, Sl.v 1 s23, Sl.v 1 s24]), oC q6]) (nthL (Sl.cs s23) (k7 * 1))) (keep_eq h45) (eC 4 (keep (hT 3 [(oC [zI z12, Sl.v 1 s23, Sl.v 1 s24]), oC q6]) (bb (an (Nat.blt k6 (Sl.n s22)) true) (some (fpV (k6 * 1) (Sl.cs s22))) none)) (keep_bb h46) (eD (keep (hT 3 [(oC [zI z12, Sl.v 1 s23, Sl.v 1 s24]), oC q6]) (nthL (Sl.cs s22) (k6 * 1))) (keep_eq h47) (eD (keep (hT 3 [(oC [zI z12, Sl.v 1 s23, Sl.v 1 s24]), oC q6]) (bb (an (Nat.blt k8 (Sl.n s24)) true) (some (fpV (k8 * 1) (Sl.cs s24))) none)) (keep_bb h49) (eD (keep (hT 3 [(oC [zI z12, Sl.v 1 s23, Sl.v 1 s24]), oC q6]) (nthL (Sl.cs s24) (k8 * 1))) (keep_eq h50) (eE))))))) ?_
          refine .ghs (fr 111 [(1, Sl.v 1 s21), (2, pt 1 0), (7, sc 2 0 1 n5 c6), (8, zI z10), (9, Sl.v 1 s22), (10, (zI (Int.ofNat k6))), (68, (zB (ieq x9 x11)))]) (hT 3 [(oC [zI z12, Sl.v 1 s23, Sl.v 1 s24]), oC q6]) (.k [2] [false] [.tmp 2 false, .tmp 7 false] [1, 2, 7, 8, 9, 10, 68] ⟨trF h39, trivial⟩) ?_
          replace hm := bb_cases hm; rcases hm with ⟨h51, hm⟩ | ⟨h51, hm⟩
          ·refine .ifT (ieq x9 x11) (by kernel_rfl) h51 ?_
           refine .then (.rK ?_)
           refine .ghs (fr 111 [(4, (zI (0 : Int))), (5, (zI (13 : Int)))]) (hp 1 [(oT tab0)]) (.k0 [false] [] [4, 5]) ?_
           refine .ret ?_
           exact fin_ret (.tuple ⟨[(zI (0 : Int)), (zI (13 : Int))]⟩) (by kernel_rfl) (by kernel_rfl) hm
          ·refine .ifF (ieq x9 x11) (by kernel_rfl) h51 ?_
           refine .skip ?_
           refine .ghs (fr 111 [(1, Sl.v 1 s21), (2, pt 1 0), (7, sc 2 0 1 n5 c6), (8, zI z10), (9, Sl.v 1 s22), (10, (zI (Int.ofNat k6)))]) (hT 3 [(oC [zI z12, Sl.v 1 s23, Sl.v 1 s24]), oC q6]) (.k [2] [false] [.tmp 2 false, .tmp 7 false] [1, 2, 7, 8, 9, 10] ⟨trF h39, trivial⟩) ?_
           replace hm := bb_inv hm; obtain ⟨h52, hm⟩ := hm
           replace hm := oo_inv hm; obtain ⟨v19, h53, hm⟩ := hm
           replace hm := inv_toI hm; obtain ⟨x12, rfl, hm⟩ := hm
           replace hm := bb_inv hm; obtain ⟨h54, hm⟩ := hm
           refine .reg (eC 3 (keep (hT 3 [(oC [zI z12, Sl.v 1 s23, Sl.v 1 s24]), oC q6]) (bb (an (Nat.blt k6 (Sl.n s22)) true) (some (fpV (k6 * 1) (Sl.cs s22))) none)) (keep_bb h52) (eD (keep (hT 3 [(oC [zI z12, Sl.v 1 s23, Sl.v 1 s24]), oC q6]) (nthL (Sl.cs s22) (k6 * 1))) (keep_eq h53) (eC 1 (growD 1 8 n5 c6 1 2 q6 [zI x12] [] (hT 4 [(oC [zI z12, Sl.v 1 s23, Sl.v 1 s24]), oC q6, (oC [zI x12])])) (growD_eq h54) (eE)))) ?_
           replace hm := bb_inv hm; obtain ⟨h55, hm⟩ := hm
           refine .ghs (fr 111 [(1, Sl.v 1 s21), (2, pt 1 0), (7, (sc 2 0 1 (n5 + 1) (d2 (n5 + 1)))), (8, zI z10), (9, Sl.v 1 s22), (10, (zI (Int.ofNat k6)))]) (hT 3 [(oC [zI z12, Sl.v 1 s23, Sl.v 1 s24]), (oC (appL (dropL 0 q6) [zI x12]))]) (.k [4] [false] [.tmp 2 false, .tmp 7 false] [1, 2, 7, 8, 9, 10] ⟨trF h55, trivial⟩) ?_
           refine .rK ?_
           exact ⟨(s21, (n5 + 1), (d2 (n5 + 1)), z10, s22, (wrapF .i64 (Int.add (Int.ofNat k6) (1 : Int))), z12, s23, s24, (appL (dropL 0 q6) [zI x12])), hm, (.k [2] [false] [.tmp 2 false, .tmp 7 false] [1, 2, 7, 8, 9, 10] ⟨trF h55, trivial⟩)⟩
       ·refine .ifF (ilt z11 (Int.ofNat (Sl.n s22))) (by kernel_rfl) h27 ?_
        refine .exit ?_
        exact ⟨(s21, n5, c6, z10, s22, z12, s23, s24, q5), hm, (.k [2] [false] [.tmp 2 false, .tmp 7 false] [1, 2, 7, 8, 9] ⟨trF h26, trivial⟩)⟩
   ·refine .ifF (ilt z1 (Int.ofNat (Sl.n s6))) (by kernel_rfl) h3 ?_
    refine .exit ?_
    exact ⟨(s6, n1, c1, z2, s7, s8, q1), hm, (.k [2] [false] [.tmp 2 false, .tmp 7 false] [1, 2, 7] ⟨trF h2, trivial⟩)⟩
def m20_0 (pu : PureF) (n : Nat) : OV :=
 (some (.bool true))
def b20_1 (pu : PureF) (n : Nat) (ih0 : Sl → Sl → Int → OV) (s0 s1 : Sl) (z0 : Int) : OV :=
 (bb (ilt z0 (Int.ofNat (Sl.n s0))) (oo (toN z0) none fun k1 => (bb (an (Nat.blt k1 (Sl.n s0)) true) (oo (nthL (Sl.cs s0) (k1 * 1)) none fun v0 => (oo (toSl 1 v0) none fun s2 => (bb (an (Nat.blt k1 (Sl.n s1)) true) (oo (nthL (Sl.cs s1) (k1 * 1)) none fun v1 => (oo (toSl 1 v1) none fun s3 => (oo (pu 26 [Sl.v 1 s2, Sl.v 1 s3]) none fun v2 => (oo (vBool v2) none fun b0 => (bb (nt b0) (some (.bool false)) (ih0 s0 s1 (wrapF .i64 (Int.add (Int.ofNat k1) (1 : Int))))))))) none))) none)) (m20_0 pu n))
def l20_1 (pu : PureF) (n w : Nat) : Sl → Sl → Int → OV :=
 Nat.rec (motive := fun _ => Sl → Sl → Int → OV) (fun _ _ _ => none) (fun _ ih0 => b20_1 pu n ih0) w
def m20_ (pu : PureF) (n : Nat) (s0 s1 : Sl) : OV :=
 (bb (nt (ieq (Int.ofNat (Sl.n s0)) (Int.ofNat (Sl.n s1)))) (some (.bool false)) (l20_1 pu n n s0 s1 (0 : Int)))
def m20 (pu : PureF) (n : Nat) (args : LV) : OV :=
 (ll args none fun a0 args => (ll args none fun a1 args => (ll args (oo (toSl 1 a0) none fun s0 => (oo (toSl 1 a1) none fun s1 => (m20_ pu n s0 s1))) fun _ _ => none)))
theorem w20_0 (pu : PureF) (n : Nat) {v : Value} (hm : m20_0 pu n = some v) : Run tt (callP tabs isP pu (inl pu)) 1 c20_23 (fr 27 []) (hp 1 [(oT tab0)]) (Fin tt 1 [.tmp 4] v) := by
 unfold m20_0 at hm
 refine .then (.rK ?_)
 refine .ghs (fr 27 [(4, zB true)]) (hp 1 [(oT tab0)]) (.k0 [false] [] [4]) ?_
 refine .ret ?_
 exact fin_ret (zB true) (by kernel_rfl) (by kernel_rfl) hm
theorem r20 {call : CallF} (pu : PureF) (n : Nat) (hcall : call = callP tabs isP pu (inl pu)) {args : LV} {v : Value} (hm : m20 pu n args = some v) (_ : ∀ x ∈ args, closed2 x = true) : args.length ≤ 27 ∧ Run tt call 1 c20_26 (Fr.made 27 args) (pureHeap tabs) (Fin tt 1 [.tmp 4] v) := by
 subst hcall
 unfold m20 at hm
 replace hm := ll_uncons hm; obtain ⟨a0, args_0, rfl, hm⟩ := hm
 replace hm := ll_uncons hm; obtain ⟨a1, args_1, rfl, hm⟩ := hm
 replace hm := ll_end hm; obtain ⟨rfl, hm⟩ := hm
 replace hm := inv_toSl hm; obtain ⟨s0, rfl, hm⟩ := hm
 replace hm := inv_toSl hm; obtain ⟨s1, rfl, hm⟩ := hm
 unfold m20_ at hm
 refine ⟨by simp, ?_⟩
 refine .same (F' := (fr 27 [(0, Sl.v 1 s0), (1, Sl.v 1 s1)])) (H' := (hp 1 [(oT tab0)])) (by kernel_rfl) (by kernel_rfl) ?_
 refine .then (.rK ?_)
 refine .ghs (fr 27 [(0, Sl.v 1 s0), (1, Sl.v 1 s1)]) (hp 1 [(oT tab0)]) (.k0 [false] [] [0, 1]) ?_
 refine .then ?_
 refine .then (.rK ?_)
 refine .ghs (fr 27 [(0, Sl.v 1 s0), (1, Sl.v 1 s1), (10, (zB (nt (ieq (Int.ofNat (Sl.n s0)) (Int.ofNat (Sl.n s1))))))]) (hp 1 [(oT tab0)]) (.k0 [false] [] [0, 1, 10]) ?_
 replace hm := bb_cases hm; rcases hm with ⟨h0, hm⟩ | ⟨h0, hm⟩
 ·refine .ifT (nt (ieq (Int.ofNat (Sl.n s0)) (Int.ofNat (Sl.n s1)))) (by kernel_rfl) h0 ?_
  refine .then (.rK ?_)
  refine .ghs (fr 27 [(4, zB false)]) (hp 1 [(oT tab0)]) (.k0 [false] [] [4]) ?_
  refine .ret ?_
  exact fin_ret (zB false) (by kernel_rfl) (by kernel_rfl) hm
 ·refine .ifF (nt (ieq (Int.ofNat (Sl.n s0)) (Int.ofNat (Sl.n s1)))) (by kernel_rfl) h0 ?_
  refine .skip ?_
  refine .ghs (fr 27 [(0, Sl.v 1 s0), (1, Sl.v 1 s1)]) (hp 1 [(oT tab0)]) (.k0 [false] [] [0, 1]) ?_
  refine .join (v := v) (fun y : Unit => ((fr 27 []), (hp 1 [(oT tab0)]))) (fun y => m20_0 pu n) ?_ ?_
  ·rintro _ hm
   exact w20_0 pu n hm
  ·refine .then (.rK ?_)
   refine .ghs (fr 27 [(0, Sl.v 1 s0), (1, Sl.v 1 s1), (5, (zI (0 : Int)))]) (hp 1 [(oT tab0)]) (.k0 [false] [] [0, 1, 5]) ?_
   refine .block ?_
   refine .loopM (v := v) (fun y : Sl × Sl × Int => ((fr 27 [(0, (Sl.v 1 y.1)), (1, (Sl.v 1 y.2.1)), (5, (zI y.2.2))]), (hp 1 [(oT tab0)]))) (fun w y => l20_1 pu n w y.1 y.2.1 y.2.2) n ⟨(s0, s1, (0 : Int)), hm, (.k0 [false] [] [0, 1, 5])⟩ (fun _ => rfl) ?_
   rintro w0 ⟨s2, s3, z0⟩ hm
   replace hm : b20_1 pu n (l20_1 pu n w0) s2 s3 z0 = some v := hm
   unfold b20_1 at hm
   refine .then ?_
   refine .then (.rK ?_)
   refine .ghs (fr 27 [(0, Sl.v 1 s2), (1, Sl.v 1 s3), (5, zI z0), (14, (zB (ilt z0 (Int.ofNat (Sl.n s2)))))]) (hp 1 [(oT tab0)]) (.k0 [false] [] [0, 1, 5, 14]) ?_
   replace hm := bb_cases hm; rcases hm with ⟨h1, hm⟩ | ⟨h1, hm⟩
   ·refine .ifT (ilt z0 (Int.ofNat (Sl.n s2))) (by kernel_rfl) h1 ?_
    refine .skip ?_
    refine .ghs (fr 27 [(0, Sl.v 1 s2), (1, Sl.v 1 s3), (5, zI z0)]) (hp 1 [(oT tab0)]) (.k0 [false] [] [0, 1, 5]) ?_
    refine .then ?_
    refine .block ?_
    refine .then ?_
    replace hm := oo_inv hm; obtain ⟨k1, h2, hm⟩ := hm
    obtain rfl := toN_some h2
    replace hm := bb_inv hm; obtain ⟨h3, hm⟩ := hm
    replace hm := oo_inv hm; obtain ⟨v0, h4, hm⟩ := hm
    replace hm := inv_toSl hm; obtain ⟨s4, rfl, hm⟩ := hm
    replace hm := bb_inv hm; obtain ⟨h5, hm⟩ := hm
    replace hm := oo_inv hm; obtain ⟨v1, h6, hm⟩ := hm
    replace hm := inv_toSl hm; obtain ⟨s5, rfl, hm⟩ := hm
    replace hm := oo_inv hm; obtain ⟨v2, h7, hm⟩ := hm
    replace hm := inv_vBool hm; obtain ⟨b0, rfl, hm⟩ := hm
    refine .reg (eC 2 (keep (hp 1 [(oT tab0)]) (bb (an (Nat.blt k1 (Sl.n s2)) true) (some (fpV (k1 * 1) (Sl.cs s2))) none)) (keep_bb h3) (eD (keep (hp 1 [(oT tab0)]) (nthL (Sl.cs s2) (k1 * 1))) (keep_eq h4) (eC 2 (keep (hp 1 [(oT tab0)]) (bb (an (Nat.blt k1 (Sl.n s3)) true) (some (fpV (k1 * 1) (Sl.cs s3))) none)) (keep_bb h5) (eD (keep (hp 1 [(oT tab0)]) (nthL (Sl.cs s3) (k1 * 1))) (keep_eq h6) (eD ((oo (pu 26 [Sl.v 1 s4, Sl.v 1 s5]) none fun v => some (v, (hp 1 [(oT tab0)])))) (call_eq h7) (eE)))))) ?_
    refine .ghs (fr 27 [(0, Sl.v 1 s2), (1, Sl.v 1 s3), (5, (zI (Int.ofNat k1))), (26, (zB (nt b0)))]) (hp 1 [(oT tab0)]) (.k0 [false] [] [0, 1, 5, 26]) ?_
    replace hm := bb_cases hm; rcases hm with ⟨h8, hm⟩ | ⟨h8, hm⟩
    ·refine .ifT (nt b0) (by kernel_rfl) h8 ?_
     refine .then (.rK ?_)
     refine .ghs (fr 27 [(4, zB false)]) (hp 1 [(oT tab0)]) (.k0 [false] [] [4]) ?_
     refine .ret ?_
     exact fin_ret (zB false) (by kernel_rfl) (by kernel_rfl) hm
    ·refine .ifF (nt b0) (by kernel_rfl) h8 ?_
     refine .skip ?_
     refine .ghs (fr 27 [(0, Sl.v 1 s2), (1, Sl.v 1 s3), (5, (zI (Int.ofNat k1)))]) (hp 1 [(oT tab0)]) (.k0 [false] [] [0, 1, 5]) ?_
     refine .rK ?_
     exact ⟨(s2, s3, (wrapF .i64 (Int.add (Int.ofNat k1) (1 : Int)))), hm, (.k0 [false] [] [0, 1, 5])⟩
   ·refine .ifF (ilt z0 (Int.ofNat (Sl.n s2))) (by kernel_rfl) h1 ?_
    refine .exit ?_
    exact ⟨(), hm, (.k0 [false] [] [])⟩
def m26_0 (pu : PureF) (n : Nat) : OV :=
 (some (.bool true))
def b26_1 (pu : PureF) (n : Nat) (ih0 : Sl → Sl → Int → OV) (s0 s1 : Sl) (z0 : Int) : OV :=
 (bb (ilt z0 (Int.ofNat (Sl.n s0))) (oo (toN z0) none fun k1 => (bb (an (Nat.blt k1 (Sl.n s0)) true) (oo (nthL (Sl.cs s0) (k1 * 1)) none fun v0 => (oo (toI .i64 v0) none fun x0 => (bb (an (Nat.blt k1 (Sl.n s1)) true) (oo (nthL (Sl.cs s1) (k1 * 1)) none fun v1 => (oo (toI .i64 v1) none fun x1 => (bb (nt (ieq x0 x1)) (some (.bool false)) (ih0 s0 s1 (wrapF .i64 (Int.add (Int.ofNat k1) (1 : Int))))))) none))) none)) (m26_0 pu n))
def l26_1 (pu : PureF) (n w : Nat) : Sl → Sl → Int → OV :=
 Nat.rec (motive := fun _ => Sl → Sl → Int → OV) (fun _ _ _ => none) (fun _ ih0 => b26_1 pu n ih0) w
def m26_ (pu : PureF) (n : Nat) (s0 s1 : Sl) : OV :=
 (bb (nt (ieq (Int.ofNat (Sl.n s0)) (Int.ofNat (Sl.n s1)))) (some (.bool false)) (l26_1 pu n n s0 s1 (0 : Int)))
def m26 (pu : PureF) (n : Nat) (args : LV) : OV :=
 (ll args none fun a0 args => (ll args none fun a1 args => (ll args (oo (toSl 1 a0) none fun s0 => (oo (toSl 1 a1) none fun s1 => (m26_ pu n s0 s1))) fun _ _ => none)))
theorem w26_0 (pu : PureF) (n : Nat) {v : Value} (hm : m26_0 pu n = some v) : Run tt (callP tabs isP pu (inl pu)) 1 c26_23 (fr 26 []) (hp 1 [(oT tab0)]) (Fin tt 1 [.tmp 4] v) := by
 unfold m26_0 at hm
 refine .then (.rK ?_)
 refine .ghs (fr 26 [(4, zB true)]) (hp 1 [(oT tab0)]) (.k0 [false] [] [4]) ?_
 refine .ret ?_
 exact fin_ret (zB true) (by kernel_rfl) (by kernel_rfl) hm
theorem r26 {call : CallF} (pu : PureF) (n : Nat) (hcall : call = callP tabs isP pu (inl pu)) {args : LV} {v : Value} (hm : m26 pu n args = some v) (_ : ∀ x ∈ args, closed2 x = true) : args.length ≤ 26 ∧ Run tt call 1 c26_26 (Fr.made 26 args) (pureHeap tabs) (Fin tt 1 [.tmp 4] v) := by
 subst hcall
 unfold m26 at hm
 replace hm := ll_uncons hm; obtain ⟨a0, args_0, rfl, hm⟩ := hm
 replace hm := ll_uncons hm; obtain ⟨a1, args_1, rfl, hm⟩ := hm
 replace hm := ll_end hm; obtain ⟨rfl, hm⟩ := hm
 replace hm := inv_toSl hm; obtain ⟨s0, rfl, hm⟩ := hm
 replace hm := inv_toSl hm; obtain ⟨s1, rfl, hm⟩ := hm
 unfold m26_ at hm
 refine ⟨by simp, ?_⟩
 refine .same (F' := (fr 26 [(0, Sl.v 1 s0), (1, Sl.v 1 s1)])) (H' := (hp 1 [(oT tab0)])) (by kernel_rfl) (by kernel_rfl) ?_
 refine .then (.rK ?_)
 refine .ghs (fr 26 [(0, Sl.v 1 s0), (1, Sl.v 1 s1)]) (hp 1 [(oT tab0)]) (.k0 [false] [] [0, 1]) ?_
 refine .then ?_
 refine .then (.rK ?_)
 refine .ghs (fr 26 [(0, Sl.v 1 s0), (1, Sl.v 1 s1), (10, (zB (nt (ieq (Int.ofNat (Sl.n s0)) (Int.ofNat (Sl.n s1))))))]) (hp 1 [(oT tab0)]) (.k0 [false] [] [0, 1, 10]) ?_
 replace hm := bb_cases hm; rcases hm with ⟨h0, hm⟩ | ⟨h0, hm⟩
 ·refine .ifT (nt (ieq (Int.ofNat (Sl.n s0)) (Int.ofNat (Sl.n s1)))) (by kernel_rfl) h0 ?_
  refine .then (.rK ?_)
  refine .ghs (fr 26 [(4, zB false)]) (hp 1 [(oT tab0)]) (.k0 [false] [] [4]) ?_
  refine .ret ?_
  exact fin_ret (zB false) (by kernel_rfl) (by kernel_rfl) hm
 ·refine .ifF (nt (ieq (Int.ofNat (Sl.n s0)) (Int.ofNat (Sl.n s1)))) (by kernel_rfl) h0 ?_
  refine .skip ?_
  refine .ghs (fr 26 [(0, Sl.v 1 s0), (1, Sl.v 1 s1)]) (hp 1 [(oT tab0)]) (.k0 [false] [] [0, 1]) ?_
  refine .join (v := v) (fun y : Unit => ((fr 26 []), (hp 1 [(oT tab0)]))) (fun y => m26_0 pu n) ?_ ?_
  ·rintro _ hm
   exact w26_0 pu n hm
  ·refine .then (.rK ?_)
   refine .ghs (fr 26 [(0, Sl.v 1 s0), (1, Sl.v 1 s1), (5, (zI (0 : Int)))]) (hp 1 [(oT tab0)]) (.k0 [false] [] [0, 1, 5]) ?_
   refine .block ?_
   refine .loopM (v := v) (fun y : Sl × Sl × Int => ((fr 26 [(0, (Sl.v 1 y.1)), (1, (Sl.v 1 y.2.1)), (5, (zI y.2.2))]), (hp 1 [(oT tab0)]))) (fun w y => l26_1 pu n w y.1 y.2.1 y.2.2) n ⟨(s0, s1, (0 : Int)), hm, (.k0 [false] [] [0, 1, 5])⟩ (fun _ => rfl) ?_
   rintro w0 ⟨s2, s3, z0⟩ hm
   replace hm : b26_1 pu n (l26_1 pu n w0) s2 s3 z0 = some v := hm
   unfold b26_1 at hm
   refine .then ?_
   refine .then (.rK ?_)
   refine .ghs (fr 26 [(0, Sl.v 1 s2), (1, Sl.v 1 s3), (5, zI z0), (14, (zB (ilt z0 (Int.ofNat (Sl.n s2)))))]) (hp 1 [(oT tab0)]) (.k0 [false] [] [0, 1, 5, 14]) ?_
   replace hm := bb_cases hm; rcases hm with ⟨h1, hm⟩ | ⟨h1, hm⟩
   ·refine .ifT (ilt z0 (Int.ofNat (Sl.n s2))) (by kernel_rfl) h1 ?_
    refine .skip ?_
    refine .ghs (fr 26 [(0, Sl.v 1 s2), (1, Sl.v 1 s3), (5, zI z0)]) (hp 1 [(oT tab0)]) (.k0 [false] [] [0, 1, 5]) ?_
    refine .then ?_
    refine .block ?_
    refine .then ?_
    replace hm := oo_inv hm; obtain ⟨k1, h2, hm⟩ := hm
    obtain rfl := toN_some h2
    replace hm := bb_inv hm; obtain ⟨h3, hm⟩ := hm
    replace hm := oo_inv hm; obtain ⟨v0, h4, hm⟩ := hm
    replace hm := inv_toI hm; obtain ⟨x0, rfl, hm⟩ := hm
    replace hm := bb_inv hm; obtain ⟨h5, hm⟩ := hm
    replace hm := oo_inv hm; obtain ⟨v1, h6, hm⟩ := hm
    replace hm := inv_toI hm; obtain ⟨x1, rfl, hm⟩ := hm
    refine .reg (eC 2 (keep (hp 1 [(oT tab0)]) (bb (an (Nat.blt k1 (Sl.n s2)) true) (some (fpV (k1 * 1) (Sl.cs s2))) none)) (keep_bb h3) (eD (keep (hp 1 [(oT tab0)]) (nthL (Sl.cs s2) (k1 * 1))) (keep_eq h4) (eC 2 (keep (hp 1 [(oT tab0)]) (bb (an (Nat.blt k1 (Sl.n s3)) true) (some (fpV (k1 * 1) (Sl.cs s3))) none)) (keep_bb h5) (eD (keep (hp 1 [(oT tab0)]) (nthL (Sl.cs s3) (k1 * 1))) (keep_eq h6) (eE))))) ?_
    refine .ghs (fr 26 [(0, Sl.v 1 s2), (1, Sl.v 1 s3), (5, (zI (Int.ofNat k1))), (25, (zB (nt (ieq x0 x1))))]) (hp 1 [(oT tab0)]) (.k0 [false] [] [0, 1, 5, 25]) ?_
    replace hm := bb_cases hm; rcases hm with ⟨h7, hm⟩ | ⟨h7, hm⟩
    ·refine .ifT (nt (ieq x0 x1)) (by kernel_rfl) h7 ?_
     refine .then (.rK ?_)
     refine .ghs (fr 26 [(4, zB false)]) (hp 1 [(oT tab0)]) (.k0 [false] [] [4]) ?_
     refine .ret ?_
     exact fin_ret (zB false) (by kernel_rfl) (by kernel_rfl) hm
    ·refine .ifF (nt (ieq x0 x1)) (by kernel_rfl) h7 ?_
     refine .skip ?_
     refine .ghs (fr 26 [(0, Sl.v 1 s2), (1, Sl.v 1 s3), (5, (zI (Int.ofNat k1)))]) (hp 1 [(oT tab0)]) (.k0 [false] [] [0, 1, 5]) ?_
     refine .rK ?_
     exact ⟨(s2, s3, (wrapF .i64 (Int.add (Int.ofNat k1) (1 : Int)))), hm, (.k0 [false] [] [0, 1, 5])⟩
   ·refine .ifF (ilt z0 (Int.ofNat (Sl.n s2))) (by kernel_rfl) h1 ?_
    refine .exit ?_
    exact ⟨(), hm, (.k0 [false] [] [])⟩
end
end Go.MdRM
