/- Made from wip. -/
import Derived.Test.YtlgmapibifphaaaDoorMdRMod0x

set_option maxRecDepth 100000
set_option maxHeartbeats 20000000
set_option linter.unusedVariables false
namespace Go.MdRM
open Go.Sp Go.MdR
noncomputable section
def m4_2 (pu : PureF) (n : Nat) (b0 : Bool) : OV :=
 (some (.bool b0))
def m4_1 (pu : PureF) (n : Nat) (s67 : Sl) (z68 : Int) (s69 s70 : Sl) : OV :=
 (oo (pu 16 [(.agg ⟨[.int .i64 z68, Sl.v 1 s69, Sl.v 1 s70]⟩)]) none fun v81 => (oo (vTup v81) none fun l83 => (ll l83 none fun v85 l83 => (ll l83 none fun v86 l83 => (ll l83 (oo (toSl 1 v85) none fun s87 => (oo (toI .i64 v86) none fun x89 => (oo (pu 17 [(.agg ⟨[.int .i64 z68, Sl.v 1 s69, Sl.v 1 s70]⟩)]) none fun v0 => (oo (vTup v0) none fun l0 => (ll l0 none fun v1 l0 => (ll l0 none fun v2 l0 => (ll l0 (oo (toSl 1 v1) none fun s0 => (oo (toI .i64 v2) none fun x0 => (oo (pu 18 [(.agg ⟨[.int .i64 z68, Sl.v 1 s69, Sl.v 1 s70]⟩), Sl.v 1 s67]) none fun v3 => (oo (vTup v3) none fun l1 => (ll l1 none fun v4 l1 => (ll l1 none fun v5 l1 => (ll l1 (oo (toI .i64 v4) none fun x1 => (oo (toI .i64 v5) none fun x2 => (oo (pu 19 [(.agg ⟨[.int .i64 z68, Sl.v 1 s69, Sl.v 1 s70]⟩), Sl.v 1 s67]) none fun v6 => (oo (vTup v6) none fun l2 => (ll l2 none fun v7 l2 => (ll l2 none fun v8 l2 => (ll l2 (oo (toI .i64 v7) none fun x3 => (oo (toI .i64 v8) none fun x4 => (oo (pu 20 [Sl.v 1 s87, Sl.v 1 s0]) none fun v9 => (oo (vBool v9) none fun b0 => (bb b0 (bb (ieq x89 x0) (bb (ieq x1 x3) (bb (ieq x2 x4) (oo (pu 12 []) none fun v10 => (oo (vBool v10) none fun b1 => (m4_2 pu n b1))) (m4_2 pu n false)) (m4_2 pu n false)) (m4_2 pu n false)) (m4_2 pu n false)))))) fun _ _ => none))))))) fun _ _ => none))))))) fun _ _ => none))))))) fun _ _ => none)))))
def b4_3 (pu : PureF) (n : Nat) (ih0 : Sl → Int → Int → Sl → Sl → OV) (s0 : Sl) (z0 z1 : Int) (s1 s2 : Sl) : OV :=
 (bb (ilt z0 (Int.ofNat (Sl.n s0))) (oo (toN z0) none fun k1 => (bb (an (Nat.blt k1 (Sl.n s0)) true) (oo (nthL (Sl.cs s0) (k1 * 1)) none fun v0 => (oo (toSl 1 v0) none fun s3 => (bb (ilt (40 : Int) (Int.ofNat (Sl.n s3))) (oo (pu 12 []) none fun v1 => (oo (vBool v1) none fun b0 => (some (.bool b0)))) (ih0 s0 (wrapF .i64 (Int.add (Int.ofNat k1) (1 : Int))) z1 s1 s2)))) none)) (m4_1 pu n s0 z1 s1 s2))
def l4_3 (pu : PureF) (n w : Nat) : Sl → Int → Int → Sl → Sl → OV :=
 Nat.rec (motive := fun _ => Sl → Int → Int → Sl → Sl → OV) (fun _ _ _ _ _ => none) (fun _ ih0 => b4_3 pu n ih0) w
def m4_0 (pu : PureF) (n : Nat) (s24 : Sl) (b25 : Bool) (z26 : Int) (s27 s28 : Sl) : OV :=
 (bb b25 (oo (pu 12 []) none fun v34 => (oo (vBool v34) none fun b36 => (some (.bool b36)))) (l4_3 pu n n s24 (0 : Int) z26 s27 s28))
def m4_ (pu : PureF) (n : Nat) (x6 : Int) (s8 s10 s12 : Sl) : OV :=
 (oo (pu 11 [(.agg ⟨[.int .i64 x6, Sl.v 1 s8, Sl.v 1 s10]⟩)]) none fun v0 => (oo (vBool v0) none fun b0 => (bb b0 (m4_0 pu n s12 true x6 s8 s10) (m4_0 pu n s12 (ilt (40 : Int) (Int.ofNat (Sl.n s12))) x6 s8 s10))))
def m4 (pu : PureF) (n : Nat) (args : LV) : OV :=
 (ll args none fun a0 args => (ll args none fun a1 args => (ll args (oo (vAgg a0) none fun l1 => (ll l1 none fun v3 l1 => (ll l1 none fun v4 l1 => (ll l1 none fun v5 l1 => (ll l1 (oo (toI .i64 v3) none fun x6 => (oo (toSl 1 v4) none fun s8 => (oo (toSl 1 v5) none fun s10 => (oo (toSl 1 a1) none fun s12 => (m4_ pu n x6 s8 s10 s12))))) fun _ _ => none))))) fun _ _ => none)))
theorem w4_2 (pu : PureF) (n : Nat) (b0 : Bool) {v : Value} (hm : m4_2 pu n b0 = some v) : Run tt (callP tabs isP pu (inl pu)) 1 .ret (fr 80 [(4, zB b0)]) (hp 1 [(oT tab0)]) (Fin tt 1 [.tmp 4] v) := by
 unfold m4_2 at hm
 refine .ret ?_
 exact fin_ret (zB b0) (by kernel_rfl) (by kernel_rfl) hm
theorem w4_1 (pu : PureF) (n : Nat) (s67 : Sl) (z68 : Int) (s69 s70 : Sl) {v : Value} (hm : m4_1 pu n s67 z68 s69 s70 = some v) : Run tt (callP tabs isP pu (inl pu)) 1 c4_33 (fr 80 [(1, Sl.v 1 s67), (2, pt 1 0)]) (hT 2 [(oC [zI z68, Sl.v 1 s69, Sl.v 1 s70])]) (Fin tt 1 [.tmp 4] v) := by
 unfold m4_1 at hm
 refine .then (.rK ?_)
 refine .ghs (fr 80 [(1, Sl.v 1 s67), (2, pt 1 0), (6, (pt 2 0))]) (hT 3 [(oC [zI z68, Sl.v 1 s69, Sl.v 1 s70]), (oC [zI z68, Sl.v 1 s69, Sl.v 1 s70])]) (.k0 [false] [.tmp 2 false, .tmp 6 false] [1, 2, 6]) ?_
 refine .then ?_
 replace hm := oo_inv hm; obtain ⟨v81, h82, hm⟩ := hm
 replace hm := inv_vTup hm; obtain ⟨l83, rfl, hm⟩ := hm
 replace hm := ll_uncons hm; obtain ⟨v85, l83_0, rfl, hm⟩ := hm
 replace hm := ll_uncons hm; obtain ⟨v86, l83_1, rfl, hm⟩ := hm
 replace hm := ll_end hm; obtain ⟨rfl, hm⟩ := hm
 replace hm := inv_toSl hm; obtain ⟨s87, rfl, hm⟩ := hm
 replace hm := inv_toI hm; obtain ⟨x89, rfl, hm⟩ := hm
 refine .reg (eC 1 ((oo (pu 16 [(.agg ⟨[zI z68, Sl.v 1 s69, Sl.v 1 s70]⟩)]) none fun v => some (v, (hT 3 [(oC [zI z68, Sl.v 1 s69, Sl.v 1 s70]), (oC [zI z68, Sl.v 1 s69, Sl.v 1 s70])])))) (call_eq h82) (eE)) ?_
 refine .ghs (fr 80 [(1, Sl.v 1 s67), (2, pt 1 0), (6, (pt 2 0)), (7, Sl.v 1 s87), (8, zI x89)]) (hT 3 [(oC [zI z68, Sl.v 1 s69, Sl.v 1 s70]), (oC [zI z68, Sl.v 1 s69, Sl.v 1 s70])]) (.k0 [false] [.tmp 2 false, .tmp 6 false] [1, 2, 6, 7, 8]) ?_
 refine .then ?_
 replace hm := oo_inv hm; obtain ⟨v0, h0, hm⟩ := hm
 replace hm := inv_vTup hm; obtain ⟨l0, rfl, hm⟩ := hm
 replace hm := ll_uncons hm; obtain ⟨v1, l103_0, rfl, hm⟩ := hm
 replace hm := ll_uncons hm; obtain ⟨v2, l103_1, rfl, hm⟩ := hm
 replace hm := ll_end hm; obtain ⟨rfl, hm⟩ := hm
 replace hm := inv_toSl hm; obtain ⟨s0, rfl, hm⟩ := hm
 replace hm := inv_toI hm; obtain ⟨x0, rfl, hm⟩ := hm
 refine .reg (eC 1 ((oo (pu 17 [(.agg ⟨[zI z68, Sl.v 1 s69, Sl.v 1 s70]⟩)]) none fun v => some (v, (hT 3 [(oC [zI z68, Sl.v 1 s69, Sl.v 1 s70]), (oC [zI z68, Sl.v 1 s69, Sl.v 1 s70])])))) (call_eq h0) (eE)) ?_
 refine .ghs (fr 80 [(1, Sl.v 1 s67), (2, pt 1 0), (6, (pt 2 0)), (7, Sl.v 1 s87), (8, zI x89), (9, Sl.v 1 s0), (10, zI x0)]) (hT 3 [(oC [zI z68, Sl.v 1 s69, Sl.v 1 s70]), (oC [zI z68, Sl.v 1 s69, Sl.v 1 s70])]) (.k0 [false] [.tmp 2 false, .tmp 6 false] [1, 2, 6, 7, 8, 9, 10]) ?_
 refine .then ?_
 replace hm := oo_inv hm; obtain ⟨v3, h1, hm⟩ := hm
 replace hm := inv_vTup hm; obtain ⟨l1, rfl, hm⟩ := hm
 replace hm := ll_uncons hm; obtain ⟨v4, l123_0, rfl, hm⟩ := hm
 replace hm := ll_uncons hm; obtain ⟨v5, l123_1, rfl, hm⟩ := hm
 replace hm := ll_end hm; obtain ⟨rfl, hm⟩ := hm
 replace hm := inv_toI hm; obtain ⟨x1, rfl, hm⟩ := hm
 replace hm := inv_toI hm; obtain ⟨x2, rfl, hm⟩ := hm
 refine .reg (eC 2 ((oo (pu 18 [(.agg ⟨[zI z68, Sl.v 1 s69, Sl.v 1 s70]⟩), Sl.v 1 s67]) none fun v => some (v, (hT 3 [(oC [zI z68, Sl.v 1 s69, Sl.v 1 s70]), (oC [zI z68, Sl.v 1 s69, Sl.v 1 s70])])))) (call_eq h1) (eE)) ?_
 refine .ghs (fr 80 [(1, Sl.v 1 s67), (6, pt 1 0), (7, Sl.v 1 s87), (8, zI x89), (9, Sl.v 1 s0), (10, zI x0), (11, zI x1), (12, zI x2)]) (hT 2 [(oC [zI z68, Sl.v 1 s69, Sl.v 1 s70])]) (.k0 [false] [.tmp 6 false] [1, 6, 7, 8, 9, 10, 11, 12]) ?_
 refine .then ?_
 replace hm := oo_inv hm; obtain ⟨v6, h2, hm⟩ := hm
 replace hm := inv_vTup hm; obtain ⟨l2, rfl, hm⟩ := hm
 replace hm := ll_uncons hm; obtain ⟨v7, l143_0, rfl, hm⟩ := hm
 replace hm := ll_uncons hm; obtain ⟨v8, l143_1, rfl, hm⟩ := hm
 replace hm := ll_end hm; obtain ⟨rfl, hm⟩ := hm
 replace hm := inv_toI hm; obtain ⟨x3, rfl, hm⟩ := hm
 replace hm := inv_toI hm; obtain ⟨x4, rfl, hm⟩ := hm
 refine .reg (eC 2 ((oo (pu 19 [(.agg ⟨[zI z68, Sl.v 1 s69, Sl.v 1 s70]⟩), Sl.v 1 s67]) none fun v => some (v, (hT 2 [(oC [zI z68, Sl.v 1 s69, Sl.v 1 s70])])))) (call_eq h2) (eE)) ?_
 refine .ghs (fr 80 [(7, Sl.v 1 s87), (8, zI x89), (9, Sl.v 1 s0), (10, zI x0), (11, zI x1), (12, zI x2), (13, zI x3), (14, zI x4)]) (hp 1 [(oT tab0)]) (.k0 [false] [] [7, 8, 9, 10, 11, 12, 13, 14]) ?_
 refine .join (v := v) (fun y : Bool => ((fr 80 [(4, zB y)]), (hp 1 [(oT tab0)]))) (fun y => m4_2 pu n y) ?_ ?_
 ·rintro b0 hm
  exact w4_2 pu n b0 hm
 ·replace hm := oo_inv hm; obtain ⟨v9, h3, hm⟩ := hm
  replace hm := inv_vBool hm; obtain ⟨b1, rfl, hm⟩ := hm
  replace hm := bb_cases hm; rcases hm with ⟨h4, hm⟩ | ⟨h4, hm⟩
  ·replace hm := bb_cases hm; rcases hm with ⟨h5, hm⟩ | ⟨h5, hm⟩
   ·replace hm := bb_cases hm; rcases hm with ⟨h6, hm⟩ | ⟨h6, hm⟩
    ·replace hm := bb_cases hm; rcases hm with ⟨h7, hm⟩ | ⟨h7, hm⟩
     ·replace hm := oo_inv hm; obtain ⟨v10, h8, hm⟩ := hm
      replace hm := inv_vBool hm; obtain ⟨b2, rfl, hm⟩ := hm
      refine .reg (eC 2 ((oo (pu 20 [Sl.v 1 s87, Sl.v 1 s0]) none fun v => some (v, (hp 1 [(oT tab0)])))) (show _ = some ((zB true), _) from (by have hz : (oo (pu 20 [Sl.v 1 s87, Sl.v 1 s0]) none fun v => some (v, (hp 1 [(oT tab0)]))) = some ((zB b1), (hp 1 [(oT tab0)])) := (call_eq h3); rw [h4] at hz; exact hz)) (eC 3 (some ((zB (ieq x89 x0)), (hp 1 [(oT tab0)]))) (show _ = some ((zB true), _) from (by rw [h5])) (eC 4 (some ((zB (ieq x1 x3)), (hp 1 [(oT tab0)]))) (show _ = some ((zB true), _) from (by rw [h6])) (eC 4 (some ((zB (ieq x2 x4)), (hp 1 [(oT tab0)]))) (show _ = some ((zB true), _) from (by rw [h7])) (eC 2 ((oo (pu 12 []) none fun v => some (v, (hp 1 [(oT tab0)])))) (call_eq h8) (eE)))))) ?_
      exact ⟨b2, hm, (.k0 [false] [] [4])⟩
     ·refine .reg (eC 2 ((oo (pu 20 [Sl.v 1 s87, Sl.v 1 s0]) none fun v => some (v, (hp 1 [(oT tab0)])))) (show _ = some ((zB true), _) from (by have hz : (oo (pu 20 [Sl.v 1 s87, Sl.v 1 s0]) none fun v => some (v, (hp 1 [(oT tab0)]))) = some ((zB b1), (hp 1 [(oT tab0)])) := (call_eq h3); rw [h4] at hz; exact hz)) (eC 3 (some ((zB (ieq x89 x0)), (hp 1 [(oT tab0)]))) (show _ = some ((zB true), _) from (by rw [h5])) (eC 4 (some ((zB (ieq x1 x3)), (hp 1 [(oT tab0)]))) (show _ = some ((zB true), _) from (by rw [h6])) (eC 4 (some ((zB (ieq x2 x4)), (hp 1 [(oT tab0)]))) (show _ = some ((zB false), _) from (by rw [h7])) (eE))))) ?_
      exact ⟨false, hm, (.k0 [false] [] [4])⟩
    ·refine .reg (eC 2 ((oo (pu 20 [Sl.v 1 s87, Sl.v 1 s0]) none fun v => some (v, (hp 1 [(oT tab0)])))) (show _ = some ((zB true), _) from (by have hz : (oo (pu 20 [Sl.v 1 s87, Sl.v 1 s0]) none fun v => some (v, (hp 1 [(oT tab0)]))) = some ((zB b1), (hp 1 [(oT tab0)])) := (call_eq h3); rw [h4] at hz; exact hz)) (eC 3 (some ((zB (ieq x89 x0)), (hp 1 [(oT tab0)]))) (show _ = some ((zB true), _) from (by rw [h5])) (eC 4 (some ((zB (ieq x1 x3)), (hp 1 [(oT tab0)]))) (show _ = some ((zB false), _) from (by rw [h6])) (eE)))) ?_
     exact ⟨false, hm, (.k0 [false] [] [4])⟩
   ·refine .reg (eC 2 ((oo (pu 20 [Sl.v 1 s87, Sl.v 1 s0]) none fun v => some (v, (hp 1 [(oT tab0)])))) (show _ = some ((zB true), _) from (by have hz : (oo (pu 20 [Sl.v 1 s87, Sl.v 1 s0]) none fun v => some (v, (hp 1 [(oT tab0)]))) = some ((zB b1), (hp 1 [(oT tab0)])) := (call_eq h3); rw [h4] at hz; exact hz)) (eC 3 (some ((zB (ieq x89 x0)), (hp 1 [(oT tab0)]))) (show _ = some ((zB false), _) from (by rw [h5])) (eE))) ?_
    exact ⟨false, hm, (.k0 [false] [] [4])⟩
  ·refine .reg (eC 2 ((oo (pu 20 [Sl.v 1 s87, Sl.v 1 s0]) none fun v => some (v, (hp 1 [(oT tab0)])))) (show _ = some ((zB false), _) from (by have hz : (oo (pu 20 [Sl.v 1 s87, Sl.v 1 s0]) none fun v => some (v, (hp 1 [(oT tab0)]))) = some ((zB b1), (hp 1 [(oT tab0)])) := (call_eq h3); rw [h4] at hz; exact hz)) (eE)) ?_
   exact ⟨false, hm, (.k0 [false] [] [4])⟩
theorem r4 {call : CallF} (pu : PureF) (n : Nat) (hcall : call = callP tabs isP pu (inl pu)) {args : LV} {v : Value} (hm : m4 pu n args = some v) (_ : ∀ x ∈ args, closed2 x = true) : args.length ≤ 80 ∧ Run tt call 1 c4_36 (Fr.made 80 args) (pureHeap tabs) (Fin tt 1 [.tmp 4] v) := by
 subst hcall
 unfold m4 at hm
 replace hm := ll_uncons hm; obtain ⟨a0, args_0, rfl, hm⟩ := hm
 replace hm := ll_uncons hm; obtain ⟨a1, args_1, rfl, hm⟩ := hm
 replace hm := ll_end hm; obtain ⟨rfl, hm⟩ := hm
 replace hm := inv_vAgg hm; obtain ⟨l1, rfl, hm⟩ := hm
 replace hm := ll_uncons hm; obtain ⟨v3, l1_0, rfl, hm⟩ := hm
 replace hm := ll_uncons hm; obtain ⟨v4, l1_1, rfl, hm⟩ := hm
 replace hm := ll_uncons hm; obtain ⟨v5, l1_2, rfl, hm⟩ := hm
 replace hm := ll_end hm; obtain ⟨rfl, hm⟩ := hm
 replace hm := inv_toI hm; obtain ⟨x6, rfl, hm⟩ := hm
 replace hm := inv_toSl hm; obtain ⟨s8, rfl, hm⟩ := hm
 replace hm := inv_toSl hm; obtain ⟨s10, rfl, hm⟩ := hm
 replace hm := inv_toSl hm; obtain ⟨s12, rfl, hm⟩ := hm
 unfold m4_ at hm
 refine ⟨by simp, ?_⟩
 refine .same (F' := (fr 80 [(0, (.agg ⟨[zI x6, Sl.v 1 s8, Sl.v 1 s10]⟩)), (1, Sl.v 1 s12)])) (H' := (hp 1 [(oT tab0)])) (by kernel_rfl) (by kernel_rfl) ?_
 refine .then (.rK ?_)
 refine .ghs (fr 80 [(1, Sl.v 1 s12), (2, pt 1 0)]) (hT 2 [(oC [zI x6, Sl.v 1 s8, Sl.v 1 s10])]) (.k0 [false] [.tmp 2 false] [1, 2]) ?_
 refine .then ?_
 refine .join (v := v) (fun y : Sl × Bool × Int × Sl × Sl => ((fr 80 [(1, (Sl.v 1 y.1)), (2, pt 1 0), (21, (zB y.2.1))]), (hT 2 [(oC [(zI y.2.2.1), (Sl.v 1 y.2.2.2.1), (Sl.v 1 y.2.2.2.2)])]))) (fun y => m4_0 pu n y.1 y.2.1 y.2.2.1 y.2.2.2.1 y.2.2.2.2) ?_ ?_
 ·rintro ⟨s24, b25, z26, s27, s28⟩ hm
  unfold m4_0 at hm
  replace hm := bb_cases hm; rcases hm with ⟨h29, hm⟩ | ⟨h29, hm⟩
  ·refine .ifT b25 (by kernel_rfl) h29 ?_
   refine .then ?_
   replace hm := oo_inv hm; obtain ⟨v34, h35, hm⟩ := hm
   replace hm := inv_vBool hm; obtain ⟨b36, rfl, hm⟩ := hm
   refine .reg (eD ((oo (pu 12 []) none fun v => some (v, (hT 2 [(oC [zI z26, Sl.v 1 s27, Sl.v 1 s28])])))) (call_eq h35) (eE)) ?_
   refine .ghs (fr 80 [(4, zB b36)]) (hp 1 [(oT tab0)]) (.k0 [false] [] [4]) ?_
   refine .ret ?_
   exact fin_ret (zB b36) (by kernel_rfl) (by kernel_rfl) hm
  ·refine .ifF b25 (by kernel_rfl) h29 ?_
   refine .skip ?_
   refine .ghs (fr 80 [(1, Sl.v 1 s24), (2, pt 1 0)]) (hT 2 [(oC [zI z26, Sl.v 1 s27, Sl.v 1 s28])]) (.k0 [false] [.tmp 2 false] [1, 2]) ?_
   refine .join (v := v) (fun y : Sl × Int × Sl × Sl => ((fr 80 [(1, (Sl.v 1 y.1)), (2, pt 1 0)]), (hT 2 [(oC [(zI y.2.1), (Sl.v 1 y.2.2.1), (Sl.v 1 y.2.2.2)])]))) (fun y => m4_1 pu n y.1 y.2.1 y.2.2.1 y.2.2.2) ?_ ?_
   ·rintro ⟨s67, z68, s69, s70⟩ hm
    exact w4_1 pu n s67 z68 s69 s70 hm
   ·refine .then (.rK ?_)
    refine .ghs (fr 80 [(1, Sl.v 1 s24), (2, pt 1 0), (5, (zI (0 : Int)))]) (hT 2 [(oC [zI z26, Sl.v 1 s27, Sl.v 1 s28])]) (.k0 [false] [.tmp 2 false] [1, 2, 5]) ?_
    refine .block ?_
    refine .loopM (v := v) (fun y : Sl × Int × Int × Sl × Sl => ((fr 80 [(1, (Sl.v 1 y.1)), (2, pt 1 0), (5, (zI y.2.1))]), (hT 2 [(oC [(zI y.2.2.1), (Sl.v 1 y.2.2.2.1), (Sl.v 1 y.2.2.2.2)])]))) (fun w y => l4_3 pu n w y.1 y.2.1 y.2.2.1 y.2.2.2.1 y.2.2.2.2) n ⟨(s24, (0 : Int), z26, s27, s28), hm, (.k0 [false] [.tmp 2 false] [1, 2, 5])⟩ (fun _ => rfl) ?_
    rintro w0 ⟨s0, z0, z1, s1, s2⟩ hm
    replace hm : b4_3 pu n (l4_3 pu n w0) s0 z0 z1 s1 s2 = some v := hm
    unfold b4_3 at hm
    refine .then ?_
    refine .then (.rK ?_)
    refine .ghs (fr 80 [(1, Sl.v 1 s0), (2, pt 1 0), (5, zI z0), (26, (zB (ilt z0 (Int.ofNat (Sl.n s0)))))]) (hT 2 [(oC [zI z1, Sl.v 1 s1, Sl.v 1 s2])]) (.k0 [false] [.tmp 2 false] [1, 2, 5, 26]) ?_
    replace hm := bb_cases hm; rcases hm with ⟨h0, hm⟩ | ⟨h0, hm⟩
    ·refine .ifT (ilt z0 (Int.ofNat (Sl.n s0))) (by kernel_rfl) h0 ?_
     refine .skip ?_
     refine .ghs (fr 80 [(1, Sl.v 1 s0), (2, pt 1 0), (5, zI z0)]) (hT 2 [(oC [zI z1, Sl.v 1 s1, Sl.v 1 s2])]) (.k0 [false] [.tmp 2 false] [1, 2, 5]) ?_
     refine .then ?_
     refine .block ?_
     refine .then ?_
     replace hm := oo_inv hm; obtain ⟨k1, h1, hm⟩ := hm
     obtain rfl := toN_some h1
     replace hm := bb_inv hm; obtain ⟨h2, hm⟩ := hm
     replace hm := oo_inv hm; obtain ⟨v0, h3, hm⟩ := hm
     replace hm := inv_toSl hm; obtain ⟨s3, rfl, hm⟩ := hm
     refine .reg (eC 2 (keep (hT 2 [(oC [zI z1, Sl.v 1 s1, Sl.v 1 s2])]) (bb (an (Nat.blt k1 (Sl.n s0)) true) (some (fpV (k1 * 1) (Sl.cs s0))) none)) (keep_bb h2) (eD (keep (hT 2 [(oC [zI z1, Sl.v 1 s1, Sl.v 1 s2])]) (nthL (Sl.cs s0) (k1 * 1))) (keep_eq h3) (eE))) ?_
     refine .ghs (fr 80 [(1, Sl.v 1 s0), (2, pt 1 0), (5, (zI (Int.ofNat k1))), (34, (zB (ilt (40 : Int) (Int.ofNat (Sl.n s3)))))]) (hT 2 [(oC [zI z1, Sl.v 1 s1, Sl.v 1 s2])]) (.k0 [false] [.tmp 2 false] [1, 2, 5, 34]) ?_
     replace hm := bb_cases hm; rcases hm with ⟨h4, hm⟩ | ⟨h4, hm⟩
     ·refine .ifT (ilt (40 : Int) (Int.ofNat (Sl.n s3))) (by kernel_rfl) h4 ?_
      refine .then ?_
      replace hm := oo_inv hm; obtain ⟨v1, h5, hm⟩ := hm
      replace hm := inv_vBool hm; obtain ⟨b0, rfl, hm⟩ := hm
      refine .reg (eD ((oo (pu 12 []) none fun v => some (v, (hT 2 [(oC [zI z1, Sl.v 1 s1, Sl.v 1 s2])])))) (call_eq h5) (eE)) ?_
      refine .ghs (fr 80 [(4, zB b0)]) (hp 1 [(oT tab0)]) (.k0 [false] [] [4]) ?_
      refine .ret ?_
      exact fin_ret (zB b0) (by kernel_rfl) (by kernel_rfl) hm
     ·refine .ifF (ilt (40 : Int) (Int.ofNat (Sl.n s3))) (by kernel_rfl) h4 ?_
      refine .skip ?_
      refine .ghs (fr 80 [(1, Sl.v 1 s0), (2, pt 1 0), (5, (zI (Int.ofNat k1)))]) (hT 2 [(oC [zI z1, Sl.v 1 s1, Sl.v 1 s2])]) (.k0 [false] [.tmp 2 false] [1, 2, 5]) ?_
      refine .rK ?_
      exact ⟨(s0, (wrapF .i64 (Int.add (Int.ofNat k1) (1 : Int))), z1, s1, s2), hm, (.k0 [false] [.tmp 2 false] [1, 2, 5])⟩
    ·refine .ifF (ilt z0 (Int.ofNat (Sl.n s0))) (by kernel_rfl) h0 ?_
     refine .exit ?_
     exact ⟨(s0, z1, s1, s2), hm, (.k0 [false] [.tmp 2 false] [1, 2])⟩
 ·replace hm := oo_inv hm; obtain ⟨v2, h6, hm⟩ := hm
  replace hm := inv_vBool hm; obtain ⟨b1, rfl, hm⟩ := hm
  replace hm := bb_cases hm; rcases hm with ⟨h7, hm⟩ | ⟨h7, hm⟩
  ·refine .reg (eC 1 ((oo (pu 11 [(.agg ⟨[zI x6, Sl.v 1 s8, Sl.v 1 s10]⟩)]) none fun v => some (v, (hT 2 [(oC [zI x6, Sl.v 1 s8, Sl.v 1 s10])])))) (show _ = some ((zB true), _) from (by have hz : (oo (pu 11 [(.agg ⟨[zI x6, Sl.v 1 s8, Sl.v 1 s10]⟩)]) none fun v => some (v, (hT 2 [(oC [zI x6, Sl.v 1 s8, Sl.v 1 s10])]))) = some ((zB b1), (hT 2 [(oC [zI x6, Sl.v 1 s8, Sl.v 1 s10])])) := (call_eq h6); rw [h7] at hz; exact hz)) (eE)) ?_
   exact ⟨(s12, true, x6, s8, s10), hm, (.k0 [false] [.tmp 2 false] [1, 2, 21])⟩
  ·refine .reg (eC 1 ((oo (pu 11 [(.agg ⟨[zI x6, Sl.v 1 s8, Sl.v 1 s10]⟩)]) none fun v => some (v, (hT 2 [(oC [zI x6, Sl.v 1 s8, Sl.v 1 s10])])))) (show _ = some ((zB false), _) from (by have hz : (oo (pu 11 [(.agg ⟨[zI x6, Sl.v 1 s8, Sl.v 1 s10]⟩)]) none fun v => some (v, (hT 2 [(oC [zI x6, Sl.v 1 s8, Sl.v 1 s10])]))) = some ((zB b1), (hT 2 [(oC [zI x6, Sl.v 1 s8, Sl.v 1 s10])])) := (call_eq h6); rw [h7] at hz; exact hz)) (eE)) ?_
   exact ⟨(s12, (ilt (40 : Int) (Int.ofNat (Sl.n s12))), x6, s8, s10), hm, (.k0 [false] [.tmp 2 false] [1, 2, 21])⟩
def m11_0 (pu : PureF) (n : Nat) (b0 : Bool) : OV :=
 (some (.bool b0))
def m11_ (pu : PureF) (n : Nat) (x0 : Int) (s0 s1 : Sl) : OV :=
 (bb (ilt (40 : Int) (Int.ofNat (Sl.n s0))) (m11_0 pu n true) (m11_0 pu n (ilt (40 : Int) (Int.ofNat (Sl.n s1)))))
def m11 (pu : PureF) (n : Nat) (args : LV) : OV :=
 (ll args none fun a0 args => (ll args (oo (vAgg a0) none fun l0 => (ll l0 none fun v0 l0 => (ll l0 none fun v1 l0 => (ll l0 none fun v2 l0 => (ll l0 (oo (toI .i64 v0) none fun x0 => (oo (toSl 1 v1) none fun s0 => (oo (toSl 1 v2) none fun s1 => (m11_ pu n x0 s0 s1)))) fun _ _ => none))))) fun _ _ => none))
theorem w11_0 (pu : PureF) (n : Nat) (b0 : Bool) {v : Value} (hm : m11_0 pu n b0 = some v) : Run tt (callP tabs isP pu (inl pu)) 1 .ret (fr 13 [(2, zB b0)]) (hp 1 [(oT tab0)]) (Fin tt 1 [.tmp 2] v) := by
 unfold m11_0 at hm
 refine .ret ?_
 exact fin_ret (zB b0) (by kernel_rfl) (by kernel_rfl) hm
theorem r11 {call : CallF} (pu : PureF) (n : Nat) (hcall : call = callP tabs isP pu (inl pu)) {args : LV} {v : Value} (hm : m11 pu n args = some v) (_ : ∀ x ∈ args, closed2 x = true) : args.length ≤ 13 ∧ Run tt call 1 c11_3 (Fr.made 13 args) (pureHeap tabs) (Fin tt 1 [.tmp 2] v) := by
 subst hcall
 unfold m11 at hm
 replace hm := ll_uncons hm; obtain ⟨a0, args_0, rfl, hm⟩ := hm
 replace hm := ll_end hm; obtain ⟨rfl, hm⟩ := hm
 replace hm := inv_vAgg hm; obtain ⟨l0, rfl, hm⟩ := hm
 replace hm := ll_uncons hm; obtain ⟨v0, l239_0, rfl, hm⟩ := hm
 replace hm := ll_uncons hm; obtain ⟨v1, l239_1, rfl, hm⟩ := hm
 replace hm := ll_uncons hm; obtain ⟨v2, l239_2, rfl, hm⟩ := hm
 replace hm := ll_end hm; obtain ⟨rfl, hm⟩ := hm
 replace hm := inv_toI hm; obtain ⟨x0, rfl, hm⟩ := hm
 replace hm := inv_toSl hm; obtain ⟨s0, rfl, hm⟩ := hm
 replace hm := inv_toSl hm; obtain ⟨s1, rfl, hm⟩ := hm
 unfold m11_ at hm
 refine ⟨by simp, ?_⟩
 refine .same (F' := (fr 13 [(0, (.agg ⟨[zI x0, Sl.v 1 s0, Sl.v 1 s1]⟩))])) (H' := (hp 1 [(oT tab0)])) (by kernel_rfl) (by kernel_rfl) ?_
 refine .then (.rK ?_)
 refine .ghs (fr 13 [(1, pt 1 0)]) (hT 2 [(oC [zI x0, Sl.v 1 s0, Sl.v 1 s1])]) (.k0 [false] [.tmp 1 false] [1]) ?_
 refine .join (v := v) (fun y : Bool => ((fr 13 [(2, zB y)]), (hp 1 [(oT tab0)]))) (fun y => m11_0 pu n y) ?_ ?_
 ·rintro b0 hm
  exact w11_0 pu n b0 hm
 ·replace hm := bb_cases hm; rcases hm with ⟨h0, hm⟩ | ⟨h0, hm⟩
  ·refine .reg (eC 3 (some ((zB (ilt (40 : Int) (Int.ofNat (Sl.n s0)))), (hT 2 [(oC [zI x0, Sl.v 1 s0, Sl.v 1 s1])]))) (show _ = some ((zB true), _) from (by rw [h0])) (eE)) ?_
   exact ⟨true, hm, (.k0 [false] [] [2])⟩
  ·refine .reg (eC 3 (some ((zB (ilt (40 : Int) (Int.ofNat (Sl.n s0)))), (hT 2 [(oC [zI x0, Sl.v 1 s0, Sl.v 1 s1])]))) (show _ = some ((zB false), _) from (by rw [h0])) (eE)) ?_
   exact ⟨(ilt (40 : Int) (Int.ofNat (Sl.n s1))), hm, (.k0 [false] [] [2])⟩

def m16_ (pu : PureF) (n : Nat) (x0 : Int) (s0 s1 : Sl) : OV :=
 (oo (pu 47 [(.agg ⟨[.int .i64 x0, Sl.v 1 s0, Sl.v 1 s1]⟩)]) none fun v0 => (oo (toI .i64 v0) none fun x1 => (bb (nt (ieq x1 (0 : Int))) (some (.tuple ⟨[(Sl.v 1 (Sl.mk 0 2 [])), .int .i64 x1]⟩)) (oo (pu 48 [(.agg ⟨[.int .i64 x0, Sl.v 1 s0, Sl.v 1 s1]⟩)]) none fun v1 => (oo (toSl 1 v1) none fun s2 => (some (.tuple ⟨[Sl.v 1 s2, (.int .i64 (0 : Int))]⟩)))))))
def m16 (pu : PureF) (n : Nat) (args : LV) : OV :=
 (ll args none fun a0 args => (ll args (oo (vAgg a0) none fun l0 => (ll l0 none fun v0 l0 => (ll l0 none fun v1 l0 => (ll l0 none fun v2 l0 => (ll l0 (oo (toI .i64 v0) none fun x0 => (oo (toSl 1 v1) none fun s0 => (oo (toSl 1 v2) none fun s1 => (m16_ pu n x0 s0 s1)))) fun _ _ => none))))) fun _ _ => none))
theorem r16 {call : CallF} (pu : PureF) (n : Nat) (hcall : call = callP tabs isP pu (inl pu)) {args : LV} {v : Value} (hm : m16 pu n args = some v) (_ : ∀ x ∈ args, closed2 x = true) : args.length ≤ 12 ∧ Run tt call 1 c16_11 (Fr.made 12 args) (pureHeap tabs) (Fin tt 1 [.tmp 2, .tmp 3] v) := by
 subst hcall
 unfold m16 at hm
 replace hm := ll_uncons hm; obtain ⟨a0, args_0, rfl, hm⟩ := hm
 replace hm := ll_end hm; obtain ⟨rfl, hm⟩ := hm
 replace hm := inv_vAgg hm; obtain ⟨l0, rfl, hm⟩ := hm
 replace hm := ll_uncons hm; obtain ⟨v0, l255_0, rfl, hm⟩ := hm
 replace hm := ll_uncons hm; obtain ⟨v1, l255_1, rfl, hm⟩ := hm
 replace hm := ll_uncons hm; obtain ⟨v2, l255_2, rfl, hm⟩ := hm
 replace hm := ll_end hm; obtain ⟨rfl, hm⟩ := hm
 replace hm := inv_toI hm; obtain ⟨x0, rfl, hm⟩ := hm
 replace hm := inv_toSl hm; obtain ⟨s0, rfl, hm⟩ := hm
 replace hm := inv_toSl hm; obtain ⟨s1, rfl, hm⟩ := hm
 unfold m16_ at hm
 refine ⟨by simp, ?_⟩
 refine .same (F' := (fr 12 [(0, (.agg ⟨[zI x0, Sl.v 1 s0, Sl.v 1 s1]⟩))])) (H' := (hp 1 [(oT tab0)])) (by kernel_rfl) (by kernel_rfl) ?_
 refine .then (.rK ?_)
 refine .ghs (fr 12 [(1, pt 1 0)]) (hT 2 [(oC [zI x0, Sl.v 1 s0, Sl.v 1 s1])]) (.k0 [false] [.tmp 1 false] [1]) ?_
 refine .then ?_
 refine .then ?_
 replace hm := oo_inv hm; obtain ⟨v3, h0, hm⟩ := hm
 replace hm := inv_toI hm; obtain ⟨x1, rfl, hm⟩ := hm
 refine .reg (eC 1 ((oo (pu 47 [(.agg ⟨[zI x0, Sl.v 1 s0, Sl.v 1 s1]⟩)]) none fun v => some (v, (hT 2 [(oC [zI x0, Sl.v 1 s0, Sl.v 1 s1])])))) (call_eq h0) (eE)) ?_
 refine .ghs (fr 12 [(1, pt 1 0), (4, zI x1)]) (hT 2 [(oC [zI x0, Sl.v 1 s0, Sl.v 1 s1])]) (.k0 [false] [.tmp 1 false] [1, 4]) ?_
 refine .then (.rK ?_)
 refine .ghs (fr 12 [(1, pt 1 0), (4, zI x1), (8, (zB (nt (ieq x1 (0 : Int)))))]) (hT 2 [(oC [zI x0, Sl.v 1 s0, Sl.v 1 s1])]) (.k0 [false] [.tmp 1 false] [1, 4, 8]) ?_
 replace hm := bb_cases hm; rcases hm with ⟨h1, hm⟩ | ⟨h1, hm⟩
 ·refine .ifT (nt (ieq x1 (0 : Int))) (by kernel_rfl) h1 ?_
  refine .then (.rK ?_)
  refine .ghs (fr 12 [(2, (.slice none 0 0)), (3, zI x1)]) (hp 1 [(oT tab0)]) (.k0 [false] [] [2, 3]) ?_
  refine .ghs (Fr.puts (fr 12 [(2, (.slice none 0 0)), (3, zI x1)]) [(2, (Sl.v 1 (Sl.mk 0 2 [])))]) (hp 1 [(oT tab0)]) (.freeze 1 2 1 (by kernel_rfl) (by kernel_rfl) (GhS.id _ _)) ?_
  refine .ret ?_
  exact fin_ret (.tuple ⟨[(Sl.v 1 (Sl.mk 0 2 [])), zI x1]⟩) (by kernel_rfl) (by kernel_rfl) hm
 ·refine .ifF (nt (ieq x1 (0 : Int))) (by kernel_rfl) h1 ?_
  refine .skip ?_
  refine .ghs (fr 12 [(1, pt 1 0)]) (hT 2 [(oC [zI x0, Sl.v 1 s0, Sl.v 1 s1])]) (.k0 [false] [.tmp 1 false] [1]) ?_
  refine .then ?_
  replace hm := oo_inv hm; obtain ⟨v4, h2, hm⟩ := hm
  replace hm := inv_toSl hm; obtain ⟨s2, rfl, hm⟩ := hm
  refine .reg (eC 1 ((oo (pu 48 [(.agg ⟨[zI x0, Sl.v 1 s0, Sl.v 1 s1]⟩)]) none fun v => some (v, (hT 2 [(oC [zI x0, Sl.v 1 s0, Sl.v 1 s1])])))) (call_eq h2) (eE)) ?_
  refine .ghs (fr 12 [(2, Sl.v 1 s2), (3, (zI (0 : Int)))]) (hp 1 [(oT tab0)]) (.k0 [false] [] [2, 3]) ?_
  refine .ret ?_
  exact fin_ret (.tuple ⟨[Sl.v 1 s2, (zI (0 : Int))]⟩) (by kernel_rfl) (by kernel_rfl) hm

def m17_ (pu : PureF) (n : Nat) (x0 : Int) (s0 s1 : Sl) : OV :=
 (oo (pu 49 [(.agg ⟨[.int .i64 x0, Sl.v 1 s0, Sl.v 1 s1]⟩)]) none fun v0 => (oo (toI .i64 v0) none fun x1 => (bb (nt (ieq x1 (0 : Int))) (some (.tuple ⟨[(Sl.v 1 (Sl.mk 0 2 [])), .int .i64 x1]⟩)) (oo (pu 50 [(.agg ⟨[.int .i64 x0, Sl.v 1 s0, Sl.v 1 s1]⟩)]) none fun v1 => (oo (toSl 1 v1) none fun s2 => (some (.tuple ⟨[Sl.v 1 s2, (.int .i64 (0 : Int))]⟩)))))))
def m17 (pu : PureF) (n : Nat) (args : LV) : OV :=
 (ll args none fun a0 args => (ll args (oo (vAgg a0) none fun l0 => (ll l0 none fun v0 l0 => (ll l0 none fun v1 l0 => (ll l0 none fun v2 l0 => (ll l0 (oo (toI .i64 v0) none fun x0 => (oo (toSl 1 v1) none fun s0 => (oo (toSl 1 v2) none fun s1 => (m17_ pu n x0 s0 s1)))) fun _ _ => none))))) fun _ _ => none))
theorem r17 {call : CallF} (pu : PureF) (n : Nat) (hcall : call = callP tabs isP pu (inl pu)) {args : LV} {v : Value} (hm : m17 pu n args = some v) (_ : ∀ x ∈ args, closed2 x = true) : args.length ≤ 12 ∧ Run tt call 1 c17_11 (Fr.made 12 args) (pureHeap tabs) (Fin tt 1 [.tmp 2, .tmp 3] v) := by
 subst hcall
 unfold m17 at hm
 replace hm := ll_uncons hm; obtain ⟨a0, args_0, rfl, hm⟩ := hm
 replace hm := ll_end hm; obtain ⟨rfl, hm⟩ := hm
 replace hm := inv_vAgg hm; obtain ⟨l0, rfl, hm⟩ := hm
 replace hm := ll_uncons hm; obtain ⟨v0, l283_0, rfl, hm⟩ := hm
 replace hm := ll_uncons hm; obtain ⟨v1, l283_1, rfl, hm⟩ := hm
 replace hm := ll_uncons hm; obtain ⟨v2, l283_2, rfl, hm⟩ := hm
 replace hm := ll_end hm; obtain ⟨rfl, hm⟩ := hm
 replace hm := inv_toI hm; obtain ⟨x0, rfl, hm⟩ := hm
 replace hm := inv_toSl hm; obtain ⟨s0, rfl, hm⟩ := hm
 replace hm := inv_toSl hm; obtain ⟨s1, rfl, hm⟩ := hm
 unfold m17_ at hm
 refine ⟨by simp, ?_⟩
 refine .same (F' := (fr 12 [(0, (.agg ⟨[zI x0, Sl.v 1 s0, Sl.v 1 s1]⟩))])) (H' := (hp 1 [(oT tab0)])) (by kernel_rfl) (by kernel_rfl) ?_
 refine .then (.rK ?_)
 refine .ghs (fr 12 [(1, pt 1 0)]) (hT 2 [(oC [zI x0, Sl.v 1 s0, Sl.v 1 s1])]) (.k0 [false] [.tmp 1 false] [1]) ?_
 refine .then ?_
 replace hm := oo_inv hm; obtain ⟨v3, h0, hm⟩ := hm
 replace hm := inv_toI hm; obtain ⟨x1, rfl, hm⟩ := hm
 refine .reg (eC 1 ((oo (pu 49 [(.agg ⟨[zI x0, Sl.v 1 s0, Sl.v 1 s1]⟩)]) none fun v => some (v, (hT 2 [(oC [zI x0, Sl.v 1 s0, Sl.v 1 s1])])))) (call_eq h0) (eE)) ?_
 refine .ghs (fr 12 [(1, pt 1 0), (4, zI x1)]) (hT 2 [(oC [zI x0, Sl.v 1 s0, Sl.v 1 s1])]) (.k0 [false] [.tmp 1 false] [1, 4]) ?_
 refine .then ?_
 refine .then (.rK ?_)
 refine .ghs (fr 12 [(1, pt 1 0), (4, zI x1), (8, (zB (nt (ieq x1 (0 : Int)))))]) (hT 2 [(oC [zI x0, Sl.v 1 s0, Sl.v 1 s1])]) (.k0 [false] [.tmp 1 false] [1, 4, 8]) ?_
 replace hm := bb_cases hm; rcases hm with ⟨h1, hm⟩ | ⟨h1, hm⟩
 ·refine .ifT (nt (ieq x1 (0 : Int))) (by kernel_rfl) h1 ?_
  refine .then (.rK ?_)
  refine .ghs (fr 12 [(2, (.slice none 0 0)), (3, zI x1)]) (hp 1 [(oT tab0)]) (.k0 [false] [] [2, 3]) ?_
  refine .ghs (Fr.puts (fr 12 [(2, (.slice none 0 0)), (3, zI x1)]) [(2, (Sl.v 1 (Sl.mk 0 2 [])))]) (hp 1 [(oT tab0)]) (.freeze 1 2 1 (by kernel_rfl) (by kernel_rfl) (GhS.id _ _)) ?_
  refine .ret ?_
  exact fin_ret (.tuple ⟨[(Sl.v 1 (Sl.mk 0 2 [])), zI x1]⟩) (by kernel_rfl) (by kernel_rfl) hm
 ·refine .ifF (nt (ieq x1 (0 : Int))) (by kernel_rfl) h1 ?_
  refine .skip ?_
  refine .ghs (fr 12 [(1, pt 1 0)]) (hT 2 [(oC [zI x0, Sl.v 1 s0, Sl.v 1 s1])]) (.k0 [false] [.tmp 1 false] [1]) ?_
  refine .then ?_
  replace hm := oo_inv hm; obtain ⟨v4, h2, hm⟩ := hm
  replace hm := inv_toSl hm; obtain ⟨s2, rfl, hm⟩ := hm
  refine .reg (eC 1 ((oo (pu 50 [(.agg ⟨[zI x0, Sl.v 1 s0, Sl.v 1 s1]⟩)]) none fun v => some (v, (hT 2 [(oC [zI x0, Sl.v 1 s0, Sl.v 1 s1])])))) (call_eq h2) (eE)) ?_
  refine .ghs (fr 12 [(2, Sl.v 1 s2), (3, (zI (0 : Int)))]) (hp 1 [(oT tab0)]) (.k0 [false] [] [2, 3]) ?_
  refine .ret ?_
  exact fin_ret (.tuple ⟨[Sl.v 1 s2, (zI (0 : Int))]⟩) (by kernel_rfl) (by kernel_rfl) hm
def m18_0 (pu : PureF) (n : Nat) (s0 : Sl) (z0 z1 : Int) : OV :=
 (bb (nt (ieq z1 z0)) (some (.tuple ⟨[(.int .i64 (0 : Int)), (.int .i64 (21 : Int))]⟩)) (some (.tuple ⟨[(.int .i64 (Int.ofNat (Sl.n s0))), (.int .i64 (0 : Int))]⟩)))
def m18_2 (pu : PureF) (n : Nat) (ih0 : Sl → Int → Int → Sl → Int → Int → Int → Sl → Sl → OV) (s0 : Sl) (z0 z1 : Int) (s1 : Sl) (z2 z3 z4 : Int) (s2 s3 : Sl) : OV :=
 (ih0 s0 z0 z1 s1 z2 (wrapF .i64 (Int.add z3 (1 : Int))) z4 s2 s3)
def b18_4 (pu : PureF) (n : Nat) (ih0 : Sl → Int → Int → Sl → Int → Int → Int → Sl → Sl → OV) (ih1 : Sl → Int → Int → Int → Sl → Int → Int → Sl → Int → Int → Int → Sl → Sl → OV) (s0 : Sl) (z0 z1 z2 : Int) (s1 : Sl) (z3 z4 : Int) (s2 : Sl) (z5 z6 z7 : Int) (s3 s4 : Sl) : OV :=
 (bb (ilt z6 z5) (oo (toN z6) none fun k1 => (bb (an (Nat.blt k1 (Sl.n s2)) true) (oo (nthL (Sl.cs s2) (k1 * 1)) none fun v0 => (oo (toI .i64 v0) none fun x0 => (oo (toN z2) none fun k2 => (bb (an (Nat.blt k2 (Sl.n s4)) true) (oo (nthL (Sl.cs s4) (k2 * 1)) none fun v1 => (oo (toI .i64 v1) none fun x1 => (oo (toN x0) none fun k3 => (bb (an (Nat.blt k3 (Sl.n s3)) true) (oo (nthL (Sl.cs s3) (k3 * 1)) none fun v2 => (oo (toI .i64 v2) none fun x2 => (bb (nt (ieq x1 x2)) (some (.tuple ⟨[(.int .i64 (0 : Int)), (.int .i64 (14 : Int))]⟩)) (ih1 s0 z0 z1 (Int.ofNat k3) s1 z3 z4 s2 z5 (wrapF .i64 (Int.add (Int.ofNat k1) (1 : Int))) z7 s3 s4)))) none)))) none)))) none)) (m18_2 pu n ih0 s0 z0 z1 s1 z3 z4 z7 s3 s4))
def l18_4 (pu : PureF) (n : Nat) (ih0 : Sl → Int → Int → Sl → Int → Int → Int → Sl → Sl → OV) (w : Nat) : Sl → Int → Int → Int → Sl → Int → Int → Sl → Int → Int → Int → Sl → Sl → OV :=
 Nat.rec (motive := fun _ => Sl → Int → Int → Int → Sl → Int → Int → Sl → Int → Int → Int → Sl → Sl → OV) (fun _ _ _ _ _ _ _ _ _ _ _ _ _ => none) (fun _ ih1 => b18_4 pu n ih0 ih1) w
def m18_3 (pu : PureF) (n : Nat) (ih0 : Sl → Int → Int → Sl → Int → Int → Int → Sl → Sl → OV) (s0 : Sl) (z0 z1 : Int) (s1 s2 : Sl) (z2 z3 z4 : Int) (s3 s4 : Sl) : OV :=
 (oo (toN (wrapF .i64 (Int.sub (Int.ofNat (Sl.n s1)) (1 : Int)))) none fun k1 => (bb (an (Nat.blt k1 (Sl.n s1)) true) (oo (nthL (Sl.cs s1) (k1 * 1)) none fun v0 => (oo (toI .i64 v0) none fun x0 => (l18_4 pu n ih0 n s0 z0 z1 x0 s2 z2 z3 s1 (Int.ofNat (Sl.n s1)) (0 : Int) z4 s3 s4))) none))
def b18_5 (pu : PureF) (n : Nat) (ih0 : Sl → Int → Int → Sl → Int → Int → Int → Sl → Sl → OV) (ih1 : Sl → Int → Int → Sl → Sl → Int → Int → Sl → Int → Int → Int → Sl → Sl → OV) (s0 : Sl) (z0 z1 : Int) (s1 s2 : Sl) (z2 z3 : Int) (s3 : Sl) (z4 z5 z6 : Int) (s4 s5 : Sl) : OV :=
 (bb (ilt z5 z4) (oo (toN z5) none fun k1 => (bb (an (Nat.blt k1 (Sl.n s3)) true) (oo (nthL (Sl.cs s3) (k1 * 1)) none fun v0 => (oo (toI .i64 v0) none fun x0 => (oo (pu 52 [(.int .i64 (0 : Int)), .int .i64 x0, (.int .i64 (wrapF .i64 (Int.sub (Int.ofNat (Sl.n s4)) (1 : Int))))]) none fun v1 => (oo (vBool v1) none fun b0 => (bb (nt b0) (some (.tuple ⟨[(.int .i64 (0 : Int)), (.int .i64 (2 : Int))]⟩)) (oo (pu 53 [.int .u16 z1, .int .i64 x0]) none fun v2 => (oo (vBool v2) none fun b1 => (bb b1 (some (.tuple ⟨[(.int .i64 (0 : Int)), (.int .i64 (6 : Int))]⟩)) (oo (pu 53 [.int .u16 z0, .int .i64 x0]) none fun v3 => (oo (vBool v3) none fun b2 => (bb (nt b2) (some (.tuple ⟨[(.int .i64 (0 : Int)), (.int .i64 (13 : Int))]⟩)) (oo (toN x0) none fun k2 => (ih1 s0 z0 (aor .u16 z1 (shlI .u16 (1 : Int) k2)) s1 s2 z2 z3 s3 z4 (wrapF .i64 (Int.add (Int.ofNat k1) (1 : Int))) z6 s4 s5))))))))))))) none)) (m18_3 pu n ih0 s0 z0 z1 s1 s2 z2 z3 z6 s4 s5))
def l18_5 (pu : PureF) (n : Nat) (ih0 : Sl → Int → Int → Sl → Int → Int → Int → Sl → Sl → OV) (w : Nat) : Sl → Int → Int → Sl → Sl → Int → Int → Sl → Int → Int → Int → Sl → Sl → OV :=
 Nat.rec (motive := fun _ => Sl → Int → Int → Sl → Sl → Int → Int → Sl → Int → Int → Int → Sl → Sl → OV) (fun _ _ _ _ _ _ _ _ _ _ _ _ _ => none) (fun _ ih1 => b18_5 pu n ih0 ih1) w
def b18_1 (pu : PureF) (n : Nat) (ih0 : Sl → Int → Int → Sl → Int → Int → Int → Sl → Sl → OV) (s0 : Sl) (z0 z1 : Int) (s1 : Sl) (z2 z3 z4 : Int) (s2 s3 : Sl) : OV :=
 (bb (ilt z3 z2) (oo (toN z3) none fun k1 => (bb (an (Nat.blt k1 (Sl.n s1)) true) (oo (nthL (Sl.cs s1) (k1 * 1)) none fun v0 => (oo (toSl 1 v0) none fun s4 => (bb (ieq (Int.ofNat (Sl.n s4)) (0 : Int)) (some (.tuple ⟨[(.int .i64 (0 : Int)), (.int .i64 (4 : Int))]⟩)) (l18_5 pu n ih0 n s0 z0 z1 s4 s1 z2 (Int.ofNat k1) s4 (Int.ofNat (Sl.n s4)) (0 : Int) z4 s2 s3)))) none)) (m18_0 pu n s0 z0 z1))
def l18_1 (pu : PureF) (n w : Nat) : Sl → Int → Int → Sl → Int → Int → Int → Sl → Sl → OV :=
 Nat.rec (motive := fun _ => Sl → Int → Int → Sl → Int → Int → Int → Sl → Sl → OV) (fun _ _ _ _ _ _ _ _ _ => none) (fun _ ih0 => b18_1 pu n ih0) w
def m18_ (pu : PureF) (n : Nat) (x0 : Int) (s0 s1 s2 : Sl) : OV :=
 (oo (pu 47 [(.agg ⟨[.int .i64 x0, Sl.v 1 s0, Sl.v 1 s1]⟩)]) none fun v0 => (oo (toI .i64 v0) none fun x1 => (bb (nt (ieq x1 (0 : Int))) (some (.tuple ⟨[(.int .i64 (0 : Int)), .int .i64 x1]⟩)) (oo (pu 51 [(.agg ⟨[.int .i64 x0, Sl.v 1 s0, Sl.v 1 s1]⟩)]) none fun v1 => (oo (toI .u16 v1) none fun x2 => (l18_1 pu n n s2 x2 (0 : Int) s2 (Int.ofNat (Sl.n s2)) (0 : Int) x0 s0 s1))))))
def m18 (pu : PureF) (n : Nat) (args : LV) : OV :=
 (ll args none fun a0 args => (ll args none fun a1 args => (ll args (oo (vAgg a0) none fun l0 => (ll l0 none fun v0 l0 => (ll l0 none fun v1 l0 => (ll l0 none fun v2 l0 => (ll l0 (oo (toI .i64 v0) none fun x0 => (oo (toSl 1 v1) none fun s0 => (oo (toSl 1 v2) none fun s1 => (oo (toSl 1 a1) none fun s2 => (m18_ pu n x0 s0 s1 s2))))) fun _ _ => none))))) fun _ _ => none)))
theorem w18_0 (pu : PureF) (n : Nat) (s0 : Sl) (z0 z1 : Int) {v : Value} (hm : m18_0 pu n s0 z0 z1 = some v) : Run tt (callP tabs isP pu (inl pu)) 1 c18_90 (fr 91 [(1, Sl.v 1 s0), (7, .int .u16 z0), (8, .int .u16 z1)]) (hp 1 [(oT tab0)]) (Fin tt 1 [.tmp 4, .tmp 5] v) := by
 unfold m18_0 at hm
 refine .then ?_
 refine .then (.rK ?_)
 refine .ghs (fr 91 [(1, Sl.v 1 s0), (88, (zB (nt (ieq z1 z0))))]) (hp 1 [(oT tab0)]) (.k0 [false] [] [1, 88]) ?_
 replace hm := bb_cases hm; rcases hm with ⟨h0, hm⟩ | ⟨h0, hm⟩
 ·refine .ifT (nt (ieq z1 z0)) (by kernel_rfl) h0 ?_
  refine .then (.rK ?_)
  refine .ghs (fr 91 [(4, (zI (0 : Int))), (5, (zI (21 : Int)))]) (hp 1 [(oT tab0)]) (.k0 [false] [] [4, 5]) ?_
  refine .ret ?_
  exact fin_ret (.tuple ⟨[(zI (0 : Int)), (zI (21 : Int))]⟩) (by kernel_rfl) (by kernel_rfl) hm
 ·refine .ifF (nt (ieq z1 z0)) (by kernel_rfl) h0 ?_
  refine .skip ?_
  refine .ghs (fr 91 [(1, Sl.v 1 s0)]) (hp 1 [(oT tab0)]) (.k0 [false] [] [1]) ?_
  refine .then (.rK ?_)
  refine .ghs (fr 91 [(4, (zI (Int.ofNat (Sl.n s0)))), (5, (zI (0 : Int)))]) (hp 1 [(oT tab0)]) (.k0 [false] [] [4, 5]) ?_
  refine .ret ?_
  exact fin_ret (.tuple ⟨[(zI (Int.ofNat (Sl.n s0))), (zI (0 : Int))]⟩) (by kernel_rfl) (by kernel_rfl) hm
theorem r18 {call : CallF} (pu : PureF) (n : Nat) (hcall : call = callP tabs isP pu (inl pu)) {args : LV} {v : Value} (hm : m18 pu n args = some v) (_ : ∀ x ∈ args, closed2 x = true) : args.length ≤ 91 ∧ Run tt call 1 c18_95 (Fr.made 91 args) (pureHeap tabs) (Fin tt 1 [.tmp 4, .tmp 5] v) := by
 subst hcall
 unfold m18 at hm
 replace hm := ll_uncons hm; obtain ⟨a0, args_0, rfl, hm⟩ := hm
 replace hm := ll_uncons hm; obtain ⟨a1, args_1, rfl, hm⟩ := hm
 replace hm := ll_end hm; obtain ⟨rfl, hm⟩ := hm
 replace hm := inv_vAgg hm; obtain ⟨l0, rfl, hm⟩ := hm
 replace hm := ll_uncons hm; obtain ⟨v0, l311_0, rfl, hm⟩ := hm
 replace hm := ll_uncons hm; obtain ⟨v1, l311_1, rfl, hm⟩ := hm
 replace hm := ll_uncons hm; obtain ⟨v2, l311_2, rfl, hm⟩ := hm
 replace hm := ll_end hm; obtain ⟨rfl, hm⟩ := hm
 replace hm := inv_toI hm; obtain ⟨x0, rfl, hm⟩ := hm
 replace hm := inv_toSl hm; obtain ⟨s0, rfl, hm⟩ := hm
 replace hm := inv_toSl hm; obtain ⟨s1, rfl, hm⟩ := hm
 replace hm := inv_toSl hm; obtain ⟨s2, rfl, hm⟩ := hm
 unfold m18_ at hm
 refine ⟨by simp, ?_⟩
 refine .same (F' := (fr 91 [(0, (.agg ⟨[zI x0, Sl.v 1 s0, Sl.v 1 s1]⟩)), (1, Sl.v 1 s2)])) (H' := (hp 1 [(oT tab0)])) (by kernel_rfl) (by kernel_rfl) ?_
 refine .then (.rK ?_)
 refine .ghs (fr 91 [(1, Sl.v 1 s2), (2, pt 1 0)]) (hT 2 [(oC [zI x0, Sl.v 1 s0, Sl.v 1 s1])]) (.k0 [false] [.tmp 2 false] [1, 2]) ?_
 refine .then ?_
 refine .then ?_
 replace hm := oo_inv hm; obtain ⟨v3, h0, hm⟩ := hm
 replace hm := inv_toI hm; obtain ⟨x1, rfl, hm⟩ := hm
 refine .reg (eC 1 ((oo (pu 47 [(.agg ⟨[zI x0, Sl.v 1 s0, Sl.v 1 s1]⟩)]) none fun v => some (v, (hT 2 [(oC [zI x0, Sl.v 1 s0, Sl.v 1 s1])])))) (call_eq h0) (eE)) ?_
 refine .ghs (fr 91 [(1, Sl.v 1 s2), (2, pt 1 0), (6, zI x1)]) (hT 2 [(oC [zI x0, Sl.v 1 s0, Sl.v 1 s1])]) (.k0 [false] [.tmp 2 false] [1, 2, 6]) ?_
 refine .then (.rK ?_)
 refine .ghs (fr 91 [(1, Sl.v 1 s2), (2, pt 1 0), (6, zI x1), (19, (zB (nt (ieq x1 (0 : Int)))))]) (hT 2 [(oC [zI x0, Sl.v 1 s0, Sl.v 1 s1])]) (.k0 [false] [.tmp 2 false] [1, 2, 6, 19]) ?_
 replace hm := bb_cases hm; rcases hm with ⟨h1, hm⟩ | ⟨h1, hm⟩
 ·refine .ifT (nt (ieq x1 (0 : Int))) (by kernel_rfl) h1 ?_
  refine .then (.rK ?_)
  refine .ghs (fr 91 [(4, (zI (0 : Int))), (5, zI x1)]) (hp 1 [(oT tab0)]) (.k0 [false] [] [4, 5]) ?_
  refine .ret ?_
  exact fin_ret (.tuple ⟨[(zI (0 : Int)), zI x1]⟩) (by kernel_rfl) (by kernel_rfl) hm
 ·refine .ifF (nt (ieq x1 (0 : Int))) (by kernel_rfl) h1 ?_
  refine .skip ?_
  refine .ghs (fr 91 [(1, Sl.v 1 s2), (2, pt 1 0)]) (hT 2 [(oC [zI x0, Sl.v 1 s0, Sl.v 1 s1])]) (.k0 [false] [.tmp 2 false] [1, 2]) ?_
  refine .then ?_
  replace hm := oo_inv hm; obtain ⟨v4, h2, hm⟩ := hm
  replace hm := inv_toI hm; obtain ⟨x2, rfl, hm⟩ := hm
  refine .reg (eC 1 ((oo (pu 51 [(.agg ⟨[zI x0, Sl.v 1 s0, Sl.v 1 s1]⟩)]) none fun v => some (v, (hT 2 [(oC [zI x0, Sl.v 1 s0, Sl.v 1 s1])])))) (call_eq h2) (eE)) ?_
  refine .ghs (fr 91 [(1, Sl.v 1 s2), (2, pt 1 0), (7, .int .u16 x2)]) (hT 2 [(oC [zI x0, Sl.v 1 s0, Sl.v 1 s1])]) (.k0 [false] [.tmp 2 false] [1, 2, 7]) ?_
  refine .then (.rK ?_)
  refine .ghs (fr 91 [(1, Sl.v 1 s2), (2, pt 1 0), (7, .int .u16 x2), (8, (.int .u16 (0 : Int)))]) (hT 2 [(oC [zI x0, Sl.v 1 s0, Sl.v 1 s1])]) (.k0 [false] [.tmp 2 false] [1, 2, 7, 8]) ?_
  refine .join (v := v) (fun y : Sl × Int × Int => ((fr 91 [(1, (Sl.v 1 y.1)), (7, (.int .u16 y.2.1)), (8, (.int .u16 y.2.2))]), (hp 1 [(oT tab0)]))) (fun y => m18_0 pu n y.1 y.2.1 y.2.2) ?_ ?_
  ·rintro ⟨s3, z0, z1⟩ hm
   exact w18_0 pu n s3 z0 z1 hm
  ·refine .then (.rK ?_)
   refine .ghs (fr 91 [(1, Sl.v 1 s2), (2, pt 1 0), (7, .int .u16 x2), (8, (.int .u16 (0 : Int))), (23, Sl.v 1 s2), (24, (zI (Int.ofNat (Sl.n s2)))), (25, (zI (0 : Int)))]) (hT 2 [(oC [zI x0, Sl.v 1 s0, Sl.v 1 s1])]) (.k0 [false] [.tmp 2 false] [1, 2, 7, 8, 23, 24, 25]) ?_
   refine .block ?_
   refine .loopM (v := v) (fun y : Sl × Int × Int × Sl × Int × Int × Int × Sl × Sl => ((fr 91 [(1, (Sl.v 1 y.1)), (2, pt 1 0), (7, (.int .u16 y.2.1)), (8, (.int .u16 y.2.2.1)), (23, (Sl.v 1 y.2.2.2.1)), (24, (zI y.2.2.2.2.1)), (25, (zI y.2.2.2.2.2.1))]), (hT 2 [(oC [(zI y.2.2.2.2.2.2.1), (Sl.v 1 y.2.2.2.2.2.2.2.1), (Sl.v 1 y.2.2.2.2.2.2.2.2)])]))) (fun w y => l18_1 pu n w y.1 y.2.1 y.2.2.1 y.2.2.2.1 y.2.2.2.2.1 y.2.2.2.2.2.1 y.2.2.2.2.2.2.1 y.2.2.2.2.2.2.2.1 y.2.2.2.2.2.2.2.2) n ⟨(s2, x2, (0 : Int), s2, (Int.ofNat (Sl.n s2)), (0 : Int), x0, s0, s1), hm, (.k0 [false] [.tmp 2 false] [1, 2, 7, 8, 23, 24, 25])⟩ (fun _ => rfl) ?_
   rintro w0 ⟨s4, z2, z3, s5, z4, z5, z6, s6, s7⟩ hm
   replace hm : b18_1 pu n (l18_1 pu n w0) s4 z2 z3 s5 z4 z5 z6 s6 s7 = some v := hm
   unfold b18_1 at hm
   refine .then (.rK ?_)
   refine .ghs (fr 91 [(1, Sl.v 1 s4), (2, pt 1 0), (7, .int .u16 z2), (8, .int .u16 z3), (23, Sl.v 1 s5), (24, zI z4), (25, zI z5), (26, (zB (ilt z5 z4)))]) (hT 2 [(oC [zI z6, Sl.v 1 s6, Sl.v 1 s7])]) (.k0 [false] [.tmp 2 false] [1, 2, 7, 8, 23, 24, 25, 26]) ?_
   refine .then ?_
   replace hm := bb_cases hm; rcases hm with ⟨h3, hm⟩ | ⟨h3, hm⟩
   ·refine .ifT (ilt z5 z4) (by kernel_rfl) h3 ?_
    refine .skip ?_
    refine .ghs (fr 91 [(1, Sl.v 1 s4), (2, pt 1 0), (7, .int .u16 z2), (8, .int .u16 z3), (23, Sl.v 1 s5), (24, zI z4), (25, zI z5)]) (hT 2 [(oC [zI z6, Sl.v 1 s6, Sl.v 1 s7])]) (.k0 [false] [.tmp 2 false] [1, 2, 7, 8, 23, 24, 25]) ?_
    refine .join (v := v) (fun y : Sl × Int × Int × Sl × Int × Int × Int × Sl × Sl => ((fr 91 [(1, (Sl.v 1 y.1)), (2, pt 1 0), (7, (.int .u16 y.2.1)), (8, (.int .u16 y.2.2.1)), (23, (Sl.v 1 y.2.2.2.1)), (24, (zI y.2.2.2.2.1)), (25, (zI y.2.2.2.2.2.1))]), (hT 2 [(oC [(zI y.2.2.2.2.2.2.1), (Sl.v 1 y.2.2.2.2.2.2.2.1), (Sl.v 1 y.2.2.2.2.2.2.2.2)])]))) (fun y => m18_2 pu n (l18_1 pu n w0) y.1 y.2.1 y.2.2.1 y.2.2.2.1 y.2.2.2.2.1 y.2.2.2.2.2.1 y.2.2.2.2.2.2.1 y.2.2.2.2.2.2.2.1 y.2.2.2.2.2.2.2.2) ?_ ?_
    ·rintro ⟨s8, z7, z8, s9, z9, z10, z11, s10, s11⟩ hm
     unfold m18_2 at hm
     refine .rK ?_
     exact ⟨(s8, z7, z8, s9, z9, (wrapF .i64 (Int.add z10 (1 : Int))), z11, s10, s11), hm, (.k0 [false] [.tmp 2 false] [1, 2, 7, 8, 23, 24, 25])⟩
    ·refine .block ?_
     refine .then ?_
     replace hm := oo_inv hm; obtain ⟨k1, h4, hm⟩ := hm
     obtain rfl := toN_some h4
     replace hm := bb_inv hm; obtain ⟨h5, hm⟩ := hm
     replace hm := oo_inv hm; obtain ⟨v5, h6, hm⟩ := hm
     replace hm := inv_toSl hm; obtain ⟨s12, rfl, hm⟩ := hm
     refine .reg (eD (keep (hT 2 [(oC [zI z6, Sl.v 1 s6, Sl.v 1 s7])]) (bb (an (Nat.blt k1 (Sl.n s5)) true) (some (fpV (k1 * 1) (Sl.cs s5))) none)) (keep_bb h5) (eD (keep (hT 2 [(oC [zI z6, Sl.v 1 s6, Sl.v 1 s7])]) (nthL (Sl.cs s5) (k1 * 1))) (keep_eq h6) (eE))) ?_
     refine .ghs (fr 91 [(1, Sl.v 1 s4), (2, pt 1 0), (7, .int .u16 z2), (8, .int .u16 z3), (10, Sl.v 1 s12), (23, Sl.v 1 s5), (24, zI z4), (25, (zI (Int.ofNat k1)))]) (hT 2 [(oC [zI z6, Sl.v 1 s6, Sl.v 1 s7])]) (.k0 [false] [.tmp 2 false] [1, 2, 7, 8, 10, 23, 24, 25]) ?_
     refine .then ?_
     refine .then (.rK ?_)
     refine .ghs (fr 91 [(1, Sl.v 1 s4), (2, pt 1 0), (7, .int .u16 z2), (8, .int .u16 z3), (10, Sl.v 1 s12), (23, Sl.v 1 s5), (24, zI z4), (25, (zI (Int.ofNat k1))), (31, (zB (ieq (Int.ofNat (Sl.n s12)) (0 : Int))))]) (hT 2 [(oC [zI z6, Sl.v 1 s6, Sl.v 1 s7])]) (.k0 [false] [.tmp 2 false] [1, 2, 7, 8, 10, 23, 24, 25, 31]) ?_
     replace hm := bb_cases hm; rcases hm with ⟨h7, hm⟩ | ⟨h7, hm⟩
     ·refine .ifT (ieq (Int.ofNat (Sl.n s12)) (0 : Int)) (by kernel_rfl) h7 ?_
      refine .then (.rK ?_)
      refine .ghs (fr 91 [(4, (zI (0 : Int))), (5, (zI (4 : Int)))]) (hp 1 [(oT tab0)]) (.k0 [false] [] [4, 5]) ?_
      refine .ret ?_
      exact fin_ret (.tuple ⟨[(zI (0 : Int)), (zI (4 : Int))]⟩) (by kernel_rfl) (by kernel_rfl) hm
     ·refine .ifF (ieq (Int.ofNat (Sl.n s12)) (0 : Int)) (by kernel_rfl) h7 ?_
      refine .skip ?_
      refine .ghs (fr 91 [(1, Sl.v 1 s4), (2, pt 1 0), (7, .int .u16 z2), (8, .int .u16 z3), (10, Sl.v 1 s12), (23, Sl.v 1 s5), (24, zI z4), (25, (zI (Int.ofNat k1)))]) (hT 2 [(oC [zI z6, Sl.v 1 s6, Sl.v 1 s7])]) (.k0 [false] [.tmp 2 false] [1, 2, 7, 8, 10, 23, 24, 25]) ?_
      refine .join (v := v) (fun y : Sl × Int × Int × Sl × Sl × Int × Int × Int × Sl × Sl => ((fr 91 [(1, (Sl.v 1 y.1)), (2, pt 1 0), (7, (.int .u16 y.2.1)), (8, (.int .u16 y.2.2.1)), (10, (Sl.v 1 y.2.2.2.1)), (23, (Sl.v 1 y.2.2.2.2.1)), (24, (zI y.2.2.2.2.2.1)), (25, (zI y.2.2.2.2.2.2.1))]), (hT 2 [(oC [(zI y.2.2.2.2.2.2.2.1), (Sl.v 1 y.2.2.2.2.2.2.2.2.1), (Sl.v 1 y.2.2.2.2.2.2.2.2.2)])]))) (fun y => m18_3 pu n (l18_1 pu n w0) y.1 y.2.1 y.2.2.1 y.2.2.2.1 y.2.2.2.2.1 y.2.2.2.2.2.1 y.2.2.2.2.2.2.1 y.2.2.2.2.2.2.2.1 y.2.2.2.2.2.2.2.2.1 y.2.2.2.2.2.2.2.2.2) ?_ ?_
      ·rintro ⟨s13, z12, z13, s14, s15, z14, z15, z16, s16, s17⟩ hm
       unfold m18_3 at hm
       refine .then ?_
       replace hm := oo_inv hm; obtain ⟨k2, h8, hm⟩ := hm
       replace hm := bb_inv hm; obtain ⟨h9, hm⟩ := hm
       replace hm := oo_inv hm; obtain ⟨v6, h10, hm⟩ := hm
       replace hm := inv_toI hm; obtain ⟨x3, rfl, hm⟩ := hm
       refine .reg (eC 3 (some ((zI (wrapF .i64 (Int.sub (Int.ofNat (Sl.n s14)) (1 : Int)))), (hT 2 [(oC [zI z16, Sl.v 1 s16, Sl.v 1 s17])]))) (show _ = some ((zI (Int.ofNat k2)), _) from (by rw [toN_some h8])) (eD (keep (hT 2 [(oC [zI z16, Sl.v 1 s16, Sl.v 1 s17])]) (bb (an (Nat.blt k2 (Sl.n s14)) true) (some (fpV (k2 * 1) (Sl.cs s14))) none)) (keep_bb h9) (eD (keep (hT 2 [(oC [zI z16, Sl.v 1 s16, Sl.v 1 s17])]) (nthL (Sl.cs s14) (k2 * 1))) (keep_eq h10) (eE)))) ?_
       refine .ghs (fr 91 [(1, Sl.v 1 s13), (2, pt 1 0), (7, .int .u16 z12), (8, .int .u16 z13), (10, Sl.v 1 s14), (13, zI x3), (23, Sl.v 1 s15), (24, zI z14), (25, zI z15)]) (hT 2 [(oC [zI z16, Sl.v 1 s16, Sl.v 1 s17])]) (.k0 [false] [.tmp 2 false] [1, 2, 7, 8, 10, 13, 23, 24, 25]) ?_
       refine .then (.rK ?_)
       refine .ghs (fr 91 [(1, Sl.v 1 s13), (2, pt 1 0), (7, .int .u16 z12), (8, .int .u16 z13), (13, zI x3), (23, Sl.v 1 s15), (24, zI z14), (25, zI z15), (66, Sl.v 1 s14), (67, (zI (Int.ofNat (Sl.n s14)))), (68, (zI (0 : Int)))]) (hT 2 [(oC [zI z16, Sl.v 1 s16, Sl.v 1 s17])]) (.k0 [false] [.tmp 2 false] [1, 2, 7, 8, 13, 23, 24, 25, 66, 67, 68]) ?_
       refine .block ?_
       refine .loopM (v := v) (fun y : Sl × Int × Int × Int × Sl × Int × Int × Sl × Int × Int × Int × Sl × Sl => ((fr 91 [(1, (Sl.v 1 y.1)), (2, pt 1 0), (7, (.int .u16 y.2.1)), (8, (.int .u16 y.2.2.1)), (13, (zI y.2.2.2.1)), (23, (Sl.v 1 y.2.2.2.2.1)), (24, (zI y.2.2.2.2.2.1)), (25, (zI y.2.2.2.2.2.2.1)), (66, (Sl.v 1 y.2.2.2.2.2.2.2.1)), (67, (zI y.2.2.2.2.2.2.2.2.1)), (68, (zI y.2.2.2.2.2.2.2.2.2.1))]), (hT 2 [(oC [(zI y.2.2.2.2.2.2.2.2.2.2.1), (Sl.v 1 y.2.2.2.2.2.2.2.2.2.2.2.1), (Sl.v 1 y.2.2.2.2.2.2.2.2.2.2.2.2)])]))) (fun w y => l18_4 pu n (l18_1 pu n w0) w y.1 y.2.1 y.2.2.1 y.2.2.2.1 y.2.2.2.2.1 y.2.2.2.2.2.1 y.2.2.2.2.2.2.1 y.2.2.2.2.2.2.2.1 y.2.2.2.2.2.2.2.2.1 y.2.2.2.2.2.2.2.2.2.1 y.2.2.2.2.2.2.2.2.2.2.1 y.2.2.2.2.2.2.2.2.2.2.2.1 y.2.2.2.2.2.2.2.2.2.2.2.2) n ⟨(s13, z12, z13, x3, s15, z14, z15, s14, (Int.ofNat (Sl.n s14)), (0 : Int), z16, s16, s17), hm, (.k0 [false] [.tmp 2 false] [1, 2, 7, 8, 13, 23, 24, 25, 66, 67, 68])⟩ (fun _ => rfl) ?_
       rintro w1 ⟨s18, z17, z18, z19, s19, z20, z21, s20, z22, z23, z24, s21, s22⟩ hm
       replace hm : b18_4 pu n (l18_1 pu n w0) (l18_4 pu n (l18_1 pu n w0) w1) s18 z17 z18 z19 s19 z20 z21 s20 z22 z23 z24 s21 s22 = some v := hm
       unfold b18_4 at hm
       refine .then (.rK ?_)
       refine .ghs (fr 91 [(1, Sl.v 1 s18), (2, pt 1 0), (7, .int .u16 z17), (8, .int .u16 z18), (13, zI z19), (23, Sl.v 1 s19), (24, zI z20), (25, zI z21), (66, Sl.v 1 s20), (67, zI z22), (68, zI z23), (69, (zB (ilt z23 z22)))]) (hT 2 [(oC [zI z24, Sl.v 1 s21, Sl.v 1 s22])]) (.k0 [false] [.tmp 2 false] [1, 2, 7, 8, 13, 23, 24, 25, 66, 67, 68, 69]) ?_
       refine .then ?_
       replace hm := bb_cases hm; rcases hm with ⟨h11, hm⟩ | ⟨h11, hm⟩
       ·refine .ifT (ilt z23 z22) (by kernel_rfl) h11 ?_
        refine .skip ?_
        refine .ghs (fr 91 [(1, Sl.v 1 s18), (2, pt 1 0), (7, .int .u16 z17), (8, .int .u16 z18), (13, zI z19), (23, Sl.v 1 s19), (24, zI z20), (25, zI z21), (66, Sl.v 1 s20), (67, zI z22), (68, zI z23)]) (hT 2 [(oC [zI z24, Sl.v 1 s21, Sl.v 1 s22])]) (.k0 [false] [.tmp 2 false] [1, 2, 7, 8, 13, 23, 24, 25, 66, 67, 68]) ?_
        refine .then ?_
        refine .block ?_
        refine .then ?_
        replace hm := oo_inv hm; obtain ⟨k3, h12, hm⟩ := hm
        obtain rfl := toN_some h12
        replace hm := bb_inv hm; obtain ⟨h13, hm⟩ := hm
        replace hm := oo_inv hm; obtain ⟨v7, h14, hm⟩ := hm
        replace hm := inv_toI hm; obtain ⟨x4, rfl, hm⟩ := hm
        refine .reg (eD (keep (hT 2 [(oC [zI z24, Sl.v 1 s21, Sl.v 1 s22])]) (bb (an (Nat.blt k3 (Sl.n s20)) true) (some (fpV (k3 * 1) (Sl.cs s20))) none)) (keep_bb h13) (eD (keep (hT 2 [(oC [zI z24, Sl.v 1 s21, Sl.v 1 s22])]) (nthL (Sl.cs s20) (k3 * 1))) (keep_eq h14) (eE))) ?_
        refine .ghs (fr 91 [(1, Sl.v 1 s18), (2, pt 1 0), (7, .int .u16 z17), (8, .int .u16 z18), (13, zI z19), (15, zI x4), (23, Sl.v 1 s19), (24, zI z20), (25, zI z21), (66, Sl.v 1 s20), (67, zI z22), (68, (zI (Int.ofNat k3)))]) (hT 2 [(oC [zI z24, Sl.v 1 s21, Sl.v 1 s22])]) (.k0 [false] [.tmp 2 false] [1, 2, 7, 8, 13, 15, 23, 24, 25, 66, 67, 68]) ?_
        refine .then ?_
        refine .then ?_
        replace hm := oo_inv hm; obtain ⟨k4, h15, hm⟩ := hm
        obtain rfl := toN_some h15
        replace hm := bb_inv hm; obtain ⟨h16, hm⟩ := hm
        replace hm := oo_inv hm; obtain ⟨v8, h17, hm⟩ := hm
        replace hm := inv_toI hm; obtain ⟨x5, rfl, hm⟩ := hm
        replace hm := oo_inv hm; obtain ⟨k5, h18, hm⟩ := hm
        obtain rfl := toN_some h18
        replace hm := bb_inv hm; obtain ⟨h19, hm⟩ := hm
        replace hm := oo_inv hm; obtain ⟨v9, h20, hm⟩ := hm
        replace hm := inv_toI hm; obtain ⟨x6, rfl, hm⟩ := hm
        refine .reg (eC 3 (keep (hT 2 [(oC [zI z24, Sl.v 1 s21, Sl.v 1 s22])]) (bb (an (Nat.blt k4 (Sl.n s22)) true) (some (fpV (k4 * 1) (Sl.cs s22))) none)) (keep_bb h16) (eD (keep (hT 2 [(oC [zI z24, Sl.v 1 s21, Sl.v 1 s22])]) (nthL (Sl.cs s22) (k4 * 1))) (keep_eq h17) (eC 3 (keep (hT 2 [(oC [zI z24, Sl.v 1 s21, Sl.v 1 s22])]) (bb (an (Nat.blt k5 (Sl.n s21)) true) (some (fpV (k5 * 1) (Sl.cs s21))) none)) (keep_bb h19) (eD (keep (hT 2 [(oC [zI z24, Sl.v 1 s21, Sl.v 1 s22])]) (nthL (Sl.cs s21) (k5 * 1))) (keep_eq h20) (eE))))) ?_
        refine .ghs (fr 91 [(1, Sl.v 1 s18), (2, pt 1 0), (7, .int .u16 z17), (8, .int .u16 z18), (15, (zI (Int.ofNat k5))), (23, Sl.v 1 s19), (24, zI z20), (25, zI z21), (66, Sl.v 1 s20), (67, zI z22), (68, (zI (Int.ofNat k3))), (82, (zB (nt (ieq x5 x6))))]) (hT 2 [(oC [zI z24, Sl.v 1 s21, Sl.v 1 s22])]) (.k0 [false] [.tmp 2 false] [1, 2, 7, 8, 15, 23, 24, 25, 66, 67, 68, 82]) ?_
        replace hm := bb_cases hm; rcases hm with ⟨h21, hm⟩ | ⟨h21, hm⟩
        ·refine .ifT (nt (ieq x5 x6)) (by kernel_rfl) h21 ?_
         refine .then (.rK ?_)
         refine .ghs (fr 91 [(4, (zI (0 : Int))), (5, (zI (14 : Int)))]) (hp 1 [(oT tab0)]) (.k0 [false] [] [4, 5]) ?_
         refine .ret ?_
         exact fin_ret (.tuple ⟨[(zI (0 : Int)), (zI (14 : Int))]⟩) (by kernel_rfl) (by kernel_rfl) hm
        ·refine .ifF (nt (ieq x5 x6)) (by kernel_rfl) h21 ?_
         refine .skip ?_
         refine .ghs (fr 91 [(1, Sl.v 1 s18), (2, pt 1 0), (7, .int .u16 z17), (8, .int .u16 z18), (15, (zI (Int.ofNat k5))), (23, Sl.v 1 s19), (24, zI z20), (25, zI z21), (66, Sl.v 1 s20), (67, zI z22), (68, (zI (Int.ofNat k3)))]) (hT 2 [(oC [zI z24, Sl.v 1 s21, Sl.v 1 s22])]) (.k0 [false] [.tmp 2 false] [1, 2, 7, 8, 15, 23, 24, 25, 66, 67, 68]) ?_
         refine .rK ?_
         refine .ghs (fr 91 [(1, Sl.v 1 s18), (2, pt 1 0), (7, .int .u16 z17), (8, .int .u16 z18), (13, (zI (Int.ofNat k5))), (23, Sl.v 1 s19), (24, zI z20), (25, zI z21), (66, Sl.v 1 s20), (67, zI z22), (68, (zI (Int.ofNat k3)))]) (hT 2 [(oC [zI z24, Sl.v 1 s21, Sl.v 1 s22])]) (.k0 [false] [.tmp 2 false] [1, 2, 7, 8, 13, 23, 24, 25, 66, 67, 68]) ?_
         refine .rK ?_
         exact ⟨(s18, z17, z18, (Int.ofNat k5), s19, z20, z21, s20, z22, (wrapF .i64 (Int.add (Int.ofNat k3) (1 : Int))), z24, s21, s22), hm, (.k0 [false] [.tmp 2 false] [1, 2, 7, 8, 13, 23, 24, 25, 66, 67, 68])⟩
       ·refine .ifF (ilt z23 z22) (by kernel_rfl) h11 ?_
        refine .exit ?_
        exact ⟨(s18, z17, z18, s19, z20, z21, z24, s21, s22), hm, (.k0 [false] [.tmp 2 false] [1, 2, 7, 8, 23, 24, 25])⟩
      ·refine .then (.rK ?_)
       refine .ghs (fr 91 [(1, Sl.v 1 s4), (2, pt 1 0), (7, .int .u16 z2), (8, .int .u16 z3), (10, Sl.v 1 s12), (23, Sl.v 1 s5), (24, zI z4), (25, (zI (Int.ofNat k1))), (32, Sl.v 1 s12), (33, (zI (Int.ofNat (Sl.n s12)))), (34, (zI (0 : Int)))]) (hT 2 [(oC [zI z6, Sl.v 1 s6, Sl.v 1 s7])]) (.k0 [false] [.tmp 2 false] [1, 2, 7, 8, 10, 23, 24, 25, 32, 33, 34]) ?_
       refine .block ?_
       refine .loopM (v := v) (fun y : Sl × Int × Int × Sl × Sl × Int × Int × Sl × Int × Int × Int × Sl × Sl => ((fr 91 [(1, (Sl.v 1 y.1)), (2, pt 1 0), (7, (.int .u16 y.2.1)), (8, (.int .u16 y.2.2.1)), (10, (Sl.v 1 y.2.2.2.1)), (23, (Sl.v 1 y.2.2.2.2.1)), (24, (zI y.2.2.2.2.2.1)), (25, (zI y.2.2.2.2.2.2.1)), (32, (Sl.v 1 y.2.2.2.2.2.2.2.1)), (33, (zI y.2.2.2.2.2.2.2.2.1)), (34, (zI y.2.2.2.2.2.2.2.2.2.1))]), (hT 2 [(oC [(zI y.2.2.2.2.2.2.2.2.2.2.1), (Sl.v 1 y.2.2.2.2.2.2.2.2.2.2.2.1), (Sl.v 1 y.2.2.2.2.2.2.2.2.2.2.2.2)])]))) (fun w y => l18_5 pu n (l18_1 pu n w0) w y.1 y.2.1 y.2.2.1 y.2.2.2.1 y.2.2.2.2.1 y.2.2.2.2.2.1 y.2.2.2.2.2.2.1 y.2.2.2.2.2.2.2.1 y.2.2.2.2.2.2.2.2.1 y.2.2.2.2.2.2.2.2.2.1 y.2.2.2.2.2.2.2.2.2.2.1 y.2.2.2.2.2.2.2.2.2.2.2.1 y.2.2.2.2.2.2.2.2.2.2.2.2) n ⟨(s4, z2, z3, s12, s5, z4, (Int.ofNat k1), s12, (Int.ofNat (Sl.n s12)), (0 : Int), z6, s6, s7), hm, (.k0 [false] [.tmp 2 false] [1, 2, 7, 8, 10, 23, 24, 25, 32, 33, 34])⟩ (fun _ => rfl) ?_
       rintro w1 ⟨s23, z25, z26, s24, s25, z27, z28, s26, z29, z30, z31, s27, s28⟩ hm
       replace hm : b18_5 pu n (l18_1 pu n w0) (l18_5 pu n (l18_1 pu n w0) w1) s23 z25 z26 s24 s25 z27 z28 s26 z29 z30 z31 s27 s28 = some v := hm
       unfold b18_5 at hm
       refine .then (.rK ?_)
       refine .ghs (fr 91 [(1, Sl.v 1 s23), (2, pt 1 0), (7, .int .u16 z25), (8, .int .u16 z26), (10, Sl.v 1 s24), (23, Sl.v 1 s25), (24, zI z27), (25, zI z28), (32, Sl.v 1 s26), (33, zI z29), (34, zI z30), (35, (zB (ilt z30 z29)))]) (hT 2 [(oC [zI z31, Sl.v 1 s27, Sl.v 1 s28])]) (.k0 [false] [.tmp 2 false] [1, 2, 7, 8, 10, 23, 24, 25, 32, 33, 34, 35]) ?_
       refine .then ?_
       replace hm := bb_cases hm; rcases hm with ⟨h22, hm⟩ | ⟨h22, hm⟩
       ·refine .ifT (ilt z30 z29) (by kernel_rfl) h22 ?_
        refine .skip ?_
        refine .ghs (fr 91 [(1, Sl.v 1 s23), (2, pt 1 0), (7, .int .u16 z25), (8, .int .u16 z26), (10, Sl.v 1 s24), (23, Sl.v 1 s25), (24, zI z27), (25, zI z28), (32, Sl.v 1 s26), (33, zI z29), (34, zI z30)]) (hT 2 [(oC [zI z31, Sl.v 1 s27, Sl.v 1 s28])]) (.k0 [false] [.tmp 2 false] [1, 2, 7, 8, 10, 23, 24, 25, 32, 33, 34]) ?_
        refine .then ?_
        refine .block ?_
        refine .then ?_
        replace hm := oo_inv hm; obtain ⟨k6, h23, hm⟩ := hm
        obtain rfl := toN_some h23
        replace hm := bb_inv hm; obtain ⟨h24, hm⟩ := hm
        replace hm := oo_inv hm; obtain ⟨v10, h25, hm⟩ := hm
        replace hm := inv_toI hm; obtain ⟨x7, rfl, hm⟩ := hm
        refine .reg (eD (keep (hT 2 [(oC [zI z31, Sl.v 1 s27, Sl.v 1 s28])]) (bb (an (Nat.blt k6 (Sl.n s26)) true) (some (fpV (k6 * 1) (Sl.cs s26))) none)) (keep_bb h24) (eD (keep (hT 2 [(oC [zI z31, Sl.v 1 s27, Sl.v 1 s28])]) (nthL (Sl.cs s26) (k6 * 1))) (keep_eq h25) (eE))) ?_
        refine .ghs (fr 91 [(1, Sl.v 1 s23), (2, pt 1 0), (7, .int .u16 z25), (8, .int .u16 z26), (10, Sl.v 1 s24), (12, zI x7), (23, Sl.v 1 s25), (24, zI z27), (25, zI z28), (32, Sl.v 1 s26), (33, zI z29), (34, (zI (Int.ofNat k6)))]) (hT 2 [(oC [zI z31, Sl.v 1 s27, Sl.v 1 s28])]) (.k0 [false] [.tmp 2 false] [1, 2, 7, 8, 10, 12, 23, 24, 25, 32, 33, 34]) ?_
        refine .then ?_
        refine .block ?_
        refine .then ?_
        replace hm := oo_inv hm; obtain ⟨v11, h26, hm⟩ := hm
        replace hm := inv_vBool hm; obtain ⟨b0, rfl, hm⟩ := hm
        refine .reg (eC 5 ((oo (pu 52 [(zI (0 : Int)), zI x7, (zI (wrapF .i64 (Int.sub (Int.ofNat (Sl.n s27)) (1 : Int))))]) none fun v => some (v, (hT 2 [(oC [zI z31, Sl.v 1 s27, Sl.v 1 s28])])))) (call_eq h26) (eE)) ?_
        refine .ghs (fr 91 [(1, Sl.v 1 s23), (2, pt 1 0), (7, .int .u16 z25), (8, .int .u16 z26), (10, Sl.v 1 s24), (12, zI x7), (23, Sl.v 1 s25), (24, zI z27), (25, zI z28), (32, Sl.v 1 s26), (33, zI z29), (34, (zI (Int.ofNat k6))), (38, (zB (nt b0)))]) (hT 2 [(oC [zI z31, Sl.v 1 s27, Sl.v 1 s28])]) (.k0 [false] [.tmp 2 false] [1, 2, 7, 8, 10, 12, 23, 24, 25, 32, 33, 34, 38]) ?_
        replace hm := bb_cases hm; rcases hm with ⟨h27, hm⟩ | ⟨h27, hm⟩
        ·refine .ifT (nt b0) (by kernel_rfl) h27 ?_
         refine .then (.rK ?_)
         refine .ghs (fr 91 [(4, (zI (0 : Int))), (5, (zI (2 : Int)))]) (hp 1 [(oT tab0)]) (.k0 [false] [] [4, 5]) ?_
         refine .ret ?_
         exact fin_ret (.tuple ⟨[(zI (0 : Int)), (zI (2 : Int))]⟩) (by kernel_rfl) (by kernel_rfl) hm
        ·refine .ifF (nt b0) (by kernel_rfl) h27 ?_
         refine .then ?_
         replace hm := oo_inv hm; obtain ⟨v12, h28, hm⟩ := hm
         replace hm := inv_vBool hm; obtain ⟨b1, rfl, hm⟩ := hm
         refine .reg (eC 2 ((oo (pu 53 [.int .u16 z26, zI x7]) none fun v => some (v, (hT 2 [(oC [zI z31, Sl.v 1 s27, Sl.v 1 s28])])))) (call_eq h28) (eE)) ?_
         refine .ghs (fr 91 [(1, Sl.v 1 s23), (2, pt 1 0), (7, .int .u16 z25), (8, .int .u16 z26), (10, Sl.v 1 s24), (12, zI x7), (23, Sl.v 1 s25), (24, zI z27), (25, zI z28), (32, Sl.v 1 s26), (33, zI z29), (34, (zI (Int.ofNat k6))), (46, zB b1)]) (hT 2 [(oC [zI z31, Sl.v 1 s27, Sl.v 1 s28])]) (.k0 [false] [.tmp 2 false] [1, 2, 7, 8, 10, 12, 23, 24, 25, 32, 33, 34, 46]) ?_
         replace hm := bb_cases hm; rcases hm with ⟨h29, hm⟩ | ⟨h29, hm⟩
         ·refine .ifT b1 (by kernel_rfl) h29 ?_
          refine .then (.rK ?_)
          refine .ghs (fr 91 [(4, (zI (0 : Int))), (5, (zI (6 : Int)))]) (hp 1 [(oT tab0)]) (.k0 [false] [] [4, 5]) ?_
          refine .ret ?_
          exact fin_ret (.tuple ⟨[(zI (0 : Int)), (zI (6 : Int))]⟩) (by kernel_rfl) (by kernel_rfl) hm
         ·refine .ifF b1 (by kernel_rfl) h29 ?_
          refine .then ?_
          replace hm := oo_inv hm; obtain ⟨v13, h30, hm⟩ := hm
          replace hm := inv_vBool hm; obtain ⟨b2, rfl, hm⟩ := hm
          refine .reg (eC 2 ((oo (pu 53 [.int .u16 z25, zI x7]) none fun v => some (v, (hT 2 [(oC [zI z31, Sl.v 1 s27, Sl.v 1 s28])])))) (call_eq h30) (eE)) ?_
          refine .ghs (fr 91 [(1, Sl.v 1 s23), (2, pt 1 0), (7, .int .u16 z25), (8, .int .u16 z26), (10, Sl.v 1 s24), (12, zI x7), (23, Sl.v 1 s25), (24, zI z27), (25, zI z28), (32, Sl.v 1 s26), (33, zI z29), (34, (zI (Int.ofNat k6))), (50, (zB (nt b2)))]) (hT 2 [(oC [zI z31, Sl.v 1 s27, Sl.v 1 s28])]) (.k0 [false] [.tmp 2 false] [1, 2, 7, 8, 10, 12, 23, 24, 25, 32, 33, 34, 50]) ?_
          replace hm := bb_cases hm; rcases hm with ⟨h31, hm⟩ | ⟨h31, hm⟩
          ·refine .ifT (nt b2) (by kernel_rfl) h31 ?_
           refine .then (.rK ?_)
           refine .ghs (fr 91 [(4, (zI (0 : Int))), (5, (zI (13 : Int)))]) (hp 1 [(oT tab0)]) (.k0 [false] [] [4, 5]) ?_
           refine .ret ?_
           exact fin_ret (.tuple ⟨[(zI (0 : Int)), (zI (13 : Int))]⟩) (by kernel_rfl) (by kernel_rfl) hm
          ·refine .ifF (nt b2) (by kernel_rfl) h31 ?_
           refine .skip ?_
           refine .ghs (fr 91 [(1, Sl.v 1 s23), (2, pt 1 0), (7, .int .u16 z25), (8, .int .u16 z26), (10, Sl.v 1 s24), (12, zI x7), (23, Sl.v 1 s25), (24, zI z27), (25, zI z28), (32, Sl.v 1 s26), (33, zI z29), (34, (zI (Int.ofNat k6)))]) (hT 2 [(oC [zI z31, Sl.v 1 s27, Sl.v 1 s28])]) (.k0 [false] [.tmp 2 false] [1, 2, 7, 8, 10, 12, 23, 24, 25, 32, 33, 34]) ?_
           replace hm := oo_inv hm; obtain ⟨k7, h32, hm⟩ := hm
           obtain rfl := toN_some h32
           refine .rK ?_
           refine .ghs (fr 91 [(1, Sl.v 1 s23), (2, pt 1 0), (7, .int .u16 z25), (8, (.int .u16 (aor .u16 z26 (shlI .u16 (1 : Int) k7)))), (10, Sl.v 1 s24), (23, Sl.v 1 s25), (24, zI z27), (25, zI z28), (32, Sl.v 1 s26), (33, zI z29), (34, (zI (Int.ofNat k6)))]) (hT 2 [(oC [zI z31, Sl.v 1 s27, Sl.v 1 s28])]) (.k0 [false] [.tmp 2 false] [1, 2, 7, 8, 10, 23, 24, 25, 32, 33, 34]) ?_
           refine .rK ?_
           exact ⟨(s23, z25, (aor .u16 z26 (shlI .u16 (1 : Int) k7)), s24, s25, z27, z28, s26, z29, (wrapF .i64 (Int.add (Int.ofNat k6) (1 : Int))), z31, s27, s28), hm, (.k0 [false] [.tmp 2 false] [1, 2, 7, 8, 10, 23, 24, 25, 32, 33, 34])⟩
       ·refine .ifF (ilt z30 z29) (by kernel_rfl) h22 ?_
        refine .exit ?_
        exact ⟨(s23, z25, z26, s24, s25, z27, z28, z31, s27, s28), hm, (.k0 [false] [.tmp 2 false] [1, 2, 7, 8, 10, 23, 24, 25])⟩
   ·refine .ifF (ilt z5 z4) (by kernel_rfl) h3 ?_
    refine .exit ?_
    exact ⟨(s4, z2, z3), hm, (.k0 [false] [] [1, 7, 8])⟩
end
end Go.MdRM
