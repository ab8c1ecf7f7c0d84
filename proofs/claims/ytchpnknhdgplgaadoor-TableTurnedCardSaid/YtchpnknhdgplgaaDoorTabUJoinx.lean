/- Models of the program's functions, and the proofs that runs give them: MADE BY PROGRAM (wip/tools/dec.py). -/
import Derived.Test.YtchpnknhdgplgaaDoorTabUMod0x
import Derived.Test.YtchpnknhdgplgaaDoorTabUMod1
import Derived.Test.YtchpnknhdgplgaaDoorTabUMod2
import Derived.Test.YtchpnknhdgplgaaDoorTabUMod3
import Derived.Test.YtchpnknhdgplgaaDoorProg
import Derived.Test.YtchpnknhdgplgaaDoorSpLawx
import Derived.Test.YtchpnknhdgplgaaDoorTabUCode
import Derived.Shelf.Sort.Plain
import Derived.Ground.Names2Prog
import Derived.Shelf.Slices.CompactI
import Derived.Shelf.Slices.Cells
import Derived.Shelf.Slices.In.SortNone
import Derived.Test.YtchpnknhdgplgaaDoorSpObjx

set_option maxRecDepth 100000
set_option maxHeartbeats 20000000
set_option linter.unusedVariables false
namespace Go.TabUM
open Go.Sp Go.TabU
noncomputable section

def m10090_ (pu : PureF) (n : Nat) (z1364 : Int) (s1365 : Sl) : Option Value :=
  (oo (pu 38 [(.agg ⟨[(.int .i64 z1364), (Sl.v 2 s1365)]⟩)]) none fun v1379 => (oo (vTup v1379) none fun l1381 => (ll l1381 none fun v1383 l1381 => (ll l1381 none fun v1384 l1381 => (ll l1381 (oo (vAgg v1383) none fun q1385 => (bb (an (Nat.beq (len q1385) 14) (allL closed1 q1385)) (oo (toI .i64 v1384) none fun x1388 => (bb (Nat.beq (len q1385) 14) (bb (an (Nat.ble (0 + len q1385) (len zA73)) (allL scalarB q1385)) (bb (allL closed1 (setL q1385 0 zA73)) (bb (nt (ieq x1388 (0 : Int))) (some (.tuple ⟨[(.tuple ⟨[(.bool false), (.int .i64 x1388)]⟩)]⟩)) (bb (Nat.ble (0 + 14) (len (setL q1385 0 zA73))) (oo (pu 39 [(.agg ⟨(takeL 14 (dropL 0 (setL q1385 0 zA73)))⟩), (.int .i64 z1364)]) none fun v1403 => (oo (toI .i64 v1403) none fun x1405 => (bb (allL closed2 [(.agg ⟨(takeL 14 (dropL 0 (setL q1385 0 zA73)))⟩), (.int .i64 z1364)]) (some (.tuple ⟨[(.tuple ⟨[(.bool (ilt x1405 (0 : Int))), (.int .i64 (0 : Int))]⟩)]⟩)) none))) none)) none) none) none)) none)) fun _ _ => none)))))
def m10090 (pu : PureF) (n : Nat) (args : List Value) : Option Value :=
  (ll args none fun a0 args => (ll args (oo (vAgg a0) none fun l1410 => (ll l1410 none fun v1412 l1410 => (ll l1410 none fun v1413 l1410 => (ll l1410 (oo (toI .i64 v1412) none fun x1414 => (oo (toSl 2 v1413) none fun s1416 => (m10090_ pu n x1414 s1416))) fun _ _ => none)))) fun _ _ => none))
theorem q10090 (pu : PureF) (n : Nat) (z1364 : Int) (s1365 : Sl) {v : Value} (hm : m10090_ pu n z1364 s1365 = some v) : Run tt (callP tabs isP pu (inl pu)) 1 c9_11 (fr 19 [(0, (.agg ⟨[(zI z1364), (Sl.v 2 s1365)]⟩))]) (hp 1 [(oT tab0)]) (FinO tt 1 0 [.tmp 2, .tmp 3] v) := by
  unfold m10090_ at hm
  refine .then ?_
  refine .rK ?_
  refine .ghs (fr 19 [(1, (pt 1 0))]) (hp 2 [(oT tab0), (oC [(zI z1364), (Sl.v 2 s1365)])]) (.k0 [false] [.tmp 1 false] [1]) ?_
  refine .then ?_
  replace hm := oo_inv hm; obtain ⟨v1379, h1380, hm⟩ := hm
  replace hm := oo_inv hm; obtain ⟨l1381, h1382, hm⟩ := hm
  obtain rfl := vTup_some h1382
  have hq := ll_uncons hm; clear hm; obtain ⟨v1383, l1381_0, rfl, hm⟩ := hq
  have hq := ll_uncons hm; clear hm; obtain ⟨v1384, l1381_1, rfl, hm⟩ := hq
  have hq := ll_end hm; clear hm; obtain ⟨rfl, hm⟩ := hq
  replace hm := oo_inv hm; obtain ⟨q1385, h1386, hm⟩ := hm
  obtain rfl := vAgg_some h1386
  replace hm := bb_inv hm; obtain ⟨h1387, hm⟩ := hm
  replace hm := oo_inv hm; obtain ⟨x1388, h1389, hm⟩ := hm
  obtain rfl := toI_some h1389
  replace hm := bb_inv hm; obtain ⟨h1390, hm⟩ := hm
  replace hm := bb_inv hm; obtain ⟨h1391, hm⟩ := hm
  refine .reg (eC 1 ((oo (pu 38 [(.agg ⟨[(zI z1364), (Sl.v 2 s1365)]⟩)]) none fun v => some (v, (hp 2 [(oT tab0), (oC [(zI z1364), (Sl.v 2 s1365)])])))) (call_eq h1380) (eC 4 (done (bb (Nat.beq (len q1385) 14) (bb (an (Nat.ble (0 + len q1385) (len zA73)) (allL scalarB q1385)) (some (hp 3 [(oT tab0), (oC [(zI z1364), (Sl.v 2 s1365)]), (oC (setL q1385 0 zA73))])) none) none) undef) (done_bb2 h1390 h1391) (eE))) ?_
  replace hm := bb_inv hm; obtain ⟨h1392, hm⟩ := hm
  refine .ghs (fr 19 [(1, (pt 1 0)), (4, (pt 2 0)), (5, (zI x1388))]) (hp 3 [(oT tab0), (oC [(zI z1364), (Sl.v 2 s1365)]), (oC (setL q1385 0 zA73))]) (.k [2] [false] [.tmp 1 false, .tmp 4 false] [1, 4, 5] ⟨trE (by kernel_rfl) h1392, trivial⟩) ?_
  refine .then ?_
  refine .then ?_
  refine .rK ?_
  refine .ghs (fr 19 [(1, (pt 1 0)), (4, (pt 2 0)), (5, (zI x1388)), (12, (zB (nt (ieq x1388 (0 : Int)))))]) (hp 3 [(oT tab0), (oC [(zI z1364), (Sl.v 2 s1365)]), (oC (setL q1385 0 zA73))]) (.k [2] [false] [.tmp 1 false, .tmp 4 false] [1, 4, 5, 12] ⟨trE (by kernel_rfl) h1392, trivial⟩) ?_
  have hq := bb_cases hm; clear hm; rcases hq with ⟨h1393, hm⟩ | ⟨h1393, hm⟩
  · refine .ifT (nt (ieq x1388 (0 : Int))) (by kernel_rfl) h1393 ?_
    refine .then ?_
    refine .rK ?_
    refine .ghs (fr 19 [(2, (zB false)), (3, (zI x1388))]) (hp 1 [(oT tab0)]) (.k0 [false] [] [2, 3]) ?_
    refine .ghs (fr 19 [(2, (zB false)), (3, (zI x1388))]) (hp 1 [(oT tab0)]) (.k0 [false] [] [2, 3]) ?_
    refine .ret ?_
    exact finO_ret (.tuple ⟨[(zB false), (zI x1388)]⟩) [] (by kernel_rfl) hm (Nat.le_of_ble_eq_true rfl) ooAt_nil
  · refine .ifF (nt (ieq x1388 (0 : Int))) (by kernel_rfl) h1393 ?_
    refine .skip ?_
    refine .ghs (fr 19 [(1, (pt 1 0)), (4, (pt 2 0))]) (hp 3 [(oT tab0), (oC [(zI z1364), (Sl.v 2 s1365)]), (oC (setL q1385 0 zA73))]) (.k [2] [false] [.tmp 1 false, .tmp 4 false] [1, 4] ⟨trE (by kernel_rfl) h1392, trivial⟩) ?_
    refine .then ?_
    replace hm := bb_inv hm; obtain ⟨h1402, hm⟩ := hm
    replace hm := oo_inv hm; obtain ⟨v1403, h1404, hm⟩ := hm
    replace hm := oo_inv hm; obtain ⟨x1405, h1406, hm⟩ := hm
    obtain rfl := toI_some h1406
    replace hm := bb_inv hm; obtain ⟨h1407, hm⟩ := hm
    refine .reg (eD (keep (hp 3 [(oT tab0), (oC [(zI z1364), (Sl.v 2 s1365)]), (oC (setL q1385 0 zA73))]) (bb (Nat.ble (0 + 14) (len (setL q1385 0 zA73))) (some (.agg ⟨(takeL 14 (dropL 0 (setL q1385 0 zA73)))⟩)) none)) (keep_bb h1402) (eC 2 (bb (allL closed2 [(.agg ⟨(takeL 14 (dropL 0 (setL q1385 0 zA73)))⟩), (zI z1364)]) (oo (pu 39 [(.agg ⟨(takeL 14 (dropL 0 (setL q1385 0 zA73)))⟩), (zI z1364)]) none fun v => some (v, (hp 3 [(oT tab0), (oC [(zI z1364), (Sl.v 2 s1365)]), (oC (setL q1385 0 zA73))]))) (oo (mapO (purify (hp 3 [(oT tab0), (oC [(zI z1364), (Sl.v 2 s1365)]), (oC (setL q1385 0 zA73))])) [(.agg ⟨(takeL 14 (dropL 0 (setL q1385 0 zA73)))⟩), (zI z1364)]) none fun l1 => oo (pu 39 l1) none fun v => bb (plainT v) (some (v, (hp 3 [(oT tab0), (oC [(zI z1364), (Sl.v 2 s1365)]), (oC (setL q1385 0 zA73))]))) none)) (callc_eq h1407 h1404) (eE))) ?_
    refine .ghs (fr 19 [(2, (zB (ilt x1405 (0 : Int)))), (3, (zI (0 : Int)))]) (hp 1 [(oT tab0)]) (.k0 [false] [] [2, 3]) ?_
    refine .ghs (fr 19 [(2, (zB (ilt x1405 (0 : Int)))), (3, (zI (0 : Int)))]) (hp 1 [(oT tab0)]) (.k0 [false] [] [2, 3]) ?_
    refine .ret ?_
    exact finO_ret (.tuple ⟨[(zB (ilt x1405 (0 : Int))), (zI (0 : Int))]⟩) [] (by kernel_rfl) hm (Nat.le_of_ble_eq_true rfl) ooAt_nil
theorem r10090 {call : CallF} (pu : PureF) (n : Nat) (hcall : call = callP tabs isP pu (inl pu)) {args : List Value} {os : List AObj} {z : Value} (ha : args.length = 1) (hk : os.length = 0) (hpl : ∀ o ∈ os, plainO o) (hm : m10090 pu n (args ++ os.map encO) = some z) : args.length ≤ 19 ∧ Run tt call (tabs.length + 0) c9_11 (Fr.made 19 args) (subHeap tabs os) (FinO tt tabs.length 0 [.tmp 2, .tmp 3] z) := by
  subst hcall
  have hq := len_cons ha; clear ha; obtain ⟨a0, args, rfl, ha⟩ := hq
  obtain rfl := len_nil ha
  obtain rfl := len_nil hk
  replace hm : m10090 pu n [a0] = some z := hm
  unfold m10090 at hm
  replace hm : (oo (vAgg a0) none fun l1410 => (ll l1410 none fun v1412 l1410 => (ll l1410 none fun v1413 l1410 => (ll l1410 (oo (toI .i64 v1412) none fun x1414 => (oo (toSl 2 v1413) none fun s1416 => (m10090_ pu n x1414 s1416))) fun _ _ => none)))) = some z := hm
  replace hm := oo_inv hm; obtain ⟨l1410, h1411, hm⟩ := hm
  obtain rfl := vAgg_some h1411
  have hq := ll_uncons hm; clear hm; obtain ⟨v1412, l1410_0, rfl, hm⟩ := hq
  have hq := ll_uncons hm; clear hm; obtain ⟨v1413, l1410_1, rfl, hm⟩ := hq
  have hq := ll_end hm; clear hm; obtain ⟨rfl, hm⟩ := hq
  replace hm := oo_inv hm; obtain ⟨x1414, h1415, hm⟩ := hm
  obtain rfl := toI_some h1415
  replace hm := oo_inv hm; obtain ⟨s1416, h1417, hm⟩ := hm
  obtain rfl := toSl_some h1417
  refine ⟨by simp, ?_⟩
  exact .same (F' := (fr 19 [(0, (.agg ⟨[(zI x1414), (Sl.v 2 s1416)]⟩))])) (H' := (hp 1 [(oT tab0)])) (by kernel_rfl) (by kernel_rfl) (q10090 pu n x1414 s1416 hm)
def m10150_0 (pu : PureF) (n : Nat) : Option Value :=
  (some (.tuple ⟨[(.bool true)]⟩))
def b10150_1 (pu : PureF) (n : Nat) (ih0 : Sl → Sl → Int → Option Value) (s1707 : Sl) (s1708 : Sl) (z1709 : Int) : Option Value :=
  (bb (ilt z1709 (Int.ofNat (Sl.n s1707))) (oo (toN z1709) none fun k1723 => (bb (an (Nat.blt k1723 (Sl.n s1707)) true) (oo (nthL (Sl.cs s1707) (k1723 * 1)) none fun v1726 => (oo (toI .i64 v1726) none fun x1728 => (bb (an (Nat.blt k1723 (Sl.n s1708)) true) (oo (nthL (Sl.cs s1708) (k1723 * 1)) none fun v1731 => (oo (toI .i64 v1731) none fun x1733 => (bb (nt (ieq x1728 x1733)) (some (.tuple ⟨[(.bool false)]⟩)) (ih0 s1707 s1708 (wrapF .i64 (Int.add (Int.ofNat k1723) (1 : Int))))))) none))) none)) (m10150_0 pu n))
def l10150_1 (pu : PureF) (n : Nat) (w : Nat) : Sl → Sl → Int → Option Value :=
  Nat.rec (motive := fun _ => Sl → Sl → Int → Option Value) (fun _ _ _ => none) (fun _ ih0 => b10150_1 pu n ih0) w
def m10150_ (pu : PureF) (n : Nat) (s1673 : Sl) (s1674 : Sl) : Option Value :=
  (bb (nt (ieq (Int.ofNat (Sl.n s1673)) (Int.ofNat (Sl.n s1674)))) (some (.tuple ⟨[(.bool false)]⟩)) (l10150_1 pu n n s1673 s1674 (0 : Int)))
def m10150 (pu : PureF) (n : Nat) (args : List Value) : Option Value :=
  (ll args none fun a0 args => (ll args none fun a1 args => (ll args (oo (toSl 1 a0) none fun s1737 => (oo (toSl 1 a1) none fun s1739 => (m10150_ pu n s1737 s1739))) fun _ _ => none)))
theorem w10150_0 (pu : PureF) (n : Nat) {v : Value} (hm : m10150_0 pu n = some v) : Run tt (callP tabs isP pu (inl pu)) 1 c15_23 (fr 26 []) (hp 1 [(oT tab0)]) (FinO tt 1 0 [.tmp 4] v) := by
  unfold m10150_0 at hm
  refine .then ?_
  refine .rK ?_
  refine .ghs (fr 26 [(4, (zB true))]) (hp 1 [(oT tab0)]) (.k0 [false] [] [4]) ?_
  refine .ghs (fr 26 [(4, (zB true))]) (hp 1 [(oT tab0)]) (.k0 [false] [] [4]) ?_
  refine .ret ?_
  exact finO_ret (zB true) [] (by kernel_rfl) hm (Nat.le_of_ble_eq_true rfl) ooAt_nil
theorem q10150 (pu : PureF) (n : Nat) (s1673 : Sl) (s1674 : Sl) {v : Value} (hm : m10150_ pu n s1673 s1674 = some v) : Run tt (callP tabs isP pu (inl pu)) 1 c15_26 (fr 26 [(0, (Sl.v 1 s1673)), (1, (Sl.v 1 s1674))]) (hp 1 [(oT tab0)]) (FinO tt 1 0 [.tmp 4] v) := by
  unfold m10150_ at hm
  refine .then ?_
  refine .rK ?_
  refine .ghs (fr 26 [(0, (Sl.v 1 s1673)), (1, (Sl.v 1 s1674))]) (hp 1 [(oT tab0)]) (.k0 [false] [] [0, 1]) ?_
  refine .then ?_
  refine .then ?_
  refine .rK ?_
  refine .ghs (fr 26 [(0, (Sl.v 1 s1673)), (1, (Sl.v 1 s1674)), (10, (zB (nt (ieq (Int.ofNat (Sl.n s1673)) (Int.ofNat (Sl.n s1674))))))]) (hp 1 [(oT tab0)]) (.k0 [false] [] [0, 1, 10]) ?_
  have hq := bb_cases hm; clear hm; rcases hq with ⟨h1675, hm⟩ | ⟨h1675, hm⟩
  · refine .ifT (nt (ieq (Int.ofNat (Sl.n s1673)) (Int.ofNat (Sl.n s1674)))) (by kernel_rfl) h1675 ?_
    refine .then ?_
    refine .rK ?_
    refine .ghs (fr 26 [(4, (zB false))]) (hp 1 [(oT tab0)]) (.k0 [false] [] [4]) ?_
    refine .ghs (fr 26 [(4, (zB false))]) (hp 1 [(oT tab0)]) (.k0 [false] [] [4]) ?_
    refine .ret ?_
    exact finO_ret (zB false) [] (by kernel_rfl) hm (Nat.le_of_ble_eq_true rfl) ooAt_nil
  · refine .ifF (nt (ieq (Int.ofNat (Sl.n s1673)) (Int.ofNat (Sl.n s1674)))) (by kernel_rfl) h1675 ?_
    refine .skip ?_
    refine .ghs (fr 26 [(0, (Sl.v 1 s1673)), (1, (Sl.v 1 s1674))]) (hp 1 [(oT tab0)]) (.k0 [false] [] [0, 1]) ?_
    refine .join (v := v) (fun y : Unit => ((fr 26 []), (hp 1 [(oT tab0)]))) (fun y => m10150_0 pu n) ?_ ?_
    · rintro _ hm
      exact w10150_0 pu n hm
    · skip
      refine .then ?_
      refine .rK ?_
      refine .ghs (fr 26 [(0, (Sl.v 1 s1673)), (1, (Sl.v 1 s1674)), (5, (zI (0 : Int)))]) (hp 1 [(oT tab0)]) (.k0 [false] [] [0, 1, 5]) ?_
      refine .block ?_
      refine .loopM (v := v) (fun y : Sl × Sl × Int => ((fr 26 [(0, (Sl.v 1 y.1)), (1, (Sl.v 1 y.2.1)), (5, (zI y.2.2))]), (hp 1 [(oT tab0)]))) (fun w y => l10150_1 pu n w y.1 y.2.1 y.2.2) n ⟨(s1673, s1674, (0 : Int)), hm, (.k0 [false] [] [0, 1, 5])⟩ (fun _ => rfl) ?_
      rintro w0 ⟨s1707, s1708, z1709⟩ hm
      replace hm : b10150_1 pu n (l10150_1 pu n w0) s1707 s1708 z1709 = some v := hm
      unfold b10150_1 at hm
      refine .then ?_
      refine .then ?_
      refine .rK ?_
      refine .ghs (fr 26 [(0, (Sl.v 1 s1707)), (1, (Sl.v 1 s1708)), (5, (zI z1709)), (14, (zB (ilt z1709 (Int.ofNat (Sl.n s1707)))))]) (hp 1 [(oT tab0)]) (.k0 [false] [] [0, 1, 5, 14]) ?_
      have hq := bb_cases hm; clear hm; rcases hq with ⟨h1710, hm⟩ | ⟨h1710, hm⟩
      · refine .ifT (ilt z1709 (Int.ofNat (Sl.n s1707))) (by kernel_rfl) h1710 ?_
        refine .skip ?_
        refine .ghs (fr 26 [(0, (Sl.v 1 s1707)), (1, (Sl.v 1 s1708)), (5, (zI z1709))]) (hp 1 [(oT tab0)]) (.k0 [false] [] [0, 1, 5]) ?_
        refine .then ?_
        refine .block ?_
        refine .then ?_
        replace hm := oo_inv hm; obtain ⟨k1723, h1724, hm⟩ := hm
        obtain rfl := toN_some h1724
        replace hm := bb_inv hm; obtain ⟨h1725, hm⟩ := hm
        replace hm := oo_inv hm; obtain ⟨v1726, h1727, hm⟩ := hm
        replace hm := oo_inv hm; obtain ⟨x1728, h1729, hm⟩ := hm
        obtain rfl := toI_some h1729
        replace hm := bb_inv hm; obtain ⟨h1730, hm⟩ := hm
        replace hm := oo_inv hm; obtain ⟨v1731, h1732, hm⟩ := hm
        replace hm := oo_inv hm; obtain ⟨x1733, h1734, hm⟩ := hm
        obtain rfl := toI_some h1734
        refine .reg (eC 2 (keep (hp 1 [(oT tab0)]) (bb (an (Nat.blt k1723 (Sl.n s1707)) true) (some (fpV (k1723 * 1) (Sl.cs s1707))) none)) (keep_bb h1725) (eD (keep (hp 1 [(oT tab0)]) (nthL (Sl.cs s1707) (k1723 * 1))) (keep_eq h1727) (eC 2 (keep (hp 1 [(oT tab0)]) (bb (an (Nat.blt k1723 (Sl.n s1708)) true) (some (fpV (k1723 * 1) (Sl.cs s1708))) none)) (keep_bb h1730) (eD (keep (hp 1 [(oT tab0)]) (nthL (Sl.cs s1708) (k1723 * 1))) (keep_eq h1732) (eE))))) ?_
        refine .ghs (fr 26 [(0, (Sl.v 1 s1707)), (1, (Sl.v 1 s1708)), (5, (zI (Int.ofNat k1723))), (25, (zB (nt (ieq x1728 x1733))))]) (hp 1 [(oT tab0)]) (.k0 [false] [] [0, 1, 5, 25]) ?_
        have hq := bb_cases hm; clear hm; rcases hq with ⟨h1735, hm⟩ | ⟨h1735, hm⟩
        · refine .ifT (nt (ieq x1728 x1733)) (by kernel_rfl) h1735 ?_
          refine .then ?_
          refine .rK ?_
          refine .ghs (fr 26 [(4, (zB false))]) (hp 1 [(oT tab0)]) (.k0 [false] [] [4]) ?_
          refine .ghs (fr 26 [(4, (zB false))]) (hp 1 [(oT tab0)]) (.k0 [false] [] [4]) ?_
          refine .ret ?_
          exact finO_ret (zB false) [] (by kernel_rfl) hm (Nat.le_of_ble_eq_true rfl) ooAt_nil
        · refine .ifF (nt (ieq x1728 x1733)) (by kernel_rfl) h1735 ?_
          refine .skip ?_
          refine .ghs (fr 26 [(0, (Sl.v 1 s1707)), (1, (Sl.v 1 s1708)), (5, (zI (Int.ofNat k1723)))]) (hp 1 [(oT tab0)]) (.k0 [false] [] [0, 1, 5]) ?_
          refine .rK ?_
          exact ⟨(s1707, s1708, (wrapF .i64 (Int.add (Int.ofNat k1723) (1 : Int)))), hm, (.k0 [false] [] [0, 1, 5])⟩
      · refine .ifF (ilt z1709 (Int.ofNat (Sl.n s1707))) (by kernel_rfl) h1710 ?_
        refine .exit ?_
        exact ⟨(), hm, (.k0 [false] [] [])⟩
theorem r10150 {call : CallF} (pu : PureF) (n : Nat) (hcall : call = callP tabs isP pu (inl pu)) {args : List Value} {os : List AObj} {z : Value} (ha : args.length = 2) (hk : os.length = 0) (hpl : ∀ o ∈ os, plainO o) (hm : m10150 pu n (args ++ os.map encO) = some z) : args.length ≤ 26 ∧ Run tt call (tabs.length + 0) c15_26 (Fr.made 26 args) (subHeap tabs os) (FinO tt tabs.length 0 [.tmp 4] z) := by
  subst hcall
  have hq := len_cons ha; clear ha; obtain ⟨a0, args, rfl, ha⟩ := hq
  have hq := len_cons ha; clear ha; obtain ⟨a1, args, rfl, ha⟩ := hq
  obtain rfl := len_nil ha
  obtain rfl := len_nil hk
  replace hm : m10150 pu n [a0, a1] = some z := hm
  unfold m10150 at hm
  replace hm : (oo (toSl 1 a0) none fun s1737 => (oo (toSl 1 a1) none fun s1739 => (m10150_ pu n s1737 s1739))) = some z := hm
  replace hm := oo_inv hm; obtain ⟨s1737, h1738, hm⟩ := hm
  obtain rfl := toSl_some h1738
  replace hm := oo_inv hm; obtain ⟨s1739, h1740, hm⟩ := hm
  obtain rfl := toSl_some h1740
  refine ⟨by simp, ?_⟩
  exact .same (F' := (fr 26 [(0, (Sl.v 1 s1737)), (1, (Sl.v 1 s1739))])) (H' := (hp 1 [(oT tab0)])) (by kernel_rfl) (by kernel_rfl) (q10150 pu n s1737 s1739 hm)
end
end Go.TabUM
set_option maxRecDepth 100000
namespace Go.TabUM
open Go.Sp Go.TabU
noncomputable section
def L : Nat := 1000000
def disp (pu : PureF) : PureF := fun g args =>
  bb (Nat.beq g 6) (m6 pu L args) (bb (Nat.beq g 38) (m38 pu L args) (bb (Nat.beq g 39) (m39 pu L args) (bb (Nat.beq g 50) (m50 pu L args) (bb (Nat.beq g 51) (m51 pu L args) (bb (Nat.beq g 52) (m52 pu L args) (bb (Nat.beq g 53) (m53 pu L args) (bb (Nat.beq g 56) (m56 pu L args) (bb (Nat.beq g 60) (m60 pu L args) (bb (Nat.beq g 10230) (m10230 pu L args) (bb (Nat.beq g 10240) (m10240 pu L args) (bb (Nat.beq g 10090) (m10090 pu L args) (bb (Nat.beq g 10150) (m10150 pu L args) (bb (Nat.beq g 8) (ll args (some (.bool true)) fun _ _ => none) (none))))))))))))))
def puN : Nat → PureF := fun n => Nat.rec (motive := fun _ => PureF) (fun _ _ => none) (fun _ ih => disp ih) n
end
end Go.TabUM
set_option maxRecDepth 100000
namespace Go.Proofs.YtchpnknhdgplgaaDoor.TabU
open Go Go.Sp Go.TabU
theorem fok6 : FnOk Tryd.prog [0] 6 ⟨266, c6, [.tmp 6]⟩ := FnOk.by Tryd.func6 (by kernel_rfl) (by kernel_rfl) Tryd.ntmps6 (by rw [Tryd.results6]) (by kernel_rfl)
theorem fok8 : FnOk Tryd.prog [0] 8 ⟨235, c8, [.tmp 0]⟩ := FnOk.by Tryd.func8 (by kernel_rfl) (by kernel_rfl) Tryd.ntmps8 (by rw [Tryd.results8]) (by kernel_rfl)
theorem fok9 : FnOk Tryd.prog [0] 9 ⟨19, c9, [.tmp 2, .tmp 3]⟩ := FnOk.by Tryd.func9 (by kernel_rfl) (by kernel_rfl) Tryd.ntmps9 (by rw [Tryd.results9]) (by kernel_rfl)
theorem fok11 : FnOk Tryd.prog [0] 11 ⟨25, c11, [.tmp 2, .tmp 3]⟩ := FnOk.by Tryd.func11 (by kernel_rfl) (by kernel_rfl) Tryd.ntmps11 (by rw [Tryd.results11]) (by kernel_rfl)
theorem fok13 : FnOk Tryd.prog [0] 13 ⟨40, c13, [.tmp 2, .tmp 3]⟩ := FnOk.by Tryd.func13 (by kernel_rfl) (by kernel_rfl) Tryd.ntmps13 (by rw [Tryd.results13]) (by kernel_rfl)
theorem fok15 : FnOk Tryd.prog [0] 15 ⟨26, c15, [.tmp 4]⟩ := FnOk.by Tryd.func15 (by kernel_rfl) (by kernel_rfl) Tryd.ntmps15 (by rw [Tryd.results15]) (by kernel_rfl)
theorem fok16 : FnOk Tryd.prog [0] 16 ⟨27, c16, [.tmp 4]⟩ := FnOk.by Tryd.func16 (by kernel_rfl) (by kernel_rfl) Tryd.ntmps16 (by rw [Tryd.results16]) (by kernel_rfl)
theorem fok17 : FnOk Tryd.prog [0] 17 ⟨39, c17, [.tmp 2, .tmp 3]⟩ := FnOk.by Tryd.func17 (by kernel_rfl) (by kernel_rfl) Tryd.ntmps17 (by rw [Tryd.results17]) (by kernel_rfl)
theorem fok19 : FnOk Tryd.prog [0] 19 ⟨53, c19, [.tmp 2, .tmp 3]⟩ := FnOk.by Tryd.func19 (by kernel_rfl) (by kernel_rfl) Tryd.ntmps19 (by rw [Tryd.results19]) (by kernel_rfl)
theorem fok21 : FnOk Tryd.prog [0] 21 ⟨61, c21, [.tmp 2, .tmp 3]⟩ := FnOk.by Tryd.func21 (by kernel_rfl) (by kernel_rfl) Tryd.ntmps21 (by rw [Tryd.results21]) (by kernel_rfl)
theorem fok23 : FnOk Tryd.prog [0] 23 ⟨84, c23, [.cell 4 24]⟩ := FnOk.by Tryd.func23 (by kernel_rfl) (by kernel_rfl) Tryd.ntmps23 (by rw [Tryd.results23]) (by kernel_rfl)
theorem fok24 : FnOk Tryd.prog [0] 24 ⟨63, c24, [.tmp 4, .tmp 5]⟩ := FnOk.by Tryd.func24 (by kernel_rfl) (by kernel_rfl) Tryd.ntmps24 (by rw [Tryd.results24]) (by kernel_rfl)
theorem fok25 : FnOk Tryd.prog [0] 25 ⟨8, c25, [.tmp 2]⟩ := FnOk.by Tryd.func25 (by kernel_rfl) (by kernel_rfl) Tryd.ntmps25 (by rw [Tryd.results25]) (by kernel_rfl)
theorem fok26 : FnOk Tryd.prog [0] 26 ⟨11, c26, []⟩ := FnOk.by Tryd.func26 (by kernel_rfl) (by kernel_rfl) Tryd.ntmps26 (by rw [Tryd.results26]) (by kernel_rfl)
theorem fok27 : FnOk Tryd.prog [0] 27 ⟨8, c27, [.tmp 2]⟩ := FnOk.by Tryd.func27 (by kernel_rfl) (by kernel_rfl) Tryd.ntmps27 (by rw [Tryd.results27]) (by kernel_rfl)
theorem fok28 : FnOk Tryd.prog [0] 28 ⟨3, c28, [.cell 0 24]⟩ := FnOk.by Tryd.func28 (by kernel_rfl) (by kernel_rfl) Tryd.ntmps28 (by rw [Tryd.results28]) (by kernel_rfl)
theorem fok29 : FnOk Tryd.prog [0] 29 ⟨4, c29, [.tmp 2]⟩ := FnOk.by Tryd.func29 (by kernel_rfl) (by kernel_rfl) Tryd.ntmps29 (by rw [Tryd.results29]) (by kernel_rfl)
theorem fok30 : FnOk Tryd.prog [0] 30 ⟨3, c30, [.cell 0 24]⟩ := FnOk.by Tryd.func30 (by kernel_rfl) (by kernel_rfl) Tryd.ntmps30 (by rw [Tryd.results30]) (by kernel_rfl)
theorem fok31 : FnOk Tryd.prog [0] 31 ⟨61, c31, [.tmp 4, .tmp 5, .tmp 6]⟩ := FnOk.by Tryd.func31 (by kernel_rfl) (by kernel_rfl) Tryd.ntmps31 (by rw [Tryd.results31]) (by kernel_rfl)
theorem fok32 : FnOk Tryd.prog [0] 32 ⟨63, c32, [.tmp 4, .tmp 5]⟩ := FnOk.by Tryd.func32 (by kernel_rfl) (by kernel_rfl) Tryd.ntmps32 (by rw [Tryd.results32]) (by kernel_rfl)
theorem fok33 : FnOk Tryd.prog [0] 33 ⟨83, c33, [.tmp 2, .tmp 3]⟩ := FnOk.by Tryd.func33 (by kernel_rfl) (by kernel_rfl) Tryd.ntmps33 (by rw [Tryd.results33]) (by kernel_rfl)
theorem fok34 : FnOk Tryd.prog [0] 34 ⟨32, c34, [.cell 4 24]⟩ := FnOk.by Tryd.func34 (by kernel_rfl) (by kernel_rfl) Tryd.ntmps34 (by rw [Tryd.results34]) (by kernel_rfl)
theorem fok35 : FnOk Tryd.prog [0] 35 ⟨4, c35, [.tmp 2]⟩ := FnOk.by Tryd.func35 (by kernel_rfl) (by kernel_rfl) Tryd.ntmps35 (by rw [Tryd.results35]) (by kernel_rfl)
theorem fok36 : FnOk Tryd.prog [0] 36 ⟨26, c36, [.tmp 4]⟩ := FnOk.by Tryd.func36 (by kernel_rfl) (by kernel_rfl) Tryd.ntmps36 (by rw [Tryd.results36]) (by kernel_rfl)
theorem fok37 : FnOk Tryd.prog [0] 37 ⟨20, c37, [.tmp 4]⟩ := FnOk.by Tryd.func37 (by kernel_rfl) (by kernel_rfl) Tryd.ntmps37 (by rw [Tryd.results37]) (by kernel_rfl)
end Go.Proofs.YtchpnknhdgplgaaDoor.TabU
set_option maxRecDepth 100000
namespace Go.Proofs.YtchpnknhdgplgaaDoor.TabU
open Go Go.Sp Go.TabU
theorem fok38 : FnOk Tryd.prog [0] 38 ⟨17, c38, [.cell 2 73, .tmp 3]⟩ := FnOk.by Tryd.func38 (by kernel_rfl) (by kernel_rfl) Tryd.ntmps38 (by rw [Tryd.results38]) (by kernel_rfl)
theorem fok39 : FnOk Tryd.prog [0] 39 ⟨38, c39, [.tmp 4]⟩ := FnOk.by Tryd.func39 (by kernel_rfl) (by kernel_rfl) Tryd.ntmps39 (by rw [Tryd.results39]) (by kernel_rfl)
theorem fok43 : FnOk Tryd.prog [0] 43 ⟨26, c43, [.tmp 4]⟩ := FnOk.by Tryd.func43 (by kernel_rfl) (by kernel_rfl) Tryd.ntmps43 (by rw [Tryd.results43]) (by kernel_rfl)
theorem fok47 : FnOk Tryd.prog [0] 47 ⟨43, c47, [.tmp 4]⟩ := FnOk.by Tryd.func47 (by kernel_rfl) (by kernel_rfl) Tryd.ntmps47 (by rw [Tryd.results47]) (by kernel_rfl)
theorem fok48 : FnOk Tryd.prog [0] 48 ⟨61, c48, [.tmp 2]⟩ := FnOk.by Tryd.func48 (by kernel_rfl) (by kernel_rfl) Tryd.ntmps48 (by rw [Tryd.results48]) (by kernel_rfl)
theorem fok50 : FnOk Tryd.prog [0] 50 ⟨46, c50, [.tmp 2]⟩ := FnOk.by Tryd.func50 (by kernel_rfl) (by kernel_rfl) Tryd.ntmps50 (by rw [Tryd.results50]) (by kernel_rfl)
theorem fok51 : FnOk Tryd.prog [0] 51 ⟨38, c51, [.cell 2 73]⟩ := FnOk.by Tryd.func51 (by kernel_rfl) (by kernel_rfl) Tryd.ntmps51 (by rw [Tryd.results51]) (by kernel_rfl)
theorem fok52 : FnOk Tryd.prog [0] 52 ⟨41, c52, [.cell 4 73]⟩ := FnOk.by Tryd.func52 (by kernel_rfl) (by kernel_rfl) Tryd.ntmps52 (by rw [Tryd.results52]) (by kernel_rfl)
theorem fok53 : FnOk Tryd.prog [0] 53 ⟨21, c53, [.cell 4 73]⟩ := FnOk.by Tryd.func53 (by kernel_rfl) (by kernel_rfl) Tryd.ntmps53 (by rw [Tryd.results53]) (by kernel_rfl)
theorem fok54 : FnOk Tryd.prog [0] 54 ⟨134, c54, []⟩ := FnOk.by Tryd.func54 (by kernel_rfl) (by kernel_rfl) Tryd.ntmps54 (by rw [Tryd.results54]) (by kernel_rfl)
theorem fok55 : FnOk Tryd.prog [0] 55 ⟨8, c55, [.tmp 2]⟩ := FnOk.by Tryd.func55 (by kernel_rfl) (by kernel_rfl) Tryd.ntmps55 (by rw [Tryd.results55]) (by kernel_rfl)
theorem fok56 : FnOk Tryd.prog [0] 56 ⟨15, c56, [.tmp 6]⟩ := FnOk.by Tryd.func56 (by kernel_rfl) (by kernel_rfl) Tryd.ntmps56 (by rw [Tryd.results56]) (by kernel_rfl)
theorem fok57 : FnOk Tryd.prog [0] 57 ⟨8, c57, [.tmp 2]⟩ := FnOk.by Tryd.func57 (by kernel_rfl) (by kernel_rfl) Tryd.ntmps57 (by rw [Tryd.results57]) (by kernel_rfl)
theorem fok58 : FnOk Tryd.prog [0] 58 ⟨21, c58, [.tmp 2]⟩ := FnOk.by Tryd.func58 (by kernel_rfl) (by kernel_rfl) Tryd.ntmps58 (by rw [Tryd.results58]) (by kernel_rfl)
theorem fok59 : FnOk Tryd.prog [0] 59 ⟨9, c59, [.tmp 2]⟩ := FnOk.by Tryd.func59 (by kernel_rfl) (by kernel_rfl) Tryd.ntmps59 (by rw [Tryd.results59]) (by kernel_rfl)
theorem fok60 : FnOk Tryd.prog [0] 60 ⟨14, c60, [.tmp 2]⟩ := FnOk.by Tryd.func60 (by kernel_rfl) (by kernel_rfl) Tryd.ntmps60 (by rw [Tryd.results60]) (by kernel_rfl)
theorem fok63 : FnOk Tryd.prog [0] 63 ⟨49, c63, []⟩ := FnOk.by Tryd.func63 (by kernel_rfl) (by kernel_rfl) Tryd.ntmps63 (by rw [Tryd.results63]) (by kernel_rfl)
theorem fok64 : FnOk Tryd.prog [0] 64 ⟨56, c64, []⟩ := FnOk.by Tryd.func64 (by kernel_rfl) (by kernel_rfl) Tryd.ntmps64 (by rw [Tryd.results64]) (by kernel_rfl)
theorem fok65 : FnOk Tryd.prog [0] 65 ⟨65, c65, []⟩ := FnOk.by Tryd.func65 (by kernel_rfl) (by kernel_rfl) Tryd.ntmps65 (by rw [Tryd.results65]) (by kernel_rfl)
theorem fok66 : FnOk Tryd.prog [0] 66 ⟨57, c66, [.tmp 6, .tmp 7]⟩ := FnOk.by Tryd.func66 (by kernel_rfl) (by kernel_rfl) Tryd.ntmps66 (by rw [Tryd.results66]) (by kernel_rfl)
theorem fok67 : FnOk Tryd.prog [0] 67 ⟨32, c67, []⟩ := FnOk.by Tryd.func67 (by kernel_rfl) (by kernel_rfl) Tryd.ntmps67 (by rw [Tryd.results67]) (by kernel_rfl)
theorem fok68 : FnOk Tryd.prog [0] 68 ⟨133, c68, [.tmp 6]⟩ := FnOk.by Tryd.func68 (by kernel_rfl) (by kernel_rfl) Tryd.ntmps68 (by rw [Tryd.results68]) (by kernel_rfl)
theorem fok69 : FnOk Tryd.prog [0] 69 ⟨17, c69, [.tmp 4]⟩ := FnOk.by Tryd.func69 (by kernel_rfl) (by kernel_rfl) Tryd.ntmps69 (by rw [Tryd.results69]) (by kernel_rfl)
theorem fok70 : FnOk Tryd.prog [0] 70 ⟨84, c70, [.tmp 8]⟩ := FnOk.by Tryd.func70 (by kernel_rfl) (by kernel_rfl) Tryd.ntmps70 (by rw [Tryd.results70]) (by kernel_rfl)
theorem fok71 : FnOk Tryd.prog [0] 71 ⟨168, c71, [.tmp 8, .tmp 9]⟩ := FnOk.by Tryd.func71 (by kernel_rfl) (by kernel_rfl) Tryd.ntmps71 (by rw [Tryd.results71]) (by kernel_rfl)
end Go.Proofs.YtchpnknhdgplgaaDoor.TabU
set_option maxRecDepth 100000
namespace Go.Proofs.YtchpnknhdgplgaaDoor.TabU
open Go Go.Sp Go.TabU
theorem fok72 : FnOk Tryd.prog [0] 72 ⟨19, c72, [.tmp 2]⟩ := FnOk.by Tryd.func72 (by kernel_rfl) (by kernel_rfl) Tryd.ntmps72 (by rw [Tryd.results72]) (by kernel_rfl)
theorem fok73 : FnOk Tryd.prog [0] 73 ⟨25, c73, [.tmp 2]⟩ := FnOk.by Tryd.func73 (by kernel_rfl) (by kernel_rfl) Tryd.ntmps73 (by rw [Tryd.results73]) (by kernel_rfl)
theorem fok74 : FnOk Tryd.prog [0] 74 ⟨21, c74, [.tmp 2]⟩ := FnOk.by Tryd.func74 (by kernel_rfl) (by kernel_rfl) Tryd.ntmps74 (by rw [Tryd.results74]) (by kernel_rfl)
theorem fok75 : FnOk Tryd.prog [0] 75 ⟨35, c75, [.tmp 2]⟩ := FnOk.by Tryd.func75 (by kernel_rfl) (by kernel_rfl) Tryd.ntmps75 (by rw [Tryd.results75]) (by kernel_rfl)
theorem fok76 : FnOk Tryd.prog [0] 76 ⟨76, c76, []⟩ := FnOk.by Tryd.func76 (by kernel_rfl) (by kernel_rfl) Tryd.ntmps76 (by rw [Tryd.results76]) (by kernel_rfl)
theorem fok77 : FnOk Tryd.prog [0] 77 ⟨7, c77, [.tmp 2]⟩ := FnOk.by Tryd.func77 (by kernel_rfl) (by kernel_rfl) Tryd.ntmps77 (by rw [Tryd.results77]) (by kernel_rfl)
theorem fok78 : FnOk Tryd.prog [0] 78 ⟨33, c78, [.tmp 2]⟩ := FnOk.by Tryd.func78 (by kernel_rfl) (by kernel_rfl) Tryd.ntmps78 (by rw [Tryd.results78]) (by kernel_rfl)
theorem fok79 : FnOk Tryd.prog [0] 79 ⟨15, c79, [.tmp 6]⟩ := FnOk.by Tryd.func79 (by kernel_rfl) (by kernel_rfl) Tryd.ntmps79 (by rw [Tryd.results79]) (by kernel_rfl)
theorem fok80 : FnOk Tryd.prog [0] 80 ⟨36, c80, [.tmp 10]⟩ := FnOk.by Tryd.func80 (by kernel_rfl) (by kernel_rfl) Tryd.ntmps80 (by rw [Tryd.results80]) (by kernel_rfl)
theorem fok81 : FnOk Tryd.prog [0] 81 ⟨6, c81, [.tmp 2]⟩ := FnOk.by Tryd.func81 (by kernel_rfl) (by kernel_rfl) Tryd.ntmps81 (by rw [Tryd.results81]) (by kernel_rfl)
theorem fok82 : FnOk Tryd.prog [0] 82 ⟨28, c82, [.tmp 8, .tmp 9]⟩ := FnOk.by Tryd.func82 (by kernel_rfl) (by kernel_rfl) Tryd.ntmps82 (by rw [Tryd.results82]) (by kernel_rfl)
end Go.Proofs.YtchpnknhdgplgaaDoor.TabU
set_option maxRecDepth 100000
namespace Go.Proofs.YtchpnknhdgplgaaDoor.TabU
open Go Go.Sp Go.TabU
theorem tok3 : TyOk Tryd.prog 3 ti3 := TyOk.by Tryd.underlying3 (inf := Tryd.t3) (by kernel_rfl) (by kernel_rfl) (by kernel_rfl) (by kernel_rfl) (by kernel_rfl) (fun h => by cases h)
theorem tok4 : TyOk Tryd.prog 4 ti4 := TyOk.by Tryd.underlying4 (inf := Tryd.t4) (by kernel_rfl) (by kernel_rfl) (by kernel_rfl) (by kernel_rfl) (by kernel_rfl) (fun h => by cases h)
theorem tok5 : TyOk Tryd.prog 5 ti5 := TyOk.by Tryd.underlying5 (inf := Tryd.t5) (by kernel_rfl) (by kernel_rfl) (by kernel_rfl) (by kernel_rfl) (by kernel_rfl) (fun h => by cases h)
theorem tok9 : TyOk Tryd.prog 9 ti9 := TyOk.by Tryd.underlying9 (inf := Tryd.t9) (by kernel_rfl) (by kernel_rfl) (by kernel_rfl) (by kernel_rfl) (by kernel_rfl) (fun h => by cases h)
theorem tok22 : TyOk Tryd.prog 22 ti22 := TyOk.by Tryd.underlying22 (inf := Tryd.t22) (by kernel_rfl) (by kernel_rfl) (by kernel_rfl) (by kernel_rfl) (by kernel_rfl) (fun h => by cases h)
theorem tok24 : TyOk Tryd.prog 24 ti24 := TyOk.by Tryd.underlying24 (inf := Tryd.t24) (by kernel_rfl) (by kernel_rfl) (by kernel_rfl) (by kernel_rfl) (by kernel_rfl) (fun h => by cases h)
theorem tok28 : TyOk Tryd.prog 28 ti28 := TyOk.by Tryd.underlying28 (inf := Tryd.t28) (by kernel_rfl) (by kernel_rfl) (by kernel_rfl) (by kernel_rfl) (by kernel_rfl) (fun h => by cases h)
theorem tok32 : TyOk Tryd.prog 32 ti32 := TyOk.by Tryd.underlying32 (inf := Tryd.t32) (by kernel_rfl) (by kernel_rfl) (by kernel_rfl) (by kernel_rfl) (by kernel_rfl) (fun h => by cases h)
theorem tok36 : TyOk Tryd.prog 36 ti36 := TyOk.by Tryd.underlying36 (inf := Tryd.t36) (by kernel_rfl) (by kernel_rfl) (by kernel_rfl) (by kernel_rfl) (by kernel_rfl) (fun h => by cases h)
theorem tok43 : TyOk Tryd.prog 43 ti43 := TyOk.by Tryd.underlying43 (inf := Tryd.t43) (by kernel_rfl) (by kernel_rfl) (by kernel_rfl) (by kernel_rfl) (by kernel_rfl) (fun h => by cases h)
theorem tok45 : TyOk Tryd.prog 45 ti45 := TyOk.by Tryd.underlying45 (inf := Tryd.t45) (by kernel_rfl) (by kernel_rfl) (by kernel_rfl) (by kernel_rfl) (by kernel_rfl) (fun h => by cases h)
theorem tok46 : TyOk Tryd.prog 46 ti46 := TyOk.by Tryd.underlying46 (inf := Tryd.t46) (by kernel_rfl) (by kernel_rfl) (by kernel_rfl) (by kernel_rfl) (by kernel_rfl) (fun h => by cases h)
theorem tok47 : TyOk Tryd.prog 47 ti47 := TyOk.by Tryd.underlying47 (inf := Tryd.t47) (by kernel_rfl) (by kernel_rfl) (by kernel_rfl) (by kernel_rfl) (by kernel_rfl) (fun _ => ⟨_, rfl, Fl.ok (d := 8) (⟨by kernel_rfl, .inr (.inr (.inr (.inl ⟨5, 46, [(.int .i8 0)], Tryd.underlying47, ⟨by kernel_rfl, .inl ⟨⟨_, Tryd.underlying46⟩, _, _, rfl⟩⟩, by kernel_rfl⟩)))⟩) (by decide) ⟨_, Tryd.underlying47, rfl⟩ (by kernel_rfl)⟩)
theorem tok50 : TyOk Tryd.prog 50 ti50 := TyOk.by Tryd.underlying50 (inf := Tryd.t50) (by kernel_rfl) (by kernel_rfl) (by kernel_rfl) (by kernel_rfl) (by kernel_rfl) (fun _ => ⟨_, rfl, Fl.ok (d := 8) (⟨by kernel_rfl, .inr (.inr (.inr (.inl ⟨2, 3, [(.int .i64 0)], Tryd.underlying50, ⟨by kernel_rfl, .inl ⟨⟨_, Tryd.underlying3⟩, _, _, rfl⟩⟩, by kernel_rfl⟩)))⟩) (by decide) ⟨_, Tryd.underlying50, rfl⟩ (by kernel_rfl)⟩)
theorem tok53 : TyOk Tryd.prog 53 ti53 := TyOk.by Tryd.underlying53 (inf := Tryd.t53) (by kernel_rfl) (by kernel_rfl) (by kernel_rfl) (by kernel_rfl) (by kernel_rfl) (fun _ => ⟨_, rfl, Fl.ok (d := 8) (⟨by kernel_rfl, .inr (.inr (.inr (.inl ⟨2, 5, [(.int .u8 0)], Tryd.underlying53, ⟨by kernel_rfl, .inl ⟨⟨_, Tryd.underlying5⟩, _, _, rfl⟩⟩, by kernel_rfl⟩)))⟩) (by decide) ⟨_, Tryd.underlying53, rfl⟩ (by kernel_rfl)⟩)
theorem tok54 : TyOk Tryd.prog 54 ti54 := TyOk.by Tryd.underlying54 (inf := Tryd.t54) (by kernel_rfl) (by kernel_rfl) (by kernel_rfl) (by kernel_rfl) (by kernel_rfl) (fun h => by cases h)
theorem tok70 : TyOk Tryd.prog 70 ti70 := TyOk.by Tryd.underlying70 (inf := Tryd.t70) (by kernel_rfl) (by kernel_rfl) (by kernel_rfl) (by kernel_rfl) (by kernel_rfl) (fun h => by cases h)
theorem tok71 : TyOk Tryd.prog 71 ti71 := TyOk.by Tryd.underlying71 (inf := Tryd.t71) (by kernel_rfl) (by kernel_rfl) (by kernel_rfl) (by kernel_rfl) (by kernel_rfl) (fun _ => ⟨_, rfl, Fl.ok (d := 8) (⟨by kernel_rfl, .inr (.inr (.inr (.inl ⟨2, 70, [(.int .u64 0)], Tryd.underlying71, ⟨by kernel_rfl, .inl ⟨⟨_, Tryd.underlying70⟩, _, _, rfl⟩⟩, by kernel_rfl⟩)))⟩) (by decide) ⟨_, Tryd.underlying71, rfl⟩ (by kernel_rfl)⟩)
theorem tok73 : TyOk Tryd.prog 73 ti73 := TyOk.by Tryd.underlying73 (inf := Tryd.t73) (by kernel_rfl) (by kernel_rfl) (by kernel_rfl) (by kernel_rfl) (by kernel_rfl) (fun _ => ⟨_, rfl, Fl.ok (d := 8) (⟨by kernel_rfl, .inr (.inr (.inr (.inl ⟨7, 71, [(.int .u64 0), (.int .u64 0)], Tryd.underlying73, ⟨by kernel_rfl, .inr (.inr (.inr (.inl ⟨2, 70, [(.int .u64 0)], Tryd.underlying71, ⟨by kernel_rfl, .inl ⟨⟨_, Tryd.underlying70⟩, _, _, rfl⟩⟩, by kernel_rfl⟩)))⟩, by kernel_rfl⟩)))⟩) (by decide) ⟨_, Tryd.underlying73, rfl⟩ (by kernel_rfl)⟩)
theorem tok89 : TyOk Tryd.prog 89 ti89 := TyOk.by Tryd.underlying89 (inf := Tryd.t89) (by kernel_rfl) (by kernel_rfl) (by kernel_rfl) (by kernel_rfl) (by kernel_rfl) (fun _ => ⟨_, rfl, Fl.ok (d := 8) (⟨by kernel_rfl, .inr (.inr (.inr (.inl ⟨7, 3, [(.int .i64 0)], Tryd.underlying89, ⟨by kernel_rfl, .inl ⟨⟨_, Tryd.underlying3⟩, _, _, rfl⟩⟩, by kernel_rfl⟩)))⟩) (by decide) ⟨_, Tryd.underlying89, rfl⟩ (by kernel_rfl)⟩)
theorem tok93 : TyOk Tryd.prog 93 ti93 := TyOk.by Tryd.underlying93 (inf := Tryd.t93) (by kernel_rfl) (by kernel_rfl) (by kernel_rfl) (by kernel_rfl) (by kernel_rfl) (fun h => by cases h)
theorem tok95 : TyOk Tryd.prog 95 ti95 := TyOk.by Tryd.underlying95 (inf := Tryd.t95) (by kernel_rfl) (by kernel_rfl) (by kernel_rfl) (by kernel_rfl) (by kernel_rfl) (fun h => by cases h)
theorem tok96 : TyOk Tryd.prog 96 ti96 := TyOk.by Tryd.underlying96 (inf := Tryd.t96) (by kernel_rfl) (by kernel_rfl) (by kernel_rfl) (by kernel_rfl) (by kernel_rfl) (fun h => by cases h)
theorem tok100 : TyOk Tryd.prog 100 ti100 := TyOk.by Tryd.underlying100 (inf := Tryd.t100) (by kernel_rfl) (by kernel_rfl) (by kernel_rfl) (by kernel_rfl) (by kernel_rfl) (fun h => by cases h)
theorem tok109 : TyOk Tryd.prog 109 ti109 := TyOk.by Tryd.underlying109 (inf := Tryd.t109) (by kernel_rfl) (by kernel_rfl) (by kernel_rfl) (by kernel_rfl) (by kernel_rfl) (fun h => by cases h)
theorem tok110 : TyOk Tryd.prog 110 ti110 := TyOk.by Tryd.underlying110 (inf := Tryd.t110) (by kernel_rfl) (by kernel_rfl) (by kernel_rfl) (by kernel_rfl) (by kernel_rfl) (fun _ => ⟨_, rfl, Fl.ok (d := 8) (⟨by kernel_rfl, .inr (.inr (.inr (.inl ⟨64, 5, [(.int .u8 0)], Tryd.underlying110, ⟨by kernel_rfl, .inl ⟨⟨_, Tryd.underlying5⟩, _, _, rfl⟩⟩, by kernel_rfl⟩)))⟩) (by decide) ⟨_, Tryd.underlying110, rfl⟩ (by kernel_rfl)⟩)
theorem tok111 : TyOk Tryd.prog 111 ti111 := TyOk.by Tryd.underlying111 (inf := Tryd.t111) (by kernel_rfl) (by kernel_rfl) (by kernel_rfl) (by kernel_rfl) (by kernel_rfl) (fun h => by cases h)
theorem tok115 : TyOk Tryd.prog 115 ti115 := TyOk.by Tryd.underlying115 (inf := Tryd.t115) (by kernel_rfl) (by kernel_rfl) (by kernel_rfl) (by kernel_rfl) (by kernel_rfl) (fun h => by cases h)
theorem ttOk : TOk Tryd.prog tt := TOk.of_all (t := ttTr) ⟨trivial, ⟨trivial, ⟨tok3, ⟨trivial, ⟨trivial, ⟨trivial, trivial, ⟨tok95, trivial, trivial⟩⟩, ⟨tok47, trivial, ⟨tok111, trivial, trivial⟩⟩⟩, ⟨trivial, ⟨trivial, ⟨tok71, trivial, trivial⟩, trivial⟩, trivial⟩⟩, ⟨trivial, ⟨trivial, trivial, ⟨trivial, trivial, ⟨tok115, trivial, trivial⟩⟩⟩, ⟨trivial, ⟨tok43, trivial, trivial⟩, trivial⟩⟩⟩, ⟨tok5, ⟨tok9, trivial, ⟨trivial, ⟨trivial, ⟨tok73, trivial, trivial⟩, trivial⟩, ⟨trivial, ⟨tok89, trivial, trivial⟩, trivial⟩⟩⟩, ⟨trivial, ⟨trivial, trivial, ⟨tok53, trivial, trivial⟩⟩, ⟨trivial, ⟨tok45, trivial, ⟨tok109, trivial, trivial⟩⟩, ⟨trivial, ⟨tok93, trivial, trivial⟩, trivial⟩⟩⟩⟩⟩, ⟨trivial, ⟨tok4, ⟨trivial, ⟨trivial, ⟨tok32, trivial, ⟨tok96, trivial, trivial⟩⟩, trivial⟩, ⟨tok24, trivial, trivial⟩⟩, ⟨trivial, ⟨trivial, ⟨tok36, trivial, ⟨tok100, trivial, trivial⟩⟩, trivial⟩, ⟨tok28, trivial, trivial⟩⟩⟩, ⟨trivial, ⟨trivial, ⟨trivial, trivial, ⟨tok50, trivial, trivial⟩⟩, trivial⟩, ⟨trivial, ⟨tok22, ⟨trivial, ⟨tok70, trivial, trivial⟩, trivial⟩, ⟨tok54, trivial, trivial⟩⟩, ⟨trivial, ⟨tok46, trivial, ⟨tok110, trivial, trivial⟩⟩, trivial⟩⟩⟩⟩⟩
theorem fnAll : fnTr.All (FnOk Tryd.prog [0]) := ⟨trivial, ⟨trivial, ⟨trivial, ⟨trivial, ⟨fok15, ⟨fok31, ⟨fok63, trivial, trivial⟩, trivial⟩, ⟨fok47, ⟨fok79, trivial, trivial⟩, trivial⟩⟩, ⟨fok23, ⟨fok39, ⟨fok71, trivial, trivial⟩, trivial⟩, ⟨fok55, trivial, trivial⟩⟩⟩, ⟨fok11, ⟨fok19, ⟨fok35, ⟨fok67, trivial, trivial⟩, trivial⟩, ⟨fok51, trivial, trivial⟩⟩, ⟨fok27, ⟨fok43, ⟨fok75, trivial, trivial⟩, trivial⟩, ⟨fok59, trivial, trivial⟩⟩⟩⟩, ⟨trivial, ⟨fok9, ⟨fok17, ⟨fok33, ⟨fok65, trivial, trivial⟩, trivial⟩, ⟨trivial, ⟨fok81, trivial, trivial⟩, trivial⟩⟩, ⟨fok25, ⟨trivial, ⟨fok73, trivial, trivial⟩, trivial⟩, ⟨fok57, trivial, trivial⟩⟩⟩, ⟨fok13, ⟨fok21, ⟨fok37, ⟨fok69, trivial, trivial⟩, trivial⟩, ⟨fok53, trivial, trivial⟩⟩, ⟨fok29, ⟨trivial, ⟨fok77, trivial, trivial⟩, trivial⟩, trivial⟩⟩⟩⟩, ⟨trivial, ⟨trivial, ⟨fok8, ⟨fok16, ⟨fok32, ⟨fok64, trivial, trivial⟩, trivial⟩, ⟨fok48, ⟨fok80, trivial, trivial⟩, trivial⟩⟩, ⟨fok24, ⟨trivial, ⟨fok72, trivial, trivial⟩, trivial⟩, ⟨fok56, trivial, trivial⟩⟩⟩, ⟨trivial, ⟨trivial, ⟨fok36, ⟨fok68, trivial, trivial⟩, trivial⟩, ⟨fok52, trivial, trivial⟩⟩, ⟨fok28, ⟨trivial, ⟨fok76, trivial, trivial⟩, trivial⟩, ⟨fok60, trivial, trivial⟩⟩⟩⟩, ⟨fok6, ⟨trivial, ⟨trivial, ⟨fok34, ⟨fok66, trivial, trivial⟩, trivial⟩, ⟨fok50, ⟨fok82, trivial, trivial⟩, trivial⟩⟩, ⟨fok26, ⟨trivial, ⟨fok74, trivial, trivial⟩, trivial⟩, ⟨fok58, trivial, trivial⟩⟩⟩, ⟨trivial, ⟨trivial, ⟨fok38, ⟨fok70, trivial, trivial⟩, trivial⟩, ⟨fok54, trivial, trivial⟩⟩, ⟨fok30, ⟨trivial, ⟨fok78, trivial, trivial⟩, trivial⟩, trivial⟩⟩⟩⟩⟩
theorem fnsOk (f : FuncId) (r : RFn) (h : fns f = some r) : FnOk Tryd.prog [0] f r := fnAll.get h
end Go.Proofs.YtchpnknhdgplgaaDoor.TabU
namespace Go.Proofs
open Go.Shelf
def Tryd.lays189_ren : Go.Shelf.Ren := ⟨fun | 189 => 26 | 125 => 55 | 257 => 54 | 128 => 72 | 129 => 73 | 294 => 63 | 295 => 64 | 296 => 65 | 297 => 66 | 298 => 67 | 299 => 68 | 216 => 69 | 300 => 70 | 301 => 71 | 328 => 76 | 329 => 77 | 330 => 78 | 331 => 79 | 332 => 80 | 215 => 81 | 343 => 82 | n => n, fun | 28 => 32 | 3 => 3 | 46 => 54 | 0 => 0 | 51 => 109 | 53 => 70 | 4 => 4 | 183 => 101 | 182 => 100 | 131 => 106 | 5 => 5 | 9 => 9 | 218 => 111 | 222 => 115 | 228 => 118 | 229 => 119 | n => n, fun | n => n⟩
theorem Tryd.lays189 : Go.Proofs.Lays.n189 Tryd.prog Tryd.lays189_ren := {
  mixed := by kernel_rfl
  f125 := Tryd.func55.trans (congrArg some (by kernel_rfl))
  f128 := Tryd.func72.trans (congrArg some (by kernel_rfl))
  f129 := Tryd.func73.trans (congrArg some (by kernel_rfl))
  f189 := Tryd.func26.trans (congrArg some (by kernel_rfl))
  f215 := Tryd.func81.trans (congrArg some (by kernel_rfl))
  f216 := Tryd.func69.trans (congrArg some (by kernel_rfl))
  f257 := Tryd.func54.trans (congrArg some (by kernel_rfl))
  f294 := Tryd.func63.trans (congrArg some (by kernel_rfl))
  f295 := Tryd.func64.trans (congrArg some (by kernel_rfl))
  f296 := Tryd.func65.trans (congrArg some (by kernel_rfl))
  f297 := Tryd.func66.trans (congrArg some (by kernel_rfl))
  f298 := Tryd.func67.trans (congrArg some (by kernel_rfl))
  f299 := Tryd.func68.trans (congrArg some (by kernel_rfl))
  f300 := Tryd.func70.trans (congrArg some (by kernel_rfl))
  f301 := Tryd.func71.trans (congrArg some (by kernel_rfl))
  f328 := Tryd.func76.trans (congrArg some (by kernel_rfl))
  f329 := Tryd.func77.trans (congrArg some (by kernel_rfl))
  f330 := Tryd.func78.trans (congrArg some (by kernel_rfl))
  f331 := Tryd.func79.trans (congrArg some (by kernel_rfl))
  f332 := Tryd.func80.trans (congrArg some (by kernel_rfl))
  f343 := Tryd.func82.trans (congrArg some (by kernel_rfl))
  t0 := Tryd.underlying0
  a0 := Tryd.isAgg0
  z0 := Tryd.sizeOf0
  v0 := Tryd.zeroValue0
  t3 := Tryd.underlying3
  a3 := Tryd.isAgg3
  z3 := Tryd.sizeOf3
  v3 := Tryd.zeroValue3
  t4 := Tryd.underlying4
  a4 := Tryd.isAgg4
  z4 := Tryd.sizeOf4
  v4 := Tryd.zeroValue4
  t5 := Tryd.underlying5
  a5 := Tryd.isAgg5
  z5 := Tryd.sizeOf5
  v5 := Tryd.zeroValue5
  t9 := Tryd.underlying9
  a9 := Tryd.isAgg9
  z9 := Tryd.sizeOf9
  v9 := Tryd.zeroValue9
  t28 := Tryd.underlying32
  a28 := Tryd.isAgg32
  z28 := Tryd.sizeOf32
  v28 := Tryd.zeroValue32
  t46 := Tryd.underlying54
  a46 := Tryd.isAgg54
  z46 := Tryd.sizeOf54
  v46 := Tryd.zeroValue54
  t51 := Tryd.underlying109
  a51 := Tryd.isAgg109
  z51 := Tryd.sizeOf109
  v51 := Tryd.zeroValue109
  t53 := Tryd.underlying70
  a53 := Tryd.isAgg70
  z53 := Tryd.sizeOf70
  v53 := Tryd.zeroValue70
  t131 := Tryd.underlying106
  a131 := Tryd.isAgg106
  z131 := Tryd.sizeOf106
  v131 := Tryd.zeroValue106
  t182 := Tryd.underlying100
  a182 := Tryd.isAgg100
  z182 := Tryd.sizeOf100
  v182 := Tryd.zeroValue100
  t183 := Tryd.underlying101
  a183 := Tryd.isAgg101
  z183 := Tryd.sizeOf101
  v183 := Tryd.zeroValue101
  t218 := Tryd.underlying111
  a218 := Tryd.isAgg111
  z218 := Tryd.sizeOf111
  v218 := Tryd.zeroValue111
  t222 := Tryd.underlying115
  a222 := Tryd.isAgg115
  z222 := Tryd.sizeOf115
  v222 := Tryd.zeroValue115
  t228 := Tryd.underlying118
  a228 := Tryd.isAgg118
  z228 := Tryd.sizeOf118
  v228 := Tryd.zeroValue118
  t229 := Tryd.underlying119
  a229 := Tryd.isAgg119
  z229 := Tryd.sizeOf119
  v229 := Tryd.zeroValue119 }
open Go.Sort Go.RowKit in
theorem Tryd.slices_Sort_int (blk off cap : Nat) (zs : List Int) (w : World) (hH : Holds (Value.int .i64) w blk off zs.toArray) (hblk : blk < w.heap.size) (hsz : zs.length < 4611686018427387904) :
    Calls Tryd.prog 26 #[.slice (some ⟨blk, off, none⟩) zs.length cap] w fun e w' =>
      e = .returned (.tuple #[]) ∧ ∃ n os, w' = grow (putRow (Value.int .i64) (Sort.ahead w n) blk off (zs.mergeSort fun x y => decide (x ≤ y)).toArray) os := Any.slices_Sort_int Tryd.lays189 blk off cap zs w hH hblk hsz
def Tryd.laysNm220_ren : Go.Shelf.Ren := ⟨fun | 20 => 48 | n => n, fun | 22 => 32 | 3 => 3 | 4 => 4 | 0 => 0 | n => n, fun | n => n⟩
theorem Tryd.laysNm220 : Go.Proofs.Lays2.n20 Tryd.prog Tryd.laysNm220_ren := {
  mixed := by kernel_rfl
  f20 := Tryd.func48.trans (congrArg some (by kernel_rfl))
  t0 := Tryd.underlying0
  a0 := Tryd.isAgg0
  z0 := Tryd.sizeOf0
  v0 := Tryd.zeroValue0
  t3 := Tryd.underlying3
  a3 := Tryd.isAgg3
  z3 := Tryd.sizeOf3
  v3 := Tryd.zeroValue3
  t4 := Tryd.underlying4
  a4 := Tryd.isAgg4
  z4 := Tryd.sizeOf4
  v4 := Tryd.zeroValue4
  t22 := Tryd.underlying32
  a22 := Tryd.isAgg32
  z22 := Tryd.sizeOf32
  v22 := Tryd.zeroValue32
  i3 := by kernel_rfl }
open Go.RowKit Go.Lib Go.Sort in
theorem Tryd.slices_Compact_int (blk off cap : Nat) (zs : List Int) (w : World) (hH : Holds (Value.int .i64) w blk off zs.toArray) (hsz : zs.length ≤ 9223372036854775807) (hcap : zs.length ≤ cap) :
    Calls Tryd.prog 48 #[.slice (some ⟨blk, off, none⟩) zs.length cap] w fun e w' => e = .returned (.slice (some ⟨blk, off, none⟩) (Lib.compact zs).length cap) ∧ ∃ q, w' = putRow (Value.int .i64) (Sort.ahead w q) blk off (Lib.compact zs ++ List.replicate (zs.length - (Lib.compact zs).length) 0).toArray := Any.slices_Compact_int Tryd.laysNm220 blk off cap zs w hH hsz hcap
open Go.RowKit Go.Lib Go.Sort in
theorem Tryd.slices_Compact_int_empty (a : Option Addr) (cap : Nat) (w : World) :
    Calls Tryd.prog 48 #[.slice a 0 cap] w fun e w' => e = .returned (.slice a 0 cap) ∧ w' = w := Any.slices_Compact_int_empty Tryd.laysNm220 a cap w
open Go.RowKit Go.Lib Go.Sort in
theorem Tryd.slices_Compact_int_cells (b off n c : Nat) (zs : List Int) (w : World) (hz : n ≤ zs.length) (hbig : n ≤ 9223372036854775807) (hcap : n ≤ c) (hc : ∀ j, j < zs.length → w.cell? ⟨b, off + j, none⟩ = some (.int .i64 (zs.getD j 0))) (hf : ∀ j, j < n → w.frozen? ⟨b, off + j, none⟩ = false) :
    Calls Tryd.prog 48 #[.slice (some ⟨b, off, none⟩) n c] w fun e w' => e = .returned (.slice (some ⟨b, off, none⟩) (Lib.compact (zs.take n)).length c) ∧ ∃ q, w' = (w.drewN q).setCells b off ((Lib.compact (zs.take n) ++ List.replicate (n - (Lib.compact (zs.take n)).length) 0).map (Value.int .i64)) := Any.slices_Compact_int_cells Tryd.laysNm220 b off n c zs w hz hbig hcap hc hf
open Go.RowKit Go.Sort in
theorem Tryd.slices_Sort_int_none (p : Option Addr) (cap : Nat) (w : World) :
    Calls Tryd.prog 26 #[.slice p 0 cap] w fun e w' => e = .returned (.tuple #[]) ∧ w' = w := Any.slices_Sort_int_none Tryd.lays189 p cap w
end Go.Proofs
set_option maxRecDepth 100000
namespace Go.Proofs.YtchpnknhdgplgaaDoor.TabU
open Go Go.Sp Go.TabUM Go.TabU
noncomputable section
theorem fk6 : FnOk Tryd.prog (List.range tabs.length) 6 ⟨266, c6_104, [.tmp 6]⟩ := by
  have h : c6 = c6_104 := by kernel_rfl
  rw [← h]; exact fok6
theorem fk38 : FnOk Tryd.prog (List.range tabs.length) 38 ⟨17, c38_11, [.cell 2 73, .tmp 3]⟩ := by
  have h : c38 = c38_11 := by kernel_rfl
  rw [← h]; exact fok38
theorem fk39 : FnOk Tryd.prog (List.range tabs.length) 39 ⟨38, c39_37, [.tmp 4]⟩ := by
  have h : c39 = c39_37 := by kernel_rfl
  rw [← h]; exact fok39
theorem fk50 : FnOk Tryd.prog (List.range tabs.length) 50 ⟨46, c50_40, [.tmp 2]⟩ := by
  have h : c50 = c50_40 := by kernel_rfl
  rw [← h]; exact fok50
theorem fk51 : FnOk Tryd.prog (List.range tabs.length) 51 ⟨38, c51_33, [.cell 2 73]⟩ := by
  have h : c51 = c51_33 := by kernel_rfl
  rw [← h]; exact fok51
theorem fk52 : FnOk Tryd.prog (List.range tabs.length) 52 ⟨41, c52_20, [.cell 4 73]⟩ := by
  have h : c52 = c52_20 := by kernel_rfl
  rw [← h]; exact fok52
theorem fk53 : FnOk Tryd.prog (List.range tabs.length) 53 ⟨21, c53_20, [.cell 4 73]⟩ := by
  have h : c53 = c53_20 := by kernel_rfl
  rw [← h]; exact fok53
theorem fk56 : FnOk Tryd.prog (List.range tabs.length) 56 ⟨15, c56_3, [.tmp 6]⟩ := by
  have h : c56 = c56_3 := by kernel_rfl
  rw [← h]; exact fok56
theorem fk60 : FnOk Tryd.prog (List.range tabs.length) 60 ⟨14, c60_9, [.tmp 2]⟩ := by
  have h : c60 = c60_9 := by kernel_rfl
  rw [← h]; exact fok60
theorem fk23 : FnOk Tryd.prog (List.range tabs.length) 23 ⟨84, c23_53, [.cell 4 24]⟩ := by
  have h : c23 = c23_53 := by kernel_rfl
  rw [← h]; exact fok23
theorem fk24 : FnOk Tryd.prog (List.range tabs.length) 24 ⟨63, c24_34, [.tmp 4, .tmp 5]⟩ := by
  have h : c24 = c24_34 := by kernel_rfl
  rw [← h]; exact fok24
theorem fk9 : FnOk Tryd.prog (List.range tabs.length) 9 ⟨19, c9_11, [.tmp 2, .tmp 3]⟩ := by
  have h : c9 = c9_11 := by kernel_rfl
  rw [← h]; exact fok9
theorem fk15 : FnOk Tryd.prog (List.range tabs.length) 15 ⟨26, c15_26, [.tmp 4]⟩ := by
  have h : c15 = c15_26 := by kernel_rfl
  rw [← h]; exact fok15
theorem tabs_ne : ∀ t ∈ tabs, t ≠ [] := by intro t ht; simp [tabs] at ht; subst ht; intro h; cases h
theorem tabs_pl : ∀ t ∈ tabs, ∀ x ∈ t, plain1 x = true := by intro t ht x hx; simp [tabs] at ht; subst ht; simp [tab0] at hx; rcases hx with rfl | rfl | rfl | rfl | rfl | rfl | rfl | rfl | rfl | rfl | rfl | rfl | rfl | rfl | rfl | rfl | rfl | rfl | rfl | rfl | rfl | rfl | rfl | rfl | rfl | rfl | rfl | rfl | rfl | rfl | rfl | rfl | rfl | rfl | rfl | rfl | rfl | rfl | rfl | rfl | rfl | rfl | rfl | rfl | rfl | rfl | rfl | rfl | rfl | rfl | rfl | rfl | rfl | rfl | rfl | rfl | rfl | rfl | rfl | rfl | rfl | rfl | rfl | rfl <;> rfl
theorem inl_ok (hm : Tryd.prog.follows .mixedOrders = true) {pu : PureF} (ho10230 : ObjOk Tryd.prog tabs 2 0 23 (pu 10230)) (ho10240 : ObjOk Tryd.prog tabs 2 0 24 (pu 10240)) (ho10090 : ObjOk Tryd.prog tabs 1 0 9 (pu 10090)) (ho10150 : ObjOk Tryd.prog tabs 2 0 15 (pu 10150)) : CallOk Tryd.prog (List.range tabs.length) (inl pu) := fun g args H v H' h => by
  replace h : bb (Nat.beq g 25) (cloneF 1 8 args H) (bb (Nat.beq g 27) (cloneF 2 16 args H) (bb (Nat.beq g 26) (sortF args H) (bb (Nat.beq g 23) (objG tabs [[none, some 2, none], [none]] 2 [] [true, false] (pu 10230) args H) (bb (Nat.beq g 24) (objG tabs [[none, some 2], [some 1]] 2 [] [] (pu 10240) args H) (bb (Nat.beq g 9) (objG tabs [[none, some 2]] 1 [] [] (pu 10090) args H) (bb (Nat.beq g 15) (objG tabs [[some 1], [some 1]] 2 [] [] (pu 10150) args H) (none))))))) = some (v, H') := h
  have hq := bb_cases h; clear h; rcases hq with ⟨e, h⟩ | ⟨_, h⟩
  · obtain rfl := Nat.eq_of_beq_eq_true e
    exact clone25_ok ttOk fnsOk hm h
  have hq := bb_cases h; clear h; rcases hq with ⟨e, h⟩ | ⟨_, h⟩
  · obtain rfl := Nat.eq_of_beq_eq_true e
    exact clone27_ok ttOk fnsOk hm h
  have hq := bb_cases h; clear h; rcases hq with ⟨e, h⟩ | ⟨_, h⟩
  · obtain rfl := Nat.eq_of_beq_eq_true e
    exact ⟨enter_ok fok26, (sortF_ok (enter_ok fok26) (fun blk off cap zs w h1 h2 h3 => Go.Proofs.Tryd.slices_Sort_int blk off cap zs w h1 h2 h3) h).2 _⟩
  have hq := bb_cases h; clear h; rcases hq with ⟨e, h⟩ | ⟨_, h⟩
  · obtain rfl := Nat.eq_of_beq_eq_true e
    exact objG_ok (rs := []) tabs_ne tabs_pl ho10230 h
  have hq := bb_cases h; clear h; rcases hq with ⟨e, h⟩ | ⟨_, h⟩
  · obtain rfl := Nat.eq_of_beq_eq_true e
    exact objG_ok (rs := []) tabs_ne tabs_pl ho10240 h
  have hq := bb_cases h; clear h; rcases hq with ⟨e, h⟩ | ⟨_, h⟩
  · obtain rfl := Nat.eq_of_beq_eq_true e
    exact objG_ok (rs := []) tabs_ne tabs_pl ho10090 h
  have hq := bb_cases h; clear h; rcases hq with ⟨e, h⟩ | ⟨_, h⟩
  · obtain rfl := Nat.eq_of_beq_eq_true e
    exact objG_ok (rs := []) tabs_ne tabs_pl ho10150 h
  cases h
theorem disp_ok (hm : Tryd.prog.follows .mixedOrders = true) (hw : PureOk Tryd.prog tabs 8 (fun args => ll args (some (.bool true)) fun _ _ => none)) {pu : PureF} (hall : (∀ g, isP g = true → PureOk Tryd.prog tabs g (pu g)) ∧ ObjOk Tryd.prog tabs 2 0 23 (pu 10230) ∧ ObjOk Tryd.prog tabs 2 0 24 (pu 10240) ∧ ObjOk Tryd.prog tabs 1 0 9 (pu 10090) ∧ ObjOk Tryd.prog tabs 2 0 15 (pu 10150)) : (∀ g, isP g = true → PureOk Tryd.prog tabs g (disp pu g)) ∧ ObjOk Tryd.prog tabs 2 0 23 (disp pu 10230) ∧ ObjOk Tryd.prog tabs 2 0 24 (disp pu 10240) ∧ ObjOk Tryd.prog tabs 1 0 9 (disp pu 10090) ∧ ObjOk Tryd.prog tabs 2 0 15 (disp pu 10150) := by
  obtain ⟨hpu, ho10230, ho10240, ho10090, ho10150⟩ := hall
  have hcall := callP_ok (P := Tryd.prog) (tabs := tabs) tabs_ne tabs_pl (inl_ok hm ho10230 ho10240 ho10090 ho10150) hpu
  refine ⟨fun g hg => ?_, ?_, ?_, ?_, ?_⟩
  · skip
    have hg : g ∈ plist := memN_iff.1 hg
    simp only [plist, List.mem_cons, List.not_mem_nil, or_false] at hg
    rcases hg with rfl | rfl | rfl | rfl | rfl | rfl | rfl | rfl | rfl | rfl
    · exact pureOk_of_run (tabs := tabs) (f := m6 pu L) ttOk hm hcall fk6 fun args v h hc => r6 pu L rfl h hc
    · exact hw
    · exact pureOk_of_run (tabs := tabs) (f := m38 pu L) ttOk hm hcall fk38 fun args v h hc => r38 pu L rfl h hc
    · exact pureOk_of_run (tabs := tabs) (f := m39 pu L) ttOk hm hcall fk39 fun args v h hc => r39 pu L rfl h hc
    · exact pureOk_of_run (tabs := tabs) (f := m50 pu L) ttOk hm hcall fk50 fun args v h hc => r50 pu L rfl h hc
    · exact pureOk_of_run (tabs := tabs) (f := m51 pu L) ttOk hm hcall fk51 fun args v h hc => r51 pu L rfl h hc
    · exact pureOk_of_run (tabs := tabs) (f := m52 pu L) ttOk hm hcall fk52 fun args v h hc => r52 pu L rfl h hc
    · exact pureOk_of_run (tabs := tabs) (f := m53 pu L) ttOk hm hcall fk53 fun args v h hc => r53 pu L rfl h hc
    · exact pureOk_of_run (tabs := tabs) (f := m56 pu L) ttOk hm hcall fk56 fun args v h hc => r56 pu L rfl h hc
    · exact pureOk_of_run (tabs := tabs) (f := m60 pu L) ttOk hm hcall fk60 fun args v h hc => r60 pu L rfl h hc
  · exact objOk_of_run (tabs := tabs) (f := m10230 pu L) ttOk hm hcall fk23 fun args os z h1 h2 h3 h => r10230 pu L rfl h1 h2 h3 h
  · exact objOk_of_run (tabs := tabs) (f := m10240 pu L) ttOk hm hcall fk24 fun args os z h1 h2 h3 h => r10240 pu L rfl h1 h2 h3 h
  · exact objOk_of_run (tabs := tabs) (f := m10090 pu L) ttOk hm hcall fk9 fun args os z h1 h2 h3 h => r10090 pu L rfl h1 h2 h3 h
  · exact objOk_of_run (tabs := tabs) (f := m10150 pu L) ttOk hm hcall fk15 fun args os z h1 h2 h3 h => r10150 pu L rfl h1 h2 h3 h
theorem all_ok (hm : Tryd.prog.follows .mixedOrders = true) (hw : PureOk Tryd.prog tabs 8 (fun args => ll args (some (.bool true)) fun _ _ => none)) : ∀ n, (∀ g, isP g = true → PureOk Tryd.prog tabs g (puN n g)) ∧ ObjOk Tryd.prog tabs 2 0 23 (puN n 10230) ∧ ObjOk Tryd.prog tabs 2 0 24 (puN n 10240) ∧ ObjOk Tryd.prog tabs 1 0 9 (puN n 10090) ∧ ObjOk Tryd.prog tabs 2 0 15 (puN n 10150) := fun n => by
  induction n with
  | zero =>
    refine ⟨fun g hg => ?_, ?_, ?_, ?_, ?_⟩
    · skip
      have hg : g ∈ plist := memN_iff.1 hg
      simp only [plist, List.mem_cons, List.not_mem_nil, or_false] at hg
      rcases hg with rfl | rfl | rfl | rfl | rfl | rfl | rfl | rfl | rfl | rfl
      · exact ⟨enter_ok fk6, fun args v h => by cases h⟩
      · exact ⟨hw.1, fun args v h => by cases h⟩
      · exact ⟨enter_ok fk38, fun args v h => by cases h⟩
      · exact ⟨enter_ok fk39, fun args v h => by cases h⟩
      · exact ⟨enter_ok fk50, fun args v h => by cases h⟩
      · exact ⟨enter_ok fk51, fun args v h => by cases h⟩
      · exact ⟨enter_ok fk52, fun args v h => by cases h⟩
      · exact ⟨enter_ok fk53, fun args v h => by cases h⟩
      · exact ⟨enter_ok fk56, fun args v h => by cases h⟩
      · exact ⟨enter_ok fk60, fun args v h => by cases h⟩
    · exact ⟨enter_ok fk23, fun args os z h1 h2 h3 h => by cases h⟩
    · exact ⟨enter_ok fk24, fun args os z h1 h2 h3 h => by cases h⟩
    · exact ⟨enter_ok fk9, fun args os z h1 h2 h3 h => by cases h⟩
    · exact ⟨enter_ok fk15, fun args os z h1 h2 h3 h => by cases h⟩
  | succ n ih => exact disp_ok hm hw ih
theorem pu_ok (hm : Tryd.prog.follows .mixedOrders = true) (hw : PureOk Tryd.prog tabs 8 (fun args => ll args (some (.bool true)) fun _ _ => none)) : ∀ n g, isP g = true → PureOk Tryd.prog tabs g (puN n g) := fun n => (all_ok hm hw n).1
end
end Go.Proofs.YtchpnknhdgplgaaDoor.TabU
