/- Models of the program's functions, and the proofs that runs give them: MADE BY PROGRAM (wip/tools/dec.py). -/
import Derived.Test.YtchpnknhdgplgaaDoorTabSMod1x

set_option maxRecDepth 100000
set_option linter.unusedVariables false
namespace Go.TabSM
open Go.Sp Go.TabS
noncomputable section
/-- spadille/spadilleref07.plain -/
def m46_0 (pu : PureF) (n : Nat) (n52703 : Nat) (c52704 : Nat) (q52705 : List Value) : Option Value :=
  (bb (allL closed1 q52705) (bb (an (Nat.ble (0 + n52703 * 1) (len q52705)) (allL closed1 (takeL (n52703 * 1) (dropL 0 q52705)))) (some (Sl.v 1 (Sl.mk n52703 0 (takeL (n52703 * 1) (dropL 0 q52705))))) none) none)
def b46_1 (pu : PureF) (n : Nat) (ih0 : Int → Int → Nat → Nat → Int → List Value → Option Value) (z52708 : Int) (z52709 : Int) (n52710 : Nat) (c52711 : Nat) (z52712 : Int) (q52713 : List Value) : Option Value :=
  (bb (allL closed1 q52713) (bb (ilt z52712 z52708) (oo (toN (wrapF .i64 (Int.sub (wrapF .i64 (Int.sub z52708 (1 : Int))) z52712))) none fun k52716 => (oo (toN z52712) none fun k52718 => (bb (an (Nat.blt k52718 n52710) true) (bb (an (Nat.ble ((0 + k52718 * 1) + 1) (len q52713)) true) (bb (allL closed1 (setL ([(.int .i64 (aand .i64 (shrI .i64 z52709 k52716) (1 : Int)))] : List Value) (0 + k52718 * 1) q52713)) (ih0 z52708 z52709 n52710 c52711 (wrapF .i64 (Int.add (Int.ofNat k52718) (1 : Int))) (setL ([(.int .i64 (aand .i64 (shrI .i64 z52709 k52716) (1 : Int)))] : List Value) (0 + k52718 * 1) q52713)) none) none) none))) (m46_0 pu n n52710 c52711 q52713)) none)
def l46_1 (pu : PureF) (n : Nat) (w : Nat) : Int → Int → Nat → Nat → Int → List Value → Option Value :=
  Nat.rec (motive := fun _ => Int → Int → Nat → Nat → Int → List Value → Option Value) (fun _ _ _ _ _ _ => none) (fun _ ih0 => b46_1 pu n ih0) w
def m46_ (pu : PureF) (n : Nat) (x52680 : Int) (x52682 : Int) : Option Value :=
  (oo (toN x52680) none fun k52684 => (bb (an (Nat.ble k52684 k52684) (an (Nat.ble (k52684 * 8) 1099511627776) (an (Nat.ble k52684 1099511627776) true))) (bb (allL closed1 (zeroRow ([(.int .i64 (0 : Int))] : List Value) k52684)) (l46_1 pu n n (Int.ofNat k52684) x52682 k52684 (2 * k52684 + bb true 1 0) (0 : Int) (zeroRow ([(.int .i64 (0 : Int))] : List Value) k52684)) none) none))
def m46 (pu : PureF) (n : Nat) (args : List Value) : Option Value :=
  (ll args none fun a0 args => (ll args none fun a1 args => (ll args (oo (toI .i64 a0) none fun x52680 => (oo (toI .i64 a1) none fun x52682 => (m46_ pu n x52680 x52682))) fun _ _ => none)))
theorem r46 {call : CallF} (pu : PureF) (n : Nat) (hcall : call = callP tabs isP pu (inl pu)) {args : List Value} {v : Value} (hm : m46 pu n args = some v) (_ : ∀ x ∈ args, closed2 x = true) : args.length ≤ 25 ∧ Run tt call 1 c46_18 (Fr.made 25 args) (pureHeap tabs) (Fin tt 1 [.tmp 4] v) := by
  subst hcall
  unfold m46 at hm
  have hq := ll_uncons hm; clear hm; obtain ⟨a0, args_0, rfl, hm⟩ := hq
  have hq := ll_uncons hm; clear hm; obtain ⟨a1, args_1, rfl, hm⟩ := hq
  have hq := ll_end hm; clear hm; obtain ⟨rfl, hm⟩ := hq
  have hq := oo_inv hm; clear hm; obtain ⟨x52680, h52681, hm⟩ := hq
  obtain rfl := toI_some h52681
  have hq := oo_inv hm; clear hm; obtain ⟨x52682, h52683, hm⟩ := hq
  obtain rfl := toI_some h52683
  unfold m46_ at hm
  refine ⟨by simp, ?_⟩
  refine .same (F' := (fr 25 [(0, (zI x52680)), (1, (zI x52682))])) (H' := (hp 1 [(oT tab0)])) (by kernel_rfl) (by kernel_rfl) ?_
  refine .then ?_
  refine .rK ?_
  refine .ghs (fr 25 [(0, (zI x52680)), (1, (zI x52682))]) (hp 1 [(oT tab0)]) (.k0 [false] [] [0, 1]) ?_
  refine .then ?_
  have hq := oo_inv hm; clear hm; obtain ⟨k52684, h52685, hm⟩ := hq
  obtain rfl := toN_some h52685
  replace hm := bb_inv hm; obtain ⟨h52686, hm⟩ := hm
  refine .reg (eC 1 (bb (an (Nat.ble k52684 k52684) (an (Nat.ble (k52684 * 8) 1099511627776) (an (Nat.ble k52684 1099511627776) true))) (some ((sc 1 0 1 k52684 (2 * k52684 + bb true 1 0)), (hp 2 [(oT tab0), (oC (zeroRow ([(zI (0 : Int))] : List Value) k52684))]))) none) (bb_some h52686) (eE)) ?_
  replace hm := bb_inv hm; obtain ⟨h52687, hm⟩ := hm
  refine .ghs (fr 25 [(0, (zI (Int.ofNat k52684))), (1, (zI x52682)), (5, (sc 1 0 1 k52684 (2 * k52684 + bb true 1 0)))]) (hp 2 [(oT tab0), (oC (zeroRow ([(zI (0 : Int))] : List Value) k52684))]) (.k [1] [false] [.tmp 5 false] [0, 1, 5] ⟨trE (by kernel_rfl) h52687, trivial⟩) ?_
  refine .join (v := v) (fun y : Nat × Nat × List Value => ((fr 25 [(5, (sc 1 0 1 y.1 y.2.1))]), (hp 2 [(oT tab0), (oC y.2.2)]))) (fun y => m46_0 pu n y.1 y.2.1 y.2.2) ?_ ?_
  · rintro ⟨n52703, c52704, q52705⟩ hm
    unfold m46_0 at hm
    refine .then ?_
    refine .rK ?_
    replace hm := bb_inv hm; obtain ⟨h52706, hm⟩ := hm
    refine .ghs (fr 25 [(4, (sc 1 0 1 n52703 c52704))]) (hp 2 [(oT tab0), (oC q52705)]) (.k [1] [false] [.tmp 4 false] [4] ⟨trE (by kernel_rfl) h52706, trivial⟩) ?_
    replace hm := bb_inv hm; obtain ⟨h52707, hm⟩ := hm
    refine .ghs (Fr.puts (fr 25 [(4, (sc 1 0 1 n52703 c52704))]) [(4, (Sl.v 1 (Sl.mk n52703 0 (takeL (n52703 * 1) (dropL 0 q52705)))))]) (hp 2 [(oT tab0), .dead]) (.freezeC 1 4 1 (an (Nat.ble (0 + n52703 * 1) (len q52705)) (allL closed1 (takeL (n52703 * 1) (dropL 0 q52705)))) (F1 := (Fr.puts (fr 25 [(4, (sc 1 0 1 n52703 c52704))]) [(4, (Sl.v 1 (Sl.mk n52703 0 (takeL (n52703 * 1) (dropL 0 q52705)))))])) (H1 := (hp 2 [(oT tab0), .dead])) (by kernel_rfl) (by kernel_rfl) h52707 (GhS.id _ _)) ?_
    refine .ret ?_
    exact fin_ret (Sl.v 1 (Sl.mk n52703 0 (takeL (n52703 * 1) (dropL 0 q52705)))) (by kernel_rfl) (by kernel_rfl) hm
  · skip
    refine .then ?_
    refine .rK ?_
    refine .ghs (fr 25 [(0, (zI (Int.ofNat k52684))), (1, (zI x52682)), (5, (sc 1 0 1 k52684 (2 * k52684 + bb true 1 0))), (6, (zI (0 : Int)))]) (hp 2 [(oT tab0), (oC (zeroRow ([(zI (0 : Int))] : List Value) k52684))]) (.k [1] [false] [.tmp 5 false] [0, 1, 5, 6] ⟨trE (by kernel_rfl) h52687, trivial⟩) ?_
    refine .block ?_
    refine .loopM (v := v) (fun y : Int × Int × Nat × Nat × Int × List Value => ((fr 25 [(0, (zI y.1)), (1, (zI y.2.1)), (5, (sc 1 0 1 y.2.2.1 y.2.2.2.1)), (6, (zI y.2.2.2.2.1))]), (hp 2 [(oT tab0), (oC y.2.2.2.2.2)]))) (fun w y => l46_1 pu n w y.1 y.2.1 y.2.2.1 y.2.2.2.1 y.2.2.2.2.1 y.2.2.2.2.2) n ⟨((Int.ofNat k52684), x52682, k52684, (2 * k52684 + bb true 1 0), (0 : Int), (zeroRow ([(zI (0 : Int))] : List Value) k52684)), hm, (.k [1] [false] [.tmp 5 false] [0, 1, 5, 6] ⟨trE (by kernel_rfl) h52687, trivial⟩)⟩ (fun _ => rfl) ?_
    rintro w0 ⟨z52708, z52709, n52710, c52711, z52712, q52713⟩ hm
    refine .then ?_
    refine .then ?_
    refine .rK ?_
    replace hm := bb_inv hm; obtain ⟨h52714, hm⟩ := hm
    refine .ghs (fr 25 [(0, (zI z52708)), (1, (zI z52709)), (5, (sc 1 0 1 n52710 c52711)), (6, (zI z52712)), (11, (zB (ilt z52712 z52708)))]) (hp 2 [(oT tab0), (oC q52713)]) (.k [1] [false] [.tmp 5 false] [0, 1, 5, 6, 11] ⟨trE (by kernel_rfl) h52714, trivial⟩) ?_
    have hq := bb_cases hm; clear hm; rcases hq with ⟨h52715, hm⟩ | ⟨h52715, hm⟩
    · refine .ifT (ilt z52712 z52708) (by kernel_rfl) h52715 ?_
      refine .skip ?_
      refine .ghs (fr 25 [(0, (zI z52708)), (1, (zI z52709)), (5, (sc 1 0 1 n52710 c52711)), (6, (zI z52712))]) (hp 2 [(oT tab0), (oC q52713)]) (.k [1] [false] [.tmp 5 false] [0, 1, 5, 6] ⟨trE (by kernel_rfl) h52714, trivial⟩) ?_
      refine .then ?_
      refine .block ?_
      have hq := oo_inv hm; clear hm; obtain ⟨k52716, h52717, hm⟩ := hq
      have hq := oo_inv hm; clear hm; obtain ⟨k52718, h52719, hm⟩ := hq
      obtain rfl := toN_some h52719
      replace hm := bb_inv hm; obtain ⟨h52720, hm⟩ := hm
      replace hm := bb_inv hm; obtain ⟨h52721, hm⟩ := hm
      refine .reg (eC 6 (some ((zI (wrapF .i64 (Int.sub (wrapF .i64 (Int.sub z52708 (1 : Int))) (Int.ofNat k52718)))), (hp 2 [(oT tab0), (oC q52713)]))) (show _ = some ((zI (Int.ofNat k52716)), _) from (by rw [toN_some h52717])) (eC 2 (keep (hp 2 [(oT tab0), (oC q52713)]) (bb (an (Nat.blt k52718 n52710) true) (some (.pointer (some ⟨1, (0 + k52718 * 1), none⟩))) none)) (keep_bb h52720) (eD (done (bb (an (Nat.ble ((0 + k52718 * 1) + 1) (len q52713)) true) (some (hp 2 [(oT tab0), (oC (setL ([(zI (aand .i64 (shrI .i64 z52709 k52716) (1 : Int)))] : List Value) (0 + k52718 * 1) q52713))])) none) undef) (done_bb h52721) (eE)))) ?_
      replace hm := bb_inv hm; obtain ⟨h52722, hm⟩ := hm
      refine .ghs (fr 25 [(0, (zI z52708)), (1, (zI z52709)), (5, (sc 1 0 1 n52710 c52711)), (6, (zI (Int.ofNat k52718)))]) (hp 2 [(oT tab0), (oC (setL ([(zI (aand .i64 (shrI .i64 z52709 k52716) (1 : Int)))] : List Value) (0 + k52718 * 1) q52713))]) (.k [1] [false] [.tmp 5 false] [0, 1, 5, 6] ⟨trE (by kernel_rfl) h52722, trivial⟩) ?_
      refine .rK ?_
      exact ⟨(z52708, z52709, n52710, c52711, (wrapF .i64 (Int.add (Int.ofNat k52718) (1 : Int))), (setL ([(zI (aand .i64 (shrI .i64 z52709 k52716) (1 : Int)))] : List Value) (0 + k52718 * 1) q52713)), hm, (.k [1] [false] [.tmp 5 false] [0, 1, 5, 6] ⟨trE (by kernel_rfl) h52722, trivial⟩)⟩
    · refine .ifF (ilt z52712 z52708) (by kernel_rfl) h52715 ?_
      refine .exit ?_
      exact ⟨(n52710, c52711, q52713), hm, (.k [1] [false] [.tmp 5 false] [5] ⟨trE (by kernel_rfl) h52714, trivial⟩)⟩
/-- (spadille/table.bunch).numbers -/
def m47_0 (pu : PureF) (n : Nat) (n52824 : Nat) (c52825 : Nat) (q52826 : List Value) : Option Value :=
  (bb (allL closed1 q52826) (bb (an (Nat.ble (0 + n52824 * 1) (len q52826)) (allL closed1 (takeL (n52824 * 1) (dropL 0 q52826)))) (some (Sl.v 1 (Sl.mk n52824 0 (takeL (n52824 * 1) (dropL 0 q52826))))) none) none)
def m47_2 (pu : PureF) (n : Nat) (ih0 : Int → Nat → Nat → Int → Int → List Value → List Value → Option Value) (z52874 : Int) (n52875 : Nat) (c52876 : Nat) (z52877 : Int) (z52878 : Int) (q52879 : List Value) (q52880 : List Value) : Option Value :=
  (bb (allL closed1 q52879) (bb (allL closed1 q52880) (ih0 z52874 n52875 c52876 z52877 (wrapF .i64 (Int.add z52878 (1 : Int))) q52879 q52880) none) none)
def b47_3 (pu : PureF) (n : Nat) (ih0 : Int → Nat → Nat → Int → Int → List Value → List Value → Option Value) (ih1 : Int → Nat → Nat → Int → Int → Int → Int → Int → List Value → List Value → Option Value) (z52883 : Int) (n52884 : Nat) (c52885 : Nat) (z52886 : Int) (z52887 : Int) (z52888 : Int) (z52889 : Int) (z52890 : Int) (q52891 : List Value) (q52892 : List Value) : Option Value :=
  (bb (allL closed1 q52891) (bb (allL closed1 q52892) (bb (ilt z52890 z52889) (oo (toN z52886) none fun k52896 => (bb (an (Nat.blt k52896 n52884) true) (oo (nthL q52892 (0 + k52896 * 1)) none fun v52899 => (oo (toI .i64 v52899) none fun x52901 => (oo (toN (wrapF .i64 (Int.tdiv (Int.ofNat k52896) (64 : Int)))) none fun k52903 => (oo (toN z52890) none fun k52905 => (bb (Nat.blt k52905 7) (bb (Nat.blt k52903 2) (oo (nthL q52891 ((0 + k52905 * 2) + k52903 * 1)) none fun v52909 => (oo (toI .u64 v52909) none fun x52911 => (oo (toN (Int.tmod (Int.ofNat k52896) (64 : Int))) none fun k52913 => (bb (an (Nat.blt k52896 n52884) true) (bb (an (Nat.ble ((0 + k52896 * 1) + 1) (len q52892)) true) (bb (allL closed1 (setL ([(.int .i64 (aor .i64 (shlI .i64 x52901 1) (wrapF .i64 (aand .u64 (shrI .u64 x52911 k52913) (1 : Int)))))] : List Value) (0 + k52896 * 1) q52892)) (ih1 z52883 n52884 c52885 (Int.ofNat k52896) z52887 z52888 z52889 (wrapF .i64 (Int.add (Int.ofNat k52905) (1 : Int))) q52891 (setL ([(.int .i64 (aor .i64 (shlI .i64 x52901 1) (wrapF .i64 (aand .u64 (shrI .u64 x52911 k52913) (1 : Int)))))] : List Value) (0 + k52896 * 1) q52892)) none) none) none)))) none) none))))) none)) (m47_2 pu n ih0 z52883 n52884 c52885 z52887 z52888 q52891 q52892)) none) none)
def l47_3 (pu : PureF) (n : Nat) (ih0 : Int → Nat → Nat → Int → Int → List Value → List Value → Option Value) (w : Nat) : Int → Nat → Nat → Int → Int → Int → Int → Int → List Value → List Value → Option Value :=
  Nat.rec (motive := fun _ => Int → Nat → Nat → Int → Int → Int → Int → Int → List Value → List Value → Option Value) (fun _ _ _ _ _ _ _ _ _ _ => none) (fun _ ih1 => b47_3 pu n ih0 ih1) w
def b47_1 (pu : PureF) (n : Nat) (ih0 : Int → Nat → Nat → Int → Int → List Value → List Value → Option Value) (z52829 : Int) (n52830 : Nat) (c52831 : Nat) (z52832 : Int) (z52833 : Int) (q52834 : List Value) (q52835 : List Value) : Option Value :=
  (bb (allL closed1 q52834) (bb (allL closed1 q52835) (bb (ilt z52833 z52832) (l47_3 pu n ih0 n z52829 n52830 c52831 z52833 z52832 z52833 z52829 (0 : Int) q52834 q52835) (m47_0 pu n n52830 c52831 q52835)) none) none)
def l47_1 (pu : PureF) (n : Nat) (w : Nat) : Int → Nat → Nat → Int → Int → List Value → List Value → Option Value :=
  Nat.rec (motive := fun _ => Int → Nat → Nat → Int → Int → List Value → List Value → Option Value) (fun _ _ _ _ _ _ _ => none) (fun _ ih0 => b47_1 pu n ih0) w
def m47_ (pu : PureF) (n : Nat) (q52723 : List Value) (x52726 : Int) : Option Value :=
  (bb (allL closed1 q52723) (oo (toN x52726) none fun k52729 => (oo (toN (shlI .i64 (1 : Int) k52729)) none fun k52731 => (bb (an (Nat.ble k52731 k52731) (an (Nat.ble (k52731 * 8) 1099511627776) (an (Nat.ble k52731 1099511627776) true))) (bb (allL closed1 (zeroRow ([(.int .i64 (0 : Int))] : List Value) k52731)) (l47_1 pu n n (Int.ofNat k52729) k52731 (2 * k52731 + bb true 1 0) (Int.ofNat k52731) (0 : Int) q52723 (zeroRow ([(.int .i64 (0 : Int))] : List Value) k52731)) none) none))) none)
def m47 (pu : PureF) (n : Nat) (args : List Value) : Option Value :=
  (ll args none fun a0 args => (ll args none fun a1 args => (ll args (oo (vAgg a0) none fun q52723 => (bb (an (Nat.beq (len q52723) 14) (allL closed1 q52723)) (oo (toI .i64 a1) none fun x52726 => (m47_ pu n q52723 x52726)) none)) fun _ _ => none)))
theorem r47 {call : CallF} (pu : PureF) (n : Nat) (hcall : call = callP tabs isP pu (inl pu)) {args : List Value} {v : Value} (hm : m47 pu n args = some v) (_ : ∀ x ∈ args, closed2 x = true) : args.length ≤ 43 ∧ Run tt call 1 c47_33 (Fr.made 43 args) (pureHeap tabs) (FinL tt 1 1 [.tmp 4] v) := by
  subst hcall
  unfold m47 at hm
  have hq := ll_uncons hm; clear hm; obtain ⟨a0, args_0, rfl, hm⟩ := hq
  have hq := ll_uncons hm; clear hm; obtain ⟨a1, args_1, rfl, hm⟩ := hq
  have hq := ll_end hm; clear hm; obtain ⟨rfl, hm⟩ := hq
  have hq := oo_inv hm; clear hm; obtain ⟨q52723, h52724, hm⟩ := hq
  obtain rfl := vAgg_some h52724
  replace hm := bb_inv hm; obtain ⟨h52725, hm⟩ := hm
  have hq := oo_inv hm; clear hm; obtain ⟨x52726, h52727, hm⟩ := hq
  obtain rfl := toI_some h52727
  unfold m47_ at hm
  refine ⟨by simp, ?_⟩
  refine .same (F' := (fr 43 [(0, (.agg ⟨q52723⟩)), (1, (zI x52726))])) (H' := (hp 1 [(oT tab0)])) (by kernel_rfl) (by kernel_rfl) ?_
  refine .then ?_
  refine .rK ?_
  replace hm := bb_inv hm; obtain ⟨h52728, hm⟩ := hm
  refine .ghs (fr 43 [(1, (zI x52726)), (2, (pt 1 0))]) (hp 2 [(oT tab0), (oC q52723)]) (.k [1] [false] [.tmp 2 false] [1, 2] ⟨trE (by kernel_rfl) h52728, trivial⟩) ?_
  refine .then ?_
  have hq := oo_inv hm; clear hm; obtain ⟨k52729, h52730, hm⟩ := hq
  obtain rfl := toN_some h52730
  have hq := oo_inv hm; clear hm; obtain ⟨k52731, h52732, hm⟩ := hq
  replace hm := bb_inv hm; obtain ⟨h52733, hm⟩ := hm
  refine .reg (eC 1 (some ((zI (shlI .i64 (1 : Int) k52729)), (hp 2 [(oT tab0), (oC q52723)]))) (show _ = some ((zI (Int.ofNat k52731)), _) from (by rw [toN_some h52732])) (eD (bb (an (Nat.ble k52731 k52731) (an (Nat.ble (k52731 * 8) 1099511627776) (an (Nat.ble k52731 1099511627776) true))) (some ((sc 2 0 1 k52731 (2 * k52731 + bb true 1 0)), (hp 3 [(oT tab0), (oC q52723), (oC (zeroRow ([(zI (0 : Int))] : List Value) k52731))]))) none) (bb_some h52733) (eE))) ?_
  replace hm := bb_inv hm; obtain ⟨h52734, hm⟩ := hm
  refine .ghs (fr 43 [(1, (zI (Int.ofNat k52729))), (2, (pt 1 0)), (5, (sc 2 0 1 k52731 (2 * k52731 + bb true 1 0)))]) (hp 3 [(oT tab0), (oC q52723), (oC (zeroRow ([(zI (0 : Int))] : List Value) k52731))]) (.k [1, 2] [false] [.tmp 2 false, .tmp 5 false] [1, 2, 5] ⟨trE (by kernel_rfl) h52728, trE (by kernel_rfl) h52734, trivial⟩) ?_
  refine .join (v := v) (fun y : Nat × Nat × List Value => ((fr 43 [(5, (sc 1 0 1 y.1 y.2.1))]), (hp 2 [(oT tab0), (oC y.2.2)]))) (fun y => m47_0 pu n y.1 y.2.1 y.2.2) ?_ ?_
  · rintro ⟨n52824, c52825, q52826⟩ hm
    unfold m47_0 at hm
    refine .then ?_
    refine .rK ?_
    replace hm := bb_inv hm; obtain ⟨h52827, hm⟩ := hm
    refine .ghs (fr 43 [(4, (sc 1 0 1 n52824 c52825))]) (hp 2 [(oT tab0), (oC q52826)]) (.k [1] [false] [.tmp 4 false] [4] ⟨trE (by kernel_rfl) h52827, trivial⟩) ?_
    refine .ret ?_
    replace hm := bb_inv hm; obtain ⟨h52828, hm⟩ := hm
    exact finL_ret 1 0 c52825 n52824 [] q52826 (by kernel_rfl) (by kernel_rfl) (by kernel_rfl) h52828 hm
  · skip
    refine .then ?_
    refine .rK ?_
    refine .ghs (fr 43 [(1, (zI (Int.ofNat k52729))), (2, (pt 1 0)), (5, (sc 2 0 1 k52731 (2 * k52731 + bb true 1 0))), (12, (zI (Int.ofNat k52731))), (13, (zI (0 : Int)))]) (hp 3 [(oT tab0), (oC q52723), (oC (zeroRow ([(zI (0 : Int))] : List Value) k52731))]) (.k [1, 2] [false] [.tmp 2 false, .tmp 5 false] [1, 2, 5, 12, 13] ⟨trE (by kernel_rfl) h52728, trE (by kernel_rfl) h52734, trivial⟩) ?_
    refine .block ?_
    refine .loopM (v := v) (fun y : Int × Nat × Nat × Int × Int × List Value × List Value => ((fr 43 [(1, (zI y.1)), (2, (pt 1 0)), (5, (sc 2 0 1 y.2.1 y.2.2.1)), (12, (zI y.2.2.2.1)), (13, (zI y.2.2.2.2.1))]), (hp 3 [(oT tab0), (oC y.2.2.2.2.2.1), (oC y.2.2.2.2.2.2)]))) (fun w y => l47_1 pu n w y.1 y.2.1 y.2.2.1 y.2.2.2.1 y.2.2.2.2.1 y.2.2.2.2.2.1 y.2.2.2.2.2.2) n ⟨((Int.ofNat k52729), k52731, (2 * k52731 + bb true 1 0), (Int.ofNat k52731), (0 : Int), q52723, (zeroRow ([(zI (0 : Int))] : List Value) k52731)), hm, (.k [1, 2] [false] [.tmp 2 false, .tmp 5 false] [1, 2, 5, 12, 13] ⟨trE (by kernel_rfl) h52728, trE (by kernel_rfl) h52734, trivial⟩)⟩ (fun _ => rfl) ?_
    rintro w0 ⟨z52829, n52830, c52831, z52832, z52833, q52834, q52835⟩ hm
    refine .then ?_
    refine .rK ?_
    replace hm := bb_inv hm; obtain ⟨h52836, hm⟩ := hm
    replace hm := bb_inv hm; obtain ⟨h52837, hm⟩ := hm
    refine .ghs (fr 43 [(1, (zI z52829)), (2, (pt 1 0)), (5, (sc 2 0 1 n52830 c52831)), (12, (zI z52832)), (13, (zI z52833)), (14, (zB (ilt z52833 z52832)))]) (hp 3 [(oT tab0), (oC q52834), (oC q52835)]) (.k [1, 2] [false] [.tmp 2 false, .tmp 5 false] [1, 2, 5, 12, 13, 14] ⟨trE (by kernel_rfl) h52836, trE (by kernel_rfl) h52837, trivial⟩) ?_
    refine .then ?_
    have hq := bb_cases hm; clear hm; rcases hq with ⟨h52838, hm⟩ | ⟨h52838, hm⟩
    · refine .ifT (ilt z52833 z52832) (by kernel_rfl) h52838 ?_
      refine .skip ?_
      refine .ghs (fr 43 [(1, (zI z52829)), (2, (pt 1 0)), (5, (sc 2 0 1 n52830 c52831)), (12, (zI z52832)), (13, (zI z52833))]) (hp 3 [(oT tab0), (oC q52834), (oC q52835)]) (.k [1, 2] [false] [.tmp 2 false, .tmp 5 false] [1, 2, 5, 12, 13] ⟨trE (by kernel_rfl) h52836, trE (by kernel_rfl) h52837, trivial⟩) ?_
      refine .join (v := v) (fun y : Int × Nat × Nat × Int × Int × List Value × List Value => ((fr 43 [(1, (zI y.1)), (2, (pt 1 0)), (5, (sc 2 0 1 y.2.1 y.2.2.1)), (12, (zI y.2.2.2.1)), (13, (zI y.2.2.2.2.1))]), (hp 3 [(oT tab0), (oC y.2.2.2.2.2.1), (oC y.2.2.2.2.2.2)]))) (fun y => m47_2 pu n (l47_1 pu n w0) y.1 y.2.1 y.2.2.1 y.2.2.2.1 y.2.2.2.2.1 y.2.2.2.2.2.1 y.2.2.2.2.2.2) ?_ ?_
      · rintro ⟨z52874, n52875, c52876, z52877, z52878, q52879, q52880⟩ hm
        unfold m47_2 at hm
        refine .rK ?_
        replace hm := bb_inv hm; obtain ⟨h52881, hm⟩ := hm
        replace hm := bb_inv hm; obtain ⟨h52882, hm⟩ := hm
        exact ⟨(z52874, n52875, c52876, z52877, (wrapF .i64 (Int.add z52878 (1 : Int))), q52879, q52880), hm, (.k [1, 2] [false] [.tmp 2 false, .tmp 5 false] [1, 2, 5, 12, 13] ⟨trE (by kernel_rfl) h52881, trE (by kernel_rfl) h52882, trivial⟩)⟩
      · skip
        refine .block ?_
        refine .then ?_
        refine .rK ?_
        refine .ghs (fr 43 [(1, (zI z52829)), (2, (pt 1 0)), (5, (sc 2 0 1 n52830 c52831)), (6, (zI z52833)), (12, (zI z52832)), (13, (zI z52833))]) (hp 3 [(oT tab0), (oC q52834), (oC q52835)]) (.k [1, 2] [false] [.tmp 2 false, .tmp 5 false] [1, 2, 5, 6, 12, 13] ⟨trE (by kernel_rfl) h52836, trE (by kernel_rfl) h52837, trivial⟩) ?_
        refine .then ?_
        refine .rK ?_
        refine .ghs (fr 43 [(1, (zI z52829)), (2, (pt 1 0)), (5, (sc 2 0 1 n52830 c52831)), (6, (zI z52833)), (12, (zI z52832)), (13, (zI z52833)), (16, (zI z52829)), (17, (zI (0 : Int)))]) (hp 3 [(oT tab0), (oC q52834), (oC q52835)]) (.k [1, 2] [false] [.tmp 2 false, .tmp 5 false] [1, 2, 5, 6, 12, 13, 16, 17] ⟨trE (by kernel_rfl) h52836, trE (by kernel_rfl) h52837, trivial⟩) ?_
        refine .block ?_
        refine .loopM (v := v) (fun y : Int × Nat × Nat × Int × Int × Int × Int × Int × List Value × List Value => ((fr 43 [(1, (zI y.1)), (2, (pt 1 0)), (5, (sc 2 0 1 y.2.1 y.2.2.1)), (6, (zI y.2.2.2.1)), (12, (zI y.2.2.2.2.1)), (13, (zI y.2.2.2.2.2.1)), (16, (zI y.2.2.2.2.2.2.1)), (17, (zI y.2.2.2.2.2.2.2.1))]), (hp 3 [(oT tab0), (oC y.2.2.2.2.2.2.2.2.1), (oC y.2.2.2.2.2.2.2.2.2)]))) (fun w y => l47_3 pu n (l47_1 pu n w0) w y.1 y.2.1 y.2.2.1 y.2.2.2.1 y.2.2.2.2.1 y.2.2.2.2.2.1 y.2.2.2.2.2.2.1 y.2.2.2.2.2.2.2.1 y.2.2.2.2.2.2.2.2.1 y.2.2.2.2.2.2.2.2.2) n ⟨(z52829, n52830, c52831, z52833, z52832, z52833, z52829, (0 : Int), q52834, q52835), hm, (.k [1, 2] [false] [.tmp 2 false, .tmp 5 false] [1, 2, 5, 6, 12, 13, 16, 17] ⟨trE (by kernel_rfl) h52836, trE (by kernel_rfl) h52837, trivial⟩)⟩ (fun _ => rfl) ?_
        rintro w1 ⟨z52883, n52884, c52885, z52886, z52887, z52888, z52889, z52890, q52891, q52892⟩ hm
        refine .then ?_
        refine .rK ?_
        replace hm := bb_inv hm; obtain ⟨h52893, hm⟩ := hm
        replace hm := bb_inv hm; obtain ⟨h52894, hm⟩ := hm
        refine .ghs (fr 43 [(1, (zI z52883)), (2, (pt 1 0)), (5, (sc 2 0 1 n52884 c52885)), (6, (zI z52886)), (12, (zI z52887)), (13, (zI z52888)), (16, (zI z52889)), (17, (zI z52890)), (18, (zB (ilt z52890 z52889)))]) (hp 3 [(oT tab0), (oC q52891), (oC q52892)]) (.k [1, 2] [false] [.tmp 2 false, .tmp 5 false] [1, 2, 5, 6, 12, 13, 16, 17, 18] ⟨trE (by kernel_rfl) h52893, trE (by kernel_rfl) h52894, trivial⟩) ?_
        refine .then ?_
        have hq := bb_cases hm; clear hm; rcases hq with ⟨h52895, hm⟩ | ⟨h52895, hm⟩
        · refine .ifT (ilt z52890 z52889) (by kernel_rfl) h52895 ?_
          refine .skip ?_
          refine .ghs (fr 43 [(1, (zI z52883)), (2, (pt 1 0)), (5, (sc 2 0 1 n52884 c52885)), (6, (zI z52886)), (12, (zI z52887)), (13, (zI z52888)), (16, (zI z52889)), (17, (zI z52890))]) (hp 3 [(oT tab0), (oC q52891), (oC q52892)]) (.k [1, 2] [false] [.tmp 2 false, .tmp 5 false] [1, 2, 5, 6, 12, 13, 16, 17] ⟨trE (by kernel_rfl) h52893, trE (by kernel_rfl) h52894, trivial⟩) ?_
          refine .then ?_
          refine .block ?_
          refine .then ?_
          refine .rK ?_
          refine .ghs (fr 43 [(1, (zI z52883)), (2, (pt 1 0)), (5, (sc 2 0 1 n52884 c52885)), (6, (zI z52886)), (7, (zI z52890)), (12, (zI z52887)), (13, (zI z52888)), (16, (zI z52889)), (17, (zI z52890))]) (hp 3 [(oT tab0), (oC q52891), (oC q52892)]) (.k [1, 2] [false] [.tmp 2 false, .tmp 5 false] [1, 2, 5, 6, 7, 12, 13, 16, 17] ⟨trE (by kernel_rfl) h52893, trE (by kernel_rfl) h52894, trivial⟩) ?_
          have hq := oo_inv hm; clear hm; obtain ⟨k52896, h52897, hm⟩ := hq
          obtain rfl := toN_some h52897
          replace hm := bb_inv hm; obtain ⟨h52898, hm⟩ := hm
          have hq := oo_inv hm; clear hm; obtain ⟨v52899, h52900, hm⟩ := hq
          have hq := oo_inv hm; clear hm; obtain ⟨x52901, h52902, hm⟩ := hq
          obtain rfl := toI_some h52902
          have hq := oo_inv hm; clear hm; obtain ⟨k52903, h52904, hm⟩ := hq
          have hq := oo_inv hm; clear hm; obtain ⟨k52905, h52906, hm⟩ := hq
          obtain rfl := toN_some h52906
          replace hm := bb_inv hm; obtain ⟨h52907, hm⟩ := hm
          replace hm := bb_inv hm; obtain ⟨h52908, hm⟩ := hm
          have hq := oo_inv hm; clear hm; obtain ⟨v52909, h52910, hm⟩ := hq
          have hq := oo_inv hm; clear hm; obtain ⟨x52911, h52912, hm⟩ := hq
          obtain rfl := toI_some h52912
          have hq := oo_inv hm; clear hm; obtain ⟨k52913, h52914, hm⟩ := hq
          replace hm := bb_inv hm; obtain ⟨h52915, hm⟩ := hm
          replace hm := bb_inv hm; obtain ⟨h52916, hm⟩ := hm
          refine .reg (eC 4 (keep (hp 3 [(oT tab0), (oC q52891), (oC q52892)]) (bb (an (Nat.blt k52896 n52884) true) (some (.pointer (some ⟨2, (0 + k52896 * 1), none⟩))) none)) (keep_bb h52898) (eD (keep (hp 3 [(oT tab0), (oC q52891), (oC q52892)]) (nthL q52892 (0 + k52896 * 1))) (keep_eq h52900) (eC 3 (some ((zI (wrapF .i64 (Int.tdiv (Int.ofNat k52896) (64 : Int)))), (hp 3 [(oT tab0), (oC q52891), (oC q52892)]))) (show _ = some ((zI (Int.ofNat k52903)), _) from (by rw [toN_some h52904])) (eD (keep (hp 3 [(oT tab0), (oC q52891), (oC q52892)]) (bb (Nat.blt k52905 7) (some (.pointer (some ⟨1, (0 + k52905 * 2), none⟩))) none)) (keep_bb h52907) (eD (keep (hp 3 [(oT tab0), (oC q52891), (oC q52892)]) (bb (Nat.blt k52903 2) (some (.pointer (some ⟨1, ((0 + k52905 * 2) + k52903 * 1), none⟩))) none)) (keep_bb h52908) (eD (keep (hp 3 [(oT tab0), (oC q52891), (oC q52892)]) (nthL q52891 ((0 + k52905 * 2) + k52903 * 1))) (keep_eq h52910) (eC 1 (some ((zI (Int.tmod (Int.ofNat k52896) (64 : Int))), (hp 3 [(oT tab0), (oC q52891), (oC q52892)]))) (show _ = some ((zI (Int.ofNat k52913)), _) from (by rw [toN_some h52914])) (eC 4 (keep (hp 3 [(oT tab0), (oC q52891), (oC q52892)]) (bb (an (Nat.blt k52896 n52884) true) (some (.pointer (some ⟨2, (0 + k52896 * 1), none⟩))) none)) (keep_bb h52915) (eD (done (bb (an (Nat.ble ((0 + k52896 * 1) + 1) (len q52892)) true) (some (hp 3 [(oT tab0), (oC q52891), (oC (setL ([(zI (aor .i64 (shlI .i64 x52901 1) (wrapF .i64 (aand .u64 (shrI .u64 x52911 k52913) (1 : Int)))))] : List Value) (0 + k52896 * 1) q52892))])) none) undef) (done_bb h52916) (eE)))))))))) ?_
          replace hm := bb_inv hm; obtain ⟨h52917, hm⟩ := hm
          refine .ghs (fr 43 [(1, (zI z52883)), (2, (pt 1 0)), (5, (sc 2 0 1 n52884 c52885)), (6, (zI (Int.ofNat k52896))), (12, (zI z52887)), (13, (zI z52888)), (16, (zI z52889)), (17, (zI (Int.ofNat k52905)))]) (hp 3 [(oT tab0), (oC q52891), (oC (setL ([(zI (aor .i64 (shlI .i64 x52901 1) (wrapF .i64 (aand .u64 (shrI .u64 x52911 k52913) (1 : Int)))))] : List Value) (0 + k52896 * 1) q52892))]) (.k [1, 2] [false] [.tmp 2 false, .tmp 5 false] [1, 2, 5, 6, 12, 13, 16, 17] ⟨trE (by kernel_rfl) h52893, trE (by kernel_rfl) h52917, trivial⟩) ?_
          refine .rK ?_
          exact ⟨(z52883, n52884, c52885, (Int.ofNat k52896), z52887, z52888, z52889, (wrapF .i64 (Int.add (Int.ofNat k52905) (1 : Int))), q52891, (setL ([(zI (aor .i64 (shlI .i64 x52901 1) (wrapF .i64 (aand .u64 (shrI .u64 x52911 k52913) (1 : Int)))))] : List Value) (0 + k52896 * 1) q52892)), hm, (.k [1, 2] [false] [.tmp 2 false, .tmp 5 false] [1, 2, 5, 6, 12, 13, 16, 17] ⟨trE (by kernel_rfl) h52893, trE (by kernel_rfl) h52917, trivial⟩)⟩
        · refine .ifF (ilt z52890 z52889) (by kernel_rfl) h52895 ?_
          refine .exit ?_
          exact ⟨(z52883, n52884, c52885, z52887, z52888, q52891, q52892), hm, (.k [1, 2] [false] [.tmp 2 false, .tmp 5 false] [1, 2, 5, 12, 13] ⟨trE (by kernel_rfl) h52893, trE (by kernel_rfl) h52894, trivial⟩)⟩
    · refine .ifF (ilt z52833 z52832) (by kernel_rfl) h52838 ?_
      refine .exit ?_
      exact ⟨(n52830, c52831, q52835), hm, (.k [2] [false] [.tmp 5 false] [5] ⟨trE (by kernel_rfl) h52837, trivial⟩)⟩
/-- spadille/spadilleref07.same -/
def m49_0 (pu : PureF) (n : Nat) : Option Value :=
  (some (.bool true))
def b49_1 (pu : PureF) (n : Nat) (ih0 : Sl → Sl → Int → Option Value) (s52939 : Sl) (s52940 : Sl) (z52941 : Int) : Option Value :=
  (bb (ilt z52941 (Int.ofNat (Sl.n s52939))) (oo (toN z52941) none fun k52943 => (bb (an (Nat.blt k52943 (Sl.n s52939)) true) (oo (nthL (Sl.cs s52939) (k52943 * 1)) none fun v52946 => (oo (toI .i64 v52946) none fun x52948 => (bb (an (Nat.blt k52943 (Sl.n s52940)) true) (oo (nthL (Sl.cs s52940) (k52943 * 1)) none fun v52951 => (oo (toI .i64 v52951) none fun x52953 => (bb (nt (ieq x52948 x52953)) (some (.bool false)) (ih0 s52939 s52940 (wrapF .i64 (Int.add (Int.ofNat k52943) (1 : Int))))))) none))) none)) (m49_0 pu n))
def l49_1 (pu : PureF) (n : Nat) (w : Nat) : Sl → Sl → Int → Option Value :=
  Nat.rec (motive := fun _ => Sl → Sl → Int → Option Value) (fun _ _ _ => none) (fun _ ih0 => b49_1 pu n ih0) w
def m49_ (pu : PureF) (n : Nat) (s52918 : Sl) (s52920 : Sl) : Option Value :=
  (l49_1 pu n n s52918 s52920 (0 : Int))
def m49 (pu : PureF) (n : Nat) (args : List Value) : Option Value :=
  (ll args none fun a0 args => (ll args none fun a1 args => (ll args (oo (toSl 1 a0) none fun s52918 => (oo (toSl 1 a1) none fun s52920 => (m49_ pu n s52918 s52920))) fun _ _ => none)))
theorem r49 {call : CallF} (pu : PureF) (n : Nat) (hcall : call = callP tabs isP pu (inl pu)) {args : List Value} {v : Value} (hm : m49 pu n args = some v) (_ : ∀ x ∈ args, closed2 x = true) : args.length ≤ 21 ∧ Run tt call 1 c49_20 (Fr.made 21 args) (pureHeap tabs) (Fin tt 1 [.tmp 4] v) := by
  subst hcall
  unfold m49 at hm
  have hq := ll_uncons hm; clear hm; obtain ⟨a0, args_0, rfl, hm⟩ := hq
  have hq := ll_uncons hm; clear hm; obtain ⟨a1, args_1, rfl, hm⟩ := hq
  have hq := ll_end hm; clear hm; obtain ⟨rfl, hm⟩ := hq
  have hq := oo_inv hm; clear hm; obtain ⟨s52918, h52919, hm⟩ := hq
  obtain rfl := toSl_some h52919
  have hq := oo_inv hm; clear hm; obtain ⟨s52920, h52921, hm⟩ := hq
  obtain rfl := toSl_some h52921
  unfold m49_ at hm
  refine ⟨by simp, ?_⟩
  refine .same (F' := (fr 21 [(0, (Sl.v 1 s52918)), (1, (Sl.v 1 s52920))])) (H' := (hp 1 [(oT tab0)])) (by kernel_rfl) (by kernel_rfl) ?_
  refine .then ?_
  refine .rK ?_
  refine .ghs (fr 21 [(0, (Sl.v 1 s52918)), (1, (Sl.v 1 s52920))]) (hp 1 [(oT tab0)]) (.k0 [false] [] [0, 1]) ?_
  refine .join (v := v) (fun y : Unit => ((fr 21 []), (hp 1 [(oT tab0)]))) (fun y => m49_0 pu n) ?_ ?_
  · rintro _ hm
    unfold m49_0 at hm
    refine .then ?_
    refine .rK ?_
    refine .ghs (fr 21 [(4, (zB true))]) (hp 1 [(oT tab0)]) (.k0 [false] [] [4]) ?_
    refine .ret ?_
    exact fin_ret (zB true) (by kernel_rfl) (by kernel_rfl) hm
  · skip
    refine .then ?_
    refine .rK ?_
    refine .ghs (fr 21 [(0, (Sl.v 1 s52918)), (1, (Sl.v 1 s52920)), (5, (zI (0 : Int)))]) (hp 1 [(oT tab0)]) (.k0 [false] [] [0, 1, 5]) ?_
    refine .block ?_
    refine .loopM (v := v) (fun y : Sl × Sl × Int => ((fr 21 [(0, (Sl.v 1 y.1)), (1, (Sl.v 1 y.2.1)), (5, (zI y.2.2))]), (hp 1 [(oT tab0)]))) (fun w y => l49_1 pu n w y.1 y.2.1 y.2.2) n ⟨(s52918, s52920, (0 : Int)), hm, (.k0 [false] [] [0, 1, 5])⟩ (fun _ => rfl) ?_
    rintro w0 ⟨s52939, s52940, z52941⟩ hm
    refine .then ?_
    refine .then ?_
    refine .rK ?_
    refine .ghs (fr 21 [(0, (Sl.v 1 s52939)), (1, (Sl.v 1 s52940)), (5, (zI z52941)), (9, (zB (ilt z52941 (Int.ofNat (Sl.n s52939)))))]) (hp 1 [(oT tab0)]) (.k0 [false] [] [0, 1, 5, 9]) ?_
    have hq := bb_cases hm; clear hm; rcases hq with ⟨h52942, hm⟩ | ⟨h52942, hm⟩
    · refine .ifT (ilt z52941 (Int.ofNat (Sl.n s52939))) (by kernel_rfl) h52942 ?_
      refine .skip ?_
      refine .ghs (fr 21 [(0, (Sl.v 1 s52939)), (1, (Sl.v 1 s52940)), (5, (zI z52941))]) (hp 1 [(oT tab0)]) (.k0 [false] [] [0, 1, 5]) ?_
      refine .then ?_
      refine .block ?_
      refine .then ?_
      have hq := oo_inv hm; clear hm; obtain ⟨k52943, h52944, hm⟩ := hq
      obtain rfl := toN_some h52944
      replace hm := bb_inv hm; obtain ⟨h52945, hm⟩ := hm
      have hq := oo_inv hm; clear hm; obtain ⟨v52946, h52947, hm⟩ := hq
      have hq := oo_inv hm; clear hm; obtain ⟨x52948, h52949, hm⟩ := hq
      obtain rfl := toI_some h52949
      replace hm := bb_inv hm; obtain ⟨h52950, hm⟩ := hm
      have hq := oo_inv hm; clear hm; obtain ⟨v52951, h52952, hm⟩ := hq
      have hq := oo_inv hm; clear hm; obtain ⟨x52953, h52954, hm⟩ := hq
      obtain rfl := toI_some h52954
      refine .reg (eC 2 (keep (hp 1 [(oT tab0)]) (bb (an (Nat.blt k52943 (Sl.n s52939)) true) (some (fpV (k52943 * 1) (Sl.cs s52939))) none)) (keep_bb h52945) (eD (keep (hp 1 [(oT tab0)]) (nthL (Sl.cs s52939) (k52943 * 1))) (keep_eq h52947) (eC 2 (keep (hp 1 [(oT tab0)]) (bb (an (Nat.blt k52943 (Sl.n s52940)) true) (some (fpV (k52943 * 1) (Sl.cs s52940))) none)) (keep_bb h52950) (eD (keep (hp 1 [(oT tab0)]) (nthL (Sl.cs s52940) (k52943 * 1))) (keep_eq h52952) (eE))))) ?_
      refine .ghs (fr 21 [(0, (Sl.v 1 s52939)), (1, (Sl.v 1 s52940)), (5, (zI (Int.ofNat k52943))), (20, (zB (nt (ieq x52948 x52953))))]) (hp 1 [(oT tab0)]) (.k0 [false] [] [0, 1, 5, 20]) ?_
      have hq := bb_cases hm; clear hm; rcases hq with ⟨h52955, hm⟩ | ⟨h52955, hm⟩
      · refine .ifT (nt (ieq x52948 x52953)) (by kernel_rfl) h52955 ?_
        refine .then ?_
        refine .rK ?_
        refine .ghs (fr 21 [(4, (zB false))]) (hp 1 [(oT tab0)]) (.k0 [false] [] [4]) ?_
        refine .ret ?_
        exact fin_ret (zB false) (by kernel_rfl) (by kernel_rfl) hm
      · refine .ifF (nt (ieq x52948 x52953)) (by kernel_rfl) h52955 ?_
        refine .skip ?_
        refine .ghs (fr 21 [(0, (Sl.v 1 s52939)), (1, (Sl.v 1 s52940)), (5, (zI (Int.ofNat k52943)))]) (hp 1 [(oT tab0)]) (.k0 [false] [] [0, 1, 5]) ?_
        refine .rK ?_
        exact ⟨(s52939, s52940, (wrapF .i64 (Int.add (Int.ofNat k52943) (1 : Int)))), hm, (.k0 [false] [] [0, 1, 5])⟩
    · refine .ifF (ilt z52941 (Int.ofNat (Sl.n s52939))) (by kernel_rfl) h52942 ?_
      refine .exit ?_
      exact ⟨(), hm, (.k0 [false] [] [])⟩
/-- spadille/table.Check -/
def m50_0 (pu : PureF) (n : Nat) : Option Value :=
  (some (.int .i64 (0 : Int)))
def m50_2 (pu : PureF) (n : Nat) (ih0 : Sl → Int → Int → Int → Sl → Option Value) (s53019 : Sl) (z53020 : Int) (z53021 : Int) (b53022 : Bool) (z53023 : Int) (s53024 : Sl) (z53025 : Int) (z53026 : Int) : Option Value :=
  (bb b53022 (some (.int .i64 (2 : Int))) (bb (nt (ilt z53025 z53026)) (some (.int .i64 (7 : Int))) (ih0 s53019 z53020 (wrapF .i64 (Int.add z53021 (1 : Int))) z53023 s53024)))
def b50_1 (pu : PureF) (n : Nat) (ih0 : Sl → Int → Int → Int → Sl → Option Value) (s53000 : Sl) (z53001 : Int) (z53002 : Int) (z53003 : Int) (s53004 : Sl) : Option Value :=
  (bb (ilt z53002 z53001) (oo (toN z53002) none fun k53006 => (bb (an (Nat.blt k53006 (Sl.n s53000)) true) (bb (Nat.ble ((k53006 * 2) + 2) (len (Sl.cs s53000))) (oo (nthL (Sl.cs s53000) (k53006 * 2)) none fun v53010 => (oo (toI .i64 v53010) none fun x53012 => (oo (nthL (Sl.cs s53000) ((k53006 * 2) + 1)) none fun v53014 => (oo (toI .i64 v53014) none fun x53016 => (bb (ilt (bb (ilt x53016 x53012) x53016 x53012) (0 : Int)) (m50_2 pu n ih0 s53000 z53001 (Int.ofNat k53006) true z53003 s53004 x53012 x53016) (m50_2 pu n ih0 s53000 z53001 (Int.ofNat k53006) (nt (ilt (bb (ilt x53012 x53016) x53016 x53012) z53003)) z53003 s53004 x53012 x53016)))))) none) none)) (m50_0 pu n))
def l50_1 (pu : PureF) (n : Nat) (w : Nat) : Sl → Int → Int → Int → Sl → Option Value :=
  Nat.rec (motive := fun _ => Sl → Int → Int → Int → Sl → Option Value) (fun _ _ _ _ _ => none) (fun _ ih0 => b50_1 pu n ih0) w
def m50_ (pu : PureF) (n : Nat) (x52960 : Int) (s52962 : Sl) : Option Value :=
  (oo (pu 56 [(.int .i64 (1 : Int)), (.int .i64 x52960), (.int .i64 (7 : Int))]) none fun v52964 => (oo (vBool v52964) none fun b52966 => (bb (nt b52966) (some (.int .i64 (1 : Int))) (bb (ilt (24 : Int) (Int.ofNat (Sl.n s52962))) (some (.int .i64 (3 : Int))) (l50_1 pu n n s52962 (Int.ofNat (Sl.n s52962)) (0 : Int) x52960 s52962)))))
def m50 (pu : PureF) (n : Nat) (args : List Value) : Option Value :=
  (ll args none fun a0 args => (ll args (oo (vAgg a0) none fun l52956 => (ll l52956 none fun v52958 l52956 => (ll l52956 none fun v52959 l52956 => (ll l52956 (oo (toI .i64 v52958) none fun x52960 => (oo (toSl 2 v52959) none fun s52962 => (m50_ pu n x52960 s52962))) fun _ _ => none)))) fun _ _ => none))
theorem r50 {call : CallF} (pu : PureF) (n : Nat) (hcall : call = callP tabs isP pu (inl pu)) {args : List Value} {v : Value} (hm : m50 pu n args = some v) (_ : ∀ x ∈ args, closed2 x = true) : args.length ≤ 46 ∧ Run tt call 1 c50_40 (Fr.made 46 args) (pureHeap tabs) (Fin tt 1 [.tmp 2] v) := by
  subst hcall
  unfold m50 at hm
  have hq := ll_uncons hm; clear hm; obtain ⟨a0, args_0, rfl, hm⟩ := hq
  have hq := ll_end hm; clear hm; obtain ⟨rfl, hm⟩ := hq
  have hq := oo_inv hm; clear hm; obtain ⟨l52956, h52957, hm⟩ := hq
  obtain rfl := vAgg_some h52957
  have hq := ll_uncons hm; clear hm; obtain ⟨v52958, l52956_0, rfl, hm⟩ := hq
  have hq := ll_uncons hm; clear hm; obtain ⟨v52959, l52956_1, rfl, hm⟩ := hq
  have hq := ll_end hm; clear hm; obtain ⟨rfl, hm⟩ := hq
  have hq := oo_inv hm; clear hm; obtain ⟨x52960, h52961, hm⟩ := hq
  obtain rfl := toI_some h52961
  have hq := oo_inv hm; clear hm; obtain ⟨s52962, h52963, hm⟩ := hq
  obtain rfl := toSl_some h52963
  unfold m50_ at hm
  refine ⟨by simp, ?_⟩
  refine .same (F' := (fr 46 [(0, (.agg ⟨[(zI x52960), (Sl.v 2 s52962)]⟩))])) (H' := (hp 1 [(oT tab0)])) (by kernel_rfl) (by kernel_rfl) ?_
  refine .then ?_
  refine .rK ?_
  refine .ghs (fr 46 [(1, (pt 1 0))]) (hp 2 [(oT tab0), (oC [(zI x52960), (Sl.v 2 s52962)])]) (.k0 [false] [.tmp 1 false] [1]) ?_
  refine .then ?_
  refine .block ?_
  refine .then ?_
  have hq := oo_inv hm; clear hm; obtain ⟨v52964, h52965, hm⟩ := hq
  have hq := oo_inv hm; clear hm; obtain ⟨b52966, h52967, hm⟩ := hq
  obtain rfl := vBool_some h52967
  refine .reg (eC 2 ((oo (pu 56 [(zI (1 : Int)), (zI x52960), (zI (7 : Int))]) none fun v => some (v, (hp 2 [(oT tab0), (oC [(zI x52960), (Sl.v 2 s52962)])])))) (call_eq h52965) (eE)) ?_
  refine .ghs (fr 46 [(1, (pt 1 0)), (5, (zB (nt b52966)))]) (hp 2 [(oT tab0), (oC [(zI x52960), (Sl.v 2 s52962)])]) (.k0 [false] [.tmp 1 false] [1, 5]) ?_
  have hq := bb_cases hm; clear hm; rcases hq with ⟨h52968, hm⟩ | ⟨h52968, hm⟩
  · refine .ifT (nt b52966) (by kernel_rfl) h52968 ?_
    refine .then ?_
    refine .rK ?_
    refine .ghs (fr 46 [(2, (zI (1 : Int)))]) (hp 1 [(oT tab0)]) (.k0 [false] [] [2]) ?_
    refine .ret ?_
    exact fin_ret (zI (1 : Int)) (by kernel_rfl) (by kernel_rfl) hm
  · refine .ifF (nt b52966) (by kernel_rfl) h52968 ?_
    refine .then ?_
    refine .rK ?_
    refine .ghs (fr 46 [(1, (pt 1 0)), (10, (zB (ilt (24 : Int) (Int.ofNat (Sl.n s52962)))))]) (hp 2 [(oT tab0), (oC [(zI x52960), (Sl.v 2 s52962)])]) (.k0 [false] [.tmp 1 false] [1, 10]) ?_
    have hq := bb_cases hm; clear hm; rcases hq with ⟨h52969, hm⟩ | ⟨h52969, hm⟩
    · refine .ifT (ilt (24 : Int) (Int.ofNat (Sl.n s52962))) (by kernel_rfl) h52969 ?_
      refine .then ?_
      refine .rK ?_
      refine .ghs (fr 46 [(2, (zI (3 : Int)))]) (hp 1 [(oT tab0)]) (.k0 [false] [] [2]) ?_
      refine .ret ?_
      exact fin_ret (zI (3 : Int)) (by kernel_rfl) (by kernel_rfl) hm
    · refine .ifF (ilt (24 : Int) (Int.ofNat (Sl.n s52962))) (by kernel_rfl) h52969 ?_
      refine .skip ?_
      refine .ghs (fr 46 [(1, (pt 1 0))]) (hp 2 [(oT tab0), (oC [(zI x52960), (Sl.v 2 s52962)])]) (.k0 [false] [.tmp 1 false] [1]) ?_
      refine .join (v := v) (fun y : Unit => ((fr 46 []), (hp 1 [(oT tab0)]))) (fun y => m50_0 pu n) ?_ ?_
      · rintro _ hm
        unfold m50_0 at hm
        refine .then ?_
        refine .rK ?_
        refine .ghs (fr 46 [(2, (zI (0 : Int)))]) (hp 1 [(oT tab0)]) (.k0 [false] [] [2]) ?_
        refine .ret ?_
        exact fin_ret (zI (0 : Int)) (by kernel_rfl) (by kernel_rfl) hm
      · skip
        refine .then ?_
        refine .rK ?_
        refine .ghs (fr 46 [(1, (pt 1 0)), (16, (Sl.v 2 s52962)), (17, (zI (Int.ofNat (Sl.n s52962)))), (18, (zI (0 : Int)))]) (hp 2 [(oT tab0), (oC [(zI x52960), (Sl.v 2 s52962)])]) (.k0 [false] [.tmp 1 false] [1, 16, 17, 18]) ?_
        refine .block ?_
        refine .loopM (v := v) (fun y : Sl × Int × Int × Int × Sl => ((fr 46 [(1, (pt 1 0)), (16, (Sl.v 2 y.1)), (17, (zI y.2.1)), (18, (zI y.2.2.1))]), (hp 2 [(oT tab0), (oC [(zI y.2.2.2.1), (Sl.v 2 y.2.2.2.2)])]))) (fun w y => l50_1 pu n w y.1 y.2.1 y.2.2.1 y.2.2.2.1 y.2.2.2.2) n ⟨(s52962, (Int.ofNat (Sl.n s52962)), (0 : Int), x52960, s52962), hm, (.k0 [false] [.tmp 1 false] [1, 16, 17, 18])⟩ (fun _ => rfl) ?_
        rintro w0 ⟨s53000, z53001, z53002, z53003, s53004⟩ hm
        refine .then ?_
        refine .rK ?_
        refine .ghs (fr 46 [(1, (pt 1 0)), (16, (Sl.v 2 s53000)), (17, (zI z53001)), (18, (zI z53002)), (19, (zB (ilt z53002 z53001)))]) (hp 2 [(oT tab0), (oC [(zI z53003), (Sl.v 2 s53004)])]) (.k0 [false] [.tmp 1 false] [1, 16, 17, 18, 19]) ?_
        refine .then ?_
        have hq := bb_cases hm; clear hm; rcases hq with ⟨h53005, hm⟩ | ⟨h53005, hm⟩
        · refine .ifT (ilt z53002 z53001) (by kernel_rfl) h53005 ?_
          refine .skip ?_
          refine .ghs (fr 46 [(1, (pt 1 0)), (16, (Sl.v 2 s53000)), (17, (zI z53001)), (18, (zI z53002))]) (hp 2 [(oT tab0), (oC [(zI z53003), (Sl.v 2 s53004)])]) (.k0 [false] [.tmp 1 false] [1, 16, 17, 18]) ?_
          refine .then ?_
          refine .block ?_
          refine .then ?_
          have hq := oo_inv hm; clear hm; obtain ⟨k53006, h53007, hm⟩ := hq
          obtain rfl := toN_some h53007
          replace hm := bb_inv hm; obtain ⟨h53008, hm⟩ := hm
          replace hm := bb_inv hm; obtain ⟨h53009, hm⟩ := hm
          have hq := oo_inv hm; clear hm; obtain ⟨v53010, h53011, hm⟩ := hq
          have hq := oo_inv hm; clear hm; obtain ⟨x53012, h53013, hm⟩ := hq
          obtain rfl := toI_some h53013
          have hq := oo_inv hm; clear hm; obtain ⟨v53014, h53015, hm⟩ := hq
          have hq := oo_inv hm; clear hm; obtain ⟨x53016, h53017, hm⟩ := hq
          obtain rfl := toI_some h53017
          refine .reg (eD (keep (hp 2 [(oT tab0), (oC [(zI z53003), (Sl.v 2 s53004)])]) (bb (an (Nat.blt k53006 (Sl.n s53000)) true) (some (fpV (k53006 * 2) (Sl.cs s53000))) none)) (keep_bb h53008) (eD (keep (hp 2 [(oT tab0), (oC [(zI z53003), (Sl.v 2 s53004)])]) (bb (Nat.ble ((k53006 * 2) + 2) (len (Sl.cs s53000))) (some (.agg ⟨takeL 2 (dropL (k53006 * 2) (Sl.cs s53000))⟩)) none)) (keep_agg h53009 (takeL_cons h53011 (takeL_cons h53015 rfl))) (eE))) ?_
          refine .ghs (fr 46 [(1, (pt 1 0)), (4, (pt 2 0)), (16, (Sl.v 2 s53000)), (17, (zI z53001)), (18, (zI (Int.ofNat k53006)))]) (hp 3 [(oT tab0), (oC [(zI z53003), (Sl.v 2 s53004)]), (oC [(zI x53012), (zI x53016)])]) (.k0 [false] [.tmp 1 false, .tmp 4 false] [1, 4, 16, 17, 18]) ?_
          refine .block ?_
          refine .join (v := v) (fun y : Sl × Int × Int × Bool × Int × Sl × Int × Int => ((fr 46 [(1, (pt 1 0)), (4, (pt 2 0)), (16, (Sl.v 2 y.1)), (17, (zI y.2.1)), (18, (zI y.2.2.1)), (22, (zB y.2.2.2.1))]), (hp 3 [(oT tab0), (oC [(zI y.2.2.2.2.1), (Sl.v 2 y.2.2.2.2.2.1)]), (oC [(zI y.2.2.2.2.2.2.1), (zI y.2.2.2.2.2.2.2)])]))) (fun y => m50_2 pu n (l50_1 pu n w0) y.1 y.2.1 y.2.2.1 y.2.2.2.1 y.2.2.2.2.1 y.2.2.2.2.2.1 y.2.2.2.2.2.2.1 y.2.2.2.2.2.2.2) ?_ ?_
          · rintro ⟨s53019, z53020, z53021, b53022, z53023, s53024, z53025, z53026⟩ hm
            unfold m50_2 at hm
            have hq := bb_cases hm; clear hm; rcases hq with ⟨h53027, hm⟩ | ⟨h53027, hm⟩
            · refine .ifT b53022 (by kernel_rfl) h53027 ?_
              refine .then ?_
              refine .rK ?_
              refine .ghs (fr 46 [(2, (zI (2 : Int)))]) (hp 1 [(oT tab0)]) (.k0 [false] [] [2]) ?_
              refine .ret ?_
              exact fin_ret (zI (2 : Int)) (by kernel_rfl) (by kernel_rfl) hm
            · refine .ifF b53022 (by kernel_rfl) h53027 ?_
              refine .then ?_
              refine .rK ?_
              refine .ghs (fr 46 [(1, (pt 1 0)), (16, (Sl.v 2 s53019)), (17, (zI z53020)), (18, (zI z53021)), (39, (zB (nt (ilt z53025 z53026))))]) (hp 2 [(oT tab0), (oC [(zI z53023), (Sl.v 2 s53024)])]) (.k0 [false] [.tmp 1 false] [1, 16, 17, 18, 39]) ?_
              have hq := bb_cases hm; clear hm; rcases hq with ⟨h53028, hm⟩ | ⟨h53028, hm⟩
              · refine .ifT (nt (ilt z53025 z53026)) (by kernel_rfl) h53028 ?_
                refine .then ?_
                refine .rK ?_
                refine .ghs (fr 46 [(2, (zI (7 : Int)))]) (hp 1 [(oT tab0)]) (.k0 [false] [] [2]) ?_
                refine .ret ?_
                exact fin_ret (zI (7 : Int)) (by kernel_rfl) (by kernel_rfl) hm
              · refine .ifF (nt (ilt z53025 z53026)) (by kernel_rfl) h53028 ?_
                refine .skip ?_
                refine .ghs (fr 46 [(1, (pt 1 0)), (16, (Sl.v 2 s53019)), (17, (zI z53020)), (18, (zI z53021))]) (hp 2 [(oT tab0), (oC [(zI z53023), (Sl.v 2 s53024)])]) (.k0 [false] [.tmp 1 false] [1, 16, 17, 18]) ?_
                refine .rK ?_
                exact ⟨(s53019, z53020, (wrapF .i64 (Int.add z53021 (1 : Int))), z53023, s53024), hm, (.k0 [false] [.tmp 1 false] [1, 16, 17, 18])⟩
          · skip
            have hq := bb_cases hm; clear hm; rcases hq with ⟨h53029, hm⟩ | ⟨h53029, hm⟩
            · skip
              refine .reg (eC 5 (some ((zB (ilt (bb (ilt x53016 x53012) x53016 x53012) (0 : Int))), (hp 3 [(oT tab0), (oC [(zI z53003), (Sl.v 2 s53004)]), (oC [(zI x53012), (zI x53016)])]))) (show _ = some ((zB true), _) from (by rw [h53029])) (eE)) ?_
              exact ⟨(s53000, z53001, (Int.ofNat k53006), true, z53003, s53004, x53012, x53016), hm, (.k0 [false] [.tmp 1 false, .tmp 4 false] [1, 4, 16, 17, 18, 22])⟩
            · skip
              refine .reg (eC 5 (some ((zB (ilt (bb (ilt x53016 x53012) x53016 x53012) (0 : Int))), (hp 3 [(oT tab0), (oC [(zI z53003), (Sl.v 2 s53004)]), (oC [(zI x53012), (zI x53016)])]))) (show _ = some ((zB false), _) from (by rw [h53029])) (eE)) ?_
              exact ⟨(s53000, z53001, (Int.ofNat k53006), (nt (ilt (bb (ilt x53012 x53016) x53016 x53012) z53003)), z53003, s53004, x53012, x53016), hm, (.k0 [false] [.tmp 1 false, .tmp 4 false] [1, 4, 16, 17, 18, 22])⟩
        · refine .ifF (ilt z53002 z53001) (by kernel_rfl) h53005 ?_
          refine .exit ?_
          exact ⟨(), hm, (.k0 [false] [] [])⟩
/-- spadille/table.all -/
def m51_0 (pu : PureF) (n : Nat) (q53108 : List Value) (q53109 : List Value) : Option Value :=
  (bb (Nat.ble (0 + 14) (len q53109)) (bb (Nat.beq (len (takeL 14 (dropL 0 q53109))) 14) (bb (an (Nat.ble (0 + len (takeL 14 (dropL 0 q53109))) (len q53108)) (allL scalarB (takeL 14 (dropL 0 q53109)))) (bb (allL closed1 (setL (takeL 14 (dropL 0 q53109)) 0 q53108)) (bb (Nat.ble (0 + 14) (len (setL (takeL 14 (dropL 0 q53109)) 0 q53108))) (bb (closedV (.agg ⟨(takeL 14 (dropL 0 (setL (takeL 14 (dropL 0 q53109)) 0 q53108)))⟩)) (some (.agg ⟨(takeL 14 (dropL 0 (setL (takeL 14 (dropL 0 q53109)) 0 q53108)))⟩)) none) none) none) none) none) none)
def m51_2 (pu : PureF) (n : Nat) (ih0 : Int → Int → Int → List Value → List Value → Option Value) (z53155 : Int) (z53156 : Int) (z53157 : Int) (q53158 : List Value) (q53159 : List Value) : Option Value :=
  (bb (allL closed1 q53158) (bb (allL closed1 q53159) (ih0 z53155 z53156 (wrapF .i64 (Int.add z53157 (1 : Int))) q53158 q53159) none) none)
def b51_3 (pu : PureF) (n : Nat) (ih0 : Int → Int → Int → List Value → List Value → Option Value) (ih1 : Int → Int → Int → Int → Int → Int → List Value → List Value → Option Value) (z53162 : Int) (z53163 : Int) (z53164 : Int) (z53165 : Int) (z53166 : Int) (z53167 : Int) (q53168 : List Value) (q53169 : List Value) : Option Value :=
  (bb (allL closed1 q53168) (bb (allL closed1 q53169) (bb (ilt z53167 z53166) (oo (toN (wrapF .i64 (Int.tdiv z53163 (64 : Int)))) none fun k53173 => (oo (toN z53167) none fun k53175 => (bb (Nat.blt k53175 7) (bb (Nat.blt k53173 2) (oo (nthL q53169 ((0 + k53175 * 2) + k53173 * 1)) none fun v53179 => (oo (toI .u64 v53179) none fun x53181 => (oo (toN (wrapF .i64 (Int.sub (wrapF .i64 (Int.sub z53162 (1 : Int))) (Int.ofNat k53175)))) none fun k53183 => (oo (toN (Int.tmod z53163 (64 : Int))) none fun k53185 => (bb (Nat.blt k53175 7) (bb (Nat.blt k53173 2) (bb (an (Nat.ble (((0 + k53175 * 2) + k53173 * 1) + 1) (len q53169)) true) (bb (allL closed1 (setL ([(.int .u64 (aor .u64 x53181 (shlI .u64 (wrapF .u64 (aand .i64 (shrI .i64 z53163 k53183) (1 : Int))) k53185)))] : List Value) ((0 + k53175 * 2) + k53173 * 1) q53169)) (ih1 z53162 z53163 z53164 z53165 z53166 (wrapF .i64 (Int.add (Int.ofNat k53175) (1 : Int))) q53168 (setL ([(.int .u64 (aor .u64 x53181 (shlI .u64 (wrapF .u64 (aand .i64 (shrI .i64 z53163 k53183) (1 : Int))) k53185)))] : List Value) ((0 + k53175 * 2) + k53173 * 1) q53169)) none) none) none) none))))) none) none))) (m51_2 pu n ih0 z53162 z53164 z53165 q53168 q53169)) none) none)
def l51_3 (pu : PureF) (n : Nat) (ih0 : Int → Int → Int → List Value → List Value → Option Value) (w : Nat) : Int → Int → Int → Int → Int → Int → List Value → List Value → Option Value :=
  Nat.rec (motive := fun _ => Int → Int → Int → Int → Int → Int → List Value → List Value → Option Value) (fun _ _ _ _ _ _ _ _ => none) (fun _ ih1 => b51_3 pu n ih0 ih1) w
def b51_1 (pu : PureF) (n : Nat) (ih0 : Int → Int → Int → List Value → List Value → Option Value) (z53118 : Int) (z53119 : Int) (z53120 : Int) (q53121 : List Value) (q53122 : List Value) : Option Value :=
  (bb (allL closed1 q53121) (bb (allL closed1 q53122) (bb (ilt z53120 z53119) (l51_3 pu n ih0 n z53118 z53120 z53119 z53120 z53118 (0 : Int) q53121 q53122) (m51_0 pu n q53121 q53122)) none) none)
def l51_1 (pu : PureF) (n : Nat) (w : Nat) : Int → Int → Int → List Value → List Value → Option Value :=
  Nat.rec (motive := fun _ => Int → Int → Int → List Value → List Value → Option Value) (fun _ _ _ _ _ => none) (fun _ ih0 => b51_1 pu n ih0) w
def m51_ (pu : PureF) (n : Nat) (x53030 : Int) : Option Value :=
  (bb (allL closed1 zA73) (oo (toN x53030) none fun k53116 => (l51_1 pu n n (Int.ofNat k53116) (shlI .i64 (1 : Int) k53116) (0 : Int) zA73 zA73)) none)
def m51 (pu : PureF) (n : Nat) (args : List Value) : Option Value :=
  (ll args none fun a0 args => (ll args (oo (toI .i64 a0) none fun x53030 => (m51_ pu n x53030)) fun _ _ => none))
theorem r51 {call : CallF} (pu : PureF) (n : Nat) (hcall : call = callP tabs isP pu (inl pu)) {args : List Value} {v : Value} (hm : m51 pu n args = some v) (_ : ∀ x ∈ args, closed2 x = true) : args.length ≤ 38 ∧ Run tt call 1 c51_33 (Fr.made 38 args) (pureHeap tabs) (Fin tt 1 [.cell 2 73] v) := by
  subst hcall
  unfold m51 at hm
  have hq := ll_uncons hm; clear hm; obtain ⟨a0, args_0, rfl, hm⟩ := hq
  have hq := ll_end hm; clear hm; obtain ⟨rfl, hm⟩ := hq
  have hq := oo_inv hm; clear hm; obtain ⟨x53030, h53031, hm⟩ := hq
  obtain rfl := toI_some h53031
  unfold m51_ at hm
  refine ⟨by simp, ?_⟩
  refine .same (F' := (fr 38 [(0, (zI x53030))])) (H' := (hp 1 [(oT tab0)])) (by kernel_rfl) (by kernel_rfl) ?_
  refine .then ?_
  refine .rK ?_
  replace hm := bb_inv hm; obtain ⟨h53032, hm⟩ := hm
  refine .ghs (fr 38 [(0, (zI x53030)), (2, (pt 1 0))]) (hp 2 [(oT tab0), (oC zA73)]) (.k [1] [false] [.tmp 2 false] [0, 2] ⟨trE (by kernel_rfl) h53032, trivial⟩) ?_
  refine .then ?_
  refine .rK ?_
  refine .ghs (fr 38 [(0, (zI x53030)), (2, (pt 1 0)), (3, (pt 2 0))]) (hp 3 [(oT tab0), (oC zA73), (oC zA73)]) (.k [1, 2] [false] [.tmp 2 false, .tmp 3 false] [0, 2, 3] ⟨trE (by kernel_rfl) h53032, trE (by kernel_rfl) h53032, trivial⟩) ?_
  refine .join (v := v) (fun y : List Value × List Value => ((fr 38 [(2, (pt 1 0)), (3, (pt 2 0))]), (hp 3 [(oT tab0), (oC y.1), (oC y.2)]))) (fun y => m51_0 pu n y.1 y.2) ?_ ?_
  · rintro ⟨q53108, q53109⟩ hm
    unfold m51_0 at hm
    refine .then ?_
    replace hm := bb_inv hm; obtain ⟨h53110, hm⟩ := hm
    replace hm := bb_inv hm; obtain ⟨h53111, hm⟩ := hm
    replace hm := bb_inv hm; obtain ⟨h53112, hm⟩ := hm
    refine .reg (eD (keep (hp 3 [(oT tab0), (oC q53108), (oC q53109)]) (bb (Nat.ble (0 + 14) (len q53109)) (some (.agg ⟨(takeL 14 (dropL 0 q53109))⟩)) none)) (keep_bb h53110) (eD (done (bb (Nat.beq (len (takeL 14 (dropL 0 q53109))) 14) (bb (an (Nat.ble (0 + len (takeL 14 (dropL 0 q53109))) (len q53108)) (allL scalarB (takeL 14 (dropL 0 q53109)))) (some (hp 3 [(oT tab0), (oC (setL (takeL 14 (dropL 0 q53109)) 0 q53108)), (oC q53109)])) none) none) undef) (done_bb2 h53111 h53112) (eE))) ?_
    replace hm := bb_inv hm; obtain ⟨h53113, hm⟩ := hm
    refine .ghs (fr 38 [(2, (pt 1 0))]) (hp 2 [(oT tab0), (oC (setL (takeL 14 (dropL 0 q53109)) 0 q53108))]) (.k [1] [false] [.tmp 2 false] [2] ⟨trE (by kernel_rfl) h53113, trivial⟩) ?_
    refine .ret ?_
    replace hm := bb_inv hm; obtain ⟨h53114, hm⟩ := hm
    replace hm := bb_inv hm; obtain ⟨h53115, hm⟩ := hm
    exact fin_ret (.agg ⟨(takeL 14 (dropL 0 (setL (takeL 14 (dropL 0 q53109)) 0 q53108)))⟩) (aresults_of (aresultsL_cons (show aresult _ _ _ _ = some (.agg ⟨(takeL 14 (dropL 0 (setL (takeL 14 (dropL 0 q53109)) 0 q53108)))⟩) from (eq_bb (c := (Nat.ble (0 + 14) (len (setL (takeL 14 (dropL 0 q53109)) 0 q53108)))) (by kernel_rfl) h53114)) rfl) (by kernel_rfl)) h53115 hm
  · skip
    refine .then ?_
    have hq := oo_inv hm; clear hm; obtain ⟨k53116, h53117, hm⟩ := hq
    obtain rfl := toN_some h53117
    refine .rK ?_
    refine .ghs (fr 38 [(0, (zI (Int.ofNat k53116))), (2, (pt 1 0)), (3, (pt 2 0)), (7, (zI (shlI .i64 (1 : Int) k53116))), (8, (zI (0 : Int)))]) (hp 3 [(oT tab0), (oC zA73), (oC zA73)]) (.k [1, 2] [false] [.tmp 2 false, .tmp 3 false] [0, 2, 3, 7, 8] ⟨trE (by kernel_rfl) h53032, trE (by kernel_rfl) h53032, trivial⟩) ?_
    refine .block ?_
    refine .loopM (v := v) (fun y : Int × Int × Int × List Value × List Value => ((fr 38 [(0, (zI y.1)), (2, (pt 1 0)), (3, (pt 2 0)), (7, (zI y.2.1)), (8, (zI y.2.2.1))]), (hp 3 [(oT tab0), (oC y.2.2.2.1), (oC y.2.2.2.2)]))) (fun w y => l51_1 pu n w y.1 y.2.1 y.2.2.1 y.2.2.2.1 y.2.2.2.2) n ⟨((Int.ofNat k53116), (shlI .i64 (1 : Int) k53116), (0 : Int), zA73, zA73), hm, (.k [1, 2] [false] [.tmp 2 false, .tmp 3 false] [0, 2, 3, 7, 8] ⟨trE (by kernel_rfl) h53032, trE (by kernel_rfl) h53032, trivial⟩)⟩ (fun _ => rfl) ?_
    rintro w0 ⟨z53118, z53119, z53120, q53121, q53122⟩ hm
    refine .then ?_
    refine .rK ?_
    replace hm := bb_inv hm; obtain ⟨h53123, hm⟩ := hm
    replace hm := bb_inv hm; obtain ⟨h53124, hm⟩ := hm
    refine .ghs (fr 38 [(0, (zI z53118)), (2, (pt 1 0)), (3, (pt 2 0)), (7, (zI z53119)), (8, (zI z53120)), (9, (zB (ilt z53120 z53119)))]) (hp 3 [(oT tab0), (oC q53121), (oC q53122)]) (.k [1, 2] [false] [.tmp 2 false, .tmp 3 false] [0, 2, 3, 7, 8, 9] ⟨trE (by kernel_rfl) h53123, trE (by kernel_rfl) h53124, trivial⟩) ?_
    refine .then ?_
    have hq := bb_cases hm; clear hm; rcases hq with ⟨h53125, hm⟩ | ⟨h53125, hm⟩
    · refine .ifT (ilt z53120 z53119) (by kernel_rfl) h53125 ?_
      refine .skip ?_
      refine .ghs (fr 38 [(0, (zI z53118)), (2, (pt 1 0)), (3, (pt 2 0)), (7, (zI z53119)), (8, (zI z53120))]) (hp 3 [(oT tab0), (oC q53121), (oC q53122)]) (.k [1, 2] [false] [.tmp 2 false, .tmp 3 false] [0, 2, 3, 7, 8] ⟨trE (by kernel_rfl) h53123, trE (by kernel_rfl) h53124, trivial⟩) ?_
      refine .join (v := v) (fun y : Int × Int × Int × List Value × List Value => ((fr 38 [(0, (zI y.1)), (2, (pt 1 0)), (3, (pt 2 0)), (7, (zI y.2.1)), (8, (zI y.2.2.1))]), (hp 3 [(oT tab0), (oC y.2.2.2.1), (oC y.2.2.2.2)]))) (fun y => m51_2 pu n (l51_1 pu n w0) y.1 y.2.1 y.2.2.1 y.2.2.2.1 y.2.2.2.2) ?_ ?_
      · rintro ⟨z53155, z53156, z53157, q53158, q53159⟩ hm
        unfold m51_2 at hm
        refine .rK ?_
        replace hm := bb_inv hm; obtain ⟨h53160, hm⟩ := hm
        replace hm := bb_inv hm; obtain ⟨h53161, hm⟩ := hm
        exact ⟨(z53155, z53156, (wrapF .i64 (Int.add z53157 (1 : Int))), q53158, q53159), hm, (.k [1, 2] [false] [.tmp 2 false, .tmp 3 false] [0, 2, 3, 7, 8] ⟨trE (by kernel_rfl) h53160, trE (by kernel_rfl) h53161, trivial⟩)⟩
      · skip
        refine .block ?_
        refine .then ?_
        refine .rK ?_
        refine .ghs (fr 38 [(0, (zI z53118)), (2, (pt 1 0)), (3, (pt 2 0)), (4, (zI z53120)), (7, (zI z53119)), (8, (zI z53120))]) (hp 3 [(oT tab0), (oC q53121), (oC q53122)]) (.k [1, 2] [false] [.tmp 2 false, .tmp 3 false] [0, 2, 3, 4, 7, 8] ⟨trE (by kernel_rfl) h53123, trE (by kernel_rfl) h53124, trivial⟩) ?_
        refine .then ?_
        refine .rK ?_
        refine .ghs (fr 38 [(0, (zI z53118)), (2, (pt 1 0)), (3, (pt 2 0)), (4, (zI z53120)), (7, (zI z53119)), (8, (zI z53120)), (11, (zI z53118)), (12, (zI (0 : Int)))]) (hp 3 [(oT tab0), (oC q53121), (oC q53122)]) (.k [1, 2] [false] [.tmp 2 false, .tmp 3 false] [0, 2, 3, 4, 7, 8, 11, 12] ⟨trE (by kernel_rfl) h53123, trE (by kernel_rfl) h53124, trivial⟩) ?_
        refine .block ?_
        refine .loopM (v := v) (fun y : Int × Int × Int × Int × Int × Int × List Value × List Value => ((fr 38 [(0, (zI y.1)), (2, (pt 1 0)), (3, (pt 2 0)), (4, (zI y.2.1)), (7, (zI y.2.2.1)), (8, (zI y.2.2.2.1)), (11, (zI y.2.2.2.2.1)), (12, (zI y.2.2.2.2.2.1))]), (hp 3 [(oT tab0), (oC y.2.2.2.2.2.2.1), (oC y.2.2.2.2.2.2.2)]))) (fun w y => l51_3 pu n (l51_1 pu n w0) w y.1 y.2.1 y.2.2.1 y.2.2.2.1 y.2.2.2.2.1 y.2.2.2.2.2.1 y.2.2.2.2.2.2.1 y.2.2.2.2.2.2.2) n ⟨(z53118, z53120, z53119, z53120, z53118, (0 : Int), q53121, q53122), hm, (.k [1, 2] [false] [.tmp 2 false, .tmp 3 false] [0, 2, 3, 4, 7, 8, 11, 12] ⟨trE (by kernel_rfl) h53123, trE (by kernel_rfl) h53124, trivial⟩)⟩ (fun _ => rfl) ?_
        rintro w1 ⟨z53162, z53163, z53164, z53165, z53166, z53167, q53168, q53169⟩ hm
        refine .then ?_
        refine .rK ?_
        replace hm := bb_inv hm; obtain ⟨h53170, hm⟩ := hm
        replace hm := bb_inv hm; obtain ⟨h53171, hm⟩ := hm
        refine .ghs (fr 38 [(0, (zI z53162)), (2, (pt 1 0)), (3, (pt 2 0)), (4, (zI z53163)), (7, (zI z53164)), (8, (zI z53165)), (11, (zI z53166)), (12, (zI z53167)), (13, (zB (ilt z53167 z53166)))]) (hp 3 [(oT tab0), (oC q53168), (oC q53169)]) (.k [1, 2] [false] [.tmp 2 false, .tmp 3 false] [0, 2, 3, 4, 7, 8, 11, 12, 13] ⟨trE (by kernel_rfl) h53170, trE (by kernel_rfl) h53171, trivial⟩) ?_
        refine .then ?_
        have hq := bb_cases hm; clear hm; rcases hq with ⟨h53172, hm⟩ | ⟨h53172, hm⟩
        · refine .ifT (ilt z53167 z53166) (by kernel_rfl) h53172 ?_
          refine .skip ?_
          refine .ghs (fr 38 [(0, (zI z53162)), (2, (pt 1 0)), (3, (pt 2 0)), (4, (zI z53163)), (7, (zI z53164)), (8, (zI z53165)), (11, (zI z53166)), (12, (zI z53167))]) (hp 3 [(oT tab0), (oC q53168), (oC q53169)]) (.k [1, 2] [false] [.tmp 2 false, .tmp 3 false] [0, 2, 3, 4, 7, 8, 11, 12] ⟨trE (by kernel_rfl) h53170, trE (by kernel_rfl) h53171, trivial⟩) ?_
          refine .then ?_
          refine .block ?_
          refine .then ?_
          refine .rK ?_
          refine .ghs (fr 38 [(0, (zI z53162)), (2, (pt 1 0)), (3, (pt 2 0)), (4, (zI z53163)), (5, (zI z53167)), (7, (zI z53164)), (8, (zI z53165)), (11, (zI z53166)), (12, (zI z53167))]) (hp 3 [(oT tab0), (oC q53168), (oC q53169)]) (.k [1, 2] [false] [.tmp 2 false, .tmp 3 false] [0, 2, 3, 4, 5, 7, 8, 11, 12] ⟨trE (by kernel_rfl) h53170, trE (by kernel_rfl) h53171, trivial⟩) ?_
          have hq := oo_inv hm; clear hm; obtain ⟨k53173, h53174, hm⟩ := hq
          have hq := oo_inv hm; clear hm; obtain ⟨k53175, h53176, hm⟩ := hq
          obtain rfl := toN_some h53176
          replace hm := bb_inv hm; obtain ⟨h53177, hm⟩ := hm
          replace hm := bb_inv hm; obtain ⟨h53178, hm⟩ := hm
          have hq := oo_inv hm; clear hm; obtain ⟨v53179, h53180, hm⟩ := hq
          have hq := oo_inv hm; clear hm; obtain ⟨x53181, h53182, hm⟩ := hq
          obtain rfl := toI_some h53182
          have hq := oo_inv hm; clear hm; obtain ⟨k53183, h53184, hm⟩ := hq
          have hq := oo_inv hm; clear hm; obtain ⟨k53185, h53186, hm⟩ := hq
          replace hm := bb_inv hm; obtain ⟨h53187, hm⟩ := hm
          replace hm := bb_inv hm; obtain ⟨h53188, hm⟩ := hm
          replace hm := bb_inv hm; obtain ⟨h53189, hm⟩ := hm
          refine .reg (eC 2 (some ((zI (wrapF .i64 (Int.tdiv z53163 (64 : Int)))), (hp 3 [(oT tab0), (oC q53168), (oC q53169)]))) (show _ = some ((zI (Int.ofNat k53173)), _) from (by rw [toN_some h53174])) (eD (keep (hp 3 [(oT tab0), (oC q53168), (oC q53169)]) (bb (Nat.blt k53175 7) (some (.pointer (some ⟨2, (0 + k53175 * 2), none⟩))) none)) (keep_bb h53177) (eD (keep (hp 3 [(oT tab0), (oC q53168), (oC q53169)]) (bb (Nat.blt k53173 2) (some (.pointer (some ⟨2, ((0 + k53175 * 2) + k53173 * 1), none⟩))) none)) (keep_bb h53178) (eD (keep (hp 3 [(oT tab0), (oC q53168), (oC q53169)]) (nthL q53169 ((0 + k53175 * 2) + k53173 * 1))) (keep_eq h53180) (eC 4 (some ((zI (wrapF .i64 (Int.sub (wrapF .i64 (Int.sub z53162 (1 : Int))) (Int.ofNat k53175)))), (hp 3 [(oT tab0), (oC q53168), (oC q53169)]))) (show _ = some ((zI (Int.ofNat k53183)), _) from (by rw [toN_some h53184])) (eC 4 (some ((zI (Int.tmod z53163 (64 : Int))), (hp 3 [(oT tab0), (oC q53168), (oC q53169)]))) (show _ = some ((zI (Int.ofNat k53185)), _) from (by rw [toN_some h53186])) (eC 2 (keep (hp 3 [(oT tab0), (oC q53168), (oC q53169)]) (bb (Nat.blt k53175 7) (some (.pointer (some ⟨2, (0 + k53175 * 2), none⟩))) none)) (keep_bb h53187) (eD (keep (hp 3 [(oT tab0), (oC q53168), (oC q53169)]) (bb (Nat.blt k53173 2) (some (.pointer (some ⟨2, ((0 + k53175 * 2) + k53173 * 1), none⟩))) none)) (keep_bb h53188) (eD (done (bb (an (Nat.ble (((0 + k53175 * 2) + k53173 * 1) + 1) (len q53169)) true) (some (hp 3 [(oT tab0), (oC q53168), (oC (setL ([(zU (aor .u64 x53181 (shlI .u64 (wrapF .u64 (aand .i64 (shrI .i64 z53163 k53183) (1 : Int))) k53185)))] : List Value) ((0 + k53175 * 2) + k53173 * 1) q53169))])) none) undef) (done_bb h53189) (eE)))))))))) ?_
          replace hm := bb_inv hm; obtain ⟨h53190, hm⟩ := hm
          refine .ghs (fr 38 [(0, (zI z53162)), (2, (pt 1 0)), (3, (pt 2 0)), (4, (zI z53163)), (7, (zI z53164)), (8, (zI z53165)), (11, (zI z53166)), (12, (zI (Int.ofNat k53175)))]) (hp 3 [(oT tab0), (oC q53168), (oC (setL ([(zU (aor .u64 x53181 (shlI .u64 (wrapF .u64 (aand .i64 (shrI .i64 z53163 k53183) (1 : Int))) k53185)))] : List Value) ((0 + k53175 * 2) + k53173 * 1) q53169))]) (.k [1, 2] [false] [.tmp 2 false, .tmp 3 false] [0, 2, 3, 4, 7, 8, 11, 12] ⟨trE (by kernel_rfl) h53170, trE (by kernel_rfl) h53190, trivial⟩) ?_
          refine .rK ?_
          exact ⟨(z53162, z53163, z53164, z53165, z53166, (wrapF .i64 (Int.add (Int.ofNat k53175) (1 : Int))), q53168, (setL ([(zU (aor .u64 x53181 (shlI .u64 (wrapF .u64 (aand .i64 (shrI .i64 z53163 k53183) (1 : Int))) k53185)))] : List Value) ((0 + k53175 * 2) + k53173 * 1) q53169)), hm, (.k [1, 2] [false] [.tmp 2 false, .tmp 3 false] [0, 2, 3, 4, 7, 8, 11, 12] ⟨trE (by kernel_rfl) h53170, trE (by kernel_rfl) h53190, trivial⟩)⟩
        · refine .ifF (ilt z53167 z53166) (by kernel_rfl) h53172 ?_
          refine .exit ?_
          exact ⟨(z53162, z53164, z53165, q53168, q53169), hm, (.k [1, 2] [false] [.tmp 2 false, .tmp 3 false] [0, 2, 3, 7, 8] ⟨trE (by kernel_rfl) h53170, trE (by kernel_rfl) h53171, trivial⟩)⟩
    · refine .ifF (ilt z53120 z53119) (by kernel_rfl) h53125 ?_
      refine .exit ?_
      exact ⟨(q53121, q53122), hm, (.k [1, 2] [false] [.tmp 2 false, .tmp 3 false] [2, 3] ⟨trE (by kernel_rfl) h53123, trE (by kernel_rfl) h53124, trivial⟩)⟩
end
end Go.TabSM
