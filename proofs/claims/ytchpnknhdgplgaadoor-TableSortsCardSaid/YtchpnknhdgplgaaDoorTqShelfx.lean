/- Models of the program's functions, and the proofs that runs give them: MADE BY PROGRAM (wip/tools/dec.py). -/
import Derived.Test.YtchpnknhdgplgaaDoorTabSMod1x
import Derived.Test.YtchpnknhdgplgaaDoorTabSMod2
import Derived.Test.YtchpnknhdgplgaaDoorTabSMod3
import Derived.Test.YtchpnknhdgplgaaDoorTabSMod4
import Derived.Test.YtchpnknhdgplgaaDoorProg
import Derived.Test.YtchpnknhdgplgaaDoorSpLawx
import Derived.Test.YtchpnknhdgplgaaDoorTabSCode
import Derived.Shelf.Sort.Plain
import Derived.Ground.Names2Prog
import Derived.Shelf.Slices.CompactI
import Derived.Shelf.Slices.Cells
import Derived.Shelf.Slices.In.SortNone

set_option maxRecDepth 100000
set_option linter.unusedVariables false
namespace Go.TabSM
open Go.Sp Go.TabS
noncomputable section
/-- (spadille/table.bunch).pass -/
def m52_0 (pu : PureF) (n : Nat) (q53237 : List Value) (q53238 : List Value) : Option Value :=
  (bb (Nat.ble (0 + 14) (len q53237)) (bb (Nat.beq (len (takeL 14 (dropL 0 q53237))) 14) (bb (an (Nat.ble (0 + len (takeL 14 (dropL 0 q53237))) (len q53238)) (allL scalarB (takeL 14 (dropL 0 q53237)))) (bb (allL closed1 (setL (takeL 14 (dropL 0 q53237)) 0 q53238)) (bb (Nat.ble (0 + 14) (len (setL (takeL 14 (dropL 0 q53237)) 0 q53238))) (bb (closedV (.agg ⟨(takeL 14 (dropL 0 (setL (takeL 14 (dropL 0 q53237)) 0 q53238)))⟩)) (some (.agg ⟨(takeL 14 (dropL 0 (setL (takeL 14 (dropL 0 q53237)) 0 q53238)))⟩)) none) none) none) none) none) none)
def b52_1 (pu : PureF) (n : Nat) (ih0 : Int → List Value → Int → Int → List Value → Option Value) (z53245 : Int) (q53246 : List Value) (z53247 : Int) (z53248 : Int) (q53249 : List Value) : Option Value :=
  (bb (allL closed1 q53246) (bb (allL closed1 q53249) (bb (ilt z53245 (2 : Int)) (oo (toN z53247) none fun k53253 => (bb (Nat.blt k53253 7) (oo (toN z53245) none fun k53256 => (bb (Nat.blt k53256 2) (oo (nthL q53246 ((0 + k53253 * 2) + k53256 * 1)) none fun v53259 => (oo (toI .u64 v53259) none fun x53261 => (oo (toN z53248) none fun k53263 => (bb (Nat.blt k53263 7) (bb (Nat.blt k53256 2) (oo (nthL q53246 ((0 + k53263 * 2) + k53256 * 1)) none fun v53267 => (oo (toI .u64 v53267) none fun x53269 => (bb (Nat.blt k53253 7) (bb (Nat.blt k53256 2) (bb (Nat.blt k53263 7) (bb (an (Nat.ble (((0 + k53253 * 2) + k53256 * 1) + 1) (len q53246)) true) (bb (Nat.blt k53256 2) (bb (an (Nat.ble (((0 + k53263 * 2) + k53256 * 1) + 1) (len (setL ([(.int .u64 (aand .u64 x53261 x53269))] : List Value) ((0 + k53253 * 2) + k53256 * 1) q53246))) true) (bb (allL closed1 (setL ([(.int .u64 (aor .u64 x53261 x53269))] : List Value) ((0 + k53263 * 2) + k53256 * 1) (setL ([(.int .u64 (aand .u64 x53261 x53269))] : List Value) ((0 + k53253 * 2) + k53256 * 1) q53246))) (ih0 (wrapF .i64 (Int.add (Int.ofNat k53256) (1 : Int))) (setL ([(.int .u64 (aor .u64 x53261 x53269))] : List Value) ((0 + k53263 * 2) + k53256 * 1) (setL ([(.int .u64 (aand .u64 x53261 x53269))] : List Value) ((0 + k53253 * 2) + k53256 * 1) q53246)) (Int.ofNat k53253) (Int.ofNat k53263) q53249) none) none) none) none) none) none) none))) none) none)))) none)) none)) (m52_0 pu n q53246 q53249)) none) none)
def l52_1 (pu : PureF) (n : Nat) (w : Nat) : Int → List Value → Int → Int → List Value → Option Value :=
  Nat.rec (motive := fun _ => Int → List Value → Int → Int → List Value → Option Value) (fun _ _ _ _ _ => none) (fun _ ih0 => b52_1 pu n ih0) w
def m52_ (pu : PureF) (n : Nat) (q53191 : List Value) (x53198 : Int) (x53200 : Int) : Option Value :=
  (bb (allL closed1 q53191) (bb (allL closed1 zA73) (l52_1 pu n n (0 : Int) q53191 x53198 x53200 zA73) none) none)
def m52 (pu : PureF) (n : Nat) (args : List Value) : Option Value :=
  (ll args none fun a0 args => (ll args none fun a1 args => (ll args (oo (vAgg a0) none fun q53191 => (bb (an (Nat.beq (len q53191) 14) (allL closed1 q53191)) (oo (vAgg a1) none fun l53194 => (ll l53194 none fun v53196 l53194 => (ll l53194 none fun v53197 l53194 => (ll l53194 (oo (toI .i64 v53196) none fun x53198 => (oo (toI .i64 v53197) none fun x53200 => (m52_ pu n q53191 x53198 x53200))) fun _ _ => none)))) none)) fun _ _ => none)))
theorem r52 {call : CallF} (pu : PureF) (n : Nat) (hcall : call = callP tabs isP pu (inl pu)) {args : List Value} {v : Value} (hm : m52 pu n args = some v) (_ : ∀ x ∈ args, closed2 x = true) : args.length ≤ 41 ∧ Run tt call 1 c52_20 (Fr.made 41 args) (pureHeap tabs) (Fin tt 1 [.cell 4 73] v) := by
  subst hcall
  unfold m52 at hm
  have hq := ll_uncons hm; clear hm; obtain ⟨a0, args_0, rfl, hm⟩ := hq
  have hq := ll_uncons hm; clear hm; obtain ⟨a1, args_1, rfl, hm⟩ := hq
  have hq := ll_end hm; clear hm; obtain ⟨rfl, hm⟩ := hq
  have hq := oo_inv hm; clear hm; obtain ⟨q53191, h53192, hm⟩ := hq
  obtain rfl := vAgg_some h53192
  replace hm := bb_inv hm; obtain ⟨h53193, hm⟩ := hm
  have hq := oo_inv hm; clear hm; obtain ⟨l53194, h53195, hm⟩ := hq
  obtain rfl := vAgg_some h53195
  have hq := ll_uncons hm; clear hm; obtain ⟨v53196, l53194_0, rfl, hm⟩ := hq
  have hq := ll_uncons hm; clear hm; obtain ⟨v53197, l53194_1, rfl, hm⟩ := hq
  have hq := ll_end hm; clear hm; obtain ⟨rfl, hm⟩ := hq
  have hq := oo_inv hm; clear hm; obtain ⟨x53198, h53199, hm⟩ := hq
  obtain rfl := toI_some h53199
  have hq := oo_inv hm; clear hm; obtain ⟨x53200, h53201, hm⟩ := hq
  obtain rfl := toI_some h53201
  unfold m52_ at hm
  refine ⟨by simp, ?_⟩
  refine .same (F' := (fr 41 [(0, (.agg ⟨q53191⟩)), (1, (.agg ⟨[(zI x53198), (zI x53200)]⟩))])) (H' := (hp 1 [(oT tab0)])) (by kernel_rfl) (by kernel_rfl) ?_
  refine .then ?_
  refine .rK ?_
  replace hm := bb_inv hm; obtain ⟨h53202, hm⟩ := hm
  replace hm := bb_inv hm; obtain ⟨h53203, hm⟩ := hm
  refine .ghs (fr 41 [(2, (pt 1 0)), (3, (pt 2 0)), (4, (pt 3 0))]) (hp 4 [(oT tab0), (oC q53191), (oC [(zI x53198), (zI x53200)]), (oC zA73)]) (.k [1, 3] [false] [.tmp 2 false, .tmp 3 false, .tmp 4 false] [2, 3, 4] ⟨trE (by kernel_rfl) h53202, trE (by kernel_rfl) h53203, trivial⟩) ?_
  refine .join (v := v) (fun y : List Value × List Value => ((fr 41 [(2, (pt 1 0)), (4, (pt 2 0))]), (hp 3 [(oT tab0), (oC y.1), (oC y.2)]))) (fun y => m52_0 pu n y.1 y.2) ?_ ?_
  · rintro ⟨q53237, q53238⟩ hm
    unfold m52_0 at hm
    refine .then ?_
    replace hm := bb_inv hm; obtain ⟨h53239, hm⟩ := hm
    replace hm := bb_inv hm; obtain ⟨h53240, hm⟩ := hm
    replace hm := bb_inv hm; obtain ⟨h53241, hm⟩ := hm
    refine .reg (eD (keep (hp 3 [(oT tab0), (oC q53237), (oC q53238)]) (bb (Nat.ble (0 + 14) (len q53237)) (some (.agg ⟨(takeL 14 (dropL 0 q53237))⟩)) none)) (keep_bb h53239) (eD (done (bb (Nat.beq (len (takeL 14 (dropL 0 q53237))) 14) (bb (an (Nat.ble (0 + len (takeL 14 (dropL 0 q53237))) (len q53238)) (allL scalarB (takeL 14 (dropL 0 q53237)))) (some (hp 3 [(oT tab0), (oC q53237), (oC (setL (takeL 14 (dropL 0 q53237)) 0 q53238))])) none) none) undef) (done_bb2 h53240 h53241) (eE))) ?_
    replace hm := bb_inv hm; obtain ⟨h53242, hm⟩ := hm
    refine .ghs (fr 41 [(4, (pt 1 0))]) (hp 2 [(oT tab0), (oC (setL (takeL 14 (dropL 0 q53237)) 0 q53238))]) (.k [2] [false] [.tmp 4 false] [4] ⟨trE (by kernel_rfl) h53242, trivial⟩) ?_
    refine .ret ?_
    replace hm := bb_inv hm; obtain ⟨h53243, hm⟩ := hm
    replace hm := bb_inv hm; obtain ⟨h53244, hm⟩ := hm
    exact fin_ret (.agg ⟨(takeL 14 (dropL 0 (setL (takeL 14 (dropL 0 q53237)) 0 q53238)))⟩) (aresults_of (aresultsL_cons (show aresult _ _ _ _ = some (.agg ⟨(takeL 14 (dropL 0 (setL (takeL 14 (dropL 0 q53237)) 0 q53238)))⟩) from (eq_bb (c := (Nat.ble (0 + 14) (len (setL (takeL 14 (dropL 0 q53237)) 0 q53238)))) (by kernel_rfl) h53243)) rfl) (by kernel_rfl)) h53244 hm
  · skip
    refine .then ?_
    refine .rK ?_
    refine .ghs (fr 41 [(2, (pt 1 0)), (3, (pt 2 0)), (4, (pt 3 0)), (8, (zI (0 : Int)))]) (hp 4 [(oT tab0), (oC q53191), (oC [(zI x53198), (zI x53200)]), (oC zA73)]) (.k [1, 3] [false] [.tmp 2 false, .tmp 3 false, .tmp 4 false] [2, 3, 4, 8] ⟨trE (by kernel_rfl) h53202, trE (by kernel_rfl) h53203, trivial⟩) ?_
    refine .block ?_
    refine .loopM (v := v) (fun y : Int × List Value × Int × Int × List Value => ((fr 41 [(2, (pt 1 0)), (3, (pt 2 0)), (4, (pt 3 0)), (8, (zI y.1))]), (hp 4 [(oT tab0), (oC y.2.1), (oC [(zI y.2.2.1), (zI y.2.2.2.1)]), (oC y.2.2.2.2)]))) (fun w y => l52_1 pu n w y.1 y.2.1 y.2.2.1 y.2.2.2.1 y.2.2.2.2) n ⟨((0 : Int), q53191, x53198, x53200, zA73), hm, (.k [1, 3] [false] [.tmp 2 false, .tmp 3 false, .tmp 4 false] [2, 3, 4, 8] ⟨trE (by kernel_rfl) h53202, trE (by kernel_rfl) h53203, trivial⟩)⟩ (fun _ => rfl) ?_
    rintro w0 ⟨z53245, q53246, z53247, z53248, q53249⟩ hm
    refine .then ?_
    refine .rK ?_
    replace hm := bb_inv hm; obtain ⟨h53250, hm⟩ := hm
    replace hm := bb_inv hm; obtain ⟨h53251, hm⟩ := hm
    refine .ghs (fr 41 [(2, (pt 1 0)), (3, (pt 2 0)), (4, (pt 3 0)), (8, (zI z53245)), (9, (zB (ilt z53245 (2 : Int))))]) (hp 4 [(oT tab0), (oC q53246), (oC [(zI z53247), (zI z53248)]), (oC q53249)]) (.k [1, 3] [false] [.tmp 2 false, .tmp 3 false, .tmp 4 false] [2, 3, 4, 8, 9] ⟨trE (by kernel_rfl) h53250, trE (by kernel_rfl) h53251, trivial⟩) ?_
    refine .then ?_
    have hq := bb_cases hm; clear hm; rcases hq with ⟨h53252, hm⟩ | ⟨h53252, hm⟩
    · refine .ifT (ilt z53245 (2 : Int)) (by kernel_rfl) h53252 ?_
      refine .skip ?_
      refine .ghs (fr 41 [(2, (pt 1 0)), (3, (pt 2 0)), (4, (pt 3 0)), (8, (zI z53245))]) (hp 4 [(oT tab0), (oC q53246), (oC [(zI z53247), (zI z53248)]), (oC q53249)]) (.k [1, 3] [false] [.tmp 2 false, .tmp 3 false, .tmp 4 false] [2, 3, 4, 8] ⟨trE (by kernel_rfl) h53250, trE (by kernel_rfl) h53251, trivial⟩) ?_
      refine .then ?_
      refine .block ?_
      refine .then ?_
      refine .rK ?_
      refine .ghs (fr 41 [(2, (pt 1 0)), (3, (pt 2 0)), (4, (pt 3 0)), (5, (zI z53245)), (8, (zI z53245))]) (hp 4 [(oT tab0), (oC q53246), (oC [(zI z53247), (zI z53248)]), (oC q53249)]) (.k [1, 3] [false] [.tmp 2 false, .tmp 3 false, .tmp 4 false] [2, 3, 4, 5, 8] ⟨trE (by kernel_rfl) h53250, trE (by kernel_rfl) h53251, trivial⟩) ?_
      refine .then ?_
      have hq := oo_inv hm; clear hm; obtain ⟨k53253, h53254, hm⟩ := hq
      obtain rfl := toN_some h53254
      replace hm := bb_inv hm; obtain ⟨h53255, hm⟩ := hm
      have hq := oo_inv hm; clear hm; obtain ⟨k53256, h53257, hm⟩ := hq
      obtain rfl := toN_some h53257
      replace hm := bb_inv hm; obtain ⟨h53258, hm⟩ := hm
      have hq := oo_inv hm; clear hm; obtain ⟨v53259, h53260, hm⟩ := hq
      have hq := oo_inv hm; clear hm; obtain ⟨x53261, h53262, hm⟩ := hq
      obtain rfl := toI_some h53262
      have hq := oo_inv hm; clear hm; obtain ⟨k53263, h53264, hm⟩ := hq
      obtain rfl := toN_some h53264
      replace hm := bb_inv hm; obtain ⟨h53265, hm⟩ := hm
      replace hm := bb_inv hm; obtain ⟨h53266, hm⟩ := hm
      have hq := oo_inv hm; clear hm; obtain ⟨v53267, h53268, hm⟩ := hq
      have hq := oo_inv hm; clear hm; obtain ⟨x53269, h53270, hm⟩ := hq
      obtain rfl := toI_some h53270
      refine .reg (eC 3 (keep (hp 4 [(oT tab0), (oC q53246), (oC [(zI (Int.ofNat k53253)), (zI (Int.ofNat k53263))]), (oC q53249)]) (bb (Nat.blt k53253 7) (some (.pointer (some ⟨1, (0 + k53253 * 2), none⟩))) none)) (keep_bb h53255) (eD (keep (hp 4 [(oT tab0), (oC q53246), (oC [(zI (Int.ofNat k53253)), (zI (Int.ofNat k53263))]), (oC q53249)]) (bb (Nat.blt k53256 2) (some (.pointer (some ⟨1, ((0 + k53253 * 2) + k53256 * 1), none⟩))) none)) (keep_bb h53258) (eD (keep (hp 4 [(oT tab0), (oC q53246), (oC [(zI (Int.ofNat k53253)), (zI (Int.ofNat k53263))]), (oC q53249)]) (nthL q53246 ((0 + k53253 * 2) + k53256 * 1))) (keep_eq h53260) (eC 3 (keep (hp 4 [(oT tab0), (oC q53246), (oC [(zI (Int.ofNat k53253)), (zI (Int.ofNat k53263))]), (oC q53249)]) (bb (Nat.blt k53263 7) (some (.pointer (some ⟨1, (0 + k53263 * 2), none⟩))) none)) (keep_bb h53265) (eD (keep (hp 4 [(oT tab0), (oC q53246), (oC [(zI (Int.ofNat k53253)), (zI (Int.ofNat k53263))]), (oC q53249)]) (bb (Nat.blt k53256 2) (some (.pointer (some ⟨1, ((0 + k53263 * 2) + k53256 * 1), none⟩))) none)) (keep_bb h53266) (eD (keep (hp 4 [(oT tab0), (oC q53246), (oC [(zI (Int.ofNat k53253)), (zI (Int.ofNat k53263))]), (oC q53249)]) (nthL q53246 ((0 + k53263 * 2) + k53256 * 1))) (keep_eq h53268) (eE))))))) ?_
      refine .ghs (fr 41 [(2, (pt 1 0)), (3, (pt 2 0)), (4, (pt 3 0)), (5, (zI (Int.ofNat k53256))), (6, (zU x53261)), (7, (zU x53269)), (8, (zI (Int.ofNat k53256)))]) (hp 4 [(oT tab0), (oC q53246), (oC [(zI (Int.ofNat k53253)), (zI (Int.ofNat k53263))]), (oC q53249)]) (.k [1, 3] [false] [.tmp 2 false, .tmp 3 false, .tmp 4 false] [2, 3, 4, 5, 6, 7, 8] ⟨trE (by kernel_rfl) h53250, trE (by kernel_rfl) h53251, trivial⟩) ?_
      replace hm := bb_inv hm; obtain ⟨h53271, hm⟩ := hm
      replace hm := bb_inv hm; obtain ⟨h53272, hm⟩ := hm
      replace hm := bb_inv hm; obtain ⟨h53273, hm⟩ := hm
      replace hm := bb_inv hm; obtain ⟨h53274, hm⟩ := hm
      replace hm := bb_inv hm; obtain ⟨h53275, hm⟩ := hm
      replace hm := bb_inv hm; obtain ⟨h53276, hm⟩ := hm
      refine .reg (eC 12 (keep (hp 4 [(oT tab0), (oC q53246), (oC [(zI (Int.ofNat k53253)), (zI (Int.ofNat k53263))]), (oC q53249)]) (bb (Nat.blt k53253 7) (some (.pointer (some ⟨1, (0 + k53253 * 2), none⟩))) none)) (keep_bb h53271) (eD (keep (hp 4 [(oT tab0), (oC q53246), (oC [(zI (Int.ofNat k53253)), (zI (Int.ofNat k53263))]), (oC q53249)]) (bb (Nat.blt k53256 2) (some (.pointer (some ⟨1, ((0 + k53253 * 2) + k53256 * 1), none⟩))) none)) (keep_bb h53272) (eD (keep (hp 4 [(oT tab0), (oC q53246), (oC [(zI (Int.ofNat k53253)), (zI (Int.ofNat k53263))]), (oC q53249)]) (bb (Nat.blt k53263 7) (some (.pointer (some ⟨1, (0 + k53263 * 2), none⟩))) none)) (keep_bb h53273) (eD (done (bb (an (Nat.ble (((0 + k53253 * 2) + k53256 * 1) + 1) (len q53246)) true) (some (hp 4 [(oT tab0), (oC (setL ([(zU (aand .u64 x53261 x53269))] : List Value) ((0 + k53253 * 2) + k53256 * 1) q53246)), (oC [(zI (Int.ofNat k53253)), (zI (Int.ofNat k53263))]), (oC q53249)])) none) undef) (done_bb h53274) (eD (keep (hp 4 [(oT tab0), (oC (setL ([(zU (aand .u64 x53261 x53269))] : List Value) ((0 + k53253 * 2) + k53256 * 1) q53246)), (oC [(zI (Int.ofNat k53253)), (zI (Int.ofNat k53263))]), (oC q53249)]) (bb (Nat.blt k53256 2) (some (.pointer (some ⟨1, ((0 + k53263 * 2) + k53256 * 1), none⟩))) none)) (keep_bb h53275) (eD (done (bb (an (Nat.ble (((0 + k53263 * 2) + k53256 * 1) + 1) (len (setL ([(zU (aand .u64 x53261 x53269))] : List Value) ((0 + k53253 * 2) + k53256 * 1) q53246))) true) (some (hp 4 [(oT tab0), (oC (setL ([(zU (aor .u64 x53261 x53269))] : List Value) ((0 + k53263 * 2) + k53256 * 1) (setL ([(zU (aand .u64 x53261 x53269))] : List Value) ((0 + k53253 * 2) + k53256 * 1) q53246))), (oC [(zI (Int.ofNat k53253)), (zI (Int.ofNat k53263))]), (oC q53249)])) none) undef) (done_bb h53276) (eE))))))) ?_
      replace hm := bb_inv hm; obtain ⟨h53277, hm⟩ := hm
      refine .ghs (fr 41 [(2, (pt 1 0)), (3, (pt 2 0)), (4, (pt 3 0)), (8, (zI (Int.ofNat k53256)))]) (hp 4 [(oT tab0), (oC (setL ([(zU (aor .u64 x53261 x53269))] : List Value) ((0 + k53263 * 2) + k53256 * 1) (setL ([(zU (aand .u64 x53261 x53269))] : List Value) ((0 + k53253 * 2) + k53256 * 1) q53246))), (oC [(zI (Int.ofNat k53253)), (zI (Int.ofNat k53263))]), (oC q53249)]) (.k [1, 3] [false] [.tmp 2 false, .tmp 3 false, .tmp 4 false] [2, 3, 4, 8] ⟨trE (by kernel_rfl) h53277, trE (by kernel_rfl) h53251, trivial⟩) ?_
      refine .rK ?_
      exact ⟨((wrapF .i64 (Int.add (Int.ofNat k53256) (1 : Int))), (setL ([(zU (aor .u64 x53261 x53269))] : List Value) ((0 + k53263 * 2) + k53256 * 1) (setL ([(zU (aand .u64 x53261 x53269))] : List Value) ((0 + k53253 * 2) + k53256 * 1) q53246)), (Int.ofNat k53253), (Int.ofNat k53263), q53249), hm, (.k [1, 3] [false] [.tmp 2 false, .tmp 3 false, .tmp 4 false] [2, 3, 4, 8] ⟨trE (by kernel_rfl) h53277, trE (by kernel_rfl) h53251, trivial⟩)⟩
    · refine .ifF (ilt z53245 (2 : Int)) (by kernel_rfl) h53252 ?_
      refine .exit ?_
      exact ⟨(q53246, q53249), hm, (.k [1, 3] [false] [.tmp 2 false, .tmp 4 false] [2, 4] ⟨trE (by kernel_rfl) h53250, trE (by kernel_rfl) h53251, trivial⟩)⟩
/-- (spadille/table.bunch).through -/
def m53_0 (pu : PureF) (n : Nat) (q53315 : List Value) (q53316 : List Value) : Option Value :=
  (bb (Nat.ble (0 + 14) (len q53315)) (bb (Nat.beq (len (takeL 14 (dropL 0 q53315))) 14) (bb (an (Nat.ble (0 + len (takeL 14 (dropL 0 q53315))) (len q53316)) (allL scalarB (takeL 14 (dropL 0 q53315)))) (bb (allL closed1 (setL (takeL 14 (dropL 0 q53315)) 0 q53316)) (bb (Nat.ble (0 + 14) (len (setL (takeL 14 (dropL 0 q53315)) 0 q53316))) (bb (closedV (.agg ⟨(takeL 14 (dropL 0 (setL (takeL 14 (dropL 0 q53315)) 0 q53316)))⟩)) (some (.agg ⟨(takeL 14 (dropL 0 (setL (takeL 14 (dropL 0 q53315)) 0 q53316)))⟩)) none) none) none) none) none) none)
def b53_1 (pu : PureF) (n : Nat) (ih0 : Sl → Int → Int → List Value → List Value → Option Value) (s53323 : Sl) (z53324 : Int) (z53325 : Int) (q53326 : List Value) (q53327 : List Value) : Option Value :=
  (bb (allL closed1 q53326) (bb (allL closed1 q53327) (bb (ilt z53325 z53324) (oo (toN z53325) none fun k53331 => (bb (an (Nat.blt k53331 (Sl.n s53323)) true) (bb (Nat.ble ((k53331 * 2) + 2) (len (Sl.cs s53323))) (oo (nthL (Sl.cs s53323) (k53331 * 2)) none fun v53335 => (oo (toI .i64 v53335) none fun x53337 => (oo (nthL (Sl.cs s53323) ((k53331 * 2) + 1)) none fun v53339 => (oo (toI .i64 v53339) none fun x53341 => (bb (Nat.ble (0 + 14) (len q53326)) (oo (pu 52 [(.agg ⟨(takeL 14 (dropL 0 q53326))⟩), (.agg ⟨[(.int .i64 x53337), (.int .i64 x53341)]⟩)]) none fun v53344 => (oo (vAgg v53344) none fun q53346 => (bb (an (Nat.beq (len q53346) 14) (allL closed1 q53346)) (bb (allL closed2 [(.agg ⟨(takeL 14 (dropL 0 q53326))⟩), (.agg ⟨[(.int .i64 x53337), (.int .i64 x53341)]⟩)]) (bb (Nat.beq (len q53346) 14) (bb (an (Nat.ble (0 + len q53346) (len q53326)) (allL scalarB q53346)) (bb (allL closed1 (setL q53346 0 q53326)) (ih0 s53323 z53324 (wrapF .i64 (Int.add (Int.ofNat k53331) (1 : Int))) (setL q53346 0 q53326) q53327) none) none) none) none) none))) none))))) none) none)) (m53_0 pu n q53326 q53327)) none) none)
def l53_1 (pu : PureF) (n : Nat) (w : Nat) : Sl → Int → Int → List Value → List Value → Option Value :=
  Nat.rec (motive := fun _ => Sl → Int → Int → List Value → List Value → Option Value) (fun _ _ _ _ _ => none) (fun _ ih0 => b53_1 pu n ih0) w
def m53_ (pu : PureF) (n : Nat) (q53278 : List Value) (s53281 : Sl) : Option Value :=
  (bb (allL closed1 q53278) (bb (allL closed1 zA73) (l53_1 pu n n s53281 (Int.ofNat (Sl.n s53281)) (0 : Int) q53278 zA73) none) none)
def m53 (pu : PureF) (n : Nat) (args : List Value) : Option Value :=
  (ll args none fun a0 args => (ll args none fun a1 args => (ll args (oo (vAgg a0) none fun q53278 => (bb (an (Nat.beq (len q53278) 14) (allL closed1 q53278)) (oo (toSl 2 a1) none fun s53281 => (m53_ pu n q53278 s53281)) none)) fun _ _ => none)))
theorem r53 {call : CallF} (pu : PureF) (n : Nat) (hcall : call = callP tabs isP pu (inl pu)) {args : List Value} {v : Value} (hm : m53 pu n args = some v) (_ : ∀ x ∈ args, closed2 x = true) : args.length ≤ 21 ∧ Run tt call 1 c53_20 (Fr.made 21 args) (pureHeap tabs) (Fin tt 1 [.cell 4 73] v) := by
  subst hcall
  unfold m53 at hm
  have hq := ll_uncons hm; clear hm; obtain ⟨a0, args_0, rfl, hm⟩ := hq
  have hq := ll_uncons hm; clear hm; obtain ⟨a1, args_1, rfl, hm⟩ := hq
  have hq := ll_end hm; clear hm; obtain ⟨rfl, hm⟩ := hq
  have hq := oo_inv hm; clear hm; obtain ⟨q53278, h53279, hm⟩ := hq
  obtain rfl := vAgg_some h53279
  replace hm := bb_inv hm; obtain ⟨h53280, hm⟩ := hm
  have hq := oo_inv hm; clear hm; obtain ⟨s53281, h53282, hm⟩ := hq
  obtain rfl := toSl_some h53282
  unfold m53_ at hm
  refine ⟨by simp, ?_⟩
  refine .same (F' := (fr 21 [(0, (.agg ⟨q53278⟩)), (1, (Sl.v 2 s53281))])) (H' := (hp 1 [(oT tab0)])) (by kernel_rfl) (by kernel_rfl) ?_
  refine .then ?_
  refine .rK ?_
  replace hm := bb_inv hm; obtain ⟨h53283, hm⟩ := hm
  replace hm := bb_inv hm; obtain ⟨h53284, hm⟩ := hm
  refine .ghs (fr 21 [(1, (Sl.v 2 s53281)), (2, (pt 1 0)), (4, (pt 2 0))]) (hp 3 [(oT tab0), (oC q53278), (oC zA73)]) (.k [1, 2] [false] [.tmp 2 false, .tmp 4 false] [1, 2, 4] ⟨trE (by kernel_rfl) h53283, trE (by kernel_rfl) h53284, trivial⟩) ?_
  refine .join (v := v) (fun y : List Value × List Value => ((fr 21 [(2, (pt 1 0)), (4, (pt 2 0))]), (hp 3 [(oT tab0), (oC y.1), (oC y.2)]))) (fun y => m53_0 pu n y.1 y.2) ?_ ?_
  · rintro ⟨q53315, q53316⟩ hm
    unfold m53_0 at hm
    refine .then ?_
    replace hm := bb_inv hm; obtain ⟨h53317, hm⟩ := hm
    replace hm := bb_inv hm; obtain ⟨h53318, hm⟩ := hm
    replace hm := bb_inv hm; obtain ⟨h53319, hm⟩ := hm
    refine .reg (eD (keep (hp 3 [(oT tab0), (oC q53315), (oC q53316)]) (bb (Nat.ble (0 + 14) (len q53315)) (some (.agg ⟨(takeL 14 (dropL 0 q53315))⟩)) none)) (keep_bb h53317) (eD (done (bb (Nat.beq (len (takeL 14 (dropL 0 q53315))) 14) (bb (an (Nat.ble (0 + len (takeL 14 (dropL 0 q53315))) (len q53316)) (allL scalarB (takeL 14 (dropL 0 q53315)))) (some (hp 3 [(oT tab0), (oC q53315), (oC (setL (takeL 14 (dropL 0 q53315)) 0 q53316))])) none) none) undef) (done_bb2 h53318 h53319) (eE))) ?_
    replace hm := bb_inv hm; obtain ⟨h53320, hm⟩ := hm
    refine .ghs (fr 21 [(4, (pt 1 0))]) (hp 2 [(oT tab0), (oC (setL (takeL 14 (dropL 0 q53315)) 0 q53316))]) (.k [2] [false] [.tmp 4 false] [4] ⟨trE (by kernel_rfl) h53320, trivial⟩) ?_
    refine .ret ?_
    replace hm := bb_inv hm; obtain ⟨h53321, hm⟩ := hm
    replace hm := bb_inv hm; obtain ⟨h53322, hm⟩ := hm
    exact fin_ret (.agg ⟨(takeL 14 (dropL 0 (setL (takeL 14 (dropL 0 q53315)) 0 q53316)))⟩) (aresults_of (aresultsL_cons (show aresult _ _ _ _ = some (.agg ⟨(takeL 14 (dropL 0 (setL (takeL 14 (dropL 0 q53315)) 0 q53316)))⟩) from (eq_bb (c := (Nat.ble (0 + 14) (len (setL (takeL 14 (dropL 0 q53315)) 0 q53316)))) (by kernel_rfl) h53321)) rfl) (by kernel_rfl)) h53322 hm
  · skip
    refine .then ?_
    refine .rK ?_
    refine .ghs (fr 21 [(2, (pt 1 0)), (4, (pt 2 0)), (8, (Sl.v 2 s53281)), (9, (zI (Int.ofNat (Sl.n s53281)))), (10, (zI (0 : Int)))]) (hp 3 [(oT tab0), (oC q53278), (oC zA73)]) (.k [1, 2] [false] [.tmp 2 false, .tmp 4 false] [2, 4, 8, 9, 10] ⟨trE (by kernel_rfl) h53283, trE (by kernel_rfl) h53284, trivial⟩) ?_
    refine .block ?_
    refine .loopM (v := v) (fun y : Sl × Int × Int × List Value × List Value => ((fr 21 [(2, (pt 1 0)), (4, (pt 2 0)), (8, (Sl.v 2 y.1)), (9, (zI y.2.1)), (10, (zI y.2.2.1))]), (hp 3 [(oT tab0), (oC y.2.2.2.1), (oC y.2.2.2.2)]))) (fun w y => l53_1 pu n w y.1 y.2.1 y.2.2.1 y.2.2.2.1 y.2.2.2.2) n ⟨(s53281, (Int.ofNat (Sl.n s53281)), (0 : Int), q53278, zA73), hm, (.k [1, 2] [false] [.tmp 2 false, .tmp 4 false] [2, 4, 8, 9, 10] ⟨trE (by kernel_rfl) h53283, trE (by kernel_rfl) h53284, trivial⟩)⟩ (fun _ => rfl) ?_
    rintro w0 ⟨s53323, z53324, z53325, q53326, q53327⟩ hm
    refine .then ?_
    refine .rK ?_
    replace hm := bb_inv hm; obtain ⟨h53328, hm⟩ := hm
    replace hm := bb_inv hm; obtain ⟨h53329, hm⟩ := hm
    refine .ghs (fr 21 [(2, (pt 1 0)), (4, (pt 2 0)), (8, (Sl.v 2 s53323)), (9, (zI z53324)), (10, (zI z53325)), (11, (zB (ilt z53325 z53324)))]) (hp 3 [(oT tab0), (oC q53326), (oC q53327)]) (.k [1, 2] [false] [.tmp 2 false, .tmp 4 false] [2, 4, 8, 9, 10, 11] ⟨trE (by kernel_rfl) h53328, trE (by kernel_rfl) h53329, trivial⟩) ?_
    refine .then ?_
    have hq := bb_cases hm; clear hm; rcases hq with ⟨h53330, hm⟩ | ⟨h53330, hm⟩
    · refine .ifT (ilt z53325 z53324) (by kernel_rfl) h53330 ?_
      refine .skip ?_
      refine .ghs (fr 21 [(2, (pt 1 0)), (4, (pt 2 0)), (8, (Sl.v 2 s53323)), (9, (zI z53324)), (10, (zI z53325))]) (hp 3 [(oT tab0), (oC q53326), (oC q53327)]) (.k [1, 2] [false] [.tmp 2 false, .tmp 4 false] [2, 4, 8, 9, 10] ⟨trE (by kernel_rfl) h53328, trE (by kernel_rfl) h53329, trivial⟩) ?_
      refine .then ?_
      refine .block ?_
      refine .then ?_
      have hq := oo_inv hm; clear hm; obtain ⟨k53331, h53332, hm⟩ := hq
      obtain rfl := toN_some h53332
      replace hm := bb_inv hm; obtain ⟨h53333, hm⟩ := hm
      replace hm := bb_inv hm; obtain ⟨h53334, hm⟩ := hm
      have hq := oo_inv hm; clear hm; obtain ⟨v53335, h53336, hm⟩ := hq
      have hq := oo_inv hm; clear hm; obtain ⟨x53337, h53338, hm⟩ := hq
      obtain rfl := toI_some h53338
      have hq := oo_inv hm; clear hm; obtain ⟨v53339, h53340, hm⟩ := hq
      have hq := oo_inv hm; clear hm; obtain ⟨x53341, h53342, hm⟩ := hq
      obtain rfl := toI_some h53342
      refine .reg (eD (keep (hp 3 [(oT tab0), (oC q53326), (oC q53327)]) (bb (an (Nat.blt k53331 (Sl.n s53323)) true) (some (fpV (k53331 * 2) (Sl.cs s53323))) none)) (keep_bb h53333) (eD (keep (hp 3 [(oT tab0), (oC q53326), (oC q53327)]) (bb (Nat.ble ((k53331 * 2) + 2) (len (Sl.cs s53323))) (some (.agg ⟨takeL 2 (dropL (k53331 * 2) (Sl.cs s53323))⟩)) none)) (keep_agg h53334 (takeL_cons h53336 (takeL_cons h53340 rfl))) (eE))) ?_
      refine .ghs (fr 21 [(2, (pt 1 0)), (4, (pt 2 0)), (6, (pt 3 0)), (8, (Sl.v 2 s53323)), (9, (zI z53324)), (10, (zI (Int.ofNat k53331)))]) (hp 4 [(oT tab0), (oC q53326), (oC q53327), (oC [(zI x53337), (zI x53341)])]) (.k [1, 2] [false] [.tmp 2 false, .tmp 4 false, .tmp 6 false] [2, 4, 6, 8, 9, 10] ⟨trE (by kernel_rfl) h53328, trE (by kernel_rfl) h53329, trivial⟩) ?_
      refine .then ?_
      replace hm := bb_inv hm; obtain ⟨h53343, hm⟩ := hm
      refine .reg (eD (keep (hp 4 [(oT tab0), (oC q53326), (oC q53327), (oC [(zI x53337), (zI x53341)])]) (bb (Nat.ble (0 + 14) (len q53326)) (some (.agg ⟨(takeL 14 (dropL 0 q53326))⟩)) none)) (keep_bb h53343) (eE)) ?_
      have hq := oo_inv hm; clear hm; obtain ⟨v53344, h53345, hm⟩ := hq
      have hq := oo_inv hm; clear hm; obtain ⟨q53346, h53347, hm⟩ := hq
      obtain rfl := vAgg_some h53347
      replace hm := bb_inv hm; obtain ⟨h53348, hm⟩ := hm
      replace hm := bb_inv hm; obtain ⟨h53349, hm⟩ := hm
      replace hm := bb_inv hm; obtain ⟨h53350, hm⟩ := hm
      replace hm := bb_inv hm; obtain ⟨h53351, hm⟩ := hm
      refine .reg (eC 2 (bb (allL closed2 [(.agg ⟨(takeL 14 (dropL 0 q53326))⟩), (.agg ⟨[(zI x53337), (zI x53341)]⟩)]) (oo (pu 52 [(.agg ⟨(takeL 14 (dropL 0 q53326))⟩), (.agg ⟨[(zI x53337), (zI x53341)]⟩)]) none fun v => some (v, (hp 4 [(oT tab0), (oC q53326), (oC q53327), (oC [(zI x53337), (zI x53341)])]))) (oo (mapO (purify (hp 4 [(oT tab0), (oC q53326), (oC q53327), (oC [(zI x53337), (zI x53341)])])) [(.agg ⟨(takeL 14 (dropL 0 q53326))⟩), (.agg ⟨[(zI x53337), (zI x53341)]⟩)]) none fun l1 => oo (pu 52 l1) none fun v => bb (plainT v) (some (v, (hp 4 [(oT tab0), (oC q53326), (oC q53327), (oC [(zI x53337), (zI x53341)])]))) none)) (callc_eq h53349 h53345) (eD (done (bb (Nat.beq (len q53346) 14) (bb (an (Nat.ble (0 + len q53346) (len q53326)) (allL scalarB q53346)) (some (hp 4 [(oT tab0), (oC (setL q53346 0 q53326)), (oC q53327), (oC [(zI x53337), (zI x53341)])])) none) none) undef) (done_bb2 h53350 h53351) (eE))) ?_
      replace hm := bb_inv hm; obtain ⟨h53352, hm⟩ := hm
      refine .ghs (fr 21 [(2, (pt 1 0)), (4, (pt 2 0)), (8, (Sl.v 2 s53323)), (9, (zI z53324)), (10, (zI (Int.ofNat k53331)))]) (hp 3 [(oT tab0), (oC (setL q53346 0 q53326)), (oC q53327)]) (.k [1, 2] [false] [.tmp 2 false, .tmp 4 false] [2, 4, 8, 9, 10] ⟨trE (by kernel_rfl) h53352, trE (by kernel_rfl) h53329, trivial⟩) ?_
      refine .rK ?_
      exact ⟨(s53323, z53324, (wrapF .i64 (Int.add (Int.ofNat k53331) (1 : Int))), (setL q53346 0 q53326), q53327), hm, (.k [1, 2] [false] [.tmp 2 false, .tmp 4 false] [2, 4, 8, 9, 10] ⟨trE (by kernel_rfl) h53352, trE (by kernel_rfl) h53329, trivial⟩)⟩
    · refine .ifF (ilt z53325 z53324) (by kernel_rfl) h53330 ?_
      refine .exit ?_
      exact ⟨(q53326, q53327), hm, (.k [1, 2] [false] [.tmp 2 false, .tmp 4 false] [2, 4] ⟨trE (by kernel_rfl) h53328, trE (by kernel_rfl) h53329, trivial⟩)⟩
/-- spadille/table.between -/
def m56_0 (pu : PureF) (n : Nat) (b53360 : Bool) : Option Value :=
  (some (.bool b53360))
def m56_ (pu : PureF) (n : Nat) (x53353 : Int) (x53355 : Int) (x53357 : Int) : Option Value :=
  (bb (nt (ilt x53355 x53353)) (m56_0 pu n (nt (ilt x53357 x53355))) (m56_0 pu n false))
def m56 (pu : PureF) (n : Nat) (args : List Value) : Option Value :=
  (ll args none fun a0 args => (ll args none fun a1 args => (ll args none fun a2 args => (ll args (oo (toI .i64 a0) none fun x53353 => (oo (toI .i64 a1) none fun x53355 => (oo (toI .i64 a2) none fun x53357 => (m56_ pu n x53353 x53355 x53357)))) fun _ _ => none))))
theorem r56 {call : CallF} (pu : PureF) (n : Nat) (hcall : call = callP tabs isP pu (inl pu)) {args : List Value} {v : Value} (hm : m56 pu n args = some v) (_ : ∀ x ∈ args, closed2 x = true) : args.length ≤ 15 ∧ Run tt call 1 c56_3 (Fr.made 15 args) (pureHeap tabs) (Fin tt 1 [.tmp 6] v) := by
  subst hcall
  unfold m56 at hm
  have hq := ll_uncons hm; clear hm; obtain ⟨a0, args_0, rfl, hm⟩ := hq
  have hq := ll_uncons hm; clear hm; obtain ⟨a1, args_1, rfl, hm⟩ := hq
  have hq := ll_uncons hm; clear hm; obtain ⟨a2, args_2, rfl, hm⟩ := hq
  have hq := ll_end hm; clear hm; obtain ⟨rfl, hm⟩ := hq
  have hq := oo_inv hm; clear hm; obtain ⟨x53353, h53354, hm⟩ := hq
  obtain rfl := toI_some h53354
  have hq := oo_inv hm; clear hm; obtain ⟨x53355, h53356, hm⟩ := hq
  obtain rfl := toI_some h53356
  have hq := oo_inv hm; clear hm; obtain ⟨x53357, h53358, hm⟩ := hq
  obtain rfl := toI_some h53358
  unfold m56_ at hm
  refine ⟨by simp, ?_⟩
  refine .same (F' := (fr 15 [(0, (zI x53353)), (1, (zI x53355)), (2, (zI x53357))])) (H' := (hp 1 [(oT tab0)])) (by kernel_rfl) (by kernel_rfl) ?_
  refine .then ?_
  refine .rK ?_
  refine .ghs (fr 15 [(0, (zI x53353)), (1, (zI x53355)), (2, (zI x53357))]) (hp 1 [(oT tab0)]) (.k0 [false] [] [0, 1, 2]) ?_
  refine .join (v := v) (fun y : Bool => ((fr 15 [(6, (zB y))]), (hp 1 [(oT tab0)]))) (fun y => m56_0 pu n y) ?_ ?_
  · rintro b53360 hm
    unfold m56_0 at hm
    refine .ret ?_
    exact fin_ret (zB b53360) (by kernel_rfl) (by kernel_rfl) hm
  · skip
    have hq := bb_cases hm; clear hm; rcases hq with ⟨h53361, hm⟩ | ⟨h53361, hm⟩
    · skip
      refine .reg (eC 2 (some ((zB (nt (ilt x53355 x53353))), (hp 1 [(oT tab0)]))) (show _ = some ((zB true), _) from (by rw [h53361])) (eE)) ?_
      exact ⟨(nt (ilt x53357 x53355)), hm, (.k0 [false] [] [6])⟩
    · skip
      refine .reg (eC 2 (some ((zB (nt (ilt x53355 x53353))), (hp 1 [(oT tab0)]))) (show _ = some ((zB false), _) from (by rw [h53361])) (eE)) ?_
      exact ⟨false, hm, (.k0 [false] [] [6])⟩
/-- math/bits.TrailingZeros64 -/

def m60_ (pu : PureF) (n : Nat) (x53362 : Int) : Option Value :=
  (bb (ieq x53362 (0 : Int)) (some (.int .i64 (64 : Int))) (oo (toN (shrI .u64 (wrapF .u64 (Int.mul (aand .u64 x53362 (wrapF .u64 (Int.sub (.ofNat 0) x53362))) (285870213051353865 : Int))) 58)) none fun k53365 => (bb (Nat.blt k53365 64) (oo (nthL tab0 (0 + k53365 * 1)) none fun v53368 => (oo (toI .u8 v53368) none fun x53370 => (some (.int .i64 (wrapF .i64 x53370))))) none)))
def m60 (pu : PureF) (n : Nat) (args : List Value) : Option Value :=
  (ll args none fun a0 args => (ll args (oo (toI .u64 a0) none fun x53362 => (m60_ pu n x53362)) fun _ _ => none))
theorem r60 {call : CallF} (pu : PureF) (n : Nat) (hcall : call = callP tabs isP pu (inl pu)) {args : List Value} {v : Value} (hm : m60 pu n args = some v) (_ : ∀ x ∈ args, closed2 x = true) : args.length ≤ 14 ∧ Run tt call 1 c60_9 (Fr.made 14 args) (pureHeap tabs) (Fin tt 1 [.tmp 2] v) := by
  subst hcall
  unfold m60 at hm
  have hq := ll_uncons hm; clear hm; obtain ⟨a0, args_0, rfl, hm⟩ := hq
  have hq := ll_end hm; clear hm; obtain ⟨rfl, hm⟩ := hq
  have hq := oo_inv hm; clear hm; obtain ⟨x53362, h53363, hm⟩ := hq
  obtain rfl := toI_some h53363
  unfold m60_ at hm
  refine ⟨by simp, ?_⟩
  refine .same (F' := (fr 14 [(0, (zU x53362))])) (H' := (hp 1 [(oT tab0)])) (by kernel_rfl) (by kernel_rfl) ?_
  refine .then ?_
  refine .rK ?_
  refine .ghs (fr 14 [(0, (zU x53362))]) (hp 1 [(oT tab0)]) (.k0 [false] [] [0]) ?_
  refine .then ?_
  refine .then ?_
  refine .rK ?_
  refine .ghs (fr 14 [(0, (zU x53362)), (4, (zB (ieq x53362 (0 : Int))))]) (hp 1 [(oT tab0)]) (.k0 [false] [] [0, 4]) ?_
  have hq := bb_cases hm; clear hm; rcases hq with ⟨h53364, hm⟩ | ⟨h53364, hm⟩
  · refine .ifT (ieq x53362 (0 : Int)) (by kernel_rfl) h53364 ?_
    refine .then ?_
    refine .rK ?_
    refine .ghs (fr 14 [(2, (zI (64 : Int)))]) (hp 1 [(oT tab0)]) (.k0 [false] [] [2]) ?_
    refine .ret ?_
    exact fin_ret (zI (64 : Int)) (by kernel_rfl) (by kernel_rfl) hm
  · refine .ifF (ieq x53362 (0 : Int)) (by kernel_rfl) h53364 ?_
    refine .skip ?_
    refine .ghs (fr 14 [(0, (zU x53362))]) (hp 1 [(oT tab0)]) (.k0 [false] [] [0]) ?_
    refine .then ?_
    have hq := oo_inv hm; clear hm; obtain ⟨k53365, h53366, hm⟩ := hq
    replace hm := bb_inv hm; obtain ⟨h53367, hm⟩ := hm
    have hq := oo_inv hm; clear hm; obtain ⟨v53368, h53369, hm⟩ := hq
    have hq := oo_inv hm; clear hm; obtain ⟨x53370, h53371, hm⟩ := hq
    obtain rfl := toI_some h53371
    refine .reg (eC 5 (some ((zU (shrI .u64 (wrapF .u64 (Int.mul (aand .u64 x53362 (wrapF .u64 (Int.sub (.ofNat 0) x53362))) (285870213051353865 : Int))) 58)), (hp 1 [(oT tab0)]))) (show _ = some ((zU (Int.ofNat k53365)), _) from (by rw [toN_some h53366])) (eD (keep (hp 1 [(oT tab0)]) (bb (Nat.blt k53365 64) (some (.pointer (some ⟨0, (0 + k53365 * 1), none⟩))) none)) (keep_bb h53367) (eD (keep (hp 1 [(oT tab0)]) (nthL tab0 (0 + k53365 * 1))) (keep_eq h53369) (eE)))) ?_
    refine .ghs (fr 14 [(2, (zI (wrapF .i64 x53370)))]) (hp 1 [(oT tab0)]) (.k0 [false] [] [2]) ?_
    refine .ret ?_
    exact fin_ret (zI (wrapF .i64 x53370)) (by kernel_rfl) (by kernel_rfl) hm
/-- spadille/spadilleref07.in -/
def m61_0 (pu : PureF) (n : Nat) (b53379 : Bool) : Option Value :=
  (some (.bool b53379))
def m61_ (pu : PureF) (n : Nat) (x53372 : Int) (x53374 : Int) (x53376 : Int) : Option Value :=
  (bb (nt (ilt x53372 x53374)) (m61_0 pu n (nt (ilt x53376 x53372))) (m61_0 pu n false))
def m61 (pu : PureF) (n : Nat) (args : List Value) : Option Value :=
  (ll args none fun a0 args => (ll args none fun a1 args => (ll args none fun a2 args => (ll args (oo (toI .i64 a0) none fun x53372 => (oo (toI .i64 a1) none fun x53374 => (oo (toI .i64 a2) none fun x53376 => (m61_ pu n x53372 x53374 x53376)))) fun _ _ => none))))
theorem r61 {call : CallF} (pu : PureF) (n : Nat) (hcall : call = callP tabs isP pu (inl pu)) {args : List Value} {v : Value} (hm : m61 pu n args = some v) (_ : ∀ x ∈ args, closed2 x = true) : args.length ≤ 15 ∧ Run tt call 1 c61_3 (Fr.made 15 args) (pureHeap tabs) (Fin tt 1 [.tmp 6] v) := by
  subst hcall
  unfold m61 at hm
  have hq := ll_uncons hm; clear hm; obtain ⟨a0, args_0, rfl, hm⟩ := hq
  have hq := ll_uncons hm; clear hm; obtain ⟨a1, args_1, rfl, hm⟩ := hq
  have hq := ll_uncons hm; clear hm; obtain ⟨a2, args_2, rfl, hm⟩ := hq
  have hq := ll_end hm; clear hm; obtain ⟨rfl, hm⟩ := hq
  have hq := oo_inv hm; clear hm; obtain ⟨x53372, h53373, hm⟩ := hq
  obtain rfl := toI_some h53373
  have hq := oo_inv hm; clear hm; obtain ⟨x53374, h53375, hm⟩ := hq
  obtain rfl := toI_some h53375
  have hq := oo_inv hm; clear hm; obtain ⟨x53376, h53377, hm⟩ := hq
  obtain rfl := toI_some h53377
  unfold m61_ at hm
  refine ⟨by simp, ?_⟩
  refine .same (F' := (fr 15 [(0, (zI x53372)), (1, (zI x53374)), (2, (zI x53376))])) (H' := (hp 1 [(oT tab0)])) (by kernel_rfl) (by kernel_rfl) ?_
  refine .then ?_
  refine .rK ?_
  refine .ghs (fr 15 [(0, (zI x53372)), (1, (zI x53374)), (2, (zI x53376))]) (hp 1 [(oT tab0)]) (.k0 [false] [] [0, 1, 2]) ?_
  refine .join (v := v) (fun y : Bool => ((fr 15 [(6, (zB y))]), (hp 1 [(oT tab0)]))) (fun y => m61_0 pu n y) ?_ ?_
  · rintro b53379 hm
    unfold m61_0 at hm
    refine .ret ?_
    exact fin_ret (zB b53379) (by kernel_rfl) (by kernel_rfl) hm
  · skip
    have hq := bb_cases hm; clear hm; rcases hq with ⟨h53380, hm⟩ | ⟨h53380, hm⟩
    · skip
      refine .reg (eC 2 (some ((zB (nt (ilt x53372 x53374))), (hp 1 [(oT tab0)]))) (show _ = some ((zB true), _) from (by rw [h53380])) (eE)) ?_
      exact ⟨(nt (ilt x53376 x53372)), hm, (.k0 [false] [] [6])⟩
    · skip
      refine .reg (eC 2 (some ((zB (nt (ilt x53372 x53374))), (hp 1 [(oT tab0)]))) (show _ = some ((zB false), _) from (by rw [h53380])) (eE)) ?_
      exact ⟨false, hm, (.k0 [false] [] [6])⟩
/-- spadille/spadilleref07.has -/
def m62_0 (pu : PureF) (n : Nat) : Option Value :=
  (some (.bool false))
def b62_1 (pu : PureF) (n : Nat) (ih0 : Sl → Int → Int → Option Value) (s53397 : Sl) (z53398 : Int) (z53399 : Int) : Option Value :=
  (bb (ilt z53399 (Int.ofNat (Sl.n s53397))) (oo (toN z53399) none fun k53401 => (bb (an (Nat.blt k53401 (Sl.n s53397)) true) (oo (nthL (Sl.cs s53397) (k53401 * 1)) none fun v53404 => (oo (toI .i64 v53404) none fun x53406 => (bb (ieq x53406 z53398) (some (.bool true)) (ih0 s53397 z53398 (wrapF .i64 (Int.add (Int.ofNat k53401) (1 : Int))))))) none)) (m62_0 pu n))
def l62_1 (pu : PureF) (n : Nat) (w : Nat) : Sl → Int → Int → Option Value :=
  Nat.rec (motive := fun _ => Sl → Int → Int → Option Value) (fun _ _ _ => none) (fun _ ih0 => b62_1 pu n ih0) w
def m62_ (pu : PureF) (n : Nat) (s53381 : Sl) (x53383 : Int) : Option Value :=
  (l62_1 pu n n s53381 x53383 (0 : Int))
def m62 (pu : PureF) (n : Nat) (args : List Value) : Option Value :=
  (ll args none fun a0 args => (ll args none fun a1 args => (ll args (oo (toSl 1 a0) none fun s53381 => (oo (toI .i64 a1) none fun x53383 => (m62_ pu n s53381 x53383))) fun _ _ => none)))
theorem r62 {call : CallF} (pu : PureF) (n : Nat) (hcall : call = callP tabs isP pu (inl pu)) {args : List Value} {v : Value} (hm : m62 pu n args = some v) (_ : ∀ x ∈ args, closed2 x = true) : args.length ≤ 18 ∧ Run tt call 1 c62_20 (Fr.made 18 args) (pureHeap tabs) (Fin tt 1 [.tmp 4] v) := by
  subst hcall
  unfold m62 at hm
  have hq := ll_uncons hm; clear hm; obtain ⟨a0, args_0, rfl, hm⟩ := hq
  have hq := ll_uncons hm; clear hm; obtain ⟨a1, args_1, rfl, hm⟩ := hq
  have hq := ll_end hm; clear hm; obtain ⟨rfl, hm⟩ := hq
  have hq := oo_inv hm; clear hm; obtain ⟨s53381, h53382, hm⟩ := hq
  obtain rfl := toSl_some h53382
  have hq := oo_inv hm; clear hm; obtain ⟨x53383, h53384, hm⟩ := hq
  obtain rfl := toI_some h53384
  unfold m62_ at hm
  refine ⟨by simp, ?_⟩
  refine .same (F' := (fr 18 [(0, (Sl.v 1 s53381)), (1, (zI x53383))])) (H' := (hp 1 [(oT tab0)])) (by kernel_rfl) (by kernel_rfl) ?_
  refine .then ?_
  refine .rK ?_
  refine .ghs (fr 18 [(0, (Sl.v 1 s53381)), (1, (zI x53383))]) (hp 1 [(oT tab0)]) (.k0 [false] [] [0, 1]) ?_
  refine .join (v := v) (fun y : Unit => ((fr 18 []), (hp 1 [(oT tab0)]))) (fun y => m62_0 pu n) ?_ ?_
  · rintro _ hm
    unfold m62_0 at hm
    refine .then ?_
    refine .rK ?_
    refine .ghs (fr 18 [(4, (zB false))]) (hp 1 [(oT tab0)]) (.k0 [false] [] [4]) ?_
    refine .ret ?_
    exact fin_ret (zB false) (by kernel_rfl) (by kernel_rfl) hm
  · skip
    refine .then ?_
    refine .rK ?_
    refine .ghs (fr 18 [(0, (Sl.v 1 s53381)), (1, (zI x53383)), (5, (zI (0 : Int)))]) (hp 1 [(oT tab0)]) (.k0 [false] [] [0, 1, 5]) ?_
    refine .block ?_
    refine .loopM (v := v) (fun y : Sl × Int × Int => ((fr 18 [(0, (Sl.v 1 y.1)), (1, (zI y.2.1)), (5, (zI y.2.2))]), (hp 1 [(oT tab0)]))) (fun w y => l62_1 pu n w y.1 y.2.1 y.2.2) n ⟨(s53381, x53383, (0 : Int)), hm, (.k0 [false] [] [0, 1, 5])⟩ (fun _ => rfl) ?_
    rintro w0 ⟨s53397, z53398, z53399⟩ hm
    refine .then ?_
    refine .then ?_
    refine .rK ?_
    refine .ghs (fr 18 [(0, (Sl.v 1 s53397)), (1, (zI z53398)), (5, (zI z53399)), (9, (zB (ilt z53399 (Int.ofNat (Sl.n s53397)))))]) (hp 1 [(oT tab0)]) (.k0 [false] [] [0, 1, 5, 9]) ?_
    have hq := bb_cases hm; clear hm; rcases hq with ⟨h53400, hm⟩ | ⟨h53400, hm⟩
    · refine .ifT (ilt z53399 (Int.ofNat (Sl.n s53397))) (by kernel_rfl) h53400 ?_
      refine .skip ?_
      refine .ghs (fr 18 [(0, (Sl.v 1 s53397)), (1, (zI z53398)), (5, (zI z53399))]) (hp 1 [(oT tab0)]) (.k0 [false] [] [0, 1, 5]) ?_
      refine .then ?_
      refine .block ?_
      refine .then ?_
      have hq := oo_inv hm; clear hm; obtain ⟨k53401, h53402, hm⟩ := hq
      obtain rfl := toN_some h53402
      replace hm := bb_inv hm; obtain ⟨h53403, hm⟩ := hm
      have hq := oo_inv hm; clear hm; obtain ⟨v53404, h53405, hm⟩ := hq
      have hq := oo_inv hm; clear hm; obtain ⟨x53406, h53407, hm⟩ := hq
      obtain rfl := toI_some h53407
      refine .reg (eC 2 (keep (hp 1 [(oT tab0)]) (bb (an (Nat.blt k53401 (Sl.n s53397)) true) (some (fpV (k53401 * 1) (Sl.cs s53397))) none)) (keep_bb h53403) (eD (keep (hp 1 [(oT tab0)]) (nthL (Sl.cs s53397) (k53401 * 1))) (keep_eq h53405) (eE))) ?_
      refine .ghs (fr 18 [(0, (Sl.v 1 s53397)), (1, (zI z53398)), (5, (zI (Int.ofNat k53401))), (17, (zB (ieq x53406 z53398)))]) (hp 1 [(oT tab0)]) (.k0 [false] [] [0, 1, 5, 17]) ?_
      have hq := bb_cases hm; clear hm; rcases hq with ⟨h53408, hm⟩ | ⟨h53408, hm⟩
      · refine .ifT (ieq x53406 z53398) (by kernel_rfl) h53408 ?_
        refine .then ?_
        refine .rK ?_
        refine .ghs (fr 18 [(4, (zB true))]) (hp 1 [(oT tab0)]) (.k0 [false] [] [4]) ?_
        refine .ret ?_
        exact fin_ret (zB true) (by kernel_rfl) (by kernel_rfl) hm
      · refine .ifF (ieq x53406 z53398) (by kernel_rfl) h53408 ?_
        refine .skip ?_
        refine .ghs (fr 18 [(0, (Sl.v 1 s53397)), (1, (zI z53398)), (5, (zI (Int.ofNat k53401)))]) (hp 1 [(oT tab0)]) (.k0 [false] [] [0, 1, 5]) ?_
        refine .rK ?_
        exact ⟨(s53397, z53398, (wrapF .i64 (Int.add (Int.ofNat k53401) (1 : Int)))), hm, (.k0 [false] [] [0, 1, 5])⟩
    · refine .ifF (ilt z53399 (Int.ofNat (Sl.n s53397))) (by kernel_rfl) h53400 ?_
      refine .exit ?_
      exact ⟨(), hm, (.k0 [false] [] [])⟩
end
end Go.TabSM
/- The models, by fuel: MADE BY PROGRAM (wip/tools/mods2.py). -/
set_option maxRecDepth 100000
namespace Go.TabSM
open Go.Sp Go.TabS
noncomputable section
def L : Nat := 1000000
def disp (pu : PureF) : PureF := fun g args =>
  bb (Nat.beq g 3) (m3 pu L args) (bb (Nat.beq g 7) (m7 pu L args) (bb (Nat.beq g 9) (m9 pu L args) (bb (Nat.beq g 10) (m10 pu L args) (bb (Nat.beq g 11) (m11 pu L args) (bb (Nat.beq g 12) (m12 pu L args) (bb (Nat.beq g 13) (m13 pu L args) (bb (Nat.beq g 14) (m14 pu L args) (bb (Nat.beq g 15) (m15 pu L args) (bb (Nat.beq g 16) (m16 pu L args) (bb (Nat.beq g 38) (m38 pu L args) (bb (Nat.beq g 39) (m39 pu L args) (bb (Nat.beq g 40) (m40 pu L args) (bb (Nat.beq g 41) (m41 pu L args) (bb (Nat.beq g 42) (m42 pu L args) (bb (Nat.beq g 43) (m43 pu L args) (bb (Nat.beq g 44) (m44 pu L args) (bb (Nat.beq g 45) (m45 pu L args) (bb (Nat.beq g 46) (m46 pu L args) (bb (Nat.beq g 47) (m47 pu L args) (bb (Nat.beq g 49) (m49 pu L args) (bb (Nat.beq g 50) (m50 pu L args) (bb (Nat.beq g 51) (m51 pu L args) (bb (Nat.beq g 52) (m52 pu L args) (bb (Nat.beq g 53) (m53 pu L args) (bb (Nat.beq g 56) (m56 pu L args) (bb (Nat.beq g 60) (m60 pu L args) (bb (Nat.beq g 61) (m61 pu L args) (bb (Nat.beq g 62) (m62 pu L args) (bb (Nat.beq g 8) (ll args (some (.bool true)) fun _ _ => none) (none))))))))))))))))))))))))))))))
def puN : Nat → PureF := fun n => Nat.rec (motive := fun _ => PureF) (fun _ _ => none) (fun _ ih => disp ih) n
end
end Go.TabSM
/- The slim code is the program's. MADE BY PROGRAM (wip/sp/gen2.lean). -/
set_option maxRecDepth 100000
namespace Go.Proofs.YtchpnknhdgplgaaDoor.TabS
open Go Go.Sp Go.TabS
theorem b3 : (match Tryd.f3.body with | some c => rcOf c c3 | none => none) = some c3 := by kernel_rfl
theorem p3 : (match Tryd.f3.body with | some c => codeB [0] c | none => false) = true := by kernel_rfl
theorem fok3 : FnOk Tryd.prog [0] 3 ⟨81, c3, [.tmp 2]⟩ := FnOk.by Tryd.func3 b3 p3 Tryd.ntmps3 (by rw [Tryd.results3]) (by kernel_rfl)
theorem b7 : (match Tryd.f7.body with | some c => rcOf c c7 | none => none) = some c7 := by kernel_rfl
theorem p7 : (match Tryd.f7.body with | some c => codeB [0] c | none => false) = true := by kernel_rfl
theorem fok7 : FnOk Tryd.prog [0] 7 ⟨14, c7, [.tmp 4]⟩ := FnOk.by Tryd.func7 b7 p7 Tryd.ntmps7 (by rw [Tryd.results7]) (by kernel_rfl)
theorem b8 : (match Tryd.f8.body with | some c => rcOf c c8 | none => none) = some c8 := by kernel_rfl
theorem p8 : (match Tryd.f8.body with | some c => codeB [0] c | none => false) = true := by kernel_rfl
theorem fok8 : FnOk Tryd.prog [0] 8 ⟨235, c8, [.tmp 0]⟩ := FnOk.by Tryd.func8 b8 p8 Tryd.ntmps8 (by rw [Tryd.results8]) (by kernel_rfl)
theorem b9 : (match Tryd.f9.body with | some c => rcOf c c9 | none => none) = some c9 := by kernel_rfl
theorem p9 : (match Tryd.f9.body with | some c => codeB [0] c | none => false) = true := by kernel_rfl
theorem fok9 : FnOk Tryd.prog [0] 9 ⟨19, c9, [.tmp 2, .tmp 3]⟩ := FnOk.by Tryd.func9 b9 p9 Tryd.ntmps9 (by rw [Tryd.results9]) (by kernel_rfl)
theorem b10 : (match Tryd.f10.body with | some c => rcOf c c10 | none => none) = some c10 := by kernel_rfl
theorem p10 : (match Tryd.f10.body with | some c => codeB [0] c | none => false) = true := by kernel_rfl
theorem fok10 : FnOk Tryd.prog [0] 10 ⟨15, c10, [.tmp 2, .tmp 3]⟩ := FnOk.by Tryd.func10 b10 p10 Tryd.ntmps10 (by rw [Tryd.results10]) (by kernel_rfl)
theorem b11 : (match Tryd.f11.body with | some c => rcOf c c11 | none => none) = some c11 := by kernel_rfl
theorem p11 : (match Tryd.f11.body with | some c => codeB [0] c | none => false) = true := by kernel_rfl
theorem fok11 : FnOk Tryd.prog [0] 11 ⟨25, c11, [.tmp 2, .tmp 3]⟩ := FnOk.by Tryd.func11 b11 p11 Tryd.ntmps11 (by rw [Tryd.results11]) (by kernel_rfl)
theorem b12 : (match Tryd.f12.body with | some c => rcOf c c12 | none => none) = some c12 := by kernel_rfl
theorem p12 : (match Tryd.f12.body with | some c => codeB [0] c | none => false) = true := by kernel_rfl
theorem fok12 : FnOk Tryd.prog [0] 12 ⟨30, c12, [.tmp 2, .tmp 3]⟩ := FnOk.by Tryd.func12 b12 p12 Tryd.ntmps12 (by rw [Tryd.results12]) (by kernel_rfl)
theorem b13 : (match Tryd.f13.body with | some c => rcOf c c13 | none => none) = some c13 := by kernel_rfl
theorem p13 : (match Tryd.f13.body with | some c => codeB [0] c | none => false) = true := by kernel_rfl
theorem fok13 : FnOk Tryd.prog [0] 13 ⟨40, c13, [.tmp 2, .tmp 3]⟩ := FnOk.by Tryd.func13 b13 p13 Tryd.ntmps13 (by rw [Tryd.results13]) (by kernel_rfl)
theorem b14 : (match Tryd.f14.body with | some c => rcOf c c14 | none => none) = some c14 := by kernel_rfl
theorem p14 : (match Tryd.f14.body with | some c => codeB [0] c | none => false) = true := by kernel_rfl
theorem fok14 : FnOk Tryd.prog [0] 14 ⟨52, c14, [.tmp 2, .tmp 3]⟩ := FnOk.by Tryd.func14 b14 p14 Tryd.ntmps14 (by rw [Tryd.results14]) (by kernel_rfl)
theorem b15 : (match Tryd.f15.body with | some c => rcOf c c15 | none => none) = some c15 := by kernel_rfl
theorem p15 : (match Tryd.f15.body with | some c => codeB [0] c | none => false) = true := by kernel_rfl
theorem fok15 : FnOk Tryd.prog [0] 15 ⟨26, c15, [.tmp 4]⟩ := FnOk.by Tryd.func15 b15 p15 Tryd.ntmps15 (by rw [Tryd.results15]) (by kernel_rfl)
theorem b16 : (match Tryd.f16.body with | some c => rcOf c c16 | none => none) = some c16 := by kernel_rfl
theorem p16 : (match Tryd.f16.body with | some c => codeB [0] c | none => false) = true := by kernel_rfl
theorem fok16 : FnOk Tryd.prog [0] 16 ⟨27, c16, [.tmp 4]⟩ := FnOk.by Tryd.func16 b16 p16 Tryd.ntmps16 (by rw [Tryd.results16]) (by kernel_rfl)
theorem b17 : (match Tryd.f17.body with | some c => rcOf c c17 | none => none) = some c17 := by kernel_rfl
theorem p17 : (match Tryd.f17.body with | some c => codeB [0] c | none => false) = true := by kernel_rfl
theorem fok17 : FnOk Tryd.prog [0] 17 ⟨39, c17, [.tmp 2, .tmp 3]⟩ := FnOk.by Tryd.func17 b17 p17 Tryd.ntmps17 (by rw [Tryd.results17]) (by kernel_rfl)
theorem b19 : (match Tryd.f19.body with | some c => rcOf c c19 | none => none) = some c19 := by kernel_rfl
theorem p19 : (match Tryd.f19.body with | some c => codeB [0] c | none => false) = true := by kernel_rfl
theorem fok19 : FnOk Tryd.prog [0] 19 ⟨53, c19, [.tmp 2, .tmp 3]⟩ := FnOk.by Tryd.func19 b19 p19 Tryd.ntmps19 (by rw [Tryd.results19]) (by kernel_rfl)
theorem b21 : (match Tryd.f21.body with | some c => rcOf c c21 | none => none) = some c21 := by kernel_rfl
theorem p21 : (match Tryd.f21.body with | some c => codeB [0] c | none => false) = true := by kernel_rfl
theorem fok21 : FnOk Tryd.prog [0] 21 ⟨61, c21, [.tmp 2, .tmp 3]⟩ := FnOk.by Tryd.func21 b21 p21 Tryd.ntmps21 (by rw [Tryd.results21]) (by kernel_rfl)
theorem b24 : (match Tryd.f24.body with | some c => rcOf c c24 | none => none) = some c24 := by kernel_rfl
theorem p24 : (match Tryd.f24.body with | some c => codeB [0] c | none => false) = true := by kernel_rfl
theorem fok24 : FnOk Tryd.prog [0] 24 ⟨63, c24, [.tmp 4, .tmp 5]⟩ := FnOk.by Tryd.func24 b24 p24 Tryd.ntmps24 (by rw [Tryd.results24]) (by kernel_rfl)
theorem b25 : (match Tryd.f25.body with | some c => rcOf c c25 | none => none) = some c25 := by kernel_rfl
theorem p25 : (match Tryd.f25.body with | some c => codeB [0] c | none => false) = true := by kernel_rfl
theorem fok25 : FnOk Tryd.prog [0] 25 ⟨8, c25, [.tmp 2]⟩ := FnOk.by Tryd.func25 b25 p25 Tryd.ntmps25 (by rw [Tryd.results25]) (by kernel_rfl)
theorem b26 : (match Tryd.f26.body with | some c => rcOf c c26 | none => none) = some c26 := by kernel_rfl
theorem p26 : (match Tryd.f26.body with | some c => codeB [0] c | none => false) = true := by kernel_rfl
theorem fok26 : FnOk Tryd.prog [0] 26 ⟨11, c26, []⟩ := FnOk.by Tryd.func26 b26 p26 Tryd.ntmps26 (by rw [Tryd.results26]) (by kernel_rfl)
theorem b28 : (match Tryd.f28.body with | some c => rcOf c c28 | none => none) = some c28 := by kernel_rfl
theorem p28 : (match Tryd.f28.body with | some c => codeB [0] c | none => false) = true := by kernel_rfl
theorem fok28 : FnOk Tryd.prog [0] 28 ⟨3, c28, [.cell 0 24]⟩ := FnOk.by Tryd.func28 b28 p28 Tryd.ntmps28 (by rw [Tryd.results28]) (by kernel_rfl)
theorem b29 : (match Tryd.f29.body with | some c => rcOf c c29 | none => none) = some c29 := by kernel_rfl
theorem p29 : (match Tryd.f29.body with | some c => codeB [0] c | none => false) = true := by kernel_rfl
theorem fok29 : FnOk Tryd.prog [0] 29 ⟨4, c29, [.tmp 2]⟩ := FnOk.by Tryd.func29 b29 p29 Tryd.ntmps29 (by rw [Tryd.results29]) (by kernel_rfl)
theorem b30 : (match Tryd.f30.body with | some c => rcOf c c30 | none => none) = some c30 := by kernel_rfl
theorem p30 : (match Tryd.f30.body with | some c => codeB [0] c | none => false) = true := by kernel_rfl
theorem fok30 : FnOk Tryd.prog [0] 30 ⟨3, c30, [.cell 0 24]⟩ := FnOk.by Tryd.func30 b30 p30 Tryd.ntmps30 (by rw [Tryd.results30]) (by kernel_rfl)
theorem b31 : (match Tryd.f31.body with | some c => rcOf c c31 | none => none) = some c31 := by kernel_rfl
theorem p31 : (match Tryd.f31.body with | some c => codeB [0] c | none => false) = true := by kernel_rfl
theorem fok31 : FnOk Tryd.prog [0] 31 ⟨61, c31, [.tmp 4, .tmp 5, .tmp 6]⟩ := FnOk.by Tryd.func31 b31 p31 Tryd.ntmps31 (by rw [Tryd.results31]) (by kernel_rfl)
theorem b32 : (match Tryd.f32.body with | some c => rcOf c c32 | none => none) = some c32 := by kernel_rfl
theorem p32 : (match Tryd.f32.body with | some c => codeB [0] c | none => false) = true := by kernel_rfl
theorem fok32 : FnOk Tryd.prog [0] 32 ⟨63, c32, [.tmp 4, .tmp 5]⟩ := FnOk.by Tryd.func32 b32 p32 Tryd.ntmps32 (by rw [Tryd.results32]) (by kernel_rfl)
theorem b33 : (match Tryd.f33.body with | some c => rcOf c c33 | none => none) = some c33 := by kernel_rfl
theorem p33 : (match Tryd.f33.body with | some c => codeB [0] c | none => false) = true := by kernel_rfl
theorem fok33 : FnOk Tryd.prog [0] 33 ⟨83, c33, [.tmp 2, .tmp 3]⟩ := FnOk.by Tryd.func33 b33 p33 Tryd.ntmps33 (by rw [Tryd.results33]) (by kernel_rfl)
theorem b34 : (match Tryd.f34.body with | some c => rcOf c c34 | none => none) = some c34 := by kernel_rfl
theorem p34 : (match Tryd.f34.body with | some c => codeB [0] c | none => false) = true := by kernel_rfl
theorem fok34 : FnOk Tryd.prog [0] 34 ⟨32, c34, [.cell 4 24]⟩ := FnOk.by Tryd.func34 b34 p34 Tryd.ntmps34 (by rw [Tryd.results34]) (by kernel_rfl)
theorem b35 : (match Tryd.f35.body with | some c => rcOf c c35 | none => none) = some c35 := by kernel_rfl
theorem p35 : (match Tryd.f35.body with | some c => codeB [0] c | none => false) = true := by kernel_rfl
theorem fok35 : FnOk Tryd.prog [0] 35 ⟨4, c35, [.tmp 2]⟩ := FnOk.by Tryd.func35 b35 p35 Tryd.ntmps35 (by rw [Tryd.results35]) (by kernel_rfl)
end Go.Proofs.YtchpnknhdgplgaaDoor.TabS
/- The slim code is the program's. MADE BY PROGRAM (wip/sp/gen2.lean). -/
set_option maxRecDepth 100000
namespace Go.Proofs.YtchpnknhdgplgaaDoor.TabS
open Go Go.Sp Go.TabS
theorem b36 : (match Tryd.f36.body with | some c => rcOf c c36 | none => none) = some c36 := by kernel_rfl
theorem p36 : (match Tryd.f36.body with | some c => codeB [0] c | none => false) = true := by kernel_rfl
theorem fok36 : FnOk Tryd.prog [0] 36 ⟨26, c36, [.tmp 4]⟩ := FnOk.by Tryd.func36 b36 p36 Tryd.ntmps36 (by rw [Tryd.results36]) (by kernel_rfl)
theorem b37 : (match Tryd.f37.body with | some c => rcOf c c37 | none => none) = some c37 := by kernel_rfl
theorem p37 : (match Tryd.f37.body with | some c => codeB [0] c | none => false) = true := by kernel_rfl
theorem fok37 : FnOk Tryd.prog [0] 37 ⟨20, c37, [.tmp 4]⟩ := FnOk.by Tryd.func37 b37 p37 Tryd.ntmps37 (by rw [Tryd.results37]) (by kernel_rfl)
theorem b38 : (match Tryd.f38.body with | some c => rcOf c c38 | none => none) = some c38 := by kernel_rfl
theorem p38 : (match Tryd.f38.body with | some c => codeB [0] c | none => false) = true := by kernel_rfl
theorem fok38 : FnOk Tryd.prog [0] 38 ⟨17, c38, [.cell 2 73, .tmp 3]⟩ := FnOk.by Tryd.func38 b38 p38 Tryd.ntmps38 (by rw [Tryd.results38]) (by kernel_rfl)
theorem b39 : (match Tryd.f39.body with | some c => rcOf c c39 | none => none) = some c39 := by kernel_rfl
theorem p39 : (match Tryd.f39.body with | some c => codeB [0] c | none => false) = true := by kernel_rfl
theorem fok39 : FnOk Tryd.prog [0] 39 ⟨38, c39, [.tmp 4]⟩ := FnOk.by Tryd.func39 b39 p39 Tryd.ntmps39 (by rw [Tryd.results39]) (by kernel_rfl)
theorem b40 : (match Tryd.f40.body with | some c => rcOf c c40 | none => none) = some c40 := by kernel_rfl
theorem p40 : (match Tryd.f40.body with | some c => codeB [0] c | none => false) = true := by kernel_rfl
theorem fok40 : FnOk Tryd.prog [0] 40 ⟨46, c40, [.tmp 2]⟩ := FnOk.by Tryd.func40 b40 p40 Tryd.ntmps40 (by rw [Tryd.results40]) (by kernel_rfl)
theorem b41 : (match Tryd.f41.body with | some c => rcOf c c41 | none => none) = some c41 := by kernel_rfl
theorem p41 : (match Tryd.f41.body with | some c => codeB [0] c | none => false) = true := by kernel_rfl
theorem fok41 : FnOk Tryd.prog [0] 41 ⟨23, c41, [.tmp 6]⟩ := FnOk.by Tryd.func41 b41 p41 Tryd.ntmps41 (by rw [Tryd.results41]) (by kernel_rfl)
theorem b42 : (match Tryd.f42.body with | some c => rcOf c c42 | none => none) = some c42 := by kernel_rfl
theorem p42 : (match Tryd.f42.body with | some c => codeB [0] c | none => false) = true := by kernel_rfl
theorem fok42 : FnOk Tryd.prog [0] 42 ⟨33, c42, [.tmp 4]⟩ := FnOk.by Tryd.func42 b42 p42 Tryd.ntmps42 (by rw [Tryd.results42]) (by kernel_rfl)
theorem b43 : (match Tryd.f43.body with | some c => rcOf c c43 | none => none) = some c43 := by kernel_rfl
theorem p43 : (match Tryd.f43.body with | some c => codeB [0] c | none => false) = true := by kernel_rfl
theorem fok43 : FnOk Tryd.prog [0] 43 ⟨26, c43, [.tmp 4]⟩ := FnOk.by Tryd.func43 b43 p43 Tryd.ntmps43 (by rw [Tryd.results43]) (by kernel_rfl)
theorem b44 : (match Tryd.f44.body with | some c => rcOf c c44 | none => none) = some c44 := by kernel_rfl
theorem p44 : (match Tryd.f44.body with | some c => codeB [0] c | none => false) = true := by kernel_rfl
theorem fok44 : FnOk Tryd.prog [0] 44 ⟨20, c44, [.tmp 2]⟩ := FnOk.by Tryd.func44 b44 p44 Tryd.ntmps44 (by rw [Tryd.results44]) (by kernel_rfl)
theorem b45 : (match Tryd.f45.body with | some c => rcOf c c45 | none => none) = some c45 := by kernel_rfl
theorem p45 : (match Tryd.f45.body with | some c => codeB [0] c | none => false) = true := by kernel_rfl
theorem fok45 : FnOk Tryd.prog [0] 45 ⟨62, c45, [.tmp 6]⟩ := FnOk.by Tryd.func45 b45 p45 Tryd.ntmps45 (by rw [Tryd.results45]) (by kernel_rfl)
theorem b46 : (match Tryd.f46.body with | some c => rcOf c c46 | none => none) = some c46 := by kernel_rfl
theorem p46 : (match Tryd.f46.body with | some c => codeB [0] c | none => false) = true := by kernel_rfl
theorem fok46 : FnOk Tryd.prog [0] 46 ⟨25, c46, [.tmp 4]⟩ := FnOk.by Tryd.func46 b46 p46 Tryd.ntmps46 (by rw [Tryd.results46]) (by kernel_rfl)
theorem b47 : (match Tryd.f47.body with | some c => rcOf c c47 | none => none) = some c47 := by kernel_rfl
theorem p47 : (match Tryd.f47.body with | some c => codeB [0] c | none => false) = true := by kernel_rfl
theorem fok47 : FnOk Tryd.prog [0] 47 ⟨43, c47, [.tmp 4]⟩ := FnOk.by Tryd.func47 b47 p47 Tryd.ntmps47 (by rw [Tryd.results47]) (by kernel_rfl)
theorem b48 : (match Tryd.f48.body with | some c => rcOf c c48 | none => none) = some c48 := by kernel_rfl
theorem p48 : (match Tryd.f48.body with | some c => codeB [0] c | none => false) = true := by kernel_rfl
theorem fok48 : FnOk Tryd.prog [0] 48 ⟨61, c48, [.tmp 2]⟩ := FnOk.by Tryd.func48 b48 p48 Tryd.ntmps48 (by rw [Tryd.results48]) (by kernel_rfl)
theorem b49 : (match Tryd.f49.body with | some c => rcOf c c49 | none => none) = some c49 := by kernel_rfl
theorem p49 : (match Tryd.f49.body with | some c => codeB [0] c | none => false) = true := by kernel_rfl
theorem fok49 : FnOk Tryd.prog [0] 49 ⟨21, c49, [.tmp 4]⟩ := FnOk.by Tryd.func49 b49 p49 Tryd.ntmps49 (by rw [Tryd.results49]) (by kernel_rfl)
theorem b50 : (match Tryd.f50.body with | some c => rcOf c c50 | none => none) = some c50 := by kernel_rfl
theorem p50 : (match Tryd.f50.body with | some c => codeB [0] c | none => false) = true := by kernel_rfl
theorem fok50 : FnOk Tryd.prog [0] 50 ⟨46, c50, [.tmp 2]⟩ := FnOk.by Tryd.func50 b50 p50 Tryd.ntmps50 (by rw [Tryd.results50]) (by kernel_rfl)
theorem b51 : (match Tryd.f51.body with | some c => rcOf c c51 | none => none) = some c51 := by kernel_rfl
theorem p51 : (match Tryd.f51.body with | some c => codeB [0] c | none => false) = true := by kernel_rfl
theorem fok51 : FnOk Tryd.prog [0] 51 ⟨38, c51, [.cell 2 73]⟩ := FnOk.by Tryd.func51 b51 p51 Tryd.ntmps51 (by rw [Tryd.results51]) (by kernel_rfl)
theorem b52 : (match Tryd.f52.body with | some c => rcOf c c52 | none => none) = some c52 := by kernel_rfl
theorem p52 : (match Tryd.f52.body with | some c => codeB [0] c | none => false) = true := by kernel_rfl
theorem fok52 : FnOk Tryd.prog [0] 52 ⟨41, c52, [.cell 4 73]⟩ := FnOk.by Tryd.func52 b52 p52 Tryd.ntmps52 (by rw [Tryd.results52]) (by kernel_rfl)
theorem b53 : (match Tryd.f53.body with | some c => rcOf c c53 | none => none) = some c53 := by kernel_rfl
theorem p53 : (match Tryd.f53.body with | some c => codeB [0] c | none => false) = true := by kernel_rfl
theorem fok53 : FnOk Tryd.prog [0] 53 ⟨21, c53, [.cell 4 73]⟩ := FnOk.by Tryd.func53 b53 p53 Tryd.ntmps53 (by rw [Tryd.results53]) (by kernel_rfl)
theorem b54 : (match Tryd.f54.body with | some c => rcOf c c54 | none => none) = some c54 := by kernel_rfl
theorem p54 : (match Tryd.f54.body with | some c => codeB [0] c | none => false) = true := by kernel_rfl
theorem fok54 : FnOk Tryd.prog [0] 54 ⟨134, c54, []⟩ := FnOk.by Tryd.func54 b54 p54 Tryd.ntmps54 (by rw [Tryd.results54]) (by kernel_rfl)
theorem b55 : (match Tryd.f55.body with | some c => rcOf c c55 | none => none) = some c55 := by kernel_rfl
theorem p55 : (match Tryd.f55.body with | some c => codeB [0] c | none => false) = true := by kernel_rfl
theorem fok55 : FnOk Tryd.prog [0] 55 ⟨8, c55, [.tmp 2]⟩ := FnOk.by Tryd.func55 b55 p55 Tryd.ntmps55 (by rw [Tryd.results55]) (by kernel_rfl)
theorem b56 : (match Tryd.f56.body with | some c => rcOf c c56 | none => none) = some c56 := by kernel_rfl
theorem p56 : (match Tryd.f56.body with | some c => codeB [0] c | none => false) = true := by kernel_rfl
theorem fok56 : FnOk Tryd.prog [0] 56 ⟨15, c56, [.tmp 6]⟩ := FnOk.by Tryd.func56 b56 p56 Tryd.ntmps56 (by rw [Tryd.results56]) (by kernel_rfl)
theorem b57 : (match Tryd.f57.body with | some c => rcOf c c57 | none => none) = some c57 := by kernel_rfl
theorem p57 : (match Tryd.f57.body with | some c => codeB [0] c | none => false) = true := by kernel_rfl
theorem fok57 : FnOk Tryd.prog [0] 57 ⟨8, c57, [.tmp 2]⟩ := FnOk.by Tryd.func57 b57 p57 Tryd.ntmps57 (by rw [Tryd.results57]) (by kernel_rfl)
theorem b58 : (match Tryd.f58.body with | some c => rcOf c c58 | none => none) = some c58 := by kernel_rfl
theorem p58 : (match Tryd.f58.body with | some c => codeB [0] c | none => false) = true := by kernel_rfl
theorem fok58 : FnOk Tryd.prog [0] 58 ⟨21, c58, [.tmp 2]⟩ := FnOk.by Tryd.func58 b58 p58 Tryd.ntmps58 (by rw [Tryd.results58]) (by kernel_rfl)
theorem b59 : (match Tryd.f59.body with | some c => rcOf c c59 | none => none) = some c59 := by kernel_rfl
theorem p59 : (match Tryd.f59.body with | some c => codeB [0] c | none => false) = true := by kernel_rfl
theorem fok59 : FnOk Tryd.prog [0] 59 ⟨9, c59, [.tmp 2]⟩ := FnOk.by Tryd.func59 b59 p59 Tryd.ntmps59 (by rw [Tryd.results59]) (by kernel_rfl)
theorem b60 : (match Tryd.f60.body with | some c => rcOf c c60 | none => none) = some c60 := by kernel_rfl
theorem p60 : (match Tryd.f60.body with | some c => codeB [0] c | none => false) = true := by kernel_rfl
theorem fok60 : FnOk Tryd.prog [0] 60 ⟨14, c60, [.tmp 2]⟩ := FnOk.by Tryd.func60 b60 p60 Tryd.ntmps60 (by rw [Tryd.results60]) (by kernel_rfl)
end Go.Proofs.YtchpnknhdgplgaaDoor.TabS
/- The slim code is the program's. MADE BY PROGRAM (wip/sp/gen2.lean). -/
set_option maxRecDepth 100000
namespace Go.Proofs.YtchpnknhdgplgaaDoor.TabS
open Go Go.Sp Go.TabS
theorem b61 : (match Tryd.f61.body with | some c => rcOf c c61 | none => none) = some c61 := by kernel_rfl
theorem p61 : (match Tryd.f61.body with | some c => codeB [0] c | none => false) = true := by kernel_rfl
theorem fok61 : FnOk Tryd.prog [0] 61 ⟨15, c61, [.tmp 6]⟩ := FnOk.by Tryd.func61 b61 p61 Tryd.ntmps61 (by rw [Tryd.results61]) (by kernel_rfl)
theorem b62 : (match Tryd.f62.body with | some c => rcOf c c62 | none => none) = some c62 := by kernel_rfl
theorem p62 : (match Tryd.f62.body with | some c => codeB [0] c | none => false) = true := by kernel_rfl
theorem fok62 : FnOk Tryd.prog [0] 62 ⟨18, c62, [.tmp 4]⟩ := FnOk.by Tryd.func62 b62 p62 Tryd.ntmps62 (by rw [Tryd.results62]) (by kernel_rfl)
theorem b63 : (match Tryd.f63.body with | some c => rcOf c c63 | none => none) = some c63 := by kernel_rfl
theorem p63 : (match Tryd.f63.body with | some c => codeB [0] c | none => false) = true := by kernel_rfl
theorem fok63 : FnOk Tryd.prog [0] 63 ⟨49, c63, []⟩ := FnOk.by Tryd.func63 b63 p63 Tryd.ntmps63 (by rw [Tryd.results63]) (by kernel_rfl)
theorem b64 : (match Tryd.f64.body with | some c => rcOf c c64 | none => none) = some c64 := by kernel_rfl
theorem p64 : (match Tryd.f64.body with | some c => codeB [0] c | none => false) = true := by kernel_rfl
theorem fok64 : FnOk Tryd.prog [0] 64 ⟨56, c64, []⟩ := FnOk.by Tryd.func64 b64 p64 Tryd.ntmps64 (by rw [Tryd.results64]) (by kernel_rfl)
theorem b65 : (match Tryd.f65.body with | some c => rcOf c c65 | none => none) = some c65 := by kernel_rfl
theorem p65 : (match Tryd.f65.body with | some c => codeB [0] c | none => false) = true := by kernel_rfl
theorem fok65 : FnOk Tryd.prog [0] 65 ⟨65, c65, []⟩ := FnOk.by Tryd.func65 b65 p65 Tryd.ntmps65 (by rw [Tryd.results65]) (by kernel_rfl)
theorem b66 : (match Tryd.f66.body with | some c => rcOf c c66 | none => none) = some c66 := by kernel_rfl
theorem p66 : (match Tryd.f66.body with | some c => codeB [0] c | none => false) = true := by kernel_rfl
theorem fok66 : FnOk Tryd.prog [0] 66 ⟨57, c66, [.tmp 6, .tmp 7]⟩ := FnOk.by Tryd.func66 b66 p66 Tryd.ntmps66 (by rw [Tryd.results66]) (by kernel_rfl)
theorem b67 : (match Tryd.f67.body with | some c => rcOf c c67 | none => none) = some c67 := by kernel_rfl
theorem p67 : (match Tryd.f67.body with | some c => codeB [0] c | none => false) = true := by kernel_rfl
theorem fok67 : FnOk Tryd.prog [0] 67 ⟨32, c67, []⟩ := FnOk.by Tryd.func67 b67 p67 Tryd.ntmps67 (by rw [Tryd.results67]) (by kernel_rfl)
theorem b68 : (match Tryd.f68.body with | some c => rcOf c c68 | none => none) = some c68 := by kernel_rfl
theorem p68 : (match Tryd.f68.body with | some c => codeB [0] c | none => false) = true := by kernel_rfl
theorem fok68 : FnOk Tryd.prog [0] 68 ⟨133, c68, [.tmp 6]⟩ := FnOk.by Tryd.func68 b68 p68 Tryd.ntmps68 (by rw [Tryd.results68]) (by kernel_rfl)
theorem b69 : (match Tryd.f69.body with | some c => rcOf c c69 | none => none) = some c69 := by kernel_rfl
theorem p69 : (match Tryd.f69.body with | some c => codeB [0] c | none => false) = true := by kernel_rfl
theorem fok69 : FnOk Tryd.prog [0] 69 ⟨17, c69, [.tmp 4]⟩ := FnOk.by Tryd.func69 b69 p69 Tryd.ntmps69 (by rw [Tryd.results69]) (by kernel_rfl)
theorem b70 : (match Tryd.f70.body with | some c => rcOf c c70 | none => none) = some c70 := by kernel_rfl
theorem p70 : (match Tryd.f70.body with | some c => codeB [0] c | none => false) = true := by kernel_rfl
theorem fok70 : FnOk Tryd.prog [0] 70 ⟨84, c70, [.tmp 8]⟩ := FnOk.by Tryd.func70 b70 p70 Tryd.ntmps70 (by rw [Tryd.results70]) (by kernel_rfl)
theorem b71 : (match Tryd.f71.body with | some c => rcOf c c71 | none => none) = some c71 := by kernel_rfl
theorem p71 : (match Tryd.f71.body with | some c => codeB [0] c | none => false) = true := by kernel_rfl
theorem fok71 : FnOk Tryd.prog [0] 71 ⟨168, c71, [.tmp 8, .tmp 9]⟩ := FnOk.by Tryd.func71 b71 p71 Tryd.ntmps71 (by rw [Tryd.results71]) (by kernel_rfl)
theorem b72 : (match Tryd.f72.body with | some c => rcOf c c72 | none => none) = some c72 := by kernel_rfl
theorem p72 : (match Tryd.f72.body with | some c => codeB [0] c | none => false) = true := by kernel_rfl
theorem fok72 : FnOk Tryd.prog [0] 72 ⟨19, c72, [.tmp 2]⟩ := FnOk.by Tryd.func72 b72 p72 Tryd.ntmps72 (by rw [Tryd.results72]) (by kernel_rfl)
theorem b73 : (match Tryd.f73.body with | some c => rcOf c c73 | none => none) = some c73 := by kernel_rfl
theorem p73 : (match Tryd.f73.body with | some c => codeB [0] c | none => false) = true := by kernel_rfl
theorem fok73 : FnOk Tryd.prog [0] 73 ⟨25, c73, [.tmp 2]⟩ := FnOk.by Tryd.func73 b73 p73 Tryd.ntmps73 (by rw [Tryd.results73]) (by kernel_rfl)
theorem b74 : (match Tryd.f74.body with | some c => rcOf c c74 | none => none) = some c74 := by kernel_rfl
theorem p74 : (match Tryd.f74.body with | some c => codeB [0] c | none => false) = true := by kernel_rfl
theorem fok74 : FnOk Tryd.prog [0] 74 ⟨21, c74, [.tmp 2]⟩ := FnOk.by Tryd.func74 b74 p74 Tryd.ntmps74 (by rw [Tryd.results74]) (by kernel_rfl)
theorem b75 : (match Tryd.f75.body with | some c => rcOf c c75 | none => none) = some c75 := by kernel_rfl
theorem p75 : (match Tryd.f75.body with | some c => codeB [0] c | none => false) = true := by kernel_rfl
theorem fok75 : FnOk Tryd.prog [0] 75 ⟨35, c75, [.tmp 2]⟩ := FnOk.by Tryd.func75 b75 p75 Tryd.ntmps75 (by rw [Tryd.results75]) (by kernel_rfl)
theorem b76 : (match Tryd.f76.body with | some c => rcOf c c76 | none => none) = some c76 := by kernel_rfl
theorem p76 : (match Tryd.f76.body with | some c => codeB [0] c | none => false) = true := by kernel_rfl
theorem fok76 : FnOk Tryd.prog [0] 76 ⟨76, c76, []⟩ := FnOk.by Tryd.func76 b76 p76 Tryd.ntmps76 (by rw [Tryd.results76]) (by kernel_rfl)
theorem b77 : (match Tryd.f77.body with | some c => rcOf c c77 | none => none) = some c77 := by kernel_rfl
theorem p77 : (match Tryd.f77.body with | some c => codeB [0] c | none => false) = true := by kernel_rfl
theorem fok77 : FnOk Tryd.prog [0] 77 ⟨7, c77, [.tmp 2]⟩ := FnOk.by Tryd.func77 b77 p77 Tryd.ntmps77 (by rw [Tryd.results77]) (by kernel_rfl)
theorem b78 : (match Tryd.f78.body with | some c => rcOf c c78 | none => none) = some c78 := by kernel_rfl
theorem p78 : (match Tryd.f78.body with | some c => codeB [0] c | none => false) = true := by kernel_rfl
theorem fok78 : FnOk Tryd.prog [0] 78 ⟨33, c78, [.tmp 2]⟩ := FnOk.by Tryd.func78 b78 p78 Tryd.ntmps78 (by rw [Tryd.results78]) (by kernel_rfl)
theorem b79 : (match Tryd.f79.body with | some c => rcOf c c79 | none => none) = some c79 := by kernel_rfl
theorem p79 : (match Tryd.f79.body with | some c => codeB [0] c | none => false) = true := by kernel_rfl
theorem fok79 : FnOk Tryd.prog [0] 79 ⟨15, c79, [.tmp 6]⟩ := FnOk.by Tryd.func79 b79 p79 Tryd.ntmps79 (by rw [Tryd.results79]) (by kernel_rfl)
theorem b80 : (match Tryd.f80.body with | some c => rcOf c c80 | none => none) = some c80 := by kernel_rfl
theorem p80 : (match Tryd.f80.body with | some c => codeB [0] c | none => false) = true := by kernel_rfl
theorem fok80 : FnOk Tryd.prog [0] 80 ⟨36, c80, [.tmp 10]⟩ := FnOk.by Tryd.func80 b80 p80 Tryd.ntmps80 (by rw [Tryd.results80]) (by kernel_rfl)
theorem b81 : (match Tryd.f81.body with | some c => rcOf c c81 | none => none) = some c81 := by kernel_rfl
theorem p81 : (match Tryd.f81.body with | some c => codeB [0] c | none => false) = true := by kernel_rfl
theorem fok81 : FnOk Tryd.prog [0] 81 ⟨6, c81, [.tmp 2]⟩ := FnOk.by Tryd.func81 b81 p81 Tryd.ntmps81 (by rw [Tryd.results81]) (by kernel_rfl)
theorem b82 : (match Tryd.f82.body with | some c => rcOf c c82 | none => none) = some c82 := by kernel_rfl
theorem p82 : (match Tryd.f82.body with | some c => codeB [0] c | none => false) = true := by kernel_rfl
theorem fok82 : FnOk Tryd.prog [0] 82 ⟨28, c82, [.tmp 8, .tmp 9]⟩ := FnOk.by Tryd.func82 b82 p82 Tryd.ntmps82 (by rw [Tryd.results82]) (by kernel_rfl)
end Go.Proofs.YtchpnknhdgplgaaDoor.TabS
/- All the slim code is the program's, and the types are. MADE BY PROGRAM (wip/sp/gen2.lean). -/
set_option maxRecDepth 100000
namespace Go.Proofs.YtchpnknhdgplgaaDoor.TabS
open Go Go.Sp Go.TabS
theorem tok3 : TyOk Tryd.prog 3 ti3 := TyOk.by Tryd.underlying3 (inf := Tryd.t3) (by kernel_rfl) (by kernel_rfl) (by kernel_rfl) (by kernel_rfl) (by kernel_rfl) (fun h => by cases h)
theorem tok4 : TyOk Tryd.prog 4 ti4 := TyOk.by Tryd.underlying4 (inf := Tryd.t4) (by kernel_rfl) (by kernel_rfl) (by kernel_rfl) (by kernel_rfl) (by kernel_rfl) (fun h => by cases h)
theorem tok5 : TyOk Tryd.prog 5 ti5 := TyOk.by Tryd.underlying5 (inf := Tryd.t5) (by kernel_rfl) (by kernel_rfl) (by kernel_rfl) (by kernel_rfl) (by kernel_rfl) (fun h => by cases h)
theorem tok9 : TyOk Tryd.prog 9 ti9 := TyOk.by Tryd.underlying9 (inf := Tryd.t9) (by kernel_rfl) (by kernel_rfl) (by kernel_rfl) (by kernel_rfl) (by kernel_rfl) (fun h => by cases h)
theorem tok22 : TyOk Tryd.prog 22 ti22 := TyOk.by Tryd.underlying22 (inf := Tryd.t22) (by kernel_rfl) (by kernel_rfl) (by kernel_rfl) (by kernel_rfl) (by kernel_rfl) (fun h => by cases h)
theorem tok24 : TyOk Tryd.prog 24 ti24 := TyOk.by Tryd.underlying24 (inf := Tryd.t24) (by kernel_rfl) (by kernel_rfl) (by kernel_rfl) (by kernel_rfl) (by kernel_rfl) (fun h => by cases h)
theorem tok27 : TyOk Tryd.prog 27 ti27 := TyOk.by Tryd.underlying27 (inf := Tryd.t27) (by kernel_rfl) (by kernel_rfl) (by kernel_rfl) (by kernel_rfl) (by kernel_rfl) (fun h => by cases h)
theorem tok28 : TyOk Tryd.prog 28 ti28 := TyOk.by Tryd.underlying28 (inf := Tryd.t28) (by kernel_rfl) (by kernel_rfl) (by kernel_rfl) (by kernel_rfl) (by kernel_rfl) (fun h => by cases h)
theorem tok32 : TyOk Tryd.prog 32 ti32 := TyOk.by Tryd.underlying32 (inf := Tryd.t32) (by kernel_rfl) (by kernel_rfl) (by kernel_rfl) (by kernel_rfl) (by kernel_rfl) (fun h => by cases h)
theorem tok36 : TyOk Tryd.prog 36 ti36 := TyOk.by Tryd.underlying36 (inf := Tryd.t36) (by kernel_rfl) (by kernel_rfl) (by kernel_rfl) (by kernel_rfl) (by kernel_rfl) (fun h => by cases h)
theorem tok50 : TyOk Tryd.prog 50 ti50 := TyOk.by Tryd.underlying50 (inf := Tryd.t50) (by kernel_rfl) (by kernel_rfl) (by kernel_rfl) (by kernel_rfl) (by kernel_rfl) (fun _ => ⟨_, rfl, Fl.ok (d := 8) (⟨by kernel_rfl, .inr (.inr (.inr (.inl ⟨2, 3, [(.int .i64 0)], Tryd.underlying50, ⟨by kernel_rfl, .inl ⟨⟨_, Tryd.underlying3⟩, _, _, rfl⟩⟩, by kernel_rfl⟩)))⟩) (by decide) ⟨_, Tryd.underlying50, rfl⟩ (by kernel_rfl)⟩)
theorem tok54 : TyOk Tryd.prog 54 ti54 := TyOk.by Tryd.underlying54 (inf := Tryd.t54) (by kernel_rfl) (by kernel_rfl) (by kernel_rfl) (by kernel_rfl) (by kernel_rfl) (fun h => by cases h)
theorem tok70 : TyOk Tryd.prog 70 ti70 := TyOk.by Tryd.underlying70 (inf := Tryd.t70) (by kernel_rfl) (by kernel_rfl) (by kernel_rfl) (by kernel_rfl) (by kernel_rfl) (fun h => by cases h)
theorem tok71 : TyOk Tryd.prog 71 ti71 := TyOk.by Tryd.underlying71 (inf := Tryd.t71) (by kernel_rfl) (by kernel_rfl) (by kernel_rfl) (by kernel_rfl) (by kernel_rfl) (fun _ => ⟨_, rfl, Fl.ok (d := 8) (⟨by kernel_rfl, .inr (.inr (.inr (.inl ⟨2, 70, [(.int .u64 0)], Tryd.underlying71, ⟨by kernel_rfl, .inl ⟨⟨_, Tryd.underlying70⟩, _, _, rfl⟩⟩, by kernel_rfl⟩)))⟩) (by decide) ⟨_, Tryd.underlying71, rfl⟩ (by kernel_rfl)⟩)
theorem tok73 : TyOk Tryd.prog 73 ti73 := TyOk.by Tryd.underlying73 (inf := Tryd.t73) (by kernel_rfl) (by kernel_rfl) (by kernel_rfl) (by kernel_rfl) (by kernel_rfl) (fun _ => ⟨_, rfl, Fl.ok (d := 8) (⟨by kernel_rfl, .inr (.inr (.inr (.inl ⟨7, 71, [(.int .u64 0), (.int .u64 0)], Tryd.underlying73, ⟨by kernel_rfl, .inr (.inr (.inr (.inl ⟨2, 70, [(.int .u64 0)], Tryd.underlying71, ⟨by kernel_rfl, .inl ⟨⟨_, Tryd.underlying70⟩, _, _, rfl⟩⟩, by kernel_rfl⟩)))⟩, by kernel_rfl⟩)))⟩) (by decide) ⟨_, Tryd.underlying73, rfl⟩ (by kernel_rfl)⟩)
theorem tok89 : TyOk Tryd.prog 89 ti89 := TyOk.by Tryd.underlying89 (inf := Tryd.t89) (by kernel_rfl) (by kernel_rfl) (by kernel_rfl) (by kernel_rfl) (by kernel_rfl) (fun _ => ⟨_, rfl, Fl.ok (d := 8) (⟨by kernel_rfl, .inr (.inr (.inr (.inl ⟨7, 3, [(.int .i64 0)], Tryd.underlying89, ⟨by kernel_rfl, .inl ⟨⟨_, Tryd.underlying3⟩, _, _, rfl⟩⟩, by kernel_rfl⟩)))⟩) (by decide) ⟨_, Tryd.underlying89, rfl⟩ (by kernel_rfl)⟩)
theorem tok93 : TyOk Tryd.prog 93 ti93 := TyOk.by Tryd.underlying93 (inf := Tryd.t93) (by kernel_rfl) (by kernel_rfl) (by kernel_rfl) (by kernel_rfl) (by kernel_rfl) (fun h => by cases h)
theorem tok95 : TyOk Tryd.prog 95 ti95 := TyOk.by Tryd.underlying95 (inf := Tryd.t95) (by kernel_rfl) (by kernel_rfl) (by kernel_rfl) (by kernel_rfl) (by kernel_rfl) (fun h => by cases h)
theorem tok96 : TyOk Tryd.prog 96 ti96 := TyOk.by Tryd.underlying96 (inf := Tryd.t96) (by kernel_rfl) (by kernel_rfl) (by kernel_rfl) (by kernel_rfl) (by kernel_rfl) (fun h => by cases h)
theorem tok100 : TyOk Tryd.prog 100 ti100 := TyOk.by Tryd.underlying100 (inf := Tryd.t100) (by kernel_rfl) (by kernel_rfl) (by kernel_rfl) (by kernel_rfl) (by kernel_rfl) (fun h => by cases h)
theorem tok109 : TyOk Tryd.prog 109 ti109 := TyOk.by Tryd.underlying109 (inf := Tryd.t109) (by kernel_rfl) (by kernel_rfl) (by kernel_rfl) (by kernel_rfl) (by kernel_rfl) (fun h => by cases h)
theorem tok110 : TyOk Tryd.prog 110 ti110 := TyOk.by Tryd.underlying110 (inf := Tryd.t110) (by kernel_rfl) (by kernel_rfl) (by kernel_rfl) (by kernel_rfl) (by kernel_rfl) (fun _ => ⟨_, rfl, Fl.ok (d := 8) (⟨by kernel_rfl, .inr (.inr (.inr (.inl ⟨64, 5, [(.int .u8 0)], Tryd.underlying110, ⟨by kernel_rfl, .inl ⟨⟨_, Tryd.underlying5⟩, _, _, rfl⟩⟩, by kernel_rfl⟩)))⟩) (by decide) ⟨_, Tryd.underlying110, rfl⟩ (by kernel_rfl)⟩)
theorem tok111 : TyOk Tryd.prog 111 ti111 := TyOk.by Tryd.underlying111 (inf := Tryd.t111) (by kernel_rfl) (by kernel_rfl) (by kernel_rfl) (by kernel_rfl) (by kernel_rfl) (fun h => by cases h)
theorem tok115 : TyOk Tryd.prog 115 ti115 := TyOk.by Tryd.underlying115 (inf := Tryd.t115) (by kernel_rfl) (by kernel_rfl) (by kernel_rfl) (by kernel_rfl) (by kernel_rfl) (fun h => by cases h)
theorem ttOk : TOk Tryd.prog tt := TOk.of_all (t := ttTr) ⟨trivial, ⟨trivial, ⟨tok3, ⟨trivial, ⟨trivial, ⟨trivial, trivial, ⟨tok95, trivial, trivial⟩⟩, ⟨trivial, trivial, ⟨tok111, trivial, trivial⟩⟩⟩, ⟨trivial, ⟨trivial, ⟨tok71, trivial, trivial⟩, trivial⟩, trivial⟩⟩, ⟨trivial, ⟨trivial, trivial, ⟨trivial, trivial, ⟨tok115, trivial, trivial⟩⟩⟩, ⟨tok27, trivial, trivial⟩⟩⟩, ⟨tok5, ⟨tok9, trivial, ⟨trivial, ⟨trivial, ⟨tok73, trivial, trivial⟩, trivial⟩, ⟨trivial, ⟨tok89, trivial, trivial⟩, trivial⟩⟩⟩, ⟨trivial, trivial, ⟨trivial, ⟨trivial, trivial, ⟨tok109, trivial, trivial⟩⟩, ⟨trivial, ⟨tok93, trivial, trivial⟩, trivial⟩⟩⟩⟩⟩, ⟨trivial, ⟨tok4, ⟨trivial, ⟨trivial, ⟨tok32, trivial, ⟨tok96, trivial, trivial⟩⟩, trivial⟩, ⟨tok24, trivial, trivial⟩⟩, ⟨trivial, ⟨trivial, ⟨tok36, trivial, ⟨tok100, trivial, trivial⟩⟩, trivial⟩, ⟨tok28, trivial, trivial⟩⟩⟩, ⟨trivial, ⟨trivial, ⟨trivial, trivial, ⟨tok50, trivial, trivial⟩⟩, trivial⟩, ⟨trivial, ⟨tok22, ⟨trivial, ⟨tok70, trivial, trivial⟩, trivial⟩, ⟨tok54, trivial, trivial⟩⟩, ⟨trivial, ⟨trivial, trivial, ⟨tok110, trivial, trivial⟩⟩, trivial⟩⟩⟩⟩⟩
theorem fnAll : fnTr.All (FnOk Tryd.prog [0]) := ⟨trivial, ⟨trivial, ⟨fok3, ⟨fok7, ⟨fok15, ⟨fok31, ⟨fok63, trivial, trivial⟩, trivial⟩, ⟨fok47, ⟨fok79, trivial, trivial⟩, trivial⟩⟩, ⟨trivial, ⟨fok39, ⟨fok71, trivial, trivial⟩, trivial⟩, ⟨fok55, trivial, trivial⟩⟩⟩, ⟨fok11, ⟨fok19, ⟨fok35, ⟨fok67, trivial, trivial⟩, trivial⟩, ⟨fok51, trivial, trivial⟩⟩, ⟨trivial, ⟨fok43, ⟨fok75, trivial, trivial⟩, trivial⟩, ⟨fok59, trivial, trivial⟩⟩⟩⟩, ⟨trivial, ⟨fok9, ⟨fok17, ⟨fok33, ⟨fok65, trivial, trivial⟩, trivial⟩, ⟨fok49, ⟨fok81, trivial, trivial⟩, trivial⟩⟩, ⟨fok25, ⟨fok41, ⟨fok73, trivial, trivial⟩, trivial⟩, ⟨fok57, trivial, trivial⟩⟩⟩, ⟨fok13, ⟨fok21, ⟨fok37, ⟨fok69, trivial, trivial⟩, trivial⟩, ⟨fok53, trivial, trivial⟩⟩, ⟨fok29, ⟨fok45, ⟨fok77, trivial, trivial⟩, trivial⟩, ⟨fok61, trivial, trivial⟩⟩⟩⟩⟩, ⟨trivial, ⟨trivial, ⟨fok8, ⟨fok16, ⟨fok32, ⟨fok64, trivial, trivial⟩, trivial⟩, ⟨fok48, ⟨fok80, trivial, trivial⟩, trivial⟩⟩, ⟨fok24, ⟨fok40, ⟨fok72, trivial, trivial⟩, trivial⟩, ⟨fok56, trivial, trivial⟩⟩⟩, ⟨fok12, ⟨trivial, ⟨fok36, ⟨fok68, trivial, trivial⟩, trivial⟩, ⟨fok52, trivial, trivial⟩⟩, ⟨fok28, ⟨fok44, ⟨fok76, trivial, trivial⟩, trivial⟩, ⟨fok60, trivial, trivial⟩⟩⟩⟩, ⟨trivial, ⟨fok10, ⟨trivial, ⟨fok34, ⟨fok66, trivial, trivial⟩, trivial⟩, ⟨fok50, ⟨fok82, trivial, trivial⟩, trivial⟩⟩, ⟨fok26, ⟨fok42, ⟨fok74, trivial, trivial⟩, trivial⟩, ⟨fok58, trivial, trivial⟩⟩⟩, ⟨fok14, ⟨trivial, ⟨fok38, ⟨fok70, trivial, trivial⟩, trivial⟩, ⟨fok54, trivial, trivial⟩⟩, ⟨fok30, ⟨fok46, ⟨fok78, trivial, trivial⟩, trivial⟩, ⟨fok62, trivial, trivial⟩⟩⟩⟩⟩⟩
theorem fnsOk (f : FuncId) (r : RFn) (h : fns f = some r) : FnOk Tryd.prog [0] f r := fnAll.get h
end Go.Proofs.YtchpnknhdgplgaaDoor.TabS
/-
  DERIVED: THE SHELF's CONTRACTS AT THIS DUMP, IN PLAIN WORDS (tools/lay-plain.mjs out of 'TrydShelf.lean', which tools/lay-shelf.mjs wrote): THE SAME DECLARATIONS UNDER THE SAME NAMES: 'import', 'namespace', 'open', 'def', 'theorem' AND NOTHING ELSE: no command of the shelf's: FOR A HAND-IN. Each laying: the table of numbers ('.._ren') and one theorem, a field a fact of the dump's own or the kernel's comparison; each contract: ONE APPLICATION.
-/
namespace Go.Proofs
open Go.Shelf
def Tryd.lays189_ren : Go.Shelf.Ren := ⟨fun | 189 => 26 | 125 => 55 | 257 => 54 | 128 => 72 | 129 => 73 | 294 => 63 | 295 => 64 | 296 => 65 | 297 => 66 | 298 => 67 | 299 => 68 | 216 => 69 | 300 => 70 | 301 => 71 | 328 => 76 | 329 => 77 | 330 => 78 | 331 => 79 | 332 => 80 | 215 => 81 | 343 => 82 | n => n, fun | 28 => 32 | 3 => 3 | 46 => 54 | 0 => 0 | 51 => 109 | 53 => 70 | 4 => 4 | 183 => 101 | 182 => 100 | 131 => 106 | 5 => 5 | 9 => 9 | 218 => 111 | 222 => 115 | 228 => 118 | 229 => 119 | n => n, fun | n => n⟩
theorem Tryd.lays189 : Go.Proofs.Lays.n189 Tryd.prog Tryd.lays189_ren := {
  mixed := by kernel_rfl
  f125 := Tryd.func55.trans (congrArg some (by kernel_rfl))
  f128 := Tryd.func72.trans (congrArg some (by kernel_rfl))
  f129 := Tryd.func73.trans (congrArg some (by kernel_rfl))
  f189 := Tryd.func26.trans (congrArg some (by kernel_rfl))
  f215 := Tryd.func81.trans (congrArg some (by kernel_rfl))
  f216 := Tryd.func69.trans (congrArg some (by kernel_rfl))
  f257 := Tryd.func54.trans (congrArg some (by kernel_rfl))
  f294 := Tryd.func63.trans (congrArg some (by kernel_rfl))
  f295 := Tryd.func64.trans (congrArg some (by kernel_rfl))
  f296 := Tryd.func65.trans (congrArg some (by kernel_rfl))
  f297 := Tryd.func66.trans (congrArg some (by kernel_rfl))
  f298 := Tryd.func67.trans (congrArg some (by kernel_rfl))
  f299 := Tryd.func68.trans (congrArg some (by kernel_rfl))
  f300 := Tryd.func70.trans (congrArg some (by kernel_rfl))
  f301 := Tryd.func71.trans (congrArg some (by kernel_rfl))
  f328 := Tryd.func76.trans (congrArg some (by kernel_rfl))
  f329 := Tryd.func77.trans (congrArg some (by kernel_rfl))
  f330 := Tryd.func78.trans (congrArg some (by kernel_rfl))
  f331 := Tryd.func79.trans (congrArg some (by kernel_rfl))
  f332 := Tryd.func80.trans (congrArg some (by kernel_rfl))
  f343 := Tryd.func82.trans (congrArg some (by kernel_rfl))
  t0 := Tryd.underlying0
  a0 := Tryd.isAgg0
  z0 := Tryd.sizeOf0
  v0 := Tryd.zeroValue0
  t3 := Tryd.underlying3
  a3 := Tryd.isAgg3
  z3 := Tryd.sizeOf3
  v3 := Tryd.zeroValue3
  t4 := Tryd.underlying4
  a4 := Tryd.isAgg4
  z4 := Tryd.sizeOf4
  v4 := Tryd.zeroValue4
  t5 := Tryd.underlying5
  a5 := Tryd.isAgg5
  z5 := Tryd.sizeOf5
  v5 := Tryd.zeroValue5
  t9 := Tryd.underlying9
  a9 := Tryd.isAgg9
  z9 := Tryd.sizeOf9
  v9 := Tryd.zeroValue9
  t28 := Tryd.underlying32
  a28 := Tryd.isAgg32
  z28 := Tryd.sizeOf32
  v28 := Tryd.zeroValue32
  t46 := Tryd.underlying54
  a46 := Tryd.isAgg54
  z46 := Tryd.sizeOf54
  v46 := Tryd.zeroValue54
  t51 := Tryd.underlying109
  a51 := Tryd.isAgg109
  z51 := Tryd.sizeOf109
  v51 := Tryd.zeroValue109
  t53 := Tryd.underlying70
  a53 := Tryd.isAgg70
  z53 := Tryd.sizeOf70
  v53 := Tryd.zeroValue70
  t131 := Tryd.underlying106
  a131 := Tryd.isAgg106
  z131 := Tryd.sizeOf106
  v131 := Tryd.zeroValue106
  t182 := Tryd.underlying100
  a182 := Tryd.isAgg100
  z182 := Tryd.sizeOf100
  v182 := Tryd.zeroValue100
  t183 := Tryd.underlying101
  a183 := Tryd.isAgg101
  z183 := Tryd.sizeOf101
  v183 := Tryd.zeroValue101
  t218 := Tryd.underlying111
  a218 := Tryd.isAgg111
  z218 := Tryd.sizeOf111
  v218 := Tryd.zeroValue111
  t222 := Tryd.underlying115
  a222 := Tryd.isAgg115
  z222 := Tryd.sizeOf115
  v222 := Tryd.zeroValue115
  t228 := Tryd.underlying118
  a228 := Tryd.isAgg118
  z228 := Tryd.sizeOf118
  v228 := Tryd.zeroValue118
  t229 := Tryd.underlying119
  a229 := Tryd.isAgg119
  z229 := Tryd.sizeOf119
  v229 := Tryd.zeroValue119 }
open Go.Sort Go.RowKit in
theorem Tryd.slices_Sort_int (blk off cap : Nat) (zs : List Int) (w : World) (hH : Holds (Value.int .i64) w blk off zs.toArray) (hblk : blk < w.heap.size) (hsz : zs.length < 4611686018427387904) :
    Calls Tryd.prog 26 #[.slice (some ⟨blk, off, none⟩) zs.length cap] w fun e w' =>
      e = .returned (.tuple #[]) ∧ ∃ n os, w' = grow (putRow (Value.int .i64) (Sort.ahead w n) blk off (zs.mergeSort fun x y => decide (x ≤ y)).toArray) os := Any.slices_Sort_int Tryd.lays189 blk off cap zs w hH hblk hsz
def Tryd.laysNm220_ren : Go.Shelf.Ren := ⟨fun | 20 => 48 | n => n, fun | 22 => 32 | 3 => 3 | 4 => 4 | 0 => 0 | n => n, fun | n => n⟩
theorem Tryd.laysNm220 : Go.Proofs.Lays2.n20 Tryd.prog Tryd.laysNm220_ren := {
  mixed := by kernel_rfl
  f20 := Tryd.func48.trans (congrArg some (by kernel_rfl))
  t0 := Tryd.underlying0
  a0 := Tryd.isAgg0
  z0 := Tryd.sizeOf0
  v0 := Tryd.zeroValue0
  t3 := Tryd.underlying3
  a3 := Tryd.isAgg3
  z3 := Tryd.sizeOf3
  v3 := Tryd.zeroValue3
  t4 := Tryd.underlying4
  a4 := Tryd.isAgg4
  z4 := Tryd.sizeOf4
  v4 := Tryd.zeroValue4
  t22 := Tryd.underlying32
  a22 := Tryd.isAgg32
  z22 := Tryd.sizeOf32
  v22 := Tryd.zeroValue32
  i3 := by kernel_rfl }
open Go.RowKit Go.Lib Go.Sort in
/-- slices.Compact at []int: "Compact replaces consecutive runs of equal elements with a single copy. This is like the uniq command found on Unix. Compact modifies the contents of the slice s and returns the modified slice, which may have a smaller length. Compact zeroes the elements between the new length and the original length. The result preserves the nilness of s.": IT RETURNS THE SLICE CUT TO 'Lib.compact zs'; ITS CELLS HOLD 'Lib.compact zs', THEN ZERO VALUES up to the old length; all else is as it was, but for the count of draws. IN THE WORDS OF slices.Sort's CONTRACT ('Holds', 'putRow'): so the everyday 'slices.Sort(xs); xs = slices.Compact(xs)' goes from the one contract to the other. It asks 'zs.length ≤ cap' (every slice's: the reslicing 's[:k]' looks at it). Length 0, nil: '.._empty'. (LAID: no walk: one application.) -/
theorem Tryd.slices_Compact_int (blk off cap : Nat) (zs : List Int) (w : World) (hH : Holds (Value.int .i64) w blk off zs.toArray) (hsz : zs.length ≤ 9223372036854775807) (hcap : zs.length ≤ cap) :
    Calls Tryd.prog 48 #[.slice (some ⟨blk, off, none⟩) zs.length cap] w fun e w' => e = .returned (.slice (some ⟨blk, off, none⟩) (Lib.compact zs).length cap) ∧ ∃ q, w' = putRow (Value.int .i64) (Sort.ahead w q) blk off (Lib.compact zs ++ List.replicate (zs.length - (Lib.compact zs).length) 0).toArray := Any.slices_Compact_int Tryd.laysNm220 blk off cap zs w hH hsz hcap
open Go.RowKit Go.Lib Go.Sort in
/-- The same at a slice of length 0, a nil one too: it comes back as it is. (LAID: no walk: one application.) -/
theorem Tryd.slices_Compact_int_empty (a : Option Addr) (cap : Nat) (w : World) :
    Calls Tryd.prog 48 #[.slice a 0 cap] w fun e w' => e = .returned (.slice a 0 cap) ∧ w' = w := Any.slices_Compact_int_empty Tryd.laysNm220 a cap w
open Go.RowKit Go.Lib Go.Sort in
/-- slices.Compact at []int, of an argument: the slice cut to 'Lib.compact (elements)'; the n cells hold that, then zeros. (LAID: no walk: one application.) -/
theorem Tryd.slices_Compact_int_cells (b off n c : Nat) (zs : List Int) (w : World) (hz : n ≤ zs.length) (hbig : n ≤ 9223372036854775807) (hcap : n ≤ c) (hc : ∀ j, j < zs.length → w.cell? ⟨b, off + j, none⟩ = some (.int .i64 (zs.getD j 0))) (hf : ∀ j, j < n → w.frozen? ⟨b, off + j, none⟩ = false) :
    Calls Tryd.prog 48 #[.slice (some ⟨b, off, none⟩) n c] w fun e w' => e = .returned (.slice (some ⟨b, off, none⟩) (Lib.compact (zs.take n)).length c) ∧ ∃ q, w' = (w.drewN q).setCells b off ((Lib.compact (zs.take n) ++ List.replicate (n - (Lib.compact (zs.take n)).length) 0).map (Value.int .i64)) := Any.slices_Compact_int_cells Tryd.laysNm220 b off n c zs w hz hbig hcap hc hf
open Go.RowKit Go.Sort in
/-- .. and plain. (LAID: no walk: one application.) -/
theorem Tryd.slices_Sort_int_none (p : Option Addr) (cap : Nat) (w : World) :
    Calls Tryd.prog 26 #[.slice p 0 cap] w fun e w' => e = .returned (.tuple #[]) ∧ w' = w := Any.slices_Sort_int_none Tryd.lays189 p cap w
end Go.Proofs
