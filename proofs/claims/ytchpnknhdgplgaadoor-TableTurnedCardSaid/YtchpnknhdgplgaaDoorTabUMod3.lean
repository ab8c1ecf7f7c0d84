/- Models of the program's functions, and the proofs that runs give them: MADE BY PROGRAM (wip/tools/dec.py). -/
import Derived.Test.YtchpnknhdgplgaaDoorTabUMod0x

set_option maxRecDepth 100000
set_option maxHeartbeats 20000000
set_option linter.unusedVariables false
namespace Go.TabUM
open Go.Sp Go.TabU
noncomputable section
def m53_0 (pu : PureF) (n : Nat) (q3454 : List Value) (q3455 : List Value) : Option Value :=
  (bb (Nat.ble (0 + 14) (len q3454)) (bb (Nat.beq (len (takeL 14 (dropL 0 q3454))) 14) (bb (an (Nat.ble (0 + len (takeL 14 (dropL 0 q3454))) (len q3455)) (allL scalarB (takeL 14 (dropL 0 q3454)))) (bb (allL closed1 (setL (takeL 14 (dropL 0 q3454)) 0 q3455)) (bb (Nat.ble (0 + 14) (len (setL (takeL 14 (dropL 0 q3454)) 0 q3455))) (bb (closedV (.agg ⟨(takeL 14 (dropL 0 (setL (takeL 14 (dropL 0 q3454)) 0 q3455)))⟩)) (some (.agg ⟨(takeL 14 (dropL 0 (setL (takeL 14 (dropL 0 q3454)) 0 q3455)))⟩)) none) none) none) none) none) none)
def b53_1 (pu : PureF) (n : Nat) (ih0 : Sl → Int → Int → List Value → List Value → Option Value) (s3465 : Sl) (z3466 : Int) (z3467 : Int) (q3468 : List Value) (q3469 : List Value) : Option Value :=
  (bb (allL closed1 q3468) (bb (allL closed1 q3469) (bb (ilt z3467 z3466) (oo (toN z3467) none fun k3485 => (bb (an (Nat.blt k3485 (Sl.n s3465)) true) (bb (Nat.ble ((k3485 * 2) + 2) (len (Sl.cs s3465))) (oo (nthL (Sl.cs s3465) (k3485 * 2)) none fun v3489 => (oo (toI .i64 v3489) none fun x3491 => (oo (nthL (Sl.cs s3465) ((k3485 * 2) + 1)) none fun v3493 => (oo (toI .i64 v3493) none fun x3495 => (bb (Nat.ble (0 + 14) (len q3468)) (oo (pu 52 [(.agg ⟨(takeL 14 (dropL 0 q3468))⟩), (.agg ⟨[(.int .i64 x3491), (.int .i64 x3495)]⟩)]) none fun v3507 => (oo (vAgg v3507) none fun q3509 => (bb (an (Nat.beq (len q3509) 14) (allL closed1 q3509)) (bb (allL closed2 [(.agg ⟨(takeL 14 (dropL 0 q3468))⟩), (.agg ⟨[(.int .i64 x3491), (.int .i64 x3495)]⟩)]) (bb (Nat.beq (len q3509) 14) (bb (an (Nat.ble (0 + len q3509) (len q3468)) (allL scalarB q3509)) (bb (allL closed1 (setL q3509 0 q3468)) (ih0 s3465 z3466 (wrapF .i64 (Int.add (Int.ofNat k3485) (1 : Int))) (setL q3509 0 q3468) q3469) none) none) none) none) none))) none))))) none) none)) (m53_0 pu n q3468 q3469)) none) none)
def l53_1 (pu : PureF) (n : Nat) (w : Nat) : Sl → Int → Int → List Value → List Value → Option Value :=
  Nat.rec (motive := fun _ => Sl → Int → Int → List Value → List Value → Option Value) (fun _ _ _ _ _ => none) (fun _ ih0 => b53_1 pu n ih0) w
def m53_ (pu : PureF) (n : Nat) (q3396 : List Value) (s3399 : Sl) : Option Value :=
  (bb (allL closed1 q3396) (bb (allL closed1 zA73) (l53_1 pu n n s3399 (Int.ofNat (Sl.n s3399)) (0 : Int) q3396 zA73) none) none)
def m53 (pu : PureF) (n : Nat) (args : List Value) : Option Value :=
  (ll args none fun a0 args => (ll args none fun a1 args => (ll args (oo (vAgg a0) none fun q3396 => (bb (an (Nat.beq (len q3396) 14) (allL closed1 q3396)) (oo (toSl 2 a1) none fun s3399 => (m53_ pu n q3396 s3399)) none)) fun _ _ => none)))
theorem w53_0 (pu : PureF) (n : Nat) (q3454 : List Value) (q3455 : List Value) {v : Value} (hm : m53_0 pu n q3454 q3455 = some v) : Run tt (callP tabs isP pu (inl pu)) 1 c53_18 (fr 21 [(2, (pt 1 0)), (4, (pt 2 0))]) (hp 3 [(oT tab0), (oC q3454), (oC q3455)]) (Fin tt 1 [.cell 4 73] v) := by
  unfold m53_0 at hm
  refine .then ?_
  replace hm := bb_inv hm; obtain ⟨h3459, hm⟩ := hm
  replace hm := bb_inv hm; obtain ⟨h3460, hm⟩ := hm
  replace hm := bb_inv hm; obtain ⟨h3461, hm⟩ := hm
  refine .reg (eD (keep (hp 3 [(oT tab0), (oC q3454), (oC q3455)]) (bb (Nat.ble (0 + 14) (len q3454)) (some (.agg ⟨(takeL 14 (dropL 0 q3454))⟩)) none)) (keep_bb h3459) (eD (done (bb (Nat.beq (len (takeL 14 (dropL 0 q3454))) 14) (bb (an (Nat.ble (0 + len (takeL 14 (dropL 0 q3454))) (len q3455)) (allL scalarB (takeL 14 (dropL 0 q3454)))) (some (hp 3 [(oT tab0), (oC q3454), (oC (setL (takeL 14 (dropL 0 q3454)) 0 q3455))])) none) none) undef) (done_bb2 h3460 h3461) (eE))) ?_
  replace hm := bb_inv hm; obtain ⟨h3462, hm⟩ := hm
  refine .ghs (fr 21 [(4, (pt 1 0))]) (hp 2 [(oT tab0), (oC (setL (takeL 14 (dropL 0 q3454)) 0 q3455))]) (.k [2] [false] [.tmp 4 false] [4] ⟨trE (by kernel_rfl) h3462, trivial⟩) ?_
  refine .ret ?_
  replace hm := bb_inv hm; obtain ⟨h3463, hm⟩ := hm
  replace hm := bb_inv hm; obtain ⟨h3464, hm⟩ := hm
  exact fin_ret (.agg ⟨(takeL 14 (dropL 0 (setL (takeL 14 (dropL 0 q3454)) 0 q3455)))⟩) (aresults_of (aresultsL_cons (show aresult _ _ _ _ = some (.agg ⟨(takeL 14 (dropL 0 (setL (takeL 14 (dropL 0 q3454)) 0 q3455)))⟩) from (eq_bb (c := (Nat.ble (0 + 14) (len (setL (takeL 14 (dropL 0 q3454)) 0 q3455)))) (by kernel_rfl) h3463)) rfl) (by kernel_rfl)) h3464 hm
theorem r53 {call : CallF} (pu : PureF) (n : Nat) (hcall : call = callP tabs isP pu (inl pu)) {args : List Value} {v : Value} (hm : m53 pu n args = some v) (_ : ∀ x ∈ args, closed2 x = true) : args.length ≤ 21 ∧ Run tt call 1 c53_20 (Fr.made 21 args) (pureHeap tabs) (Fin tt 1 [.cell 4 73] v) := by
  subst hcall
  unfold m53 at hm
  have hq := ll_uncons hm; clear hm; obtain ⟨a0, args_0, rfl, hm⟩ := hq
  have hq := ll_uncons hm; clear hm; obtain ⟨a1, args_1, rfl, hm⟩ := hq
  have hq := ll_end hm; clear hm; obtain ⟨rfl, hm⟩ := hq
  replace hm := oo_inv hm; obtain ⟨q3396, h3397, hm⟩ := hm
  obtain rfl := vAgg_some h3397
  replace hm := bb_inv hm; obtain ⟨h3398, hm⟩ := hm
  replace hm := oo_inv hm; obtain ⟨s3399, h3400, hm⟩ := hm
  obtain rfl := toSl_some h3400
  unfold m53_ at hm
  refine ⟨by simp, ?_⟩
  refine .same (F' := (fr 21 [(0, (.agg ⟨q3396⟩)), (1, (Sl.v 2 s3399))])) (H' := (hp 1 [(oT tab0)])) (by kernel_rfl) (by kernel_rfl) ?_
  refine .then ?_
  refine .rK ?_
  replace hm := bb_inv hm; obtain ⟨h3401, hm⟩ := hm
  replace hm := bb_inv hm; obtain ⟨h3402, hm⟩ := hm
  refine .ghs (fr 21 [(1, (Sl.v 2 s3399)), (2, (pt 1 0)), (4, (pt 2 0))]) (hp 3 [(oT tab0), (oC q3396), (oC zA73)]) (.k [1, 2] [false] [.tmp 2 false, .tmp 4 false] [1, 2, 4] ⟨trE (by kernel_rfl) h3401, trE (by kernel_rfl) h3402, trivial⟩) ?_
  refine .join (v := v) (fun y : List Value × List Value => ((fr 21 [(2, (pt 1 0)), (4, (pt 2 0))]), (hp 3 [(oT tab0), (oC y.1), (oC y.2)]))) (fun y => m53_0 pu n y.1 y.2) ?_ ?_
  · rintro ⟨q3454, q3455⟩ hm
    exact w53_0 pu n q3454 q3455 hm
  · skip
    refine .then ?_
    refine .rK ?_
    refine .ghs (fr 21 [(2, (pt 1 0)), (4, (pt 2 0)), (8, (Sl.v 2 s3399)), (9, (zI (Int.ofNat (Sl.n s3399)))), (10, (zI (0 : Int)))]) (hp 3 [(oT tab0), (oC q3396), (oC zA73)]) (.k [1, 2] [false] [.tmp 2 false, .tmp 4 false] [2, 4, 8, 9, 10] ⟨trE (by kernel_rfl) h3401, trE (by kernel_rfl) h3402, trivial⟩) ?_
    refine .block ?_
    refine .loopM (v := v) (fun y : Sl × Int × Int × List Value × List Value => ((fr 21 [(2, (pt 1 0)), (4, (pt 2 0)), (8, (Sl.v 2 y.1)), (9, (zI y.2.1)), (10, (zI y.2.2.1))]), (hp 3 [(oT tab0), (oC y.2.2.2.1), (oC y.2.2.2.2)]))) (fun w y => l53_1 pu n w y.1 y.2.1 y.2.2.1 y.2.2.2.1 y.2.2.2.2) n ⟨(s3399, (Int.ofNat (Sl.n s3399)), (0 : Int), q3396, zA73), hm, (.k [1, 2] [false] [.tmp 2 false, .tmp 4 false] [2, 4, 8, 9, 10] ⟨trE (by kernel_rfl) h3401, trE (by kernel_rfl) h3402, trivial⟩)⟩ (fun _ => rfl) ?_
    rintro w0 ⟨s3465, z3466, z3467, q3468, q3469⟩ hm
    replace hm : b53_1 pu n (l53_1 pu n w0) s3465 z3466 z3467 q3468 q3469 = some v := hm
    unfold b53_1 at hm
    refine .then ?_
    refine .rK ?_
    replace hm := bb_inv hm; obtain ⟨h3470, hm⟩ := hm
    replace hm := bb_inv hm; obtain ⟨h3471, hm⟩ := hm
    refine .ghs (fr 21 [(2, (pt 1 0)), (4, (pt 2 0)), (8, (Sl.v 2 s3465)), (9, (zI z3466)), (10, (zI z3467)), (11, (zB (ilt z3467 z3466)))]) (hp 3 [(oT tab0), (oC q3468), (oC q3469)]) (.k [1, 2] [false] [.tmp 2 false, .tmp 4 false] [2, 4, 8, 9, 10, 11] ⟨trE (by kernel_rfl) h3470, trE (by kernel_rfl) h3471, trivial⟩) ?_
    refine .then ?_
    have hq := bb_cases hm; clear hm; rcases hq with ⟨h3472, hm⟩ | ⟨h3472, hm⟩
    · refine .ifT (ilt z3467 z3466) (by kernel_rfl) h3472 ?_
      refine .skip ?_
      refine .ghs (fr 21 [(2, (pt 1 0)), (4, (pt 2 0)), (8, (Sl.v 2 s3465)), (9, (zI z3466)), (10, (zI z3467))]) (hp 3 [(oT tab0), (oC q3468), (oC q3469)]) (.k [1, 2] [false] [.tmp 2 false, .tmp 4 false] [2, 4, 8, 9, 10] ⟨trE (by kernel_rfl) h3470, trE (by kernel_rfl) h3471, trivial⟩) ?_
      refine .then ?_
      refine .block ?_
      refine .then ?_
      replace hm := oo_inv hm; obtain ⟨k3485, h3486, hm⟩ := hm
      obtain rfl := toN_some h3486
      replace hm := bb_inv hm; obtain ⟨h3487, hm⟩ := hm
      replace hm := bb_inv hm; obtain ⟨h3488, hm⟩ := hm
      replace hm := oo_inv hm; obtain ⟨v3489, h3490, hm⟩ := hm
      replace hm := oo_inv hm; obtain ⟨x3491, h3492, hm⟩ := hm
      obtain rfl := toI_some h3492
      replace hm := oo_inv hm; obtain ⟨v3493, h3494, hm⟩ := hm
      replace hm := oo_inv hm; obtain ⟨x3495, h3496, hm⟩ := hm
      obtain rfl := toI_some h3496
      refine .reg (eD (keep (hp 3 [(oT tab0), (oC q3468), (oC q3469)]) (bb (an (Nat.blt k3485 (Sl.n s3465)) true) (some (fpV (k3485 * 2) (Sl.cs s3465))) none)) (keep_bb h3487) (eD (keep (hp 3 [(oT tab0), (oC q3468), (oC q3469)]) (bb (Nat.ble ((k3485 * 2) + 2) (len (Sl.cs s3465))) (some (.agg ⟨takeL 2 (dropL (k3485 * 2) (Sl.cs s3465))⟩)) none)) (keep_agg h3488 (takeL_cons h3490 (takeL_cons h3494 rfl))) (eE))) ?_
      refine .ghs (fr 21 [(2, (pt 1 0)), (4, (pt 2 0)), (6, (pt 3 0)), (8, (Sl.v 2 s3465)), (9, (zI z3466)), (10, (zI (Int.ofNat k3485)))]) (hp 4 [(oT tab0), (oC q3468), (oC q3469), (oC [(zI x3491), (zI x3495)])]) (.k [1, 2] [false] [.tmp 2 false, .tmp 4 false, .tmp 6 false] [2, 4, 6, 8, 9, 10] ⟨trE (by kernel_rfl) h3470, trE (by kernel_rfl) h3471, trivial⟩) ?_
      refine .then ?_
      replace hm := bb_inv hm; obtain ⟨h3498, hm⟩ := hm
      refine .reg (eD (keep (hp 4 [(oT tab0), (oC q3468), (oC q3469), (oC [(zI x3491), (zI x3495)])]) (bb (Nat.ble (0 + 14) (len q3468)) (some (.agg ⟨(takeL 14 (dropL 0 q3468))⟩)) none)) (keep_bb h3498) (eE)) ?_
      replace hm := oo_inv hm; obtain ⟨v3507, h3508, hm⟩ := hm
      replace hm := oo_inv hm; obtain ⟨q3509, h3510, hm⟩ := hm
      obtain rfl := vAgg_some h3510
      replace hm := bb_inv hm; obtain ⟨h3511, hm⟩ := hm
      replace hm := bb_inv hm; obtain ⟨h3512, hm⟩ := hm
      replace hm := bb_inv hm; obtain ⟨h3513, hm⟩ := hm
      replace hm := bb_inv hm; obtain ⟨h3514, hm⟩ := hm
      refine .reg (eC 2 (bb (allL closed2 [(.agg ⟨(takeL 14 (dropL 0 q3468))⟩), (.agg ⟨[(zI x3491), (zI x3495)]⟩)]) (oo (pu 52 [(.agg ⟨(takeL 14 (dropL 0 q3468))⟩), (.agg ⟨[(zI x3491), (zI x3495)]⟩)]) none fun v => some (v, (hp 4 [(oT tab0), (oC q3468), (oC q3469), (oC [(zI x3491), (zI x3495)])]))) (oo (mapO (purify (hp 4 [(oT tab0), (oC q3468), (oC q3469), (oC [(zI x3491), (zI x3495)])])) [(.agg ⟨(takeL 14 (dropL 0 q3468))⟩), (.agg ⟨[(zI x3491), (zI x3495)]⟩)]) none fun l1 => oo (pu 52 l1) none fun v => bb (plainT v) (some (v, (hp 4 [(oT tab0), (oC q3468), (oC q3469), (oC [(zI x3491), (zI x3495)])]))) none)) (callc_eq h3512 h3508) (eD (done (bb (Nat.beq (len q3509) 14) (bb (an (Nat.ble (0 + len q3509) (len q3468)) (allL scalarB q3509)) (some (hp 4 [(oT tab0), (oC (setL q3509 0 q3468)), (oC q3469), (oC [(zI x3491), (zI x3495)])])) none) none) undef) (done_bb2 h3513 h3514) (eE))) ?_
      replace hm := bb_inv hm; obtain ⟨h3515, hm⟩ := hm
      refine .ghs (fr 21 [(2, (pt 1 0)), (4, (pt 2 0)), (8, (Sl.v 2 s3465)), (9, (zI z3466)), (10, (zI (Int.ofNat k3485)))]) (hp 3 [(oT tab0), (oC (setL q3509 0 q3468)), (oC q3469)]) (.k [1, 2] [false] [.tmp 2 false, .tmp 4 false] [2, 4, 8, 9, 10] ⟨trE (by kernel_rfl) h3515, trE (by kernel_rfl) h3471, trivial⟩) ?_
      refine .rK ?_
      exact ⟨(s3465, z3466, (wrapF .i64 (Int.add (Int.ofNat k3485) (1 : Int))), (setL q3509 0 q3468), q3469), hm, (.k [1, 2] [false] [.tmp 2 false, .tmp 4 false] [2, 4, 8, 9, 10] ⟨trE (by kernel_rfl) h3515, trE (by kernel_rfl) h3471, trivial⟩)⟩
    · refine .ifF (ilt z3467 z3466) (by kernel_rfl) h3472 ?_
      refine .exit ?_
      exact ⟨(q3468, q3469), hm, (.k [1, 2] [false] [.tmp 2 false, .tmp 4 false] [2, 4] ⟨trE (by kernel_rfl) h3470, trE (by kernel_rfl) h3471, trivial⟩)⟩
def m56_0 (pu : PureF) (n : Nat) (b3524 : Bool) : Option Value :=
  (some (.bool b3524))
def m56_ (pu : PureF) (n : Nat) (x3516 : Int) (x3518 : Int) (x3520 : Int) : Option Value :=
  (bb (nt (ilt x3518 x3516)) (m56_0 pu n (nt (ilt x3520 x3518))) (m56_0 pu n false))
def m56 (pu : PureF) (n : Nat) (args : List Value) : Option Value :=
  (ll args none fun a0 args => (ll args none fun a1 args => (ll args none fun a2 args => (ll args (oo (toI .i64 a0) none fun x3516 => (oo (toI .i64 a1) none fun x3518 => (oo (toI .i64 a2) none fun x3520 => (m56_ pu n x3516 x3518 x3520)))) fun _ _ => none))))
theorem w56_0 (pu : PureF) (n : Nat) (b3524 : Bool) {v : Value} (hm : m56_0 pu n b3524 = some v) : Run tt (callP tabs isP pu (inl pu)) 1 .ret (fr 15 [(6, (zB b3524))]) (hp 1 [(oT tab0)]) (Fin tt 1 [.tmp 6] v) := by
  unfold m56_0 at hm
  refine .ret ?_
  exact fin_ret (zB b3524) (by kernel_rfl) (by kernel_rfl) hm
theorem r56 {call : CallF} (pu : PureF) (n : Nat) (hcall : call = callP tabs isP pu (inl pu)) {args : List Value} {v : Value} (hm : m56 pu n args = some v) (_ : ∀ x ∈ args, closed2 x = true) : args.length ≤ 15 ∧ Run tt call 1 c56_3 (Fr.made 15 args) (pureHeap tabs) (Fin tt 1 [.tmp 6] v) := by
  subst hcall
  unfold m56 at hm
  have hq := ll_uncons hm; clear hm; obtain ⟨a0, args_0, rfl, hm⟩ := hq
  have hq := ll_uncons hm; clear hm; obtain ⟨a1, args_1, rfl, hm⟩ := hq
  have hq := ll_uncons hm; clear hm; obtain ⟨a2, args_2, rfl, hm⟩ := hq
  have hq := ll_end hm; clear hm; obtain ⟨rfl, hm⟩ := hq
  replace hm := oo_inv hm; obtain ⟨x3516, h3517, hm⟩ := hm
  obtain rfl := toI_some h3517
  replace hm := oo_inv hm; obtain ⟨x3518, h3519, hm⟩ := hm
  obtain rfl := toI_some h3519
  replace hm := oo_inv hm; obtain ⟨x3520, h3521, hm⟩ := hm
  obtain rfl := toI_some h3521
  unfold m56_ at hm
  refine ⟨by simp, ?_⟩
  refine .same (F' := (fr 15 [(0, (zI x3516)), (1, (zI x3518)), (2, (zI x3520))])) (H' := (hp 1 [(oT tab0)])) (by kernel_rfl) (by kernel_rfl) ?_
  refine .then ?_
  refine .rK ?_
  refine .ghs (fr 15 [(0, (zI x3516)), (1, (zI x3518)), (2, (zI x3520))]) (hp 1 [(oT tab0)]) (.k0 [false] [] [0, 1, 2]) ?_
  refine .join (v := v) (fun y : Bool => ((fr 15 [(6, (zB y))]), (hp 1 [(oT tab0)]))) (fun y => m56_0 pu n y) ?_ ?_
  · rintro b3524 hm
    exact w56_0 pu n b3524 hm
  · skip
    have hq := bb_cases hm; clear hm; rcases hq with ⟨h3526, hm⟩ | ⟨h3526, hm⟩
    · skip
      refine .reg (eC 2 (some ((zB (nt (ilt x3518 x3516))), (hp 1 [(oT tab0)]))) (show _ = some ((zB true), _) from (by rw [h3526])) (eE)) ?_
      exact ⟨(nt (ilt x3520 x3518)), hm, (.k0 [false] [] [6])⟩
    · skip
      refine .reg (eC 2 (some ((zB (nt (ilt x3518 x3516))), (hp 1 [(oT tab0)]))) (show _ = some ((zB false), _) from (by rw [h3526])) (eE)) ?_
      exact ⟨false, hm, (.k0 [false] [] [6])⟩

def m60_ (pu : PureF) (n : Nat) (x3527 : Int) : Option Value :=
  (bb (ieq x3527 (0 : Int)) (some (.int .i64 (64 : Int))) (oo (toN (shrI .u64 (wrapF .u64 (Int.mul (aand .u64 x3527 (wrapF .u64 (Int.sub (.ofNat 0) x3527))) (285870213051353865 : Int))) 58)) none fun k3537 => (bb (Nat.blt k3537 64) (oo (nthL tab0 (0 + k3537 * 1)) none fun v3540 => (oo (toI .u8 v3540) none fun x3542 => (some (.int .i64 (wrapF .i64 x3542))))) none)))
def m60 (pu : PureF) (n : Nat) (args : List Value) : Option Value :=
  (ll args none fun a0 args => (ll args (oo (toI .u64 a0) none fun x3527 => (m60_ pu n x3527)) fun _ _ => none))
theorem r60 {call : CallF} (pu : PureF) (n : Nat) (hcall : call = callP tabs isP pu (inl pu)) {args : List Value} {v : Value} (hm : m60 pu n args = some v) (_ : ∀ x ∈ args, closed2 x = true) : args.length ≤ 14 ∧ Run tt call 1 c60_9 (Fr.made 14 args) (pureHeap tabs) (Fin tt 1 [.tmp 2] v) := by
  subst hcall
  unfold m60 at hm
  have hq := ll_uncons hm; clear hm; obtain ⟨a0, args_0, rfl, hm⟩ := hq
  have hq := ll_end hm; clear hm; obtain ⟨rfl, hm⟩ := hq
  replace hm := oo_inv hm; obtain ⟨x3527, h3528, hm⟩ := hm
  obtain rfl := toI_some h3528
  unfold m60_ at hm
  refine ⟨by simp, ?_⟩
  refine .same (F' := (fr 14 [(0, (zU x3527))])) (H' := (hp 1 [(oT tab0)])) (by kernel_rfl) (by kernel_rfl) ?_
  refine .then ?_
  refine .rK ?_
  refine .ghs (fr 14 [(0, (zU x3527))]) (hp 1 [(oT tab0)]) (.k0 [false] [] [0]) ?_
  refine .then ?_
  refine .then ?_
  refine .rK ?_
  refine .ghs (fr 14 [(0, (zU x3527)), (4, (zB (ieq x3527 (0 : Int))))]) (hp 1 [(oT tab0)]) (.k0 [false] [] [0, 4]) ?_
  have hq := bb_cases hm; clear hm; rcases hq with ⟨h3529, hm⟩ | ⟨h3529, hm⟩
  · refine .ifT (ieq x3527 (0 : Int)) (by kernel_rfl) h3529 ?_
    refine .then ?_
    refine .rK ?_
    refine .ghs (fr 14 [(2, (zI (64 : Int)))]) (hp 1 [(oT tab0)]) (.k0 [false] [] [2]) ?_
    refine .ret ?_
    exact fin_ret (zI (64 : Int)) (by kernel_rfl) (by kernel_rfl) hm
  · refine .ifF (ieq x3527 (0 : Int)) (by kernel_rfl) h3529 ?_
    refine .skip ?_
    refine .ghs (fr 14 [(0, (zU x3527))]) (hp 1 [(oT tab0)]) (.k0 [false] [] [0]) ?_
    refine .then ?_
    replace hm := oo_inv hm; obtain ⟨k3537, h3538, hm⟩ := hm
    replace hm := bb_inv hm; obtain ⟨h3539, hm⟩ := hm
    replace hm := oo_inv hm; obtain ⟨v3540, h3541, hm⟩ := hm
    replace hm := oo_inv hm; obtain ⟨x3542, h3543, hm⟩ := hm
    obtain rfl := toI_some h3543
    refine .reg (eC 5 (some ((zU (shrI .u64 (wrapF .u64 (Int.mul (aand .u64 x3527 (wrapF .u64 (Int.sub (.ofNat 0) x3527))) (285870213051353865 : Int))) 58)), (hp 1 [(oT tab0)]))) (show _ = some ((zU (Int.ofNat k3537)), _) from (by rw [toN_some h3538])) (eD (keep (hp 1 [(oT tab0)]) (bb (Nat.blt k3537 64) (some (.pointer (some ⟨0, (0 + k3537 * 1), none⟩))) none)) (keep_bb h3539) (eD (keep (hp 1 [(oT tab0)]) (nthL tab0 (0 + k3537 * 1))) (keep_eq h3541) (eE)))) ?_
    refine .ghs (fr 14 [(2, (zI (wrapF .i64 x3542)))]) (hp 1 [(oT tab0)]) (.k0 [false] [] [2]) ?_
    refine .ret ?_
    exact fin_ret (zI (wrapF .i64 x3542)) (by kernel_rfl) (by kernel_rfl) hm
def m10230_1 (pu : PureF) (n : Nat) (z558 : Int) (z559 : Int) (n560 : Nat) (c561 : Nat) (q562 : List Value) : Option Value :=
  (bb (allL closed1 q562) (some (.tuple ⟨[(.agg ⟨[(.int .i64 z559), (.slice (some ⟨2, 0, some 2⟩) n560 c561)]⟩), (.agg ⟨[(.int .i64 z559), (.slice (some ⟨2, 0, some 2⟩) n560 c561)]⟩), (.agg ⟨q562⟩)]⟩)) none)
def m10230_3 (pu : PureF) (n : Nat) (ih0 : Int → Sl → Int → Int → Int → Int → Nat → Nat → List Value → Option Value) (z609 : Int) (s610 : Sl) (z611 : Int) (z612 : Int) (b613 : Bool) (z614 : Int) (z615 : Int) (n616 : Nat) (c617 : Nat) (z618 : Int) (z619 : Int) (q620 : List Value) : Option Value :=
  (bb b613 (bb (allL closed1 q620) (m10230_1 pu n z614 z615 n616 c617 q620) none) (bb (allL closed1 q620) (bb (nt (ieq (wrapF .i64 (Int.sub z615 (1 : Int))) (0 : Int))) (bb (nt (ieq (wrapF .i64 (Int.sub (wrapF .i64 (Int.sub z615 (1 : Int))) (Int.tmod (wrapF .i64 z618) (wrapF .i64 (Int.sub z615 (1 : Int)))))) (0 : Int))) (bb (growC 2 16 n616 c617 1 q620) (bb (allL closed1 (appL (dropL 0 q620) [(.int .i64 (Int.tmod (wrapF .i64 z618) (wrapF .i64 (Int.sub z615 (1 : Int))))), (.int .i64 (wrapF .i64 (Int.add (wrapF .i64 (Int.add (Int.tmod (wrapF .i64 z618) (wrapF .i64 (Int.sub z615 (1 : Int)))) (1 : Int))) (Int.tmod (wrapF .i64 z619) (wrapF .i64 (Int.sub (wrapF .i64 (Int.sub z615 (1 : Int))) (Int.tmod (wrapF .i64 z618) (wrapF .i64 (Int.sub z615 (1 : Int))))))))))])) (ih0 z609 s610 z611 (wrapF .i64 (Int.add z612 (1 : Int))) z614 z615 (n616 + 1) (2 * (n616 + 1) + bb false 1 0) (appL (dropL 0 q620) [(.int .i64 (Int.tmod (wrapF .i64 z618) (wrapF .i64 (Int.sub z615 (1 : Int))))), (.int .i64 (wrapF .i64 (Int.add (wrapF .i64 (Int.add (Int.tmod (wrapF .i64 z618) (wrapF .i64 (Int.sub z615 (1 : Int)))) (1 : Int))) (Int.tmod (wrapF .i64 z619) (wrapF .i64 (Int.sub (wrapF .i64 (Int.sub z615 (1 : Int))) (Int.tmod (wrapF .i64 z618) (wrapF .i64 (Int.sub z615 (1 : Int))))))))))])) none) none) none) none) none))
def b10230_2 (pu : PureF) (n : Nat) (ih0 : Int → Sl → Int → Int → Int → Int → Nat → Nat → List Value → Option Value) (z572 : Int) (s573 : Sl) (z574 : Int) (z575 : Int) (z576 : Int) (z577 : Int) (n578 : Nat) (c579 : Nat) (q580 : List Value) : Option Value :=
  (bb (allL closed1 q580) (bb (ilt z575 z574) (oo (toN z575) none fun k595 => (bb (an (Nat.blt k595 (Sl.n s573)) true) (bb (Nat.ble ((k595 * 2) + 2) (len (Sl.cs s573))) (oo (nthL (Sl.cs s573) (k595 * 2)) none fun v599 => (oo (toI .u8 v599) none fun x601 => (oo (nthL (Sl.cs s573) ((k595 * 2) + 1)) none fun v603 => (oo (toI .u8 v603) none fun x605 => (bb (nt (ilt (Int.ofNat k595) z572)) (m10230_3 pu n ih0 z572 s573 z574 (Int.ofNat k595) true z576 z577 n578 c579 x601 x605 q580) (m10230_3 pu n ih0 z572 s573 z574 (Int.ofNat k595) (ilt z577 (2 : Int)) z576 z577 n578 c579 x601 x605 q580)))))) none) none)) (m10230_1 pu n z576 z577 n578 c579 q580)) none)
def l10230_2 (pu : PureF) (n : Nat) (w : Nat) : Int → Sl → Int → Int → Int → Int → Nat → Nat → List Value → Option Value :=
  Nat.rec (motive := fun _ => Int → Sl → Int → Int → Int → Int → Nat → Nat → List Value → Option Value) (fun _ _ _ _ _ _ _ _ _ => none) (fun _ ih0 => b10230_2 pu n ih0) w
def m10230_0 (pu : PureF) (n : Nat) (z487 : Int) (z488 : Int) (s489 : Sl) (b490 : Bool) (z491 : Int) (z492 : Int) (n493 : Nat) (c494 : Nat) (q495 : List Value) : Option Value :=
  (bb (allL closed1 q495) (l10230_2 pu n n z487 s489 (Int.ofNat (Sl.n s489)) (0 : Int) z491 z492 n493 c494 q495) none)
def m10230_5 (pu : PureF) (n : Nat) (ih0 : Int → Int → Int → Sl → Bool → Int → Int → Nat → Nat → List Value → Option Value) (z706 : Int) (z707 : Int) (z708 : Int) (s709 : Sl) (b710 : Bool) (z711 : Int) (z712 : Int) (n713 : Nat) (c714 : Nat) (q715 : List Value) : Option Value :=
  (bb (allL closed1 q715) (ih0 z706 (wrapF .i64 (Int.sub z707 (1 : Int))) z708 s709 b710 z711 z712 n713 c714 q715) none)
def b10230_6 (pu : PureF) (n : Nat) (ih0 : Int → Int → Int → Sl → Bool → Int → Int → Nat → Nat → List Value → Option Value) (ih1 : Int → Int → Int → Int → Sl → Bool → Int → Int → Nat → Nat → List Value → Option Value) (z717 : Int) (z718 : Int) (z719 : Int) (z720 : Int) (s721 : Sl) (b722 : Bool) (z723 : Int) (z724 : Int) (n725 : Nat) (c726 : Nat) (q727 : List Value) : Option Value :=
  (bb (allL closed1 q727) (bb (ilt (wrapF .i64 (Int.add z719 (1 : Int))) z718) (bb (growC 2 16 n725 c726 1 q727) (bb (allL closed1 (appL (dropL 0 q727) [(.int .i64 z719), (.int .i64 (wrapF .i64 (Int.add z719 (1 : Int))))])) (ih1 z717 z718 (wrapF .i64 (Int.add z719 (1 : Int))) z720 s721 b722 z723 z724 (n725 + 1) (2 * (n725 + 1) + bb false 1 0) (appL (dropL 0 q727) [(.int .i64 z719), (.int .i64 (wrapF .i64 (Int.add z719 (1 : Int))))])) none) none) (m10230_5 pu n ih0 z717 z718 z720 s721 b722 z723 z724 n725 c726 q727)) none)
def l10230_6 (pu : PureF) (n : Nat) (ih0 : Int → Int → Int → Sl → Bool → Int → Int → Nat → Nat → List Value → Option Value) (w : Nat) : Int → Int → Int → Int → Sl → Bool → Int → Int → Nat → Nat → List Value → Option Value :=
  Nat.rec (motive := fun _ => Int → Int → Int → Int → Sl → Bool → Int → Int → Nat → Nat → List Value → Option Value) (fun _ _ _ _ _ _ _ _ _ _ _ => none) (fun _ ih1 => b10230_6 pu n ih0 ih1) w
def b10230_4 (pu : PureF) (n : Nat) (ih0 : Int → Int → Int → Sl → Bool → Int → Int → Nat → Nat → List Value → Option Value) (z678 : Int) (z679 : Int) (z680 : Int) (s681 : Sl) (b682 : Bool) (z683 : Int) (z684 : Int) (n685 : Nat) (c686 : Nat) (q687 : List Value) : Option Value :=
  (bb (allL closed1 q687) (bb (ilt (1 : Int) z679) (l10230_6 pu n ih0 n z678 z679 (0 : Int) z680 s681 b682 z683 z684 n685 c686 q687) (m10230_0 pu n z678 z680 s681 b682 z683 z684 n685 c686 q687)) none)
def l10230_4 (pu : PureF) (n : Nat) (w : Nat) : Int → Int → Int → Sl → Bool → Int → Int → Nat → Nat → List Value → Option Value :=
  Nat.rec (motive := fun _ => Int → Int → Int → Sl → Bool → Int → Int → Nat → Nat → List Value → Option Value) (fun _ _ _ _ _ _ _ _ _ _ => none) (fun _ ih0 => b10230_4 pu n ih0) w
def m10230_ (pu : PureF) (n : Nat) (z37 : Int) (s38 : Sl) (b39 : Bool) (z40 : Int) : Option Value :=
  (bb b39 (l10230_4 pu n n z40 (wrapF .i64 (Int.add (1 : Int) (Int.tmod (wrapF .i64 z37) (5 : Int)))) z37 s38 b39 (0 : Int) (wrapF .i64 (Int.add (1 : Int) (Int.tmod (wrapF .i64 z37) (5 : Int)))) 0 0 ([] : List Value)) (m10230_0 pu n z40 z37 s38 b39 (0 : Int) (wrapF .i64 (Int.add (1 : Int) (Int.tmod (wrapF .i64 z37) (5 : Int)))) 0 0 ([] : List Value)))
def m10230 (pu : PureF) (n : Nat) (args : List Value) : Option Value :=
  (ll args none fun a0 args => (ll args none fun a1 args => (ll args (oo (vAgg a0) none fun l733 => (ll l733 none fun v735 l733 => (ll l733 none fun v736 l733 => (ll l733 none fun v737 l733 => (ll l733 (oo (toI .u8 v735) none fun x738 => (oo (toSl 2 v736) none fun s740 => (oo (vBool v737) none fun b742 => (oo (toI .i64 a1) none fun x744 => (m10230_ pu n x738 s740 b742 x744))))) fun _ _ => none))))) fun _ _ => none)))
theorem w10230_1 (pu : PureF) (n : Nat) (z558 : Int) (z559 : Int) (n560 : Nat) (c561 : Nat) (q562 : List Value) {v : Value} (hm : m10230_1 pu n z558 z559 n560 c561 q562 = some v) : Run tt (callP tabs isP pu (inl pu)) 1 c23_49 (fr 84 [(4, (pt 1 0)), (5, (pt 2 0))]) (hp 4 [(oT tab0), (oC [(zI z558), (.slice none 0 0)]), (oC [(zI z559), (sc 3 0 2 n560 c561)]), (oC q562)]) (FinO tt 1 0 [.cell 4 24] v) := by
  unfold m10230_1 at hm
  refine .then ?_
  refine .rK ?_
  replace hm := bb_inv hm; obtain ⟨h563, hm⟩ := hm
  refine .ghs (fr 84 [(4, (pt 1 0))]) (hp 3 [(oT tab0), (oC [(zI z559), (sc 2 0 2 n560 c561)]), (oC q562)]) (.k [3] [false] [.tmp 4 true, .cell 1 1 false] [4] ⟨trE (by kernel_rfl) h563, trivial⟩) ?_
  refine .ghs (fr 84 [(4, (pt 1 0))]) (hp 3 [(oT tab0), (oC [(zI z559), (sc 2 0 2 n560 c561)]), (oC q562)]) (.k [2] [false] [.tmp 4 true, .cell 1 1 false] [4] ⟨trE (by kernel_rfl) h563, trivial⟩) ?_
  refine .ret ?_
  exact finO_ret (.agg ⟨[(zI z559), (sc 2 0 2 n560 c561)]⟩) [(oC [(zI z559), (sc 2 0 2 n560 c561)]), (oC q562)] (by kernel_rfl) hm (Nat.le_of_ble_eq_true rfl) (ooAt_cons (pO_c _) (ooAt_cons (pO_c _) ooAt_nil))
theorem w10230_0 (pu : PureF) (n : Nat) (z487 : Int) (z488 : Int) (s489 : Sl) (b490 : Bool) (z491 : Int) (z492 : Int) (n493 : Nat) (c494 : Nat) (q495 : List Value) {v : Value} (hm : m10230_0 pu n z487 z488 s489 b490 z491 z492 n493 c494 q495 = some v) : Run tt (callP tabs isP pu (inl pu)) 1 c23_50 (fr 84 [(1, (zI z487)), (2, (pt 1 0)), (4, (pt 2 0)), (5, (pt 3 0))]) (hp 5 [(oT tab0), (oC [(zY z488), (Sl.v 2 s489), (zB b490)]), (oC [(zI z491), (.slice none 0 0)]), (oC [(zI z492), (sc 4 0 2 n493 c494)]), (oC q495)]) (FinO tt 1 0 [.cell 4 24] v) := by
  unfold m10230_0 at hm
  refine .join (v := v) (fun y : Int × Int × Nat × Nat × List Value => ((fr 84 [(4, (pt 1 0)), (5, (pt 2 0))]), (hp 4 [(oT tab0), (oC [(zI y.1), (.slice none 0 0)]), (oC [(zI y.2.1), (sc 3 0 2 y.2.2.1 y.2.2.2.1)]), (oC y.2.2.2.2)]))) (fun y => m10230_1 pu n y.1 y.2.1 y.2.2.1 y.2.2.2.1 y.2.2.2.2) ?_ ?_
  · rintro ⟨z558, z559, n560, c561, q562⟩ hm
    exact w10230_1 pu n z558 z559 n560 c561 q562 hm
  · skip
    refine .then ?_
    refine .rK ?_
    replace hm := bb_inv hm; obtain ⟨h571, hm⟩ := hm
    refine .ghs (fr 84 [(1, (zI z487)), (4, (pt 1 0)), (5, (pt 2 0)), (41, (Sl.v 2 s489)), (42, (zI (Int.ofNat (Sl.n s489)))), (43, (zI (0 : Int)))]) (hp 4 [(oT tab0), (oC [(zI z491), (.slice none 0 0)]), (oC [(zI z492), (sc 3 0 2 n493 c494)]), (oC q495)]) (.k [4] [false] [.tmp 4 false, .tmp 5 true, .cell 2 1 false] [1, 4, 5, 41, 42, 43] ⟨trE (by kernel_rfl) h571, trivial⟩) ?_
    refine .block ?_
    refine .loopM (v := v) (fun y : Int × Sl × Int × Int × Int × Int × Nat × Nat × List Value => ((fr 84 [(1, (zI y.1)), (4, (pt 1 0)), (5, (pt 2 0)), (41, (Sl.v 2 y.2.1)), (42, (zI y.2.2.1)), (43, (zI y.2.2.2.1))]), (hp 4 [(oT tab0), (oC [(zI y.2.2.2.2.1), (.slice none 0 0)]), (oC [(zI y.2.2.2.2.2.1), (sc 3 0 2 y.2.2.2.2.2.2.1 y.2.2.2.2.2.2.2.1)]), (oC y.2.2.2.2.2.2.2.2)]))) (fun w y => l10230_2 pu n w y.1 y.2.1 y.2.2.1 y.2.2.2.1 y.2.2.2.2.1 y.2.2.2.2.2.1 y.2.2.2.2.2.2.1 y.2.2.2.2.2.2.2.1 y.2.2.2.2.2.2.2.2) n ⟨(z487, s489, (Int.ofNat (Sl.n s489)), (0 : Int), z491, z492, n493, c494, q495), hm, (.k [3] [false] [.tmp 4 false, .tmp 5 true, .cell 2 1 false] [1, 4, 5, 41, 42, 43] ⟨trE (by kernel_rfl) h571, trivial⟩)⟩ (fun _ => rfl) ?_
    rintro w0 ⟨z572, s573, z574, z575, z576, z577, n578, c579, q580⟩ hm
    replace hm : b10230_2 pu n (l10230_2 pu n w0) z572 s573 z574 z575 z576 z577 n578 c579 q580 = some v := hm
    unfold b10230_2 at hm
    refine .then ?_
    refine .rK ?_
    replace hm := bb_inv hm; obtain ⟨h581, hm⟩ := hm
    refine .ghs (fr 84 [(1, (zI z572)), (4, (pt 1 0)), (5, (pt 2 0)), (41, (Sl.v 2 s573)), (42, (zI z574)), (43, (zI z575)), (44, (zB (ilt z575 z574)))]) (hp 4 [(oT tab0), (oC [(zI z576), (.slice none 0 0)]), (oC [(zI z577), (sc 3 0 2 n578 c579)]), (oC q580)]) (.k [3] [false] [.tmp 4 false, .tmp 5 true, .cell 2 1 false] [1, 4, 5, 41, 42, 43, 44] ⟨trE (by kernel_rfl) h581, trivial⟩) ?_
    refine .then ?_
    have hq := bb_cases hm; clear hm; rcases hq with ⟨h582, hm⟩ | ⟨h582, hm⟩
    · refine .ifT (ilt z575 z574) (by kernel_rfl) h582 ?_
      refine .skip ?_
      refine .ghs (fr 84 [(1, (zI z572)), (4, (pt 1 0)), (5, (pt 2 0)), (41, (Sl.v 2 s573)), (42, (zI z574)), (43, (zI z575))]) (hp 4 [(oT tab0), (oC [(zI z576), (.slice none 0 0)]), (oC [(zI z577), (sc 3 0 2 n578 c579)]), (oC q580)]) (.k [3] [false] [.tmp 4 false, .tmp 5 true, .cell 2 1 false] [1, 4, 5, 41, 42, 43] ⟨trE (by kernel_rfl) h581, trivial⟩) ?_
      refine .then ?_
      refine .block ?_
      refine .then ?_
      replace hm := oo_inv hm; obtain ⟨k595, h596, hm⟩ := hm
      obtain rfl := toN_some h596
      replace hm := bb_inv hm; obtain ⟨h597, hm⟩ := hm
      replace hm := bb_inv hm; obtain ⟨h598, hm⟩ := hm
      replace hm := oo_inv hm; obtain ⟨v599, h600, hm⟩ := hm
      replace hm := oo_inv hm; obtain ⟨x601, h602, hm⟩ := hm
      obtain rfl := toI_some h602
      replace hm := oo_inv hm; obtain ⟨v603, h604, hm⟩ := hm
      replace hm := oo_inv hm; obtain ⟨x605, h606, hm⟩ := hm
      obtain rfl := toI_some h606
      refine .reg (eC 1 (keep (hp 4 [(oT tab0), (oC [(zI z576), (.slice none 0 0)]), (oC [(zI z577), (sc 3 0 2 n578 c579)]), (oC q580)]) (bb (an (Nat.blt k595 (Sl.n s573)) true) (some (fpV (k595 * 2) (Sl.cs s573))) none)) (keep_bb h597) (eD (keep (hp 4 [(oT tab0), (oC [(zI z576), (.slice none 0 0)]), (oC [(zI z577), (sc 3 0 2 n578 c579)]), (oC q580)]) (bb (Nat.ble ((k595 * 2) + 2) (len (Sl.cs s573))) (some (.agg ⟨takeL 2 (dropL (k595 * 2) (Sl.cs s573))⟩)) none)) (keep_agg h598 (takeL_cons h600 (takeL_cons h604 rfl))) (eE))) ?_
      refine .ghs (fr 84 [(1, (zI z572)), (4, (pt 1 0)), (5, (pt 2 0)), (8, (zI (Int.ofNat k595))), (9, (pt 3 0)), (41, (Sl.v 2 s573)), (42, (zI z574)), (43, (zI (Int.ofNat k595)))]) (hp 5 [(oT tab0), (oC [(zI z576), (.slice none 0 0)]), (oC [(zI z577), (sc 4 0 2 n578 c579)]), (oC [(zY x601), (zY x605)]), (oC q580)]) (.k [3] [false] [.tmp 4 false, .tmp 5 true, .tmp 9 false, .cell 2 1 false] [1, 4, 5, 8, 9, 41, 42, 43] ⟨trE (by kernel_rfl) h581, trivial⟩) ?_
      refine .then ?_
      refine .join (v := v) (fun y : Int × Sl × Int × Int × Bool × Int × Int × Nat × Nat × Int × Int × List Value => ((fr 84 [(1, (zI y.1)), (4, (pt 1 0)), (5, (pt 2 0)), (9, (pt 3 0)), (41, (Sl.v 2 y.2.1)), (42, (zI y.2.2.1)), (43, (zI y.2.2.2.1)), (55, (zB y.2.2.2.2.1))]), (hp 5 [(oT tab0), (oC [(zI y.2.2.2.2.2.1), (.slice none 0 0)]), (oC [(zI y.2.2.2.2.2.2.1), (sc 4 0 2 y.2.2.2.2.2.2.2.1 y.2.2.2.2.2.2.2.2.1)]), (oC [(zY y.2.2.2.2.2.2.2.2.2.1), (zY y.2.2.2.2.2.2.2.2.2.2.1)]), (oC y.2.2.2.2.2.2.2.2.2.2.2)]))) (fun y => m10230_3 pu n (l10230_2 pu n w0) y.1 y.2.1 y.2.2.1 y.2.2.2.1 y.2.2.2.2.1 y.2.2.2.2.2.1 y.2.2.2.2.2.2.1 y.2.2.2.2.2.2.2.1 y.2.2.2.2.2.2.2.2.1 y.2.2.2.2.2.2.2.2.2.1 y.2.2.2.2.2.2.2.2.2.2.1 y.2.2.2.2.2.2.2.2.2.2.2) ?_ ?_
      · rintro ⟨z609, s610, z611, z612, b613, z614, z615, n616, c617, z618, z619, q620⟩ hm
        unfold m10230_3 at hm
        have hq := bb_cases hm; clear hm; rcases hq with ⟨h621, hm⟩ | ⟨h621, hm⟩
        · refine .ifT b613 (by kernel_rfl) h621 ?_
          refine .exit ?_
          replace hm := bb_inv hm; obtain ⟨h622, hm⟩ := hm
          exact ⟨(z614, z615, n616, c617, q620), hm, (.k [4] [false] [.tmp 4 false, .tmp 5 true, .cell 2 1 false] [4, 5] ⟨trE (by kernel_rfl) h622, trivial⟩)⟩
        · refine .ifF b613 (by kernel_rfl) h621 ?_
          refine .skip ?_
          replace hm := bb_inv hm; obtain ⟨h623, hm⟩ := hm
          refine .ghs (fr 84 [(1, (zI z609)), (4, (pt 1 0)), (5, (pt 2 0)), (9, (pt 3 0)), (41, (Sl.v 2 s610)), (42, (zI z611)), (43, (zI z612))]) (hp 5 [(oT tab0), (oC [(zI z614), (.slice none 0 0)]), (oC [(zI z615), (sc 4 0 2 n616 c617)]), (oC [(zY z618), (zY z619)]), (oC q620)]) (.k [4] [false] [.tmp 4 false, .tmp 5 true, .tmp 9 false, .cell 2 1 false] [1, 4, 5, 9, 41, 42, 43] ⟨trE (by kernel_rfl) h623, trivial⟩) ?_
          refine .then ?_
          replace hm := bb_inv hm; obtain ⟨h625, hm⟩ := hm
          refine .reg (eC 6 (keep (hp 5 [(oT tab0), (oC [(zI z614), (.slice none 0 0)]), (oC [(zI z615), (sc 4 0 2 n616 c617)]), (oC [(zY z618), (zY z619)]), (oC q620)]) (bb (ieq (wrapF .i64 (Int.sub z615 (1 : Int))) (0 : Int)) none (some (zI (Int.tmod (wrapF .i64 z618) (wrapF .i64 (Int.sub z615 (1 : Int)))))))) (keep_nb h625) (eE)) ?_
          refine .ghs (fr 84 [(1, (zI z609)), (4, (pt 1 0)), (5, (pt 2 0)), (9, (pt 3 0)), (10, (zI (Int.tmod (wrapF .i64 z618) (wrapF .i64 (Int.sub z615 (1 : Int)))))), (41, (Sl.v 2 s610)), (42, (zI z611)), (43, (zI z612))]) (hp 5 [(oT tab0), (oC [(zI z614), (.slice none 0 0)]), (oC [(zI z615), (sc 4 0 2 n616 c617)]), (oC [(zY z618), (zY z619)]), (oC q620)]) (.k [4] [false] [.tmp 4 false, .tmp 5 true, .tmp 9 false, .cell 2 1 false] [1, 4, 5, 9, 10, 41, 42, 43] ⟨trE (by kernel_rfl) h623, trivial⟩) ?_
          replace hm := bb_inv hm; obtain ⟨h628, hm⟩ := hm
          replace hm := bb_inv hm; obtain ⟨h629, hm⟩ := hm
          refine .reg (eC 13 (keep (hp 5 [(oT tab0), (oC [(zI z614), (.slice none 0 0)]), (oC [(zI z615), (sc 4 0 2 n616 c617)]), (oC [(zY z618), (zY z619)]), (oC q620)]) (bb (ieq (wrapF .i64 (Int.sub (wrapF .i64 (Int.sub z615 (1 : Int))) (Int.tmod (wrapF .i64 z618) (wrapF .i64 (Int.sub z615 (1 : Int)))))) (0 : Int)) none (some (zI (Int.tmod (wrapF .i64 z619) (wrapF .i64 (Int.sub (wrapF .i64 (Int.sub z615 (1 : Int))) (Int.tmod (wrapF .i64 z618) (wrapF .i64 (Int.sub z615 (1 : Int))))))))))) (keep_nb h628) (eC 3 (growD 2 16 n616 c617 1 4 q620 [(zI (Int.tmod (wrapF .i64 z618) (wrapF .i64 (Int.sub z615 (1 : Int))))), (zI (wrapF .i64 (Int.add (wrapF .i64 (Int.add (Int.tmod (wrapF .i64 z618) (wrapF .i64 (Int.sub z615 (1 : Int)))) (1 : Int))) (Int.tmod (wrapF .i64 z619) (wrapF .i64 (Int.sub (wrapF .i64 (Int.sub z615 (1 : Int))) (Int.tmod (wrapF .i64 z618) (wrapF .i64 (Int.sub z615 (1 : Int))))))))))] [] (hp 6 [(oT tab0), (oC [(zI z614), (.slice none 0 0)]), (oC [(zI z615), (sc 4 0 2 n616 c617)]), (oC [(zY z618), (zY z619)]), (oC q620), (oC [(zI (Int.tmod (wrapF .i64 z618) (wrapF .i64 (Int.sub z615 (1 : Int))))), (zI (wrapF .i64 (Int.add (wrapF .i64 (Int.add (Int.tmod (wrapF .i64 z618) (wrapF .i64 (Int.sub z615 (1 : Int)))) (1 : Int))) (Int.tmod (wrapF .i64 z619) (wrapF .i64 (Int.sub (wrapF .i64 (Int.sub z615 (1 : Int))) (Int.tmod (wrapF .i64 z618) (wrapF .i64 (Int.sub z615 (1 : Int))))))))))])])) (growD_eq h629) (eE))) ?_
          replace hm := bb_inv hm; obtain ⟨h630, hm⟩ := hm
          refine .ghs (fr 84 [(1, (zI z609)), (4, (pt 1 0)), (5, (pt 2 0)), (41, (Sl.v 2 s610)), (42, (zI z611)), (43, (zI z612))]) (hp 4 [(oT tab0), (oC [(zI z614), (.slice none 0 0)]), (oC [(zI z615), (sc 3 0 2 (n616 + 1) (d2 (n616 + 1)))]), (oC (appL (dropL 0 q620) [(zI (Int.tmod (wrapF .i64 z618) (wrapF .i64 (Int.sub z615 (1 : Int))))), (zI (wrapF .i64 (Int.add (wrapF .i64 (Int.add (Int.tmod (wrapF .i64 z618) (wrapF .i64 (Int.sub z615 (1 : Int)))) (1 : Int))) (Int.tmod (wrapF .i64 z619) (wrapF .i64 (Int.sub (wrapF .i64 (Int.sub z615 (1 : Int))) (Int.tmod (wrapF .i64 z618) (wrapF .i64 (Int.sub z615 (1 : Int))))))))))]))]) (.k [6] [false] [.tmp 4 false, .tmp 5 true, .cell 2 1 false] [1, 4, 5, 41, 42, 43] ⟨trE (by kernel_rfl) h630, trivial⟩) ?_
          refine .rK ?_
          exact ⟨(z609, s610, z611, (wrapF .i64 (Int.add z612 (1 : Int))), z614, z615, (n616 + 1), (d2 (n616 + 1)), (appL (dropL 0 q620) [(zI (Int.tmod (wrapF .i64 z618) (wrapF .i64 (Int.sub z615 (1 : Int))))), (zI (wrapF .i64 (Int.add (wrapF .i64 (Int.add (Int.tmod (wrapF .i64 z618) (wrapF .i64 (Int.sub z615 (1 : Int)))) (1 : Int))) (Int.tmod (wrapF .i64 z619) (wrapF .i64 (Int.sub (wrapF .i64 (Int.sub z615 (1 : Int))) (Int.tmod (wrapF .i64 z618) (wrapF .i64 (Int.sub z615 (1 : Int))))))))))])), hm, (.k [3] [false] [.tmp 4 false, .tmp 5 true, .cell 2 1 false] [1, 4, 5, 41, 42, 43] ⟨trE (by kernel_rfl) h630, trivial⟩)⟩
      · skip
        have hq := bb_cases hm; clear hm; rcases hq with ⟨h632, hm⟩ | ⟨h632, hm⟩
        · skip
          refine .reg (eC 2 (some ((zB (nt (ilt (Int.ofNat k595) z572))), (hp 5 [(oT tab0), (oC [(zI z576), (.slice none 0 0)]), (oC [(zI z577), (sc 4 0 2 n578 c579)]), (oC [(zY x601), (zY x605)]), (oC q580)]))) (show _ = some ((zB true), _) from (by rw [h632])) (eE)) ?_
          exact ⟨(z572, s573, z574, (Int.ofNat k595), true, z576, z577, n578, c579, x601, x605, q580), hm, (.k [4] [false] [.tmp 4 false, .tmp 5 true, .tmp 9 false, .cell 2 1 false] [1, 4, 5, 9, 41, 42, 43, 55] ⟨trE (by kernel_rfl) h581, trivial⟩)⟩
        · skip
          refine .reg (eC 2 (some ((zB (nt (ilt (Int.ofNat k595) z572))), (hp 5 [(oT tab0), (oC [(zI z576), (.slice none 0 0)]), (oC [(zI z577), (sc 4 0 2 n578 c579)]), (oC [(zY x601), (zY x605)]), (oC q580)]))) (show _ = some ((zB false), _) from (by rw [h632])) (eE)) ?_
          exact ⟨(z572, s573, z574, (Int.ofNat k595), (ilt z577 (2 : Int)), z576, z577, n578, c579, x601, x605, q580), hm, (.k [4] [false] [.tmp 4 false, .tmp 5 true, .tmp 9 false, .cell 2 1 false] [1, 4, 5, 9, 41, 42, 43, 55] ⟨trE (by kernel_rfl) h581, trivial⟩)⟩
    · refine .ifF (ilt z575 z574) (by kernel_rfl) h582 ?_
      refine .exit ?_
      exact ⟨(z576, z577, n578, c579, q580), hm, (.k [3] [false] [.tmp 4 false, .tmp 5 true, .cell 2 1 false] [4, 5] ⟨trE (by kernel_rfl) h581, trivial⟩)⟩
theorem q10230 (pu : PureF) (n : Nat) (z37 : Int) (s38 : Sl) (b39 : Bool) (z40 : Int) {v : Value} (hm : m10230_ pu n z37 s38 b39 z40 = some v) : Run tt (callP tabs isP pu (inl pu)) 1 c23_53 (fr 84 [(0, (.agg ⟨[(zY z37), (Sl.v 2 s38), (zB b39)]⟩)), (1, (zI z40))]) (hp 1 [(oT tab0)]) (FinO tt 1 0 [.cell 4 24] v) := by
  unfold m10230_ at hm
  refine .then ?_
  refine .rK ?_
  refine .ghs (fr 84 [(1, (zI z40)), (2, (pt 1 0)), (4, (pt 2 0))]) (hp 3 [(oT tab0), (oC [(zY z37), (Sl.v 2 s38), (zB b39)]), (oC [(zI (0 : Int)), (.slice none 0 0)])]) (.k0 [false] [.tmp 2 false, .tmp 4 false] [1, 2, 4]) ?_
  refine .then ?_
  refine .rK ?_
  refine .ghs (fr 84 [(1, (zI z40)), (2, (pt 1 0)), (4, (pt 2 0)), (5, (pt 3 0))]) (hp 4 [(oT tab0), (oC [(zY z37), (Sl.v 2 s38), (zB b39)]), (oC [(zI (0 : Int)), (.slice none 0 0)]), (oC [(zI (wrapF .i64 (Int.add (1 : Int) (Int.tmod (wrapF .i64 z37) (5 : Int))))), (.slice none 0 0)])]) (.k0 [false] [.tmp 2 false, .tmp 4 false, .tmp 5 false] [1, 2, 4, 5]) ?_
  refine .join (v := v) (fun y : Int × Int × Sl × Bool × Int × Int × Nat × Nat × List Value => ((fr 84 [(1, (zI y.1)), (2, (pt 1 0)), (4, (pt 2 0)), (5, (pt 3 0))]), (hp 5 [(oT tab0), (oC [(zY y.2.1), (Sl.v 2 y.2.2.1), (zB y.2.2.2.1)]), (oC [(zI y.2.2.2.2.1), (.slice none 0 0)]), (oC [(zI y.2.2.2.2.2.1), (sc 4 0 2 y.2.2.2.2.2.2.1 y.2.2.2.2.2.2.2.1)]), (oC y.2.2.2.2.2.2.2.2)]))) (fun y => m10230_0 pu n y.1 y.2.1 y.2.2.1 y.2.2.2.1 y.2.2.2.2.1 y.2.2.2.2.2.1 y.2.2.2.2.2.2.1 y.2.2.2.2.2.2.2.1 y.2.2.2.2.2.2.2.2) ?_ ?_
  · rintro ⟨z487, z488, s489, b490, z491, z492, n493, c494, q495⟩ hm
    exact w10230_0 pu n z487 z488 s489 b490 z491 z492 n493 c494 q495 hm
  · skip
    refine .then ?_
    refine .rK ?_
    refine .ghs (fr 84 [(1, (zI z40)), (2, (pt 1 0)), (4, (pt 2 0)), (5, (pt 3 0)), (18, (zB b39))]) (hp 4 [(oT tab0), (oC [(zY z37), (Sl.v 2 s38), (zB b39)]), (oC [(zI (0 : Int)), (.slice none 0 0)]), (oC [(zI (wrapF .i64 (Int.add (1 : Int) (Int.tmod (wrapF .i64 z37) (5 : Int))))), (.slice none 0 0)])]) (.k0 [false] [.tmp 2 false, .tmp 4 false, .tmp 5 false] [1, 2, 4, 5, 18]) ?_
    have hq := bb_cases hm; clear hm; rcases hq with ⟨h633, hm⟩ | ⟨h633, hm⟩
    · refine .ifT b39 (by kernel_rfl) h633 ?_
      refine .then ?_
      refine .rK ?_
      refine .ghs (fr 84 [(1, (zI z40)), (2, (pt 1 0)), (4, (pt 2 0)), (5, (pt 3 0)), (6, (zI (wrapF .i64 (Int.add (1 : Int) (Int.tmod (wrapF .i64 z37) (5 : Int))))))]) (hp 4 [(oT tab0), (oC [(zY z37), (Sl.v 2 s38), (zB b39)]), (oC [(zI (0 : Int)), (.slice none 0 0)]), (oC [(zI (wrapF .i64 (Int.add (1 : Int) (Int.tmod (wrapF .i64 z37) (5 : Int))))), (.slice none 0 0)])]) (.k0 [false] [.tmp 2 false, .tmp 4 false, .tmp 5 false] [1, 2, 4, 5, 6]) ?_
      refine .block ?_
      refine .loopM (v := v) (fun y : Int × Int × Int × Sl × Bool × Int × Int × Nat × Nat × List Value => ((fr 84 [(1, (zI y.1)), (2, (pt 1 0)), (4, (pt 2 0)), (5, (pt 3 0)), (6, (zI y.2.1))]), (hp 5 [(oT tab0), (oC [(zY y.2.2.1), (Sl.v 2 y.2.2.2.1), (zB y.2.2.2.2.1)]), (oC [(zI y.2.2.2.2.2.1), (.slice none 0 0)]), (oC [(zI y.2.2.2.2.2.2.1), (sc 4 0 2 y.2.2.2.2.2.2.2.1 y.2.2.2.2.2.2.2.2.1)]), (oC y.2.2.2.2.2.2.2.2.2)]))) (fun w y => l10230_4 pu n w y.1 y.2.1 y.2.2.1 y.2.2.2.1 y.2.2.2.2.1 y.2.2.2.2.2.1 y.2.2.2.2.2.2.1 y.2.2.2.2.2.2.2.1 y.2.2.2.2.2.2.2.2.1 y.2.2.2.2.2.2.2.2.2) n ⟨(z40, (wrapF .i64 (Int.add (1 : Int) (Int.tmod (wrapF .i64 z37) (5 : Int)))), z37, s38, b39, (0 : Int), (wrapF .i64 (Int.add (1 : Int) (Int.tmod (wrapF .i64 z37) (5 : Int)))), 0, 0, ([] : List Value)), hm, (.thawC 3 1 2 [(zI (wrapF .i64 (Int.add (1 : Int) (Int.tmod (wrapF .i64 z37) (5 : Int))))), (.slice none 0 0)] (imm := false) (spent := false) (anc := []) (by kernel_rfl) (by kernel_rfl) (by kernel_rfl) (by kernel_rfl) (.k0 [false] [.tmp 2 false, .tmp 4 false, .tmp 5 true, .cell 3 1 false] [1, 2, 4, 5, 6]))⟩ (fun _ => rfl) ?_
      rintro w0 ⟨z678, z679, z680, s681, b682, z683, z684, n685, c686, q687⟩ hm
      replace hm : b10230_4 pu n (l10230_4 pu n w0) z678 z679 z680 s681 b682 z683 z684 n685 c686 q687 = some v := hm
      unfold b10230_4 at hm
      refine .then ?_
      refine .then ?_
      refine .rK ?_
      replace hm := bb_inv hm; obtain ⟨h688, hm⟩ := hm
      refine .ghs (fr 84 [(1, (zI z678)), (2, (pt 1 0)), (4, (pt 2 0)), (5, (pt 3 0)), (6, (zI z679)), (22, (zB (ilt (1 : Int) z679)))]) (hp 5 [(oT tab0), (oC [(zY z680), (Sl.v 2 s681), (zB b682)]), (oC [(zI z683), (.slice none 0 0)]), (oC [(zI z684), (sc 4 0 2 n685 c686)]), (oC q687)]) (.k [4] [false] [.tmp 2 false, .tmp 4 false, .tmp 5 true, .cell 3 1 false] [1, 2, 4, 5, 6, 22] ⟨trE (by kernel_rfl) h688, trivial⟩) ?_
      have hq := bb_cases hm; clear hm; rcases hq with ⟨h689, hm⟩ | ⟨h689, hm⟩
      · refine .ifT (ilt (1 : Int) z679) (by kernel_rfl) h689 ?_
        refine .skip ?_
        refine .ghs (fr 84 [(1, (zI z678)), (2, (pt 1 0)), (4, (pt 2 0)), (5, (pt 3 0)), (6, (zI z679))]) (hp 5 [(oT tab0), (oC [(zY z680), (Sl.v 2 s681), (zB b682)]), (oC [(zI z683), (.slice none 0 0)]), (oC [(zI z684), (sc 4 0 2 n685 c686)]), (oC q687)]) (.k [4] [false] [.tmp 2 false, .tmp 4 false, .tmp 5 true, .cell 3 1 false] [1, 2, 4, 5, 6] ⟨trE (by kernel_rfl) h688, trivial⟩) ?_
        refine .join (v := v) (fun y : Int × Int × Int × Sl × Bool × Int × Int × Nat × Nat × List Value => ((fr 84 [(1, (zI y.1)), (2, (pt 1 0)), (4, (pt 2 0)), (5, (pt 3 0)), (6, (zI y.2.1))]), (hp 5 [(oT tab0), (oC [(zY y.2.2.1), (Sl.v 2 y.2.2.2.1), (zB y.2.2.2.2.1)]), (oC [(zI y.2.2.2.2.2.1), (.slice none 0 0)]), (oC [(zI y.2.2.2.2.2.2.1), (sc 4 0 2 y.2.2.2.2.2.2.2.1 y.2.2.2.2.2.2.2.2.1)]), (oC y.2.2.2.2.2.2.2.2.2)]))) (fun y => m10230_5 pu n (l10230_4 pu n w0) y.1 y.2.1 y.2.2.1 y.2.2.2.1 y.2.2.2.2.1 y.2.2.2.2.2.1 y.2.2.2.2.2.2.1 y.2.2.2.2.2.2.2.1 y.2.2.2.2.2.2.2.2.1 y.2.2.2.2.2.2.2.2.2) ?_ ?_
        · rintro ⟨z706, z707, z708, s709, b710, z711, z712, n713, c714, q715⟩ hm
          unfold m10230_5 at hm
          refine .rK ?_
          replace hm := bb_inv hm; obtain ⟨h716, hm⟩ := hm
          exact ⟨(z706, (wrapF .i64 (Int.sub z707 (1 : Int))), z708, s709, b710, z711, z712, n713, c714, q715), hm, (.k [4] [false] [.tmp 2 false, .tmp 4 false, .tmp 5 true, .cell 3 1 false] [1, 2, 4, 5, 6] ⟨trE (by kernel_rfl) h716, trivial⟩)⟩
        · skip
          refine .block ?_
          refine .then ?_
          refine .rK ?_
          refine .ghs (fr 84 [(1, (zI z678)), (2, (pt 1 0)), (4, (pt 2 0)), (5, (pt 3 0)), (6, (zI z679)), (7, (zI (0 : Int)))]) (hp 5 [(oT tab0), (oC [(zY z680), (Sl.v 2 s681), (zB b682)]), (oC [(zI z683), (.slice none 0 0)]), (oC [(zI z684), (sc 4 0 2 n685 c686)]), (oC q687)]) (.k [4] [false] [.tmp 2 false, .tmp 4 false, .tmp 5 true, .cell 3 1 false] [1, 2, 4, 5, 6, 7] ⟨trE (by kernel_rfl) h688, trivial⟩) ?_
          refine .block ?_
          refine .loopM (v := v) (fun y : Int × Int × Int × Int × Sl × Bool × Int × Int × Nat × Nat × List Value => ((fr 84 [(1, (zI y.1)), (2, (pt 1 0)), (4, (pt 2 0)), (5, (pt 3 0)), (6, (zI y.2.1)), (7, (zI y.2.2.1))]), (hp 5 [(oT tab0), (oC [(zY y.2.2.2.1), (Sl.v 2 y.2.2.2.2.1), (zB y.2.2.2.2.2.1)]), (oC [(zI y.2.2.2.2.2.2.1), (.slice none 0 0)]), (oC [(zI y.2.2.2.2.2.2.2.1), (sc 4 0 2 y.2.2.2.2.2.2.2.2.1 y.2.2.2.2.2.2.2.2.2.1)]), (oC y.2.2.2.2.2.2.2.2.2.2)]))) (fun w y => l10230_6 pu n (l10230_4 pu n w0) w y.1 y.2.1 y.2.2.1 y.2.2.2.1 y.2.2.2.2.1 y.2.2.2.2.2.1 y.2.2.2.2.2.2.1 y.2.2.2.2.2.2.2.1 y.2.2.2.2.2.2.2.2.1 y.2.2.2.2.2.2.2.2.2.1 y.2.2.2.2.2.2.2.2.2.2) n ⟨(z678, z679, (0 : Int), z680, s681, b682, z683, z684, n685, c686, q687), hm, (.k [4] [false] [.tmp 2 false, .tmp 4 false, .tmp 5 true, .cell 3 1 false] [1, 2, 4, 5, 6, 7] ⟨trE (by kernel_rfl) h688, trivial⟩)⟩ (fun _ => rfl) ?_
          rintro w1 ⟨z717, z718, z719, z720, s721, b722, z723, z724, n725, c726, q727⟩ hm
          replace hm : b10230_6 pu n (l10230_4 pu n w0) (l10230_6 pu n (l10230_4 pu n w0) w1) z717 z718 z719 z720 s721 b722 z723 z724 n725 c726 q727 = some v := hm
          unfold b10230_6 at hm
          refine .then ?_
          refine .then ?_
          refine .rK ?_
          replace hm := bb_inv hm; obtain ⟨h728, hm⟩ := hm
          refine .ghs (fr 84 [(1, (zI z717)), (2, (pt 1 0)), (4, (pt 2 0)), (5, (pt 3 0)), (6, (zI z718)), (7, (zI z719)), (28, (zB (ilt (wrapF .i64 (Int.add z719 (1 : Int))) z718)))]) (hp 5 [(oT tab0), (oC [(zY z720), (Sl.v 2 s721), (zB b722)]), (oC [(zI z723), (.slice none 0 0)]), (oC [(zI z724), (sc 4 0 2 n725 c726)]), (oC q727)]) (.k [4] [false] [.tmp 2 false, .tmp 4 false, .tmp 5 true, .cell 3 1 false] [1, 2, 4, 5, 6, 7, 28] ⟨trE (by kernel_rfl) h728, trivial⟩) ?_
          have hq := bb_cases hm; clear hm; rcases hq with ⟨h729, hm⟩ | ⟨h729, hm⟩
          · refine .ifT (ilt (wrapF .i64 (Int.add z719 (1 : Int))) z718) (by kernel_rfl) h729 ?_
            refine .skip ?_
            refine .ghs (fr 84 [(1, (zI z717)), (2, (pt 1 0)), (4, (pt 2 0)), (5, (pt 3 0)), (6, (zI z718)), (7, (zI z719))]) (hp 5 [(oT tab0), (oC [(zY z720), (Sl.v 2 s721), (zB b722)]), (oC [(zI z723), (.slice none 0 0)]), (oC [(zI z724), (sc 4 0 2 n725 c726)]), (oC q727)]) (.k [4] [false] [.tmp 2 false, .tmp 4 false, .tmp 5 true, .cell 3 1 false] [1, 2, 4, 5, 6, 7] ⟨trE (by kernel_rfl) h728, trivial⟩) ?_
            refine .then ?_
            refine .block ?_
            replace hm := bb_inv hm; obtain ⟨h731, hm⟩ := hm
            refine .reg (eC 7 (growD 2 16 n725 c726 1 4 q727 [(zI z719), (zI (wrapF .i64 (Int.add z719 (1 : Int))))] [] (hp 6 [(oT tab0), (oC [(zY z720), (Sl.v 2 s721), (zB b722)]), (oC [(zI z723), (.slice none 0 0)]), (oC [(zI z724), (sc 4 0 2 n725 c726)]), (oC q727), (oC [(zI z719), (zI (wrapF .i64 (Int.add z719 (1 : Int))))])])) (growD_eq h731) (eE)) ?_
            replace hm := bb_inv hm; obtain ⟨h732, hm⟩ := hm
            refine .ghs (fr 84 [(1, (zI z717)), (2, (pt 1 0)), (4, (pt 2 0)), (5, (pt 3 0)), (6, (zI z718)), (7, (zI z719))]) (hp 5 [(oT tab0), (oC [(zY z720), (Sl.v 2 s721), (zB b722)]), (oC [(zI z723), (.slice none 0 0)]), (oC [(zI z724), (sc 4 0 2 (n725 + 1) (d2 (n725 + 1)))]), (oC (appL (dropL 0 q727) [(zI z719), (zI (wrapF .i64 (Int.add z719 (1 : Int))))]))]) (.k [6] [false] [.tmp 2 false, .tmp 4 false, .tmp 5 true, .cell 3 1 false] [1, 2, 4, 5, 6, 7] ⟨trE (by kernel_rfl) h732, trivial⟩) ?_
            refine .rK ?_
            exact ⟨(z717, z718, (wrapF .i64 (Int.add z719 (1 : Int))), z720, s721, b722, z723, z724, (n725 + 1), (d2 (n725 + 1)), (appL (dropL 0 q727) [(zI z719), (zI (wrapF .i64 (Int.add z719 (1 : Int))))])), hm, (.k [4] [false] [.tmp 2 false, .tmp 4 false, .tmp 5 true, .cell 3 1 false] [1, 2, 4, 5, 6, 7] ⟨trE (by kernel_rfl) h732, trivial⟩)⟩
          · refine .ifF (ilt (wrapF .i64 (Int.add z719 (1 : Int))) z718) (by kernel_rfl) h729 ?_
            refine .exit ?_
            exact ⟨(z717, z718, z720, s721, b722, z723, z724, n725, c726, q727), hm, (.k [4] [false] [.tmp 2 false, .tmp 4 false, .tmp 5 true, .cell 3 1 false] [1, 2, 4, 5, 6] ⟨trE (by kernel_rfl) h728, trivial⟩)⟩
      · refine .ifF (ilt (1 : Int) z679) (by kernel_rfl) h689 ?_
        refine .exit ?_
        exact ⟨(z678, z680, s681, b682, z683, z684, n685, c686, q687), hm, (.k [4] [false] [.tmp 2 false, .tmp 4 false, .tmp 5 true, .cell 3 1 false] [1, 2, 4, 5] ⟨trE (by kernel_rfl) h688, trivial⟩)⟩
    · refine .ifF b39 (by kernel_rfl) h633 ?_
      refine .skip ?_
      exact ⟨(z40, z37, s38, b39, (0 : Int), (wrapF .i64 (Int.add (1 : Int) (Int.tmod (wrapF .i64 z37) (5 : Int)))), 0, 0, ([] : List Value)), hm, (.thawC 3 1 2 [(zI (wrapF .i64 (Int.add (1 : Int) (Int.tmod (wrapF .i64 z37) (5 : Int))))), (.slice none 0 0)] (imm := false) (spent := false) (anc := []) (by kernel_rfl) (by kernel_rfl) (by kernel_rfl) (by kernel_rfl) (.k0 [false] [.tmp 2 false, .tmp 4 false, .tmp 5 true, .cell 3 1 false] [1, 2, 4, 5]))⟩
theorem r10230 {call : CallF} (pu : PureF) (n : Nat) (hcall : call = callP tabs isP pu (inl pu)) {args : List Value} {os : List AObj} {z : Value} (ha : args.length = 2) (hk : os.length = 0) (hpl : ∀ o ∈ os, plainO o) (hm : m10230 pu n (args ++ os.map encO) = some z) : args.length ≤ 84 ∧ Run tt call (tabs.length + 0) c23_53 (Fr.made 84 args) (subHeap tabs os) (FinO tt tabs.length 0 [.cell 4 24] z) := by
  subst hcall
  have hq := len_cons ha; clear ha; obtain ⟨a0, args, rfl, ha⟩ := hq
  have hq := len_cons ha; clear ha; obtain ⟨a1, args, rfl, ha⟩ := hq
  obtain rfl := len_nil ha
  obtain rfl := len_nil hk
  replace hm : m10230 pu n [a0, a1] = some z := hm
  unfold m10230 at hm
  replace hm : (oo (vAgg a0) none fun l733 => (ll l733 none fun v735 l733 => (ll l733 none fun v736 l733 => (ll l733 none fun v737 l733 => (ll l733 (oo (toI .u8 v735) none fun x738 => (oo (toSl 2 v736) none fun s740 => (oo (vBool v737) none fun b742 => (oo (toI .i64 a1) none fun x744 => (m10230_ pu n x738 s740 b742 x744))))) fun _ _ => none))))) = some z := hm
  replace hm := oo_inv hm; obtain ⟨l733, h734, hm⟩ := hm
  obtain rfl := vAgg_some h734
  have hq := ll_uncons hm; clear hm; obtain ⟨v735, l733_0, rfl, hm⟩ := hq
  have hq := ll_uncons hm; clear hm; obtain ⟨v736, l733_1, rfl, hm⟩ := hq
  have hq := ll_uncons hm; clear hm; obtain ⟨v737, l733_2, rfl, hm⟩ := hq
  have hq := ll_end hm; clear hm; obtain ⟨rfl, hm⟩ := hq
  replace hm := oo_inv hm; obtain ⟨x738, h739, hm⟩ := hm
  obtain rfl := toI_some h739
  replace hm := oo_inv hm; obtain ⟨s740, h741, hm⟩ := hm
  obtain rfl := toSl_some h741
  replace hm := oo_inv hm; obtain ⟨b742, h743, hm⟩ := hm
  obtain rfl := vBool_some h743
  replace hm := oo_inv hm; obtain ⟨x744, h745, hm⟩ := hm
  obtain rfl := toI_some h745
  refine ⟨by simp, ?_⟩
  exact .same (F' := (fr 84 [(0, (.agg ⟨[(zY x738), (Sl.v 2 s740), (zB b742)]⟩)), (1, (zI x744))])) (H' := (hp 1 [(oT tab0)])) (by kernel_rfl) (by kernel_rfl) (q10230 pu n x738 s740 b742 x744 hm)
def m10240_0 (pu : PureF) (n : Nat) (n1157 : Nat) (c1158 : Nat) (q1159 : List Value) : Option Value :=
  (bb (allL closed1 q1159) (bb (an (Nat.ble (0 + n1157 * 1) (len q1159)) (allL closed1 (takeL (n1157 * 1) (dropL 0 q1159)))) (some (.tuple ⟨[(.tuple ⟨[(Sl.v 1 (Sl.mk n1157 0 (takeL (n1157 * 1) (dropL 0 q1159)))), (.int .i64 (0 : Int))]⟩)]⟩)) none) none)
def b10240_1 (pu : PureF) (n : Nat) (ih0 : Nat → Nat → Sl → Int → Int → List Value → Option Value) (n1164 : Nat) (c1165 : Nat) (s1166 : Sl) (z1167 : Int) (z1168 : Int) (q1169 : List Value) : Option Value :=
  (bb (allL closed1 q1169) (bb (ilt z1168 z1167) (oo (toN z1168) none fun k1184 => (bb (an (Nat.blt k1184 (Sl.n s1166)) true) (bb (Nat.ble ((k1184 * 2) + 2) (len (Sl.cs s1166))) (oo (nthL (Sl.cs s1166) (k1184 * 2)) none fun v1188 => (oo (toI .i64 v1188) none fun x1190 => (oo (nthL (Sl.cs s1166) ((k1184 * 2) + 1)) none fun v1192 => (oo (toI .i64 v1192) none fun x1194 => (oo (toN x1190) none fun k1224 => (bb (an (Nat.blt k1224 n1164) true) (oo (nthL q1169 (0 + k1224 * 1)) none fun v1227 => (oo (toI .i64 v1227) none fun x1229 => (oo (toN x1194) none fun k1231 => (bb (an (Nat.blt k1231 n1164) true) (oo (nthL q1169 (0 + k1231 * 1)) none fun v1234 => (oo (toI .i64 v1234) none fun x1236 => (bb (an (Nat.blt k1224 n1164) true) (oo (nthL q1169 (0 + k1224 * 1)) none fun v1239 => (oo (toI .i64 v1239) none fun x1241 => (bb (an (Nat.blt k1231 n1164) true) (oo (nthL q1169 (0 + k1231 * 1)) none fun v1244 => (oo (toI .i64 v1244) none fun x1246 => (bb (an (Nat.blt k1224 n1164) true) (bb (an (Nat.ble ((0 + k1224 * 1) + 1) (len q1169)) true) (bb (an (Nat.blt k1231 n1164) true) (bb (an (Nat.ble ((0 + k1231 * 1) + 1) (len (setL ([(.int .i64 (bb (ilt x1236 x1229) x1236 x1229))] : List Value) (0 + k1224 * 1) q1169))) true) (bb (allL closed1 (setL ([(.int .i64 (bb (ilt x1241 x1246) x1246 x1241))] : List Value) (0 + k1231 * 1) (setL ([(.int .i64 (bb (ilt x1236 x1229) x1236 x1229))] : List Value) (0 + k1224 * 1) q1169))) (ih0 n1164 c1165 s1166 z1167 (wrapF .i64 (Int.add (Int.ofNat k1184) (1 : Int))) (setL ([(.int .i64 (bb (ilt x1241 x1246) x1246 x1241))] : List Value) (0 + k1231 * 1) (setL ([(.int .i64 (bb (ilt x1236 x1229) x1236 x1229))] : List Value) (0 + k1224 * 1) q1169))) none) none) none) none) none))) none))) none))) none)))) none)))))) none) none)) (m10240_0 pu n n1164 c1165 q1169)) none)
def l10240_1 (pu : PureF) (n : Nat) (w : Nat) : Nat → Nat → Sl → Int → Int → List Value → Option Value :=
  Nat.rec (motive := fun _ => Nat → Nat → Sl → Int → Int → List Value → Option Value) (fun _ _ _ _ _ _ => none) (fun _ ih0 => b10240_1 pu n ih0) w
def m10240_ (pu : PureF) (n : Nat) (z1048 : Int) (s1049 : Sl) (s1050 : Sl) : Option Value :=
  (oo (pu 50 [(.agg ⟨[(.int .i64 z1048), (Sl.v 2 s1049)]⟩)]) none fun v1055 => (oo (toI .i64 v1055) none fun x1057 => (bb (nt (ieq x1057 (0 : Int))) (some (.tuple ⟨[(.tuple ⟨[(Sl.v 1 (Sl.mk 0 2 [])), (.int .i64 x1057)]⟩)]⟩)) (bb (nt (ieq (Int.ofNat (Sl.n s1050)) z1048)) (some (.tuple ⟨[(.tuple ⟨[(Sl.v 1 (Sl.mk 0 2 [])), (.int .i64 (5 : Int))]⟩)]⟩)) (bb (roomy (0 + (Sl.n s1050)) 8) (bb (allL closed1 (takeL ((Sl.n s1050) * 1) (Sl.cs s1050))) (l10240_1 pu n n (Sl.n s1050) (2 * (Sl.n s1050) + bb false 1 0) s1049 (Int.ofNat (Sl.n s1049)) (0 : Int) (takeL ((Sl.n s1050) * 1) (Sl.cs s1050))) none) none)))))
def m10240 (pu : PureF) (n : Nat) (args : List Value) : Option Value :=
  (ll args none fun a0 args => (ll args none fun a1 args => (ll args (oo (vAgg a0) none fun l1253 => (ll l1253 none fun v1255 l1253 => (ll l1253 none fun v1256 l1253 => (ll l1253 (oo (toI .i64 v1255) none fun x1257 => (oo (toSl 2 v1256) none fun s1259 => (oo (toSl 1 a1) none fun s1261 => (m10240_ pu n x1257 s1259 s1261)))) fun _ _ => none)))) fun _ _ => none)))
theorem w10240_0 (pu : PureF) (n : Nat) (n1157 : Nat) (c1158 : Nat) (q1159 : List Value) {v : Value} (hm : m10240_0 pu n n1157 c1158 q1159 = some v) : Run tt (callP tabs isP pu (inl pu)) 1 c24_29 (fr 63 [(7, (sc 1 0 1 n1157 c1158))]) (hp 2 [(oT tab0), (oC q1159)]) (FinO tt 1 0 [.tmp 4, .tmp 5] v) := by
  unfold m10240_0 at hm
  refine .then ?_
  refine .rK ?_
  replace hm := bb_inv hm; obtain ⟨h1160, hm⟩ := hm
  refine .ghs (fr 63 [(4, (sc 1 0 1 n1157 c1158)), (5, (zI (0 : Int)))]) (hp 2 [(oT tab0), (oC q1159)]) (.k [1] [false] [.tmp 4 false] [4, 5] ⟨trE (by kernel_rfl) h1160, trivial⟩) ?_
  replace hm := bb_inv hm; obtain ⟨h1161, hm⟩ := hm
  refine .ghs (fr 63 [(4, (Sl.v 1 (Sl.mk n1157 0 (takeL (n1157 * 1) (dropL 0 q1159))))), (5, (zI (0 : Int)))]) (hp 1 [(oT tab0)]) (.freezeC 1 4 1 (an (Nat.ble (0 + n1157 * 1) (len q1159)) (allL closed1 (takeL (n1157 * 1) (dropL 0 q1159)))) (F1 := (Fr.puts (fr 63 [(4, (sc 1 0 1 n1157 c1158)), (5, (zI (0 : Int)))]) [(4, (Sl.v 1 (Sl.mk n1157 0 (takeL (n1157 * 1) (dropL 0 q1159)))))])) (H1 := (hp 2 [(oT tab0), .dead])) (by kernel_rfl) (by kernel_rfl) h1161 (.k0 [false] [] [4, 5])) ?_
  refine .ret ?_
  exact finO_ret (.tuple ⟨[(Sl.v 1 (Sl.mk n1157 0 (takeL (n1157 * 1) (dropL 0 q1159)))), (zI (0 : Int))]⟩) [] (by kernel_rfl) hm (Nat.le_of_ble_eq_true rfl) ooAt_nil
theorem q10240 (pu : PureF) (n : Nat) (z1048 : Int) (s1049 : Sl) (s1050 : Sl) {v : Value} (hm : m10240_ pu n z1048 s1049 s1050 = some v) : Run tt (callP tabs isP pu (inl pu)) 1 c24_34 (fr 63 [(0, (.agg ⟨[(zI z1048), (Sl.v 2 s1049)]⟩)), (1, (Sl.v 1 s1050))]) (hp 1 [(oT tab0)]) (FinO tt 1 0 [.tmp 4, .tmp 5] v) := by
  unfold m10240_ at hm
  refine .then ?_
  refine .rK ?_
  refine .ghs (fr 63 [(1, (Sl.v 1 s1050)), (2, (pt 1 0))]) (hp 2 [(oT tab0), (oC [(zI z1048), (Sl.v 2 s1049)])]) (.k0 [false] [.tmp 2 false] [1, 2]) ?_
  refine .then ?_
  replace hm := oo_inv hm; obtain ⟨v1055, h1056, hm⟩ := hm
  replace hm := oo_inv hm; obtain ⟨x1057, h1058, hm⟩ := hm
  obtain rfl := toI_some h1058
  refine .reg (eC 1 ((oo (pu 50 [(.agg ⟨[(zI z1048), (Sl.v 2 s1049)]⟩)]) none fun v => some (v, (hp 2 [(oT tab0), (oC [(zI z1048), (Sl.v 2 s1049)])])))) (call_eq h1056) (eE)) ?_
  refine .ghs (fr 63 [(1, (Sl.v 1 s1050)), (2, (pt 1 0)), (6, (zI x1057))]) (hp 2 [(oT tab0), (oC [(zI z1048), (Sl.v 2 s1049)])]) (.k0 [false] [.tmp 2 false] [1, 2, 6]) ?_
  refine .then ?_
  refine .block ?_
  refine .then ?_
  refine .rK ?_
  refine .ghs (fr 63 [(1, (Sl.v 1 s1050)), (2, (pt 1 0)), (6, (zI x1057)), (12, (zB (nt (ieq x1057 (0 : Int)))))]) (hp 2 [(oT tab0), (oC [(zI z1048), (Sl.v 2 s1049)])]) (.k0 [false] [.tmp 2 false] [1, 2, 6, 12]) ?_
  have hq := bb_cases hm; clear hm; rcases hq with ⟨h1059, hm⟩ | ⟨h1059, hm⟩
  · refine .ifT (nt (ieq x1057 (0 : Int))) (by kernel_rfl) h1059 ?_
    refine .then ?_
    refine .rK ?_
    refine .ghs (fr 63 [(4, (.slice none 0 0)), (5, (zI x1057))]) (hp 1 [(oT tab0)]) (.k0 [false] [] [4, 5]) ?_
    refine .ghs (fr 63 [(4, (Sl.v 1 (Sl.mk 0 2 []))), (5, (zI x1057))]) (hp 1 [(oT tab0)]) (.freeze 1 4 1 (by kernel_rfl) (by kernel_rfl) (.k0 [false] [] [4, 5])) ?_
    refine .ret ?_
    exact finO_ret (.tuple ⟨[(Sl.v 1 (Sl.mk 0 2 [])), (zI x1057)]⟩) [] (by kernel_rfl) hm (Nat.le_of_ble_eq_true rfl) ooAt_nil
  · refine .ifF (nt (ieq x1057 (0 : Int))) (by kernel_rfl) h1059 ?_
    refine .then ?_
    refine .rK ?_
    refine .ghs (fr 63 [(1, (Sl.v 1 s1050)), (2, (pt 1 0)), (16, (zB (nt (ieq (Int.ofNat (Sl.n s1050)) z1048))))]) (hp 2 [(oT tab0), (oC [(zI z1048), (Sl.v 2 s1049)])]) (.k0 [false] [.tmp 2 false] [1, 2, 16]) ?_
    have hq := bb_cases hm; clear hm; rcases hq with ⟨h1062, hm⟩ | ⟨h1062, hm⟩
    · refine .ifT (nt (ieq (Int.ofNat (Sl.n s1050)) z1048)) (by kernel_rfl) h1062 ?_
      refine .then ?_
      refine .rK ?_
      refine .ghs (fr 63 [(4, (.slice none 0 0)), (5, (zI (5 : Int)))]) (hp 1 [(oT tab0)]) (.k0 [false] [] [4, 5]) ?_
      refine .ghs (fr 63 [(4, (Sl.v 1 (Sl.mk 0 2 []))), (5, (zI (5 : Int)))]) (hp 1 [(oT tab0)]) (.freeze 1 4 1 (by kernel_rfl) (by kernel_rfl) (.k0 [false] [] [4, 5])) ?_
      refine .ret ?_
      exact finO_ret (.tuple ⟨[(Sl.v 1 (Sl.mk 0 2 [])), (zI (5 : Int))]⟩) [] (by kernel_rfl) hm (Nat.le_of_ble_eq_true rfl) ooAt_nil
    · refine .ifF (nt (ieq (Int.ofNat (Sl.n s1050)) z1048)) (by kernel_rfl) h1062 ?_
      refine .skip ?_
      refine .ghs (fr 63 [(1, (Sl.v 1 s1050)), (2, (pt 1 0))]) (hp 2 [(oT tab0), (oC [(zI z1048), (Sl.v 2 s1049)])]) (.k0 [false] [.tmp 2 false] [1, 2]) ?_
      refine .then ?_
      replace hm := bb_inv hm; obtain ⟨h1066, hm⟩ := hm
      refine .reg (eC 1 (bb (roomy (0 + (Sl.n s1050)) 8) (some ((sc 3 0 1 (Sl.n s1050) (d2 (Sl.n s1050))), (hp 4 [(oT tab0), (oC [(zI z1048), (Sl.v 2 s1049)]), (oC []), (oC (takeL ((Sl.n s1050) * 1) (Sl.cs s1050)))]))) none) (bb_some h1066) (eE)) ?_
      replace hm := bb_inv hm; obtain ⟨h1067, hm⟩ := hm
      refine .ghs (fr 63 [(2, (pt 1 0)), (7, (sc 2 0 1 (Sl.n s1050) (d2 (Sl.n s1050))))]) (hp 3 [(oT tab0), (oC [(zI z1048), (Sl.v 2 s1049)]), (oC (takeL ((Sl.n s1050) * 1) (Sl.cs s1050)))]) (.k [3] [false] [.tmp 2 false, .tmp 7 false] [2, 7] ⟨trE (by kernel_rfl) h1067, trivial⟩) ?_
      refine .join (v := v) (fun y : Nat × Nat × List Value => ((fr 63 [(7, (sc 1 0 1 y.1 y.2.1))]), (hp 2 [(oT tab0), (oC y.2.2)]))) (fun y => m10240_0 pu n y.1 y.2.1 y.2.2) ?_ ?_
      · rintro ⟨n1157, c1158, q1159⟩ hm
        exact w10240_0 pu n n1157 c1158 q1159 hm
      · skip
        refine .then ?_
        refine .rK ?_
        refine .ghs (fr 63 [(7, (sc 1 0 1 (Sl.n s1050) (d2 (Sl.n s1050)))), (25, (Sl.v 2 s1049)), (26, (zI (Int.ofNat (Sl.n s1049)))), (27, (zI (0 : Int)))]) (hp 2 [(oT tab0), (oC (takeL ((Sl.n s1050) * 1) (Sl.cs s1050)))]) (.k [2] [false] [.tmp 7 false] [7, 25, 26, 27] ⟨trE (by kernel_rfl) h1067, trivial⟩) ?_
        refine .block ?_
        refine .loopM (v := v) (fun y : Nat × Nat × Sl × Int × Int × List Value => ((fr 63 [(7, (sc 1 0 1 y.1 y.2.1)), (25, (Sl.v 2 y.2.2.1)), (26, (zI y.2.2.2.1)), (27, (zI y.2.2.2.2.1))]), (hp 2 [(oT tab0), (oC y.2.2.2.2.2)]))) (fun w y => l10240_1 pu n w y.1 y.2.1 y.2.2.1 y.2.2.2.1 y.2.2.2.2.1 y.2.2.2.2.2) n ⟨((Sl.n s1050), (d2 (Sl.n s1050)), s1049, (Int.ofNat (Sl.n s1049)), (0 : Int), (takeL ((Sl.n s1050) * 1) (Sl.cs s1050))), hm, (.k [1] [false] [.tmp 7 false] [7, 25, 26, 27] ⟨trE (by kernel_rfl) h1067, trivial⟩)⟩ (fun _ => rfl) ?_
        rintro w0 ⟨n1164, c1165, s1166, z1167, z1168, q1169⟩ hm
        replace hm : b10240_1 pu n (l10240_1 pu n w0) n1164 c1165 s1166 z1167 z1168 q1169 = some v := hm
        unfold b10240_1 at hm
        refine .then ?_
        refine .rK ?_
        replace hm := bb_inv hm; obtain ⟨h1170, hm⟩ := hm
        refine .ghs (fr 63 [(7, (sc 1 0 1 n1164 c1165)), (25, (Sl.v 2 s1166)), (26, (zI z1167)), (27, (zI z1168)), (28, (zB (ilt z1168 z1167)))]) (hp 2 [(oT tab0), (oC q1169)]) (.k [1] [false] [.tmp 7 false] [7, 25, 26, 27, 28] ⟨trE (by kernel_rfl) h1170, trivial⟩) ?_
        refine .then ?_
        have hq := bb_cases hm; clear hm; rcases hq with ⟨h1171, hm⟩ | ⟨h1171, hm⟩
        · refine .ifT (ilt z1168 z1167) (by kernel_rfl) h1171 ?_
          refine .skip ?_
          refine .ghs (fr 63 [(7, (sc 1 0 1 n1164 c1165)), (25, (Sl.v 2 s1166)), (26, (zI z1167)), (27, (zI z1168))]) (hp 2 [(oT tab0), (oC q1169)]) (.k [1] [false] [.tmp 7 false] [7, 25, 26, 27] ⟨trE (by kernel_rfl) h1170, trivial⟩) ?_
          refine .then ?_
          refine .block ?_
          refine .then ?_
          replace hm := oo_inv hm; obtain ⟨k1184, h1185, hm⟩ := hm
          obtain rfl := toN_some h1185
          replace hm := bb_inv hm; obtain ⟨h1186, hm⟩ := hm
          replace hm := bb_inv hm; obtain ⟨h1187, hm⟩ := hm
          replace hm := oo_inv hm; obtain ⟨v1188, h1189, hm⟩ := hm
          replace hm := oo_inv hm; obtain ⟨x1190, h1191, hm⟩ := hm
          obtain rfl := toI_some h1191
          replace hm := oo_inv hm; obtain ⟨v1192, h1193, hm⟩ := hm
          replace hm := oo_inv hm; obtain ⟨x1194, h1195, hm⟩ := hm
          obtain rfl := toI_some h1195
          refine .reg (eD (keep (hp 2 [(oT tab0), (oC q1169)]) (bb (an (Nat.blt k1184 (Sl.n s1166)) true) (some (fpV (k1184 * 2) (Sl.cs s1166))) none)) (keep_bb h1186) (eD (keep (hp 2 [(oT tab0), (oC q1169)]) (bb (Nat.ble ((k1184 * 2) + 2) (len (Sl.cs s1166))) (some (.agg ⟨takeL 2 (dropL (k1184 * 2) (Sl.cs s1166))⟩)) none)) (keep_agg h1187 (takeL_cons h1189 (takeL_cons h1193 rfl))) (eE))) ?_
          refine .ghs (fr 63 [(7, (sc 1 0 1 n1164 c1165)), (9, (pt 2 0)), (25, (Sl.v 2 s1166)), (26, (zI z1167)), (27, (zI (Int.ofNat k1184)))]) (hp 3 [(oT tab0), (oC q1169), (oC [(zI x1190), (zI x1194)])]) (.k [1] [false] [.tmp 7 false, .tmp 9 false] [7, 9, 25, 26, 27] ⟨trE (by kernel_rfl) h1170, trivial⟩) ?_
          replace hm := oo_inv hm; obtain ⟨k1224, h1225, hm⟩ := hm
          obtain rfl := toN_some h1225
          replace hm := bb_inv hm; obtain ⟨h1226, hm⟩ := hm
          replace hm := oo_inv hm; obtain ⟨v1227, h1228, hm⟩ := hm
          replace hm := oo_inv hm; obtain ⟨x1229, h1230, hm⟩ := hm
          obtain rfl := toI_some h1230
          replace hm := oo_inv hm; obtain ⟨k1231, h1232, hm⟩ := hm
          obtain rfl := toN_some h1232
          replace hm := bb_inv hm; obtain ⟨h1233, hm⟩ := hm
          replace hm := oo_inv hm; obtain ⟨v1234, h1235, hm⟩ := hm
          replace hm := oo_inv hm; obtain ⟨x1236, h1237, hm⟩ := hm
          obtain rfl := toI_some h1237
          replace hm := bb_inv hm; obtain ⟨h1238, hm⟩ := hm
          replace hm := oo_inv hm; obtain ⟨v1239, h1240, hm⟩ := hm
          replace hm := oo_inv hm; obtain ⟨x1241, h1242, hm⟩ := hm
          obtain rfl := toI_some h1242
          replace hm := bb_inv hm; obtain ⟨h1243, hm⟩ := hm
          replace hm := oo_inv hm; obtain ⟨v1244, h1245, hm⟩ := hm
          replace hm := oo_inv hm; obtain ⟨x1246, h1247, hm⟩ := hm
          obtain rfl := toI_some h1247
          replace hm := bb_inv hm; obtain ⟨h1248, hm⟩ := hm
          replace hm := bb_inv hm; obtain ⟨h1249, hm⟩ := hm
          replace hm := bb_inv hm; obtain ⟨h1250, hm⟩ := hm
          replace hm := bb_inv hm; obtain ⟨h1251, hm⟩ := hm
          refine .reg (eN 15 (Fr.puts (fr 63 [(7, (sc 1 0 1 n1164 c1165)), (9, (pt 2 0)), (25, (Sl.v 2 s1166)), (26, (zI z1167)), (27, (zI (Int.ofNat k1184)))]) [(31, (sc 1 0 1 n1164 c1165)), (32, (pt 2 0)), (33, (zI (Int.ofNat k1224))), (34, (sc 1 0 1 n1164 c1165)), (35, (pt 2 1)), (36, (zI (Int.ofNat k1231))), (37, (sc 1 0 1 n1164 c1165)), (38, (pt 2 0)), (39, (zI (Int.ofNat k1224))), (40, (.pointer (some ⟨1, (0 + k1224 * 1), none⟩))), (41, (zI x1229)), (42, (sc 1 0 1 n1164 c1165)), (43, (pt 2 1)), (44, (zI (Int.ofNat k1231))), (45, (.pointer (some ⟨1, (0 + k1231 * 1), none⟩)))]) (hp 3 [(oT tab0), (oC q1169), (oC [(zI (Int.ofNat k1224)), (zI (Int.ofNat k1231))])]) (eC 9 (keep (hp 3 [(oT tab0), (oC q1169), (oC [(zI (Int.ofNat k1224)), (zI (Int.ofNat k1231))])]) (bb (an (Nat.blt k1224 n1164) true) (some (.pointer (some ⟨1, (0 + k1224 * 1), none⟩))) none)) (keep_bb h1226) (eD (keep (hp 3 [(oT tab0), (oC q1169), (oC [(zI (Int.ofNat k1224)), (zI (Int.ofNat k1231))])]) (nthL q1169 (0 + k1224 * 1))) (keep_eq h1228) (eC 3 (keep (hp 3 [(oT tab0), (oC q1169), (oC [(zI (Int.ofNat k1224)), (zI (Int.ofNat k1231))])]) (bb (an (Nat.blt k1231 n1164) true) (some (.pointer (some ⟨1, (0 + k1231 * 1), none⟩))) none)) (keep_bb h1233) (by kernel_rfl)))) (eN 7 (Fr.puts (fr 63 [(7, (sc 1 0 1 n1164 c1165)), (9, (pt 2 0)), (25, (Sl.v 2 s1166)), (26, (zI z1167)), (27, (zI (Int.ofNat k1184)))]) [(31, (sc 1 0 1 n1164 c1165)), (32, (pt 2 0)), (33, (zI (Int.ofNat k1224))), (34, (sc 1 0 1 n1164 c1165)), (35, (pt 2 1)), (36, (zI (Int.ofNat k1231))), (37, (sc 1 0 1 n1164 c1165)), (38, (pt 2 0)), (39, (zI (Int.ofNat k1224))), (40, (.pointer (some ⟨1, (0 + k1224 * 1), none⟩))), (41, (zI x1229)), (42, (sc 1 0 1 n1164 c1165)), (43, (pt 2 1)), (44, (zI (Int.ofNat k1231))), (45, (.pointer (some ⟨1, (0 + k1231 * 1), none⟩))), (46, (zI x1236)), (47, (zI (bb (ilt x1236 x1229) x1236 x1229))), (48, (sc 1 0 1 n1164 c1165)), (49, (pt 2 0)), (50, (zI (Int.ofNat k1224))), (51, (.pointer (some ⟨1, (0 + k1224 * 1), none⟩))), (52, (zI x1241))]) (hp 3 [(oT tab0), (oC q1169), (oC [(zI (Int.ofNat k1224)), (zI (Int.ofNat k1231))])]) (eD (keep (hp 3 [(oT tab0), (oC q1169), (oC [(zI (Int.ofNat k1224)), (zI (Int.ofNat k1231))])]) (nthL q1169 (0 + k1231 * 1))) (keep_eq h1235) (eC 4 (keep (hp 3 [(oT tab0), (oC q1169), (oC [(zI (Int.ofNat k1224)), (zI (Int.ofNat k1231))])]) (bb (an (Nat.blt k1224 n1164) true) (some (.pointer (some ⟨1, (0 + k1224 * 1), none⟩))) none)) (keep_bb h1238) (eD (keep (hp 3 [(oT tab0), (oC q1169), (oC [(zI (Int.ofNat k1224)), (zI (Int.ofNat k1231))])]) (nthL q1169 (0 + k1224 * 1))) (keep_eq h1240) (by kernel_rfl)))) (eN 7 (Fr.puts (fr 63 [(7, (sc 1 0 1 n1164 c1165)), (9, (pt 2 0)), (25, (Sl.v 2 s1166)), (26, (zI z1167)), (27, (zI (Int.ofNat k1184)))]) [(31, (sc 1 0 1 n1164 c1165)), (32, (pt 2 0)), (33, (zI (Int.ofNat k1224))), (34, (sc 1 0 1 n1164 c1165)), (35, (pt 2 1)), (36, (zI (Int.ofNat k1231))), (37, (sc 1 0 1 n1164 c1165)), (38, (pt 2 0)), (39, (zI (Int.ofNat k1224))), (40, (.pointer (some ⟨1, (0 + k1224 * 1), none⟩))), (41, (zI x1229)), (42, (sc 1 0 1 n1164 c1165)), (43, (pt 2 1)), (44, (zI (Int.ofNat k1231))), (45, (.pointer (some ⟨1, (0 + k1231 * 1), none⟩))), (46, (zI x1236)), (47, (zI (bb (ilt x1236 x1229) x1236 x1229))), (48, (sc 1 0 1 n1164 c1165)), (49, (pt 2 0)), (50, (zI (Int.ofNat k1224))), (51, (.pointer (some ⟨1, (0 + k1224 * 1), none⟩))), (52, (zI x1241)), (53, (sc 1 0 1 n1164 c1165)), (54, (pt 2 1)), (55, (zI (Int.ofNat k1231))), (56, (.pointer (some ⟨1, (0 + k1231 * 1), none⟩))), (57, (zI x1246)), (58, (zI (bb (ilt x1241 x1246) x1246 x1241))), (59, (.pointer (some ⟨1, (0 + k1224 * 1), none⟩)))]) (hp 3 [(oT tab0), (oC q1169), (oC [(zI (Int.ofNat k1224)), (zI (Int.ofNat k1231))])]) (eC 3 (keep (hp 3 [(oT tab0), (oC q1169), (oC [(zI (Int.ofNat k1224)), (zI (Int.ofNat k1231))])]) (bb (an (Nat.blt k1231 n1164) true) (some (.pointer (some ⟨1, (0 + k1231 * 1), none⟩))) none)) (keep_bb h1243) (eD (keep (hp 3 [(oT tab0), (oC q1169), (oC [(zI (Int.ofNat k1224)), (zI (Int.ofNat k1231))])]) (nthL q1169 (0 + k1231 * 1))) (keep_eq h1245) (eC 1 (keep (hp 3 [(oT tab0), (oC q1169), (oC [(zI (Int.ofNat k1224)), (zI (Int.ofNat k1231))])]) (bb (an (Nat.blt k1224 n1164) true) (some (.pointer (some ⟨1, (0 + k1224 * 1), none⟩))) none)) (keep_bb h1248) (by kernel_rfl)))) (eD (done (bb (an (Nat.ble ((0 + k1224 * 1) + 1) (len q1169)) true) (some (hp 3 [(oT tab0), (oC (setL ([(zI (bb (ilt x1236 x1229) x1236 x1229))] : List Value) (0 + k1224 * 1) q1169)), (oC [(zI (Int.ofNat k1224)), (zI (Int.ofNat k1231))])])) none) undef) (done_bb h1249) (eD (keep (hp 3 [(oT tab0), (oC (setL ([(zI (bb (ilt x1236 x1229) x1236 x1229))] : List Value) (0 + k1224 * 1) q1169)), (oC [(zI (Int.ofNat k1224)), (zI (Int.ofNat k1231))])]) (bb (an (Nat.blt k1231 n1164) true) (some (.pointer (some ⟨1, (0 + k1231 * 1), none⟩))) none)) (keep_bb h1250) (eD (done (bb (an (Nat.ble ((0 + k1231 * 1) + 1) (len (setL ([(zI (bb (ilt x1236 x1229) x1236 x1229))] : List Value) (0 + k1224 * 1) q1169))) true) (some (hp 3 [(oT tab0), (oC (setL ([(zI (bb (ilt x1241 x1246) x1246 x1241))] : List Value) (0 + k1231 * 1) (setL ([(zI (bb (ilt x1236 x1229) x1236 x1229))] : List Value) (0 + k1224 * 1) q1169))), (oC [(zI (Int.ofNat k1224)), (zI (Int.ofNat k1231))])])) none) undef) (done_bb h1251) (eE))))))) ?_
          replace hm := bb_inv hm; obtain ⟨h1252, hm⟩ := hm
          refine .ghs (fr 63 [(7, (sc 1 0 1 n1164 c1165)), (25, (Sl.v 2 s1166)), (26, (zI z1167)), (27, (zI (Int.ofNat k1184)))]) (hp 2 [(oT tab0), (oC (setL ([(zI (bb (ilt x1241 x1246) x1246 x1241))] : List Value) (0 + k1231 * 1) (setL ([(zI (bb (ilt x1236 x1229) x1236 x1229))] : List Value) (0 + k1224 * 1) q1169)))]) (.k [1] [false] [.tmp 7 false] [7, 25, 26, 27] ⟨trE (by kernel_rfl) h1252, trivial⟩) ?_
          refine .rK ?_
          exact ⟨(n1164, c1165, s1166, z1167, (wrapF .i64 (Int.add (Int.ofNat k1184) (1 : Int))), (setL ([(zI (bb (ilt x1241 x1246) x1246 x1241))] : List Value) (0 + k1231 * 1) (setL ([(zI (bb (ilt x1236 x1229) x1236 x1229))] : List Value) (0 + k1224 * 1) q1169))), hm, (.k [1] [false] [.tmp 7 false] [7, 25, 26, 27] ⟨trE (by kernel_rfl) h1252, trivial⟩)⟩
        · refine .ifF (ilt z1168 z1167) (by kernel_rfl) h1171 ?_
          refine .exit ?_
          exact ⟨(n1164, c1165, q1169), hm, (.k [1] [false] [.tmp 7 false] [7] ⟨trE (by kernel_rfl) h1170, trivial⟩)⟩
theorem r10240 {call : CallF} (pu : PureF) (n : Nat) (hcall : call = callP tabs isP pu (inl pu)) {args : List Value} {os : List AObj} {z : Value} (ha : args.length = 2) (hk : os.length = 0) (hpl : ∀ o ∈ os, plainO o) (hm : m10240 pu n (args ++ os.map encO) = some z) : args.length ≤ 63 ∧ Run tt call (tabs.length + 0) c24_34 (Fr.made 63 args) (subHeap tabs os) (FinO tt tabs.length 0 [.tmp 4, .tmp 5] z) := by
  subst hcall
  have hq := len_cons ha; clear ha; obtain ⟨a0, args, rfl, ha⟩ := hq
  have hq := len_cons ha; clear ha; obtain ⟨a1, args, rfl, ha⟩ := hq
  obtain rfl := len_nil ha
  obtain rfl := len_nil hk
  replace hm : m10240 pu n [a0, a1] = some z := hm
  unfold m10240 at hm
  replace hm : (oo (vAgg a0) none fun l1253 => (ll l1253 none fun v1255 l1253 => (ll l1253 none fun v1256 l1253 => (ll l1253 (oo (toI .i64 v1255) none fun x1257 => (oo (toSl 2 v1256) none fun s1259 => (oo (toSl 1 a1) none fun s1261 => (m10240_ pu n x1257 s1259 s1261)))) fun _ _ => none)))) = some z := hm
  replace hm := oo_inv hm; obtain ⟨l1253, h1254, hm⟩ := hm
  obtain rfl := vAgg_some h1254
  have hq := ll_uncons hm; clear hm; obtain ⟨v1255, l1253_0, rfl, hm⟩ := hq
  have hq := ll_uncons hm; clear hm; obtain ⟨v1256, l1253_1, rfl, hm⟩ := hq
  have hq := ll_end hm; clear hm; obtain ⟨rfl, hm⟩ := hq
  replace hm := oo_inv hm; obtain ⟨x1257, h1258, hm⟩ := hm
  obtain rfl := toI_some h1258
  replace hm := oo_inv hm; obtain ⟨s1259, h1260, hm⟩ := hm
  obtain rfl := toSl_some h1260
  replace hm := oo_inv hm; obtain ⟨s1261, h1262, hm⟩ := hm
  obtain rfl := toSl_some h1262
  refine ⟨by simp, ?_⟩
  exact .same (F' := (fr 63 [(0, (.agg ⟨[(zI x1257), (Sl.v 2 s1259)]⟩)), (1, (Sl.v 1 s1261))])) (H' := (hp 1 [(oT tab0)])) (by kernel_rfl) (by kernel_rfl) (q10240 pu n x1257 s1259 s1261 hm)
end
end Go.TabUM
