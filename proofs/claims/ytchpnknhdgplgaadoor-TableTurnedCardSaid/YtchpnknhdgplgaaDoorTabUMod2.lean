/- Models of the program's functions, and the proofs that runs give them: MADE BY PROGRAM (wip/tools/dec.py). -/
import Derived.Test.YtchpnknhdgplgaaDoorTabUMod0x

set_option maxRecDepth 100000
set_option maxHeartbeats 20000000
set_option linter.unusedVariables false
namespace Go.TabUM
open Go.Sp Go.TabU
noncomputable section

def m38_ (pu : PureF) (n : Nat) (x2432 : Int) (s2434 : Sl) : Option Value :=
  (bb (allL closed1 zA73) (oo (pu 50 [(.agg ⟨[(.int .i64 x2432), (Sl.v 2 s2434)]⟩)]) none fun v2441 => (oo (toI .i64 v2441) none fun x2443 => (bb (nt (ieq x2443 (0 : Int))) (bb (an (Nat.ble (0 + 14) (len zA73)) true) (bb (allL closed1 (setL ([(.int .u64 (0 : Int)), (.int .u64 (0 : Int)), (.int .u64 (0 : Int)), (.int .u64 (0 : Int)), (.int .u64 (0 : Int)), (.int .u64 (0 : Int)), (.int .u64 (0 : Int)), (.int .u64 (0 : Int)), (.int .u64 (0 : Int)), (.int .u64 (0 : Int)), (.int .u64 (0 : Int)), (.int .u64 (0 : Int)), (.int .u64 (0 : Int)), (.int .u64 (0 : Int))] : List Value) 0 zA73)) (bb (Nat.ble (0 + 14) (len (setL ([(.int .u64 (0 : Int)), (.int .u64 (0 : Int)), (.int .u64 (0 : Int)), (.int .u64 (0 : Int)), (.int .u64 (0 : Int)), (.int .u64 (0 : Int)), (.int .u64 (0 : Int)), (.int .u64 (0 : Int)), (.int .u64 (0 : Int)), (.int .u64 (0 : Int)), (.int .u64 (0 : Int)), (.int .u64 (0 : Int)), (.int .u64 (0 : Int)), (.int .u64 (0 : Int))] : List Value) 0 zA73))) (bb (closedV (.tuple ⟨[(.agg ⟨(takeL 14 (dropL 0 (setL ([(.int .u64 (0 : Int)), (.int .u64 (0 : Int)), (.int .u64 (0 : Int)), (.int .u64 (0 : Int)), (.int .u64 (0 : Int)), (.int .u64 (0 : Int)), (.int .u64 (0 : Int)), (.int .u64 (0 : Int)), (.int .u64 (0 : Int)), (.int .u64 (0 : Int)), (.int .u64 (0 : Int)), (.int .u64 (0 : Int)), (.int .u64 (0 : Int)), (.int .u64 (0 : Int))] : List Value) 0 zA73)))⟩), (.int .i64 x2443)]⟩)) (some (.tuple ⟨[(.agg ⟨(takeL 14 (dropL 0 (setL ([(.int .u64 (0 : Int)), (.int .u64 (0 : Int)), (.int .u64 (0 : Int)), (.int .u64 (0 : Int)), (.int .u64 (0 : Int)), (.int .u64 (0 : Int)), (.int .u64 (0 : Int)), (.int .u64 (0 : Int)), (.int .u64 (0 : Int)), (.int .u64 (0 : Int)), (.int .u64 (0 : Int)), (.int .u64 (0 : Int)), (.int .u64 (0 : Int)), (.int .u64 (0 : Int))] : List Value) 0 zA73)))⟩), (.int .i64 x2443)]⟩)) none) none) none) none) (oo (pu 51 [(.int .i64 x2432)]) none fun v2464 => (oo (vAgg v2464) none fun q2466 => (bb (an (Nat.beq (len q2466) 14) (allL closed1 q2466)) (oo (pu 53 [(.agg ⟨q2466⟩), (Sl.v 2 s2434)]) none fun v2469 => (oo (vAgg v2469) none fun q2471 => (bb (an (Nat.beq (len q2471) 14) (allL closed1 q2471)) (bb (allL closed2 [(.agg ⟨q2466⟩), (Sl.v 2 s2434)]) (bb (Nat.beq (len q2471) 14) (bb (an (Nat.ble (0 + len q2471) (len zA73)) (allL scalarB q2471)) (bb (allL closed1 (setL q2471 0 zA73)) (bb (Nat.ble (0 + 14) (len (setL q2471 0 zA73))) (bb (closedV (.tuple ⟨[(.agg ⟨(takeL 14 (dropL 0 (setL q2471 0 zA73)))⟩), (.int .i64 (0 : Int))]⟩)) (some (.tuple ⟨[(.agg ⟨(takeL 14 (dropL 0 (setL q2471 0 zA73)))⟩), (.int .i64 (0 : Int))]⟩)) none) none) none) none) none) none) none))) none)))))) none)
def m38 (pu : PureF) (n : Nat) (args : List Value) : Option Value :=
  (ll args none fun a0 args => (ll args (oo (vAgg a0) none fun l2428 => (ll l2428 none fun v2430 l2428 => (ll l2428 none fun v2431 l2428 => (ll l2428 (oo (toI .i64 v2430) none fun x2432 => (oo (toSl 2 v2431) none fun s2434 => (m38_ pu n x2432 s2434))) fun _ _ => none)))) fun _ _ => none))
theorem r38 {call : CallF} (pu : PureF) (n : Nat) (hcall : call = callP tabs isP pu (inl pu)) {args : List Value} {v : Value} (hm : m38 pu n args = some v) (_ : ∀ x ∈ args, closed2 x = true) : args.length ≤ 17 ∧ Run tt call 1 c38_11 (Fr.made 17 args) (pureHeap tabs) (Fin tt 1 [.cell 2 73, .tmp 3] v) := by
  subst hcall
  unfold m38 at hm
  have hq := ll_uncons hm; clear hm; obtain ⟨a0, args_0, rfl, hm⟩ := hq
  have hq := ll_end hm; clear hm; obtain ⟨rfl, hm⟩ := hq
  replace hm := oo_inv hm; obtain ⟨l2428, h2429, hm⟩ := hm
  obtain rfl := vAgg_some h2429
  have hq := ll_uncons hm; clear hm; obtain ⟨v2430, l2428_0, rfl, hm⟩ := hq
  have hq := ll_uncons hm; clear hm; obtain ⟨v2431, l2428_1, rfl, hm⟩ := hq
  have hq := ll_end hm; clear hm; obtain ⟨rfl, hm⟩ := hq
  replace hm := oo_inv hm; obtain ⟨x2432, h2433, hm⟩ := hm
  obtain rfl := toI_some h2433
  replace hm := oo_inv hm; obtain ⟨s2434, h2435, hm⟩ := hm
  obtain rfl := toSl_some h2435
  unfold m38_ at hm
  refine ⟨by simp, ?_⟩
  refine .same (F' := (fr 17 [(0, (.agg ⟨[(zI x2432), (Sl.v 2 s2434)]⟩))])) (H' := (hp 1 [(oT tab0)])) (by kernel_rfl) (by kernel_rfl) ?_
  refine .then ?_
  refine .rK ?_
  replace hm := bb_inv hm; obtain ⟨h2436, hm⟩ := hm
  refine .ghs (fr 17 [(1, (pt 1 0)), (2, (pt 2 0))]) (hp 3 [(oT tab0), (oC [(zI x2432), (Sl.v 2 s2434)]), (oC zA73)]) (.k [2] [false] [.tmp 1 false, .tmp 2 false] [1, 2] ⟨trE (by kernel_rfl) h2436, trivial⟩) ?_
  refine .then ?_
  refine .then ?_
  replace hm := oo_inv hm; obtain ⟨v2441, h2442, hm⟩ := hm
  replace hm := oo_inv hm; obtain ⟨x2443, h2444, hm⟩ := hm
  obtain rfl := toI_some h2444
  refine .reg (eC 1 ((oo (pu 50 [(.agg ⟨[(zI x2432), (Sl.v 2 s2434)]⟩)]) none fun v => some (v, (hp 3 [(oT tab0), (oC [(zI x2432), (Sl.v 2 s2434)]), (oC zA73)])))) (call_eq h2442) (eE)) ?_
  refine .ghs (fr 17 [(1, (pt 1 0)), (2, (pt 2 0)), (4, (zI x2443))]) (hp 3 [(oT tab0), (oC [(zI x2432), (Sl.v 2 s2434)]), (oC zA73)]) (.k [2] [false] [.tmp 1 false, .tmp 2 false] [1, 2, 4] ⟨trE (by kernel_rfl) h2436, trivial⟩) ?_
  refine .then ?_
  refine .rK ?_
  refine .ghs (fr 17 [(1, (pt 1 0)), (2, (pt 2 0)), (4, (zI x2443)), (8, (zB (nt (ieq x2443 (0 : Int)))))]) (hp 3 [(oT tab0), (oC [(zI x2432), (Sl.v 2 s2434)]), (oC zA73)]) (.k [2] [false] [.tmp 1 false, .tmp 2 false] [1, 2, 4, 8] ⟨trE (by kernel_rfl) h2436, trivial⟩) ?_
  have hq := bb_cases hm; clear hm; rcases hq with ⟨h2445, hm⟩ | ⟨h2445, hm⟩
  · refine .ifT (nt (ieq x2443 (0 : Int))) (by kernel_rfl) h2445 ?_
    refine .then ?_
    replace hm := bb_inv hm; obtain ⟨h2447, hm⟩ := hm
    refine .reg (eC 2 (done (bb (an (Nat.ble (0 + 14) (len zA73)) true) (some (hp 3 [(oT tab0), (oC [(zI x2432), (Sl.v 2 s2434)]), (oC (setL ([(zU (0 : Int)), (zU (0 : Int)), (zU (0 : Int)), (zU (0 : Int)), (zU (0 : Int)), (zU (0 : Int)), (zU (0 : Int)), (zU (0 : Int)), (zU (0 : Int)), (zU (0 : Int)), (zU (0 : Int)), (zU (0 : Int)), (zU (0 : Int)), (zU (0 : Int))] : List Value) 0 zA73))])) none) undef) (done_bb h2447) (eE)) ?_
    replace hm := bb_inv hm; obtain ⟨h2448, hm⟩ := hm
    refine .ghs (fr 17 [(2, (pt 1 0)), (3, (zI x2443))]) (hp 2 [(oT tab0), (oC (setL ([(zU (0 : Int)), (zU (0 : Int)), (zU (0 : Int)), (zU (0 : Int)), (zU (0 : Int)), (zU (0 : Int)), (zU (0 : Int)), (zU (0 : Int)), (zU (0 : Int)), (zU (0 : Int)), (zU (0 : Int)), (zU (0 : Int)), (zU (0 : Int)), (zU (0 : Int))] : List Value) 0 zA73))]) (.k [2] [false] [.tmp 2 false] [2, 3] ⟨trE (by kernel_rfl) h2448, trivial⟩) ?_
    refine .ret ?_
    replace hm := bb_inv hm; obtain ⟨h2449, hm⟩ := hm
    replace hm := bb_inv hm; obtain ⟨h2450, hm⟩ := hm
    exact fin_ret (.tuple ⟨[(.agg ⟨(takeL 14 (dropL 0 (setL ([(zU (0 : Int)), (zU (0 : Int)), (zU (0 : Int)), (zU (0 : Int)), (zU (0 : Int)), (zU (0 : Int)), (zU (0 : Int)), (zU (0 : Int)), (zU (0 : Int)), (zU (0 : Int)), (zU (0 : Int)), (zU (0 : Int)), (zU (0 : Int)), (zU (0 : Int))] : List Value) 0 zA73)))⟩), (zI x2443)]⟩) (aresults_of (aresultsL_cons (show aresult _ _ _ _ = some (.agg ⟨(takeL 14 (dropL 0 (setL ([(zU (0 : Int)), (zU (0 : Int)), (zU (0 : Int)), (zU (0 : Int)), (zU (0 : Int)), (zU (0 : Int)), (zU (0 : Int)), (zU (0 : Int)), (zU (0 : Int)), (zU (0 : Int)), (zU (0 : Int)), (zU (0 : Int)), (zU (0 : Int)), (zU (0 : Int))] : List Value) 0 zA73)))⟩) from (eq_bb (c := (Nat.ble (0 + 14) (len (setL ([(zU (0 : Int)), (zU (0 : Int)), (zU (0 : Int)), (zU (0 : Int)), (zU (0 : Int)), (zU (0 : Int)), (zU (0 : Int)), (zU (0 : Int)), (zU (0 : Int)), (zU (0 : Int)), (zU (0 : Int)), (zU (0 : Int)), (zU (0 : Int)), (zU (0 : Int))] : List Value) 0 zA73)))) (by kernel_rfl) h2449)) (aresultsL_cons (show aresult _ _ _ _ = some (zI x2443) from (by kernel_rfl)) rfl)) (by kernel_rfl)) h2450 hm
  · refine .ifF (nt (ieq x2443 (0 : Int))) (by kernel_rfl) h2445 ?_
    refine .skip ?_
    refine .ghs (fr 17 [(1, (pt 1 0)), (2, (pt 2 0))]) (hp 3 [(oT tab0), (oC [(zI x2432), (Sl.v 2 s2434)]), (oC zA73)]) (.k [2] [false] [.tmp 1 false, .tmp 2 false] [1, 2] ⟨trE (by kernel_rfl) h2436, trivial⟩) ?_
    refine .then ?_
    replace hm := oo_inv hm; obtain ⟨v2464, h2465, hm⟩ := hm
    replace hm := oo_inv hm; obtain ⟨q2466, h2467, hm⟩ := hm
    obtain rfl := vAgg_some h2467
    replace hm := bb_inv hm; obtain ⟨h2468, hm⟩ := hm
    replace hm := oo_inv hm; obtain ⟨v2469, h2470, hm⟩ := hm
    replace hm := oo_inv hm; obtain ⟨q2471, h2472, hm⟩ := hm
    obtain rfl := vAgg_some h2472
    replace hm := bb_inv hm; obtain ⟨h2473, hm⟩ := hm
    replace hm := bb_inv hm; obtain ⟨h2474, hm⟩ := hm
    replace hm := bb_inv hm; obtain ⟨h2475, hm⟩ := hm
    replace hm := bb_inv hm; obtain ⟨h2476, hm⟩ := hm
    refine .reg (eC 4 ((oo (pu 51 [(zI x2432)]) none fun v => some (v, (hp 3 [(oT tab0), (oC [(zI x2432), (Sl.v 2 s2434)]), (oC zA73)])))) (call_eq h2465) (eD (bb (allL closed2 [(.agg ⟨q2466⟩), (Sl.v 2 s2434)]) (oo (pu 53 [(.agg ⟨q2466⟩), (Sl.v 2 s2434)]) none fun v => some (v, (hp 3 [(oT tab0), (oC [(zI x2432), (Sl.v 2 s2434)]), (oC zA73)]))) (oo (mapO (purify (hp 3 [(oT tab0), (oC [(zI x2432), (Sl.v 2 s2434)]), (oC zA73)])) [(.agg ⟨q2466⟩), (Sl.v 2 s2434)]) none fun l1 => oo (pu 53 l1) none fun v => bb (plainT v) (some (v, (hp 3 [(oT tab0), (oC [(zI x2432), (Sl.v 2 s2434)]), (oC zA73)]))) none)) (callc_eq h2474 h2470) (eD (done (bb (Nat.beq (len q2471) 14) (bb (an (Nat.ble (0 + len q2471) (len zA73)) (allL scalarB q2471)) (some (hp 3 [(oT tab0), (oC [(zI x2432), (Sl.v 2 s2434)]), (oC (setL q2471 0 zA73))])) none) none) undef) (done_bb2 h2475 h2476) (eE)))) ?_
    replace hm := bb_inv hm; obtain ⟨h2477, hm⟩ := hm
    refine .ghs (fr 17 [(2, (pt 1 0)), (3, (zI (0 : Int)))]) (hp 2 [(oT tab0), (oC (setL q2471 0 zA73))]) (.k [2] [false] [.tmp 2 false] [2, 3] ⟨trE (by kernel_rfl) h2477, trivial⟩) ?_
    refine .ret ?_
    replace hm := bb_inv hm; obtain ⟨h2478, hm⟩ := hm
    replace hm := bb_inv hm; obtain ⟨h2479, hm⟩ := hm
    exact fin_ret (.tuple ⟨[(.agg ⟨(takeL 14 (dropL 0 (setL q2471 0 zA73)))⟩), (zI (0 : Int))]⟩) (aresults_of (aresultsL_cons (show aresult _ _ _ _ = some (.agg ⟨(takeL 14 (dropL 0 (setL q2471 0 zA73)))⟩) from (eq_bb (c := (Nat.ble (0 + 14) (len (setL q2471 0 zA73)))) (by kernel_rfl) h2478)) (aresultsL_cons (show aresult _ _ _ _ = some (zI (0 : Int)) from (by kernel_rfl)) rfl)) (by kernel_rfl)) h2479 hm
def m39_0 (pu : PureF) (n : Nat) : Option Value :=
  (some (.int .i64 (-1 : Int)))
def m39_2 (pu : PureF) (n : Nat) (ih0 : Int → Int → List Value → Option Value) (z2809 : Int) (z2810 : Int) (q2811 : List Value) : Option Value :=
  (bb (allL closed1 q2811) (ih0 z2809 (wrapF .i64 (Int.add z2810 (1 : Int))) q2811) none)
def m39_3 (pu : PureF) (n : Nat) (ih0 : Int → Int → List Value → Option Value) (z2857 : Int) (z2858 : Int) (z2859 : Int) (z2860 : Int) (q2861 : List Value) : Option Value :=
  (bb (allL closed1 q2861) (bb (nt (ieq z2859 (0 : Int))) (oo (pu 60 [(.int .u64 z2859)]) none fun v2868 => (oo (toI .i64 v2868) none fun x2870 => (some (.int .i64 (wrapF .i64 (Int.add (wrapF .i64 (Int.mul (64 : Int) z2858)) x2870)))))) (m39_2 pu n ih0 z2857 z2860 q2861)) none)
def b39_4 (pu : PureF) (n : Nat) (ih0 : Int → Int → List Value → Option Value) (ih1 : Int → Int → Int → Int → Int → List Value → Option Value) (z2872 : Int) (z2873 : Int) (z2874 : Int) (z2875 : Int) (z2876 : Int) (q2877 : List Value) : Option Value :=
  (bb (allL closed1 q2877) (bb (ilt z2875 z2872) (oo (toN (wrapF .i64 (Int.sub z2875 (1 : Int)))) none fun k2898 => (bb (Nat.blt k2898 7) (oo (toN z2873) none fun k2901 => (bb (Nat.blt k2901 2) (oo (nthL q2877 ((0 + k2898 * 2) + k2901 * 1)) none fun v2904 => (oo (toI .u64 v2904) none fun x2906 => (oo (toN z2875) none fun k2908 => (bb (Nat.blt k2908 7) (bb (Nat.blt k2901 2) (oo (nthL q2877 ((0 + k2908 * 2) + k2901 * 1)) none fun v2912 => (oo (toI .u64 v2912) none fun x2914 => (ih1 z2872 (Int.ofNat k2901) (aor .u64 z2874 (aandNot .u64 x2906 x2914)) (wrapF .i64 (Int.add (Int.ofNat k2908) (1 : Int))) z2876 q2877))) none) none)))) none)) none)) (m39_3 pu n ih0 z2872 z2873 z2874 z2876 q2877)) none)
def l39_4 (pu : PureF) (n : Nat) (ih0 : Int → Int → List Value → Option Value) (w : Nat) : Int → Int → Int → Int → Int → List Value → Option Value :=
  Nat.rec (motive := fun _ => Int → Int → Int → Int → Int → List Value → Option Value) (fun _ _ _ _ _ _ => none) (fun _ ih1 => b39_4 pu n ih0 ih1) w
def b39_1 (pu : PureF) (n : Nat) (ih0 : Int → Int → List Value → Option Value) (z2701 : Int) (z2702 : Int) (q2703 : List Value) : Option Value :=
  (bb (allL closed1 q2703) (bb (ilt z2702 (2 : Int)) (l39_4 pu n ih0 n z2701 z2702 (0 : Int) (1 : Int) z2702 q2703) (m39_0 pu n)) none)
def l39_1 (pu : PureF) (n : Nat) (w : Nat) : Int → Int → List Value → Option Value :=
  Nat.rec (motive := fun _ => Int → Int → List Value → Option Value) (fun _ _ _ => none) (fun _ ih0 => b39_1 pu n ih0) w
def m39_ (pu : PureF) (n : Nat) (q2480 : List Value) (x2483 : Int) : Option Value :=
  (bb (allL closed1 q2480) (l39_1 pu n n x2483 (0 : Int) q2480) none)
def m39 (pu : PureF) (n : Nat) (args : List Value) : Option Value :=
  (ll args none fun a0 args => (ll args none fun a1 args => (ll args (oo (vAgg a0) none fun q2480 => (bb (an (Nat.beq (len q2480) 14) (allL closed1 q2480)) (oo (toI .i64 a1) none fun x2483 => (m39_ pu n q2480 x2483)) none)) fun _ _ => none)))
theorem w39_0 (pu : PureF) (n : Nat) {v : Value} (hm : m39_0 pu n = some v) : Run tt (callP tabs isP pu (inl pu)) 1 c39_35 (fr 38 []) (hp 1 [(oT tab0)]) (Fin tt 1 [.tmp 4] v) := by
  unfold m39_0 at hm
  refine .then ?_
  refine .rK ?_
  refine .ghs (fr 38 [(4, (zI (-1 : Int)))]) (hp 1 [(oT tab0)]) (.k0 [false] [] [4]) ?_
  refine .ret ?_
  exact fin_ret (zI (-1 : Int)) (by kernel_rfl) (by kernel_rfl) hm
theorem r39 {call : CallF} (pu : PureF) (n : Nat) (hcall : call = callP tabs isP pu (inl pu)) {args : List Value} {v : Value} (hm : m39 pu n args = some v) (_ : ∀ x ∈ args, closed2 x = true) : args.length ≤ 38 ∧ Run tt call 1 c39_37 (Fr.made 38 args) (pureHeap tabs) (Fin tt 1 [.tmp 4] v) := by
  subst hcall
  unfold m39 at hm
  have hq := ll_uncons hm; clear hm; obtain ⟨a0, args_0, rfl, hm⟩ := hq
  have hq := ll_uncons hm; clear hm; obtain ⟨a1, args_1, rfl, hm⟩ := hq
  have hq := ll_end hm; clear hm; obtain ⟨rfl, hm⟩ := hq
  replace hm := oo_inv hm; obtain ⟨q2480, h2481, hm⟩ := hm
  obtain rfl := vAgg_some h2481
  replace hm := bb_inv hm; obtain ⟨h2482, hm⟩ := hm
  replace hm := oo_inv hm; obtain ⟨x2483, h2484, hm⟩ := hm
  obtain rfl := toI_some h2484
  unfold m39_ at hm
  refine ⟨by simp, ?_⟩
  refine .same (F' := (fr 38 [(0, (.agg ⟨q2480⟩)), (1, (zI x2483))])) (H' := (hp 1 [(oT tab0)])) (by kernel_rfl) (by kernel_rfl) ?_
  refine .then ?_
  refine .rK ?_
  replace hm := bb_inv hm; obtain ⟨h2485, hm⟩ := hm
  refine .ghs (fr 38 [(1, (zI x2483)), (2, (pt 1 0))]) (hp 2 [(oT tab0), (oC q2480)]) (.k [1] [false] [.tmp 2 false] [1, 2] ⟨trE (by kernel_rfl) h2485, trivial⟩) ?_
  refine .join (v := v) (fun y : Unit => ((fr 38 []), (hp 1 [(oT tab0)]))) (fun y => m39_0 pu n) ?_ ?_
  · rintro _ hm
    exact w39_0 pu n hm
  · skip
    refine .then ?_
    refine .rK ?_
    refine .ghs (fr 38 [(1, (zI x2483)), (2, (pt 1 0)), (8, (zI (0 : Int)))]) (hp 2 [(oT tab0), (oC q2480)]) (.k [1] [false] [.tmp 2 false] [1, 2, 8] ⟨trE (by kernel_rfl) h2485, trivial⟩) ?_
    refine .block ?_
    refine .loopM (v := v) (fun y : Int × Int × List Value => ((fr 38 [(1, (zI y.1)), (2, (pt 1 0)), (8, (zI y.2.1))]), (hp 2 [(oT tab0), (oC y.2.2)]))) (fun w y => l39_1 pu n w y.1 y.2.1 y.2.2) n ⟨(x2483, (0 : Int), q2480), hm, (.k [1] [false] [.tmp 2 false] [1, 2, 8] ⟨trE (by kernel_rfl) h2485, trivial⟩)⟩ (fun _ => rfl) ?_
    rintro w0 ⟨z2701, z2702, q2703⟩ hm
    replace hm : b39_1 pu n (l39_1 pu n w0) z2701 z2702 q2703 = some v := hm
    unfold b39_1 at hm
    refine .then ?_
    refine .rK ?_
    replace hm := bb_inv hm; obtain ⟨h2704, hm⟩ := hm
    refine .ghs (fr 38 [(1, (zI z2701)), (2, (pt 1 0)), (8, (zI z2702)), (9, (zB (ilt z2702 (2 : Int))))]) (hp 2 [(oT tab0), (oC q2703)]) (.k [1] [false] [.tmp 2 false] [1, 2, 8, 9] ⟨trE (by kernel_rfl) h2704, trivial⟩) ?_
    refine .then ?_
    have hq := bb_cases hm; clear hm; rcases hq with ⟨h2705, hm⟩ | ⟨h2705, hm⟩
    · refine .ifT (ilt z2702 (2 : Int)) (by kernel_rfl) h2705 ?_
      refine .skip ?_
      refine .ghs (fr 38 [(1, (zI z2701)), (2, (pt 1 0)), (8, (zI z2702))]) (hp 2 [(oT tab0), (oC q2703)]) (.k [1] [false] [.tmp 2 false] [1, 2, 8] ⟨trE (by kernel_rfl) h2704, trivial⟩) ?_
      refine .join (v := v) (fun y : Int × Int × List Value => ((fr 38 [(1, (zI y.1)), (2, (pt 1 0)), (8, (zI y.2.1))]), (hp 2 [(oT tab0), (oC y.2.2)]))) (fun y => m39_2 pu n (l39_1 pu n w0) y.1 y.2.1 y.2.2) ?_ ?_
      · rintro ⟨z2809, z2810, q2811⟩ hm
        unfold m39_2 at hm
        refine .rK ?_
        replace hm := bb_inv hm; obtain ⟨h2812, hm⟩ := hm
        exact ⟨(z2809, (wrapF .i64 (Int.add z2810 (1 : Int))), q2811), hm, (.k [1] [false] [.tmp 2 false] [1, 2, 8] ⟨trE (by kernel_rfl) h2812, trivial⟩)⟩
      · skip
        refine .block ?_
        refine .then ?_
        refine .rK ?_
        refine .ghs (fr 38 [(1, (zI z2701)), (2, (pt 1 0)), (5, (zI z2702)), (8, (zI z2702))]) (hp 2 [(oT tab0), (oC q2703)]) (.k [1] [false] [.tmp 2 false] [1, 2, 5, 8] ⟨trE (by kernel_rfl) h2704, trivial⟩) ?_
        refine .then ?_
        refine .rK ?_
        refine .ghs (fr 38 [(1, (zI z2701)), (2, (pt 1 0)), (5, (zI z2702)), (6, (zU (0 : Int))), (8, (zI z2702))]) (hp 2 [(oT tab0), (oC q2703)]) (.k [1] [false] [.tmp 2 false] [1, 2, 5, 6, 8] ⟨trE (by kernel_rfl) h2704, trivial⟩) ?_
        refine .join (v := v) (fun y : Int × Int × Int × Int × List Value => ((fr 38 [(1, (zI y.1)), (2, (pt 1 0)), (5, (zI y.2.1)), (6, (zU y.2.2.1)), (8, (zI y.2.2.2.1))]), (hp 2 [(oT tab0), (oC y.2.2.2.2)]))) (fun y => m39_3 pu n (l39_1 pu n w0) y.1 y.2.1 y.2.2.1 y.2.2.2.1 y.2.2.2.2) ?_ ?_
        · rintro ⟨z2857, z2858, z2859, z2860, q2861⟩ hm
          unfold m39_3 at hm
          refine .then ?_
          refine .rK ?_
          replace hm := bb_inv hm; obtain ⟨h2862, hm⟩ := hm
          refine .ghs (fr 38 [(1, (zI z2857)), (2, (pt 1 0)), (5, (zI z2858)), (6, (zU z2859)), (8, (zI z2860)), (31, (zB (nt (ieq z2859 (0 : Int)))))]) (hp 2 [(oT tab0), (oC q2861)]) (.k [1] [false] [.tmp 2 false] [1, 2, 5, 6, 8, 31] ⟨trE (by kernel_rfl) h2862, trivial⟩) ?_
          have hq := bb_cases hm; clear hm; rcases hq with ⟨h2863, hm⟩ | ⟨h2863, hm⟩
          · refine .ifT (nt (ieq z2859 (0 : Int))) (by kernel_rfl) h2863 ?_
            refine .then ?_
            replace hm := oo_inv hm; obtain ⟨v2868, h2869, hm⟩ := hm
            replace hm := oo_inv hm; obtain ⟨x2870, h2871, hm⟩ := hm
            obtain rfl := toI_some h2871
            refine .reg (eC 3 ((oo (pu 60 [(zU z2859)]) none fun v => some (v, (hp 2 [(oT tab0), (oC q2861)])))) (call_eq h2869) (eE)) ?_
            refine .ghs (fr 38 [(4, (zI (wrapF .i64 (Int.add (wrapF .i64 (Int.mul (64 : Int) z2858)) x2870))))]) (hp 1 [(oT tab0)]) (.k0 [false] [] [4]) ?_
            refine .ret ?_
            exact fin_ret (zI (wrapF .i64 (Int.add (wrapF .i64 (Int.mul (64 : Int) z2858)) x2870))) (by kernel_rfl) (by kernel_rfl) hm
          · refine .ifF (nt (ieq z2859 (0 : Int))) (by kernel_rfl) h2863 ?_
            refine .skip ?_
            exact ⟨(z2857, z2860, q2861), hm, (.k [1] [false] [.tmp 2 false] [1, 2, 8] ⟨trE (by kernel_rfl) h2862, trivial⟩)⟩
        · skip
          refine .then ?_
          refine .rK ?_
          refine .ghs (fr 38 [(1, (zI z2701)), (2, (pt 1 0)), (5, (zI z2702)), (6, (zU (0 : Int))), (7, (zI (1 : Int))), (8, (zI z2702))]) (hp 2 [(oT tab0), (oC q2703)]) (.k [1] [false] [.tmp 2 false] [1, 2, 5, 6, 7, 8] ⟨trE (by kernel_rfl) h2704, trivial⟩) ?_
          refine .block ?_
          refine .loopM (v := v) (fun y : Int × Int × Int × Int × Int × List Value => ((fr 38 [(1, (zI y.1)), (2, (pt 1 0)), (5, (zI y.2.1)), (6, (zU y.2.2.1)), (7, (zI y.2.2.2.1)), (8, (zI y.2.2.2.2.1))]), (hp 2 [(oT tab0), (oC y.2.2.2.2.2)]))) (fun w y => l39_4 pu n (l39_1 pu n w0) w y.1 y.2.1 y.2.2.1 y.2.2.2.1 y.2.2.2.2.1 y.2.2.2.2.2) n ⟨(z2701, z2702, (0 : Int), (1 : Int), z2702, q2703), hm, (.k [1] [false] [.tmp 2 false] [1, 2, 5, 6, 7, 8] ⟨trE (by kernel_rfl) h2704, trivial⟩)⟩ (fun _ => rfl) ?_
          rintro w1 ⟨z2872, z2873, z2874, z2875, z2876, q2877⟩ hm
          replace hm : b39_4 pu n (l39_1 pu n w0) (l39_4 pu n (l39_1 pu n w0) w1) z2872 z2873 z2874 z2875 z2876 q2877 = some v := hm
          unfold b39_4 at hm
          refine .then ?_
          refine .then ?_
          refine .rK ?_
          replace hm := bb_inv hm; obtain ⟨h2878, hm⟩ := hm
          refine .ghs (fr 38 [(1, (zI z2872)), (2, (pt 1 0)), (5, (zI z2873)), (6, (zU z2874)), (7, (zI z2875)), (8, (zI z2876)), (13, (zB (ilt z2875 z2872)))]) (hp 2 [(oT tab0), (oC q2877)]) (.k [1] [false] [.tmp 2 false] [1, 2, 5, 6, 7, 8, 13] ⟨trE (by kernel_rfl) h2878, trivial⟩) ?_
          have hq := bb_cases hm; clear hm; rcases hq with ⟨h2879, hm⟩ | ⟨h2879, hm⟩
          · refine .ifT (ilt z2875 z2872) (by kernel_rfl) h2879 ?_
            refine .skip ?_
            refine .ghs (fr 38 [(1, (zI z2872)), (2, (pt 1 0)), (5, (zI z2873)), (6, (zU z2874)), (7, (zI z2875)), (8, (zI z2876))]) (hp 2 [(oT tab0), (oC q2877)]) (.k [1] [false] [.tmp 2 false] [1, 2, 5, 6, 7, 8] ⟨trE (by kernel_rfl) h2878, trivial⟩) ?_
            refine .then ?_
            refine .block ?_
            replace hm := oo_inv hm; obtain ⟨k2898, h2899, hm⟩ := hm
            replace hm := bb_inv hm; obtain ⟨h2900, hm⟩ := hm
            replace hm := oo_inv hm; obtain ⟨k2901, h2902, hm⟩ := hm
            obtain rfl := toN_some h2902
            replace hm := bb_inv hm; obtain ⟨h2903, hm⟩ := hm
            replace hm := oo_inv hm; obtain ⟨v2904, h2905, hm⟩ := hm
            replace hm := oo_inv hm; obtain ⟨x2906, h2907, hm⟩ := hm
            obtain rfl := toI_some h2907
            replace hm := oo_inv hm; obtain ⟨k2908, h2909, hm⟩ := hm
            obtain rfl := toN_some h2909
            replace hm := bb_inv hm; obtain ⟨h2910, hm⟩ := hm
            replace hm := bb_inv hm; obtain ⟨h2911, hm⟩ := hm
            replace hm := oo_inv hm; obtain ⟨v2912, h2913, hm⟩ := hm
            replace hm := oo_inv hm; obtain ⟨x2914, h2915, hm⟩ := hm
            obtain rfl := toI_some h2915
            refine .reg (eN 6 (Fr.puts (fr 38 [(1, (zI z2872)), (2, (pt 1 0)), (5, (zI (Int.ofNat k2901))), (6, (zU z2874)), (7, (zI (Int.ofNat k2908))), (8, (zI z2876))]) [(16, (zU z2874)), (17, (zI (Int.ofNat k2908))), (18, (zI (Int.ofNat k2898))), (19, (zI (Int.ofNat k2901))), (20, (.pointer (some ⟨1, (0 + k2898 * 2), none⟩))), (21, (.pointer (some ⟨1, ((0 + k2898 * 2) + k2901 * 1), none⟩)))]) (hp 2 [(oT tab0), (oC q2877)]) (eC 2 (some ((zI (wrapF .i64 (Int.sub (Int.ofNat k2908) (1 : Int)))), (hp 2 [(oT tab0), (oC q2877)]))) (show _ = some ((zI (Int.ofNat k2898)), _) from (by rw [toN_some h2899])) (eC 1 (keep (hp 2 [(oT tab0), (oC q2877)]) (bb (Nat.blt k2898 7) (some (.pointer (some ⟨1, (0 + k2898 * 2), none⟩))) none)) (keep_bb h2900) (eD (keep (hp 2 [(oT tab0), (oC q2877)]) (bb (Nat.blt k2901 2) (some (.pointer (some ⟨1, ((0 + k2898 * 2) + k2901 * 1), none⟩))) none)) (keep_bb h2903) (by kernel_rfl)))) (eD (keep (hp 2 [(oT tab0), (oC q2877)]) (nthL q2877 ((0 + k2898 * 2) + k2901 * 1))) (keep_eq h2905) (eC 2 (keep (hp 2 [(oT tab0), (oC q2877)]) (bb (Nat.blt k2908 7) (some (.pointer (some ⟨1, (0 + k2908 * 2), none⟩))) none)) (keep_bb h2910) (eD (keep (hp 2 [(oT tab0), (oC q2877)]) (bb (Nat.blt k2901 2) (some (.pointer (some ⟨1, ((0 + k2908 * 2) + k2901 * 1), none⟩))) none)) (keep_bb h2911) (eD (keep (hp 2 [(oT tab0), (oC q2877)]) (nthL q2877 ((0 + k2908 * 2) + k2901 * 1))) (keep_eq h2913) (eE)))))) ?_
            refine .ghs (fr 38 [(1, (zI z2872)), (2, (pt 1 0)), (5, (zI (Int.ofNat k2901))), (6, (zU (aor .u64 z2874 (aandNot .u64 x2906 x2914)))), (7, (zI (Int.ofNat k2908))), (8, (zI z2876))]) (hp 2 [(oT tab0), (oC q2877)]) (.k [1] [false] [.tmp 2 false] [1, 2, 5, 6, 7, 8] ⟨trE (by kernel_rfl) h2878, trivial⟩) ?_
            refine .rK ?_
            exact ⟨(z2872, (Int.ofNat k2901), (aor .u64 z2874 (aandNot .u64 x2906 x2914)), (wrapF .i64 (Int.add (Int.ofNat k2908) (1 : Int))), z2876, q2877), hm, (.k [1] [false] [.tmp 2 false] [1, 2, 5, 6, 7, 8] ⟨trE (by kernel_rfl) h2878, trivial⟩)⟩
          · refine .ifF (ilt z2875 z2872) (by kernel_rfl) h2879 ?_
            refine .exit ?_
            exact ⟨(z2872, z2873, z2874, z2876, q2877), hm, (.k [1] [false] [.tmp 2 false] [1, 2, 5, 6, 8] ⟨trE (by kernel_rfl) h2878, trivial⟩)⟩
    · refine .ifF (ilt z2702 (2 : Int)) (by kernel_rfl) h2705 ?_
      refine .exit ?_
      exact ⟨(), hm, (.k0 [false] [] [])⟩
def m50_0 (pu : PureF) (n : Nat) : Option Value :=
  (some (.int .i64 (0 : Int)))
def m50_2 (pu : PureF) (n : Nat) (ih0 : Sl → Int → Int → Int → Sl → Option Value) (s3010 : Sl) (z3011 : Int) (z3012 : Int) (b3013 : Bool) (z3014 : Int) (s3015 : Sl) (z3016 : Int) (z3017 : Int) : Option Value :=
  (bb b3013 (some (.int .i64 (2 : Int))) (bb (nt (ilt z3016 z3017)) (some (.int .i64 (7 : Int))) (ih0 s3010 z3011 (wrapF .i64 (Int.add z3012 (1 : Int))) z3014 s3015)))
def b50_1 (pu : PureF) (n : Nat) (ih0 : Sl → Int → Int → Int → Sl → Option Value) (s2978 : Sl) (z2979 : Int) (z2980 : Int) (z2981 : Int) (s2982 : Sl) : Option Value :=
  (bb (ilt z2980 z2979) (oo (toN z2980) none fun k2996 => (bb (an (Nat.blt k2996 (Sl.n s2978)) true) (bb (Nat.ble ((k2996 * 2) + 2) (len (Sl.cs s2978))) (oo (nthL (Sl.cs s2978) (k2996 * 2)) none fun v3000 => (oo (toI .i64 v3000) none fun x3002 => (oo (nthL (Sl.cs s2978) ((k2996 * 2) + 1)) none fun v3004 => (oo (toI .i64 v3004) none fun x3006 => (bb (ilt (bb (ilt x3006 x3002) x3006 x3002) (0 : Int)) (m50_2 pu n ih0 s2978 z2979 (Int.ofNat k2996) true z2981 s2982 x3002 x3006) (m50_2 pu n ih0 s2978 z2979 (Int.ofNat k2996) (nt (ilt (bb (ilt x3002 x3006) x3006 x3002) z2981)) z2981 s2982 x3002 x3006)))))) none) none)) (m50_0 pu n))
def l50_1 (pu : PureF) (n : Nat) (w : Nat) : Sl → Int → Int → Int → Sl → Option Value :=
  Nat.rec (motive := fun _ => Sl → Int → Int → Int → Sl → Option Value) (fun _ _ _ _ _ => none) (fun _ ih0 => b50_1 pu n ih0) w
def m50_ (pu : PureF) (n : Nat) (x2920 : Int) (s2922 : Sl) : Option Value :=
  (oo (pu 56 [(.int .i64 (1 : Int)), (.int .i64 x2920), (.int .i64 (7 : Int))]) none fun v2928 => (oo (vBool v2928) none fun b2930 => (bb (nt b2930) (some (.int .i64 (1 : Int))) (bb (ilt (24 : Int) (Int.ofNat (Sl.n s2922))) (some (.int .i64 (3 : Int))) (l50_1 pu n n s2922 (Int.ofNat (Sl.n s2922)) (0 : Int) x2920 s2922)))))
def m50 (pu : PureF) (n : Nat) (args : List Value) : Option Value :=
  (ll args none fun a0 args => (ll args (oo (vAgg a0) none fun l2916 => (ll l2916 none fun v2918 l2916 => (ll l2916 none fun v2919 l2916 => (ll l2916 (oo (toI .i64 v2918) none fun x2920 => (oo (toSl 2 v2919) none fun s2922 => (m50_ pu n x2920 s2922))) fun _ _ => none)))) fun _ _ => none))
theorem w50_0 (pu : PureF) (n : Nat) {v : Value} (hm : m50_0 pu n = some v) : Run tt (callP tabs isP pu (inl pu)) 1 c50_37 (fr 46 []) (hp 1 [(oT tab0)]) (Fin tt 1 [.tmp 2] v) := by
  unfold m50_0 at hm
  refine .then ?_
  refine .rK ?_
  refine .ghs (fr 46 [(2, (zI (0 : Int)))]) (hp 1 [(oT tab0)]) (.k0 [false] [] [2]) ?_
  refine .ret ?_
  exact fin_ret (zI (0 : Int)) (by kernel_rfl) (by kernel_rfl) hm
theorem r50 {call : CallF} (pu : PureF) (n : Nat) (hcall : call = callP tabs isP pu (inl pu)) {args : List Value} {v : Value} (hm : m50 pu n args = some v) (_ : ∀ x ∈ args, closed2 x = true) : args.length ≤ 46 ∧ Run tt call 1 c50_40 (Fr.made 46 args) (pureHeap tabs) (Fin tt 1 [.tmp 2] v) := by
  subst hcall
  unfold m50 at hm
  have hq := ll_uncons hm; clear hm; obtain ⟨a0, args_0, rfl, hm⟩ := hq
  have hq := ll_end hm; clear hm; obtain ⟨rfl, hm⟩ := hq
  replace hm := oo_inv hm; obtain ⟨l2916, h2917, hm⟩ := hm
  obtain rfl := vAgg_some h2917
  have hq := ll_uncons hm; clear hm; obtain ⟨v2918, l2916_0, rfl, hm⟩ := hq
  have hq := ll_uncons hm; clear hm; obtain ⟨v2919, l2916_1, rfl, hm⟩ := hq
  have hq := ll_end hm; clear hm; obtain ⟨rfl, hm⟩ := hq
  replace hm := oo_inv hm; obtain ⟨x2920, h2921, hm⟩ := hm
  obtain rfl := toI_some h2921
  replace hm := oo_inv hm; obtain ⟨s2922, h2923, hm⟩ := hm
  obtain rfl := toSl_some h2923
  unfold m50_ at hm
  refine ⟨by simp, ?_⟩
  refine .same (F' := (fr 46 [(0, (.agg ⟨[(zI x2920), (Sl.v 2 s2922)]⟩))])) (H' := (hp 1 [(oT tab0)])) (by kernel_rfl) (by kernel_rfl) ?_
  refine .then ?_
  refine .rK ?_
  refine .ghs (fr 46 [(1, (pt 1 0))]) (hp 2 [(oT tab0), (oC [(zI x2920), (Sl.v 2 s2922)])]) (.k0 [false] [.tmp 1 false] [1]) ?_
  refine .then ?_
  refine .block ?_
  refine .then ?_
  replace hm := oo_inv hm; obtain ⟨v2928, h2929, hm⟩ := hm
  replace hm := oo_inv hm; obtain ⟨b2930, h2931, hm⟩ := hm
  obtain rfl := vBool_some h2931
  refine .reg (eC 2 ((oo (pu 56 [(zI (1 : Int)), (zI x2920), (zI (7 : Int))]) none fun v => some (v, (hp 2 [(oT tab0), (oC [(zI x2920), (Sl.v 2 s2922)])])))) (call_eq h2929) (eE)) ?_
  refine .ghs (fr 46 [(1, (pt 1 0)), (5, (zB (nt b2930)))]) (hp 2 [(oT tab0), (oC [(zI x2920), (Sl.v 2 s2922)])]) (.k0 [false] [.tmp 1 false] [1, 5]) ?_
  have hq := bb_cases hm; clear hm; rcases hq with ⟨h2932, hm⟩ | ⟨h2932, hm⟩
  · refine .ifT (nt b2930) (by kernel_rfl) h2932 ?_
    refine .then ?_
    refine .rK ?_
    refine .ghs (fr 46 [(2, (zI (1 : Int)))]) (hp 1 [(oT tab0)]) (.k0 [false] [] [2]) ?_
    refine .ret ?_
    exact fin_ret (zI (1 : Int)) (by kernel_rfl) (by kernel_rfl) hm
  · refine .ifF (nt b2930) (by kernel_rfl) h2932 ?_
    refine .then ?_
    refine .rK ?_
    refine .ghs (fr 46 [(1, (pt 1 0)), (10, (zB (ilt (24 : Int) (Int.ofNat (Sl.n s2922)))))]) (hp 2 [(oT tab0), (oC [(zI x2920), (Sl.v 2 s2922)])]) (.k0 [false] [.tmp 1 false] [1, 10]) ?_
    have hq := bb_cases hm; clear hm; rcases hq with ⟨h2933, hm⟩ | ⟨h2933, hm⟩
    · refine .ifT (ilt (24 : Int) (Int.ofNat (Sl.n s2922))) (by kernel_rfl) h2933 ?_
      refine .then ?_
      refine .rK ?_
      refine .ghs (fr 46 [(2, (zI (3 : Int)))]) (hp 1 [(oT tab0)]) (.k0 [false] [] [2]) ?_
      refine .ret ?_
      exact fin_ret (zI (3 : Int)) (by kernel_rfl) (by kernel_rfl) hm
    · refine .ifF (ilt (24 : Int) (Int.ofNat (Sl.n s2922))) (by kernel_rfl) h2933 ?_
      refine .skip ?_
      refine .ghs (fr 46 [(1, (pt 1 0))]) (hp 2 [(oT tab0), (oC [(zI x2920), (Sl.v 2 s2922)])]) (.k0 [false] [.tmp 1 false] [1]) ?_
      refine .join (v := v) (fun y : Unit => ((fr 46 []), (hp 1 [(oT tab0)]))) (fun y => m50_0 pu n) ?_ ?_
      · rintro _ hm
        exact w50_0 pu n hm
      · skip
        refine .then ?_
        refine .rK ?_
        refine .ghs (fr 46 [(1, (pt 1 0)), (16, (Sl.v 2 s2922)), (17, (zI (Int.ofNat (Sl.n s2922)))), (18, (zI (0 : Int)))]) (hp 2 [(oT tab0), (oC [(zI x2920), (Sl.v 2 s2922)])]) (.k0 [false] [.tmp 1 false] [1, 16, 17, 18]) ?_
        refine .block ?_
        refine .loopM (v := v) (fun y : Sl × Int × Int × Int × Sl => ((fr 46 [(1, (pt 1 0)), (16, (Sl.v 2 y.1)), (17, (zI y.2.1)), (18, (zI y.2.2.1))]), (hp 2 [(oT tab0), (oC [(zI y.2.2.2.1), (Sl.v 2 y.2.2.2.2)])]))) (fun w y => l50_1 pu n w y.1 y.2.1 y.2.2.1 y.2.2.2.1 y.2.2.2.2) n ⟨(s2922, (Int.ofNat (Sl.n s2922)), (0 : Int), x2920, s2922), hm, (.k0 [false] [.tmp 1 false] [1, 16, 17, 18])⟩ (fun _ => rfl) ?_
        rintro w0 ⟨s2978, z2979, z2980, z2981, s2982⟩ hm
        replace hm : b50_1 pu n (l50_1 pu n w0) s2978 z2979 z2980 z2981 s2982 = some v := hm
        unfold b50_1 at hm
        refine .then ?_
        refine .rK ?_
        refine .ghs (fr 46 [(1, (pt 1 0)), (16, (Sl.v 2 s2978)), (17, (zI z2979)), (18, (zI z2980)), (19, (zB (ilt z2980 z2979)))]) (hp 2 [(oT tab0), (oC [(zI z2981), (Sl.v 2 s2982)])]) (.k0 [false] [.tmp 1 false] [1, 16, 17, 18, 19]) ?_
        refine .then ?_
        have hq := bb_cases hm; clear hm; rcases hq with ⟨h2983, hm⟩ | ⟨h2983, hm⟩
        · refine .ifT (ilt z2980 z2979) (by kernel_rfl) h2983 ?_
          refine .skip ?_
          refine .ghs (fr 46 [(1, (pt 1 0)), (16, (Sl.v 2 s2978)), (17, (zI z2979)), (18, (zI z2980))]) (hp 2 [(oT tab0), (oC [(zI z2981), (Sl.v 2 s2982)])]) (.k0 [false] [.tmp 1 false] [1, 16, 17, 18]) ?_
          refine .then ?_
          refine .block ?_
          refine .then ?_
          replace hm := oo_inv hm; obtain ⟨k2996, h2997, hm⟩ := hm
          obtain rfl := toN_some h2997
          replace hm := bb_inv hm; obtain ⟨h2998, hm⟩ := hm
          replace hm := bb_inv hm; obtain ⟨h2999, hm⟩ := hm
          replace hm := oo_inv hm; obtain ⟨v3000, h3001, hm⟩ := hm
          replace hm := oo_inv hm; obtain ⟨x3002, h3003, hm⟩ := hm
          obtain rfl := toI_some h3003
          replace hm := oo_inv hm; obtain ⟨v3004, h3005, hm⟩ := hm
          replace hm := oo_inv hm; obtain ⟨x3006, h3007, hm⟩ := hm
          obtain rfl := toI_some h3007
          refine .reg (eD (keep (hp 2 [(oT tab0), (oC [(zI z2981), (Sl.v 2 s2982)])]) (bb (an (Nat.blt k2996 (Sl.n s2978)) true) (some (fpV (k2996 * 2) (Sl.cs s2978))) none)) (keep_bb h2998) (eD (keep (hp 2 [(oT tab0), (oC [(zI z2981), (Sl.v 2 s2982)])]) (bb (Nat.ble ((k2996 * 2) + 2) (len (Sl.cs s2978))) (some (.agg ⟨takeL 2 (dropL (k2996 * 2) (Sl.cs s2978))⟩)) none)) (keep_agg h2999 (takeL_cons h3001 (takeL_cons h3005 rfl))) (eE))) ?_
          refine .ghs (fr 46 [(1, (pt 1 0)), (4, (pt 2 0)), (16, (Sl.v 2 s2978)), (17, (zI z2979)), (18, (zI (Int.ofNat k2996)))]) (hp 3 [(oT tab0), (oC [(zI z2981), (Sl.v 2 s2982)]), (oC [(zI x3002), (zI x3006)])]) (.k0 [false] [.tmp 1 false, .tmp 4 false] [1, 4, 16, 17, 18]) ?_
          refine .block ?_
          refine .join (v := v) (fun y : Sl × Int × Int × Bool × Int × Sl × Int × Int => ((fr 46 [(1, (pt 1 0)), (4, (pt 2 0)), (16, (Sl.v 2 y.1)), (17, (zI y.2.1)), (18, (zI y.2.2.1)), (22, (zB y.2.2.2.1))]), (hp 3 [(oT tab0), (oC [(zI y.2.2.2.2.1), (Sl.v 2 y.2.2.2.2.2.1)]), (oC [(zI y.2.2.2.2.2.2.1), (zI y.2.2.2.2.2.2.2)])]))) (fun y => m50_2 pu n (l50_1 pu n w0) y.1 y.2.1 y.2.2.1 y.2.2.2.1 y.2.2.2.2.1 y.2.2.2.2.2.1 y.2.2.2.2.2.2.1 y.2.2.2.2.2.2.2) ?_ ?_
          · rintro ⟨s3010, z3011, z3012, b3013, z3014, s3015, z3016, z3017⟩ hm
            unfold m50_2 at hm
            have hq := bb_cases hm; clear hm; rcases hq with ⟨h3018, hm⟩ | ⟨h3018, hm⟩
            · refine .ifT b3013 (by kernel_rfl) h3018 ?_
              refine .then ?_
              refine .rK ?_
              refine .ghs (fr 46 [(2, (zI (2 : Int)))]) (hp 1 [(oT tab0)]) (.k0 [false] [] [2]) ?_
              refine .ret ?_
              exact fin_ret (zI (2 : Int)) (by kernel_rfl) (by kernel_rfl) hm
            · refine .ifF b3013 (by kernel_rfl) h3018 ?_
              refine .then ?_
              refine .rK ?_
              refine .ghs (fr 46 [(1, (pt 1 0)), (16, (Sl.v 2 s3010)), (17, (zI z3011)), (18, (zI z3012)), (39, (zB (nt (ilt z3016 z3017))))]) (hp 2 [(oT tab0), (oC [(zI z3014), (Sl.v 2 s3015)])]) (.k0 [false] [.tmp 1 false] [1, 16, 17, 18, 39]) ?_
              have hq := bb_cases hm; clear hm; rcases hq with ⟨h3019, hm⟩ | ⟨h3019, hm⟩
              · refine .ifT (nt (ilt z3016 z3017)) (by kernel_rfl) h3019 ?_
                refine .then ?_
                refine .rK ?_
                refine .ghs (fr 46 [(2, (zI (7 : Int)))]) (hp 1 [(oT tab0)]) (.k0 [false] [] [2]) ?_
                refine .ret ?_
                exact fin_ret (zI (7 : Int)) (by kernel_rfl) (by kernel_rfl) hm
              · refine .ifF (nt (ilt z3016 z3017)) (by kernel_rfl) h3019 ?_
                refine .skip ?_
                refine .ghs (fr 46 [(1, (pt 1 0)), (16, (Sl.v 2 s3010)), (17, (zI z3011)), (18, (zI z3012))]) (hp 2 [(oT tab0), (oC [(zI z3014), (Sl.v 2 s3015)])]) (.k0 [false] [.tmp 1 false] [1, 16, 17, 18]) ?_
                refine .rK ?_
                exact ⟨(s3010, z3011, (wrapF .i64 (Int.add z3012 (1 : Int))), z3014, s3015), hm, (.k0 [false] [.tmp 1 false] [1, 16, 17, 18])⟩
          · skip
            have hq := bb_cases hm; clear hm; rcases hq with ⟨h3021, hm⟩ | ⟨h3021, hm⟩
            · skip
              refine .reg (eC 5 (some ((zB (ilt (bb (ilt x3006 x3002) x3006 x3002) (0 : Int))), (hp 3 [(oT tab0), (oC [(zI z2981), (Sl.v 2 s2982)]), (oC [(zI x3002), (zI x3006)])]))) (show _ = some ((zB true), _) from (by rw [h3021])) (eE)) ?_
              exact ⟨(s2978, z2979, (Int.ofNat k2996), true, z2981, s2982, x3002, x3006), hm, (.k0 [false] [.tmp 1 false, .tmp 4 false] [1, 4, 16, 17, 18, 22])⟩
            · skip
              refine .reg (eC 5 (some ((zB (ilt (bb (ilt x3006 x3002) x3006 x3002) (0 : Int))), (hp 3 [(oT tab0), (oC [(zI z2981), (Sl.v 2 s2982)]), (oC [(zI x3002), (zI x3006)])]))) (show _ = some ((zB false), _) from (by rw [h3021])) (eE)) ?_
              exact ⟨(s2978, z2979, (Int.ofNat k2996), (nt (ilt (bb (ilt x3002 x3006) x3006 x3002) z2981)), z2981, s2982, x3002, x3006), hm, (.k0 [false] [.tmp 1 false, .tmp 4 false] [1, 4, 16, 17, 18, 22])⟩
        · refine .ifF (ilt z2980 z2979) (by kernel_rfl) h2983 ?_
          refine .exit ?_
          exact ⟨(), hm, (.k0 [false] [] [])⟩
def m51_0 (pu : PureF) (n : Nat) (q3136 : List Value) (q3137 : List Value) : Option Value :=
  (bb (Nat.ble (0 + 14) (len q3137)) (bb (Nat.beq (len (takeL 14 (dropL 0 q3137))) 14) (bb (an (Nat.ble (0 + len (takeL 14 (dropL 0 q3137))) (len q3136)) (allL scalarB (takeL 14 (dropL 0 q3137)))) (bb (allL closed1 (setL (takeL 14 (dropL 0 q3137)) 0 q3136)) (bb (Nat.ble (0 + 14) (len (setL (takeL 14 (dropL 0 q3137)) 0 q3136))) (bb (closedV (.agg ⟨(takeL 14 (dropL 0 (setL (takeL 14 (dropL 0 q3137)) 0 q3136)))⟩)) (some (.agg ⟨(takeL 14 (dropL 0 (setL (takeL 14 (dropL 0 q3137)) 0 q3136)))⟩)) none) none) none) none) none) none)
def m51_2 (pu : PureF) (n : Nat) (ih0 : Int → Int → Int → List Value → List Value → Option Value) (z3205 : Int) (z3206 : Int) (z3207 : Int) (q3208 : List Value) (q3209 : List Value) : Option Value :=
  (bb (allL closed1 q3208) (bb (allL closed1 q3209) (ih0 z3205 z3206 (wrapF .i64 (Int.add z3207 (1 : Int))) q3208 q3209) none) none)
def b51_3 (pu : PureF) (n : Nat) (ih0 : Int → Int → Int → List Value → List Value → Option Value) (ih1 : Int → Int → Int → Int → Int → Int → List Value → List Value → Option Value) (z3212 : Int) (z3213 : Int) (z3214 : Int) (z3215 : Int) (z3216 : Int) (z3217 : Int) (q3218 : List Value) (q3219 : List Value) : Option Value :=
  (bb (allL closed1 q3218) (bb (allL closed1 q3219) (bb (ilt z3217 z3216) (oo (toN (wrapF .i64 (Int.tdiv z3213 (64 : Int)))) none fun k3240 => (oo (toN z3217) none fun k3242 => (bb (Nat.blt k3242 7) (bb (Nat.blt k3240 2) (oo (nthL q3219 ((0 + k3242 * 2) + k3240 * 1)) none fun v3246 => (oo (toI .u64 v3246) none fun x3248 => (oo (toN (wrapF .i64 (Int.sub (wrapF .i64 (Int.sub z3212 (1 : Int))) (Int.ofNat k3242)))) none fun k3250 => (oo (toN (Int.tmod z3213 (64 : Int))) none fun k3252 => (bb (Nat.blt k3242 7) (bb (Nat.blt k3240 2) (bb (an (Nat.ble (((0 + k3242 * 2) + k3240 * 1) + 1) (len q3219)) true) (bb (allL closed1 (setL ([(.int .u64 (aor .u64 x3248 (shlI .u64 (wrapF .u64 (aand .i64 (shrI .i64 z3213 k3250) (1 : Int))) k3252)))] : List Value) ((0 + k3242 * 2) + k3240 * 1) q3219)) (ih1 z3212 z3213 z3214 z3215 z3216 (wrapF .i64 (Int.add (Int.ofNat k3242) (1 : Int))) q3218 (setL ([(.int .u64 (aor .u64 x3248 (shlI .u64 (wrapF .u64 (aand .i64 (shrI .i64 z3213 k3250) (1 : Int))) k3252)))] : List Value) ((0 + k3242 * 2) + k3240 * 1) q3219)) none) none) none) none))))) none) none))) (m51_2 pu n ih0 z3212 z3214 z3215 q3218 q3219)) none) none)
def l51_3 (pu : PureF) (n : Nat) (ih0 : Int → Int → Int → List Value → List Value → Option Value) (w : Nat) : Int → Int → Int → Int → Int → Int → List Value → List Value → Option Value :=
  Nat.rec (motive := fun _ => Int → Int → Int → Int → Int → Int → List Value → List Value → Option Value) (fun _ _ _ _ _ _ _ _ => none) (fun _ ih1 => b51_3 pu n ih0 ih1) w
def b51_1 (pu : PureF) (n : Nat) (ih0 : Int → Int → Int → List Value → List Value → Option Value) (z3151 : Int) (z3152 : Int) (z3153 : Int) (q3154 : List Value) (q3155 : List Value) : Option Value :=
  (bb (allL closed1 q3154) (bb (allL closed1 q3155) (bb (ilt z3153 z3152) (l51_3 pu n ih0 n z3151 z3153 z3152 z3153 z3151 (0 : Int) q3154 q3155) (m51_0 pu n q3154 q3155)) none) none)
def l51_1 (pu : PureF) (n : Nat) (w : Nat) : Int → Int → Int → List Value → List Value → Option Value :=
  Nat.rec (motive := fun _ => Int → Int → Int → List Value → List Value → Option Value) (fun _ _ _ _ _ => none) (fun _ ih0 => b51_1 pu n ih0) w
def m51_ (pu : PureF) (n : Nat) (x3022 : Int) : Option Value :=
  (bb (allL closed1 zA73) (oo (toN x3022) none fun k3149 => (l51_1 pu n n (Int.ofNat k3149) (shlI .i64 (1 : Int) k3149) (0 : Int) zA73 zA73)) none)
def m51 (pu : PureF) (n : Nat) (args : List Value) : Option Value :=
  (ll args none fun a0 args => (ll args (oo (toI .i64 a0) none fun x3022 => (m51_ pu n x3022)) fun _ _ => none))
theorem w51_0 (pu : PureF) (n : Nat) (q3136 : List Value) (q3137 : List Value) {v : Value} (hm : m51_0 pu n q3136 q3137 = some v) : Run tt (callP tabs isP pu (inl pu)) 1 c51_30 (fr 38 [(2, (pt 1 0)), (3, (pt 2 0))]) (hp 3 [(oT tab0), (oC q3136), (oC q3137)]) (Fin tt 1 [.cell 2 73] v) := by
  unfold m51_0 at hm
  refine .then ?_
  replace hm := bb_inv hm; obtain ⟨h3141, hm⟩ := hm
  replace hm := bb_inv hm; obtain ⟨h3142, hm⟩ := hm
  replace hm := bb_inv hm; obtain ⟨h3143, hm⟩ := hm
  refine .reg (eD (keep (hp 3 [(oT tab0), (oC q3136), (oC q3137)]) (bb (Nat.ble (0 + 14) (len q3137)) (some (.agg ⟨(takeL 14 (dropL 0 q3137))⟩)) none)) (keep_bb h3141) (eD (done (bb (Nat.beq (len (takeL 14 (dropL 0 q3137))) 14) (bb (an (Nat.ble (0 + len (takeL 14 (dropL 0 q3137))) (len q3136)) (allL scalarB (takeL 14 (dropL 0 q3137)))) (some (hp 3 [(oT tab0), (oC (setL (takeL 14 (dropL 0 q3137)) 0 q3136)), (oC q3137)])) none) none) undef) (done_bb2 h3142 h3143) (eE))) ?_
  replace hm := bb_inv hm; obtain ⟨h3144, hm⟩ := hm
  refine .ghs (fr 38 [(2, (pt 1 0))]) (hp 2 [(oT tab0), (oC (setL (takeL 14 (dropL 0 q3137)) 0 q3136))]) (.k [1] [false] [.tmp 2 false] [2] ⟨trE (by kernel_rfl) h3144, trivial⟩) ?_
  refine .ret ?_
  replace hm := bb_inv hm; obtain ⟨h3145, hm⟩ := hm
  replace hm := bb_inv hm; obtain ⟨h3146, hm⟩ := hm
  exact fin_ret (.agg ⟨(takeL 14 (dropL 0 (setL (takeL 14 (dropL 0 q3137)) 0 q3136)))⟩) (aresults_of (aresultsL_cons (show aresult _ _ _ _ = some (.agg ⟨(takeL 14 (dropL 0 (setL (takeL 14 (dropL 0 q3137)) 0 q3136)))⟩) from (eq_bb (c := (Nat.ble (0 + 14) (len (setL (takeL 14 (dropL 0 q3137)) 0 q3136)))) (by kernel_rfl) h3145)) rfl) (by kernel_rfl)) h3146 hm
theorem r51 {call : CallF} (pu : PureF) (n : Nat) (hcall : call = callP tabs isP pu (inl pu)) {args : List Value} {v : Value} (hm : m51 pu n args = some v) (_ : ∀ x ∈ args, closed2 x = true) : args.length ≤ 38 ∧ Run tt call 1 c51_33 (Fr.made 38 args) (pureHeap tabs) (Fin tt 1 [.cell 2 73] v) := by
  subst hcall
  unfold m51 at hm
  have hq := ll_uncons hm; clear hm; obtain ⟨a0, args_0, rfl, hm⟩ := hq
  have hq := ll_end hm; clear hm; obtain ⟨rfl, hm⟩ := hq
  replace hm := oo_inv hm; obtain ⟨x3022, h3023, hm⟩ := hm
  obtain rfl := toI_some h3023
  unfold m51_ at hm
  refine ⟨by simp, ?_⟩
  refine .same (F' := (fr 38 [(0, (zI x3022))])) (H' := (hp 1 [(oT tab0)])) (by kernel_rfl) (by kernel_rfl) ?_
  refine .then ?_
  refine .rK ?_
  replace hm := bb_inv hm; obtain ⟨h3024, hm⟩ := hm
  refine .ghs (fr 38 [(0, (zI x3022)), (2, (pt 1 0))]) (hp 2 [(oT tab0), (oC zA73)]) (.k [1] [false] [.tmp 2 false] [0, 2] ⟨trE (by kernel_rfl) h3024, trivial⟩) ?_
  refine .then ?_
  refine .rK ?_
  refine .ghs (fr 38 [(0, (zI x3022)), (2, (pt 1 0)), (3, (pt 2 0))]) (hp 3 [(oT tab0), (oC zA73), (oC zA73)]) (.k [1, 2] [false] [.tmp 2 false, .tmp 3 false] [0, 2, 3] ⟨trE (by kernel_rfl) h3024, trE (by kernel_rfl) h3024, trivial⟩) ?_
  refine .join (v := v) (fun y : List Value × List Value => ((fr 38 [(2, (pt 1 0)), (3, (pt 2 0))]), (hp 3 [(oT tab0), (oC y.1), (oC y.2)]))) (fun y => m51_0 pu n y.1 y.2) ?_ ?_
  · rintro ⟨q3136, q3137⟩ hm
    exact w51_0 pu n q3136 q3137 hm
  · skip
    refine .then ?_
    replace hm := oo_inv hm; obtain ⟨k3149, h3150, hm⟩ := hm
    obtain rfl := toN_some h3150
    refine .rK ?_
    refine .ghs (fr 38 [(0, (zI (Int.ofNat k3149))), (2, (pt 1 0)), (3, (pt 2 0)), (7, (zI (shlI .i64 (1 : Int) k3149))), (8, (zI (0 : Int)))]) (hp 3 [(oT tab0), (oC zA73), (oC zA73)]) (.k [1, 2] [false] [.tmp 2 false, .tmp 3 false] [0, 2, 3, 7, 8] ⟨trE (by kernel_rfl) h3024, trE (by kernel_rfl) h3024, trivial⟩) ?_
    refine .block ?_
    refine .loopM (v := v) (fun y : Int × Int × Int × List Value × List Value => ((fr 38 [(0, (zI y.1)), (2, (pt 1 0)), (3, (pt 2 0)), (7, (zI y.2.1)), (8, (zI y.2.2.1))]), (hp 3 [(oT tab0), (oC y.2.2.2.1), (oC y.2.2.2.2)]))) (fun w y => l51_1 pu n w y.1 y.2.1 y.2.2.1 y.2.2.2.1 y.2.2.2.2) n ⟨((Int.ofNat k3149), (shlI .i64 (1 : Int) k3149), (0 : Int), zA73, zA73), hm, (.k [1, 2] [false] [.tmp 2 false, .tmp 3 false] [0, 2, 3, 7, 8] ⟨trE (by kernel_rfl) h3024, trE (by kernel_rfl) h3024, trivial⟩)⟩ (fun _ => rfl) ?_
    rintro w0 ⟨z3151, z3152, z3153, q3154, q3155⟩ hm
    replace hm : b51_1 pu n (l51_1 pu n w0) z3151 z3152 z3153 q3154 q3155 = some v := hm
    unfold b51_1 at hm
    refine .then ?_
    refine .rK ?_
    replace hm := bb_inv hm; obtain ⟨h3156, hm⟩ := hm
    replace hm := bb_inv hm; obtain ⟨h3157, hm⟩ := hm
    refine .ghs (fr 38 [(0, (zI z3151)), (2, (pt 1 0)), (3, (pt 2 0)), (7, (zI z3152)), (8, (zI z3153)), (9, (zB (ilt z3153 z3152)))]) (hp 3 [(oT tab0), (oC q3154), (oC q3155)]) (.k [1, 2] [false] [.tmp 2 false, .tmp 3 false] [0, 2, 3, 7, 8, 9] ⟨trE (by kernel_rfl) h3156, trE (by kernel_rfl) h3157, trivial⟩) ?_
    refine .then ?_
    have hq := bb_cases hm; clear hm; rcases hq with ⟨h3158, hm⟩ | ⟨h3158, hm⟩
    · refine .ifT (ilt z3153 z3152) (by kernel_rfl) h3158 ?_
      refine .skip ?_
      refine .ghs (fr 38 [(0, (zI z3151)), (2, (pt 1 0)), (3, (pt 2 0)), (7, (zI z3152)), (8, (zI z3153))]) (hp 3 [(oT tab0), (oC q3154), (oC q3155)]) (.k [1, 2] [false] [.tmp 2 false, .tmp 3 false] [0, 2, 3, 7, 8] ⟨trE (by kernel_rfl) h3156, trE (by kernel_rfl) h3157, trivial⟩) ?_
      refine .join (v := v) (fun y : Int × Int × Int × List Value × List Value => ((fr 38 [(0, (zI y.1)), (2, (pt 1 0)), (3, (pt 2 0)), (7, (zI y.2.1)), (8, (zI y.2.2.1))]), (hp 3 [(oT tab0), (oC y.2.2.2.1), (oC y.2.2.2.2)]))) (fun y => m51_2 pu n (l51_1 pu n w0) y.1 y.2.1 y.2.2.1 y.2.2.2.1 y.2.2.2.2) ?_ ?_
      · rintro ⟨z3205, z3206, z3207, q3208, q3209⟩ hm
        unfold m51_2 at hm
        refine .rK ?_
        replace hm := bb_inv hm; obtain ⟨h3210, hm⟩ := hm
        replace hm := bb_inv hm; obtain ⟨h3211, hm⟩ := hm
        exact ⟨(z3205, z3206, (wrapF .i64 (Int.add z3207 (1 : Int))), q3208, q3209), hm, (.k [1, 2] [false] [.tmp 2 false, .tmp 3 false] [0, 2, 3, 7, 8] ⟨trE (by kernel_rfl) h3210, trE (by kernel_rfl) h3211, trivial⟩)⟩
      · skip
        refine .block ?_
        refine .then ?_
        refine .rK ?_
        refine .ghs (fr 38 [(0, (zI z3151)), (2, (pt 1 0)), (3, (pt 2 0)), (4, (zI z3153)), (7, (zI z3152)), (8, (zI z3153))]) (hp 3 [(oT tab0), (oC q3154), (oC q3155)]) (.k [1, 2] [false] [.tmp 2 false, .tmp 3 false] [0, 2, 3, 4, 7, 8] ⟨trE (by kernel_rfl) h3156, trE (by kernel_rfl) h3157, trivial⟩) ?_
        refine .then ?_
        refine .rK ?_
        refine .ghs (fr 38 [(0, (zI z3151)), (2, (pt 1 0)), (3, (pt 2 0)), (4, (zI z3153)), (7, (zI z3152)), (8, (zI z3153)), (11, (zI z3151)), (12, (zI (0 : Int)))]) (hp 3 [(oT tab0), (oC q3154), (oC q3155)]) (.k [1, 2] [false] [.tmp 2 false, .tmp 3 false] [0, 2, 3, 4, 7, 8, 11, 12] ⟨trE (by kernel_rfl) h3156, trE (by kernel_rfl) h3157, trivial⟩) ?_
        refine .block ?_
        refine .loopM (v := v) (fun y : Int × Int × Int × Int × Int × Int × List Value × List Value => ((fr 38 [(0, (zI y.1)), (2, (pt 1 0)), (3, (pt 2 0)), (4, (zI y.2.1)), (7, (zI y.2.2.1)), (8, (zI y.2.2.2.1)), (11, (zI y.2.2.2.2.1)), (12, (zI y.2.2.2.2.2.1))]), (hp 3 [(oT tab0), (oC y.2.2.2.2.2.2.1), (oC y.2.2.2.2.2.2.2)]))) (fun w y => l51_3 pu n (l51_1 pu n w0) w y.1 y.2.1 y.2.2.1 y.2.2.2.1 y.2.2.2.2.1 y.2.2.2.2.2.1 y.2.2.2.2.2.2.1 y.2.2.2.2.2.2.2) n ⟨(z3151, z3153, z3152, z3153, z3151, (0 : Int), q3154, q3155), hm, (.k [1, 2] [false] [.tmp 2 false, .tmp 3 false] [0, 2, 3, 4, 7, 8, 11, 12] ⟨trE (by kernel_rfl) h3156, trE (by kernel_rfl) h3157, trivial⟩)⟩ (fun _ => rfl) ?_
        rintro w1 ⟨z3212, z3213, z3214, z3215, z3216, z3217, q3218, q3219⟩ hm
        replace hm : b51_3 pu n (l51_1 pu n w0) (l51_3 pu n (l51_1 pu n w0) w1) z3212 z3213 z3214 z3215 z3216 z3217 q3218 q3219 = some v := hm
        unfold b51_3 at hm
        refine .then ?_
        refine .rK ?_
        replace hm := bb_inv hm; obtain ⟨h3220, hm⟩ := hm
        replace hm := bb_inv hm; obtain ⟨h3221, hm⟩ := hm
        refine .ghs (fr 38 [(0, (zI z3212)), (2, (pt 1 0)), (3, (pt 2 0)), (4, (zI z3213)), (7, (zI z3214)), (8, (zI z3215)), (11, (zI z3216)), (12, (zI z3217)), (13, (zB (ilt z3217 z3216)))]) (hp 3 [(oT tab0), (oC q3218), (oC q3219)]) (.k [1, 2] [false] [.tmp 2 false, .tmp 3 false] [0, 2, 3, 4, 7, 8, 11, 12, 13] ⟨trE (by kernel_rfl) h3220, trE (by kernel_rfl) h3221, trivial⟩) ?_
        refine .then ?_
        have hq := bb_cases hm; clear hm; rcases hq with ⟨h3222, hm⟩ | ⟨h3222, hm⟩
        · refine .ifT (ilt z3217 z3216) (by kernel_rfl) h3222 ?_
          refine .skip ?_
          refine .ghs (fr 38 [(0, (zI z3212)), (2, (pt 1 0)), (3, (pt 2 0)), (4, (zI z3213)), (7, (zI z3214)), (8, (zI z3215)), (11, (zI z3216)), (12, (zI z3217))]) (hp 3 [(oT tab0), (oC q3218), (oC q3219)]) (.k [1, 2] [false] [.tmp 2 false, .tmp 3 false] [0, 2, 3, 4, 7, 8, 11, 12] ⟨trE (by kernel_rfl) h3220, trE (by kernel_rfl) h3221, trivial⟩) ?_
          refine .then ?_
          refine .block ?_
          refine .then ?_
          refine .rK ?_
          refine .ghs (fr 38 [(0, (zI z3212)), (2, (pt 1 0)), (3, (pt 2 0)), (4, (zI z3213)), (5, (zI z3217)), (7, (zI z3214)), (8, (zI z3215)), (11, (zI z3216)), (12, (zI z3217))]) (hp 3 [(oT tab0), (oC q3218), (oC q3219)]) (.k [1, 2] [false] [.tmp 2 false, .tmp 3 false] [0, 2, 3, 4, 5, 7, 8, 11, 12] ⟨trE (by kernel_rfl) h3220, trE (by kernel_rfl) h3221, trivial⟩) ?_
          replace hm := oo_inv hm; obtain ⟨k3240, h3241, hm⟩ := hm
          replace hm := oo_inv hm; obtain ⟨k3242, h3243, hm⟩ := hm
          obtain rfl := toN_some h3243
          replace hm := bb_inv hm; obtain ⟨h3244, hm⟩ := hm
          replace hm := bb_inv hm; obtain ⟨h3245, hm⟩ := hm
          replace hm := oo_inv hm; obtain ⟨v3246, h3247, hm⟩ := hm
          replace hm := oo_inv hm; obtain ⟨x3248, h3249, hm⟩ := hm
          obtain rfl := toI_some h3249
          replace hm := oo_inv hm; obtain ⟨k3250, h3251, hm⟩ := hm
          replace hm := oo_inv hm; obtain ⟨k3252, h3253, hm⟩ := hm
          replace hm := bb_inv hm; obtain ⟨h3254, hm⟩ := hm
          replace hm := bb_inv hm; obtain ⟨h3255, hm⟩ := hm
          replace hm := bb_inv hm; obtain ⟨h3256, hm⟩ := hm
          refine .reg (eN 5 (Fr.puts (fr 38 [(0, (zI z3212)), (2, (pt 1 0)), (3, (pt 2 0)), (4, (zI z3213)), (5, (zI (Int.ofNat k3242))), (7, (zI z3214)), (8, (zI z3215)), (11, (zI z3216)), (12, (zI (Int.ofNat k3242)))]) [(15, (zI (Int.ofNat k3242))), (16, (zI z3213)), (17, (zI (Int.ofNat k3240))), (18, (.pointer (some ⟨2, (0 + k3242 * 2), none⟩))), (19, (.pointer (some ⟨2, ((0 + k3242 * 2) + k3240 * 1), none⟩)))]) (hp 3 [(oT tab0), (oC q3218), (oC q3219)]) (eC 2 (some ((zI (wrapF .i64 (Int.tdiv z3213 (64 : Int)))), (hp 3 [(oT tab0), (oC q3218), (oC q3219)]))) (show _ = some ((zI (Int.ofNat k3240)), _) from (by rw [toN_some h3241])) (eD (keep (hp 3 [(oT tab0), (oC q3218), (oC q3219)]) (bb (Nat.blt k3242 7) (some (.pointer (some ⟨2, (0 + k3242 * 2), none⟩))) none)) (keep_bb h3244) (eD (keep (hp 3 [(oT tab0), (oC q3218), (oC q3219)]) (bb (Nat.blt k3240 2) (some (.pointer (some ⟨2, ((0 + k3242 * 2) + k3240 * 1), none⟩))) none)) (keep_bb h3245) (by kernel_rfl)))) (eN 11 (Fr.puts (fr 38 [(0, (zI z3212)), (2, (pt 1 0)), (3, (pt 2 0)), (4, (zI z3213)), (5, (zI (Int.ofNat k3242))), (7, (zI z3214)), (8, (zI z3215)), (11, (zI z3216)), (12, (zI (Int.ofNat k3242)))]) [(15, (zI (Int.ofNat k3242))), (16, (zI z3213)), (17, (zI (Int.ofNat k3240))), (18, (.pointer (some ⟨2, (0 + k3242 * 2), none⟩))), (19, (.pointer (some ⟨2, ((0 + k3242 * 2) + k3240 * 1), none⟩))), (20, (zU x3248)), (21, (zI z3213)), (22, (zI z3212)), (23, (zI (wrapF .i64 (Int.sub z3212 (1 : Int))))), (24, (zI (Int.ofNat k3242))), (25, (zI (Int.ofNat k3250))), (26, (zI (shrI .i64 z3213 k3250))), (27, (zI (aand .i64 (shrI .i64 z3213 k3250) (1 : Int)))), (28, (zU (wrapF .u64 (aand .i64 (shrI .i64 z3213 k3250) (1 : Int))))), (29, (zI z3213)), (30, (zI (Int.ofNat k3252)))]) (hp 3 [(oT tab0), (oC q3218), (oC q3219)]) (eD (keep (hp 3 [(oT tab0), (oC q3218), (oC q3219)]) (nthL q3219 ((0 + k3242 * 2) + k3240 * 1))) (keep_eq h3247) (eC 4 (some ((zI (wrapF .i64 (Int.sub (wrapF .i64 (Int.sub z3212 (1 : Int))) (Int.ofNat k3242)))), (hp 3 [(oT tab0), (oC q3218), (oC q3219)]))) (show _ = some ((zI (Int.ofNat k3250)), _) from (by rw [toN_some h3251])) (eC 4 (some ((zI (Int.tmod z3213 (64 : Int))), (hp 3 [(oT tab0), (oC q3218), (oC q3219)]))) (show _ = some ((zI (Int.ofNat k3252)), _) from (by rw [toN_some h3253])) (by kernel_rfl)))) (eC 2 (keep (hp 3 [(oT tab0), (oC q3218), (oC q3219)]) (bb (Nat.blt k3242 7) (some (.pointer (some ⟨2, (0 + k3242 * 2), none⟩))) none)) (keep_bb h3254) (eD (keep (hp 3 [(oT tab0), (oC q3218), (oC q3219)]) (bb (Nat.blt k3240 2) (some (.pointer (some ⟨2, ((0 + k3242 * 2) + k3240 * 1), none⟩))) none)) (keep_bb h3255) (eD (done (bb (an (Nat.ble (((0 + k3242 * 2) + k3240 * 1) + 1) (len q3219)) true) (some (hp 3 [(oT tab0), (oC q3218), (oC (setL ([(zU (aor .u64 x3248 (shlI .u64 (wrapF .u64 (aand .i64 (shrI .i64 z3213 k3250) (1 : Int))) k3252)))] : List Value) ((0 + k3242 * 2) + k3240 * 1) q3219))])) none) undef) (done_bb h3256) (eE)))))) ?_
          replace hm := bb_inv hm; obtain ⟨h3257, hm⟩ := hm
          refine .ghs (fr 38 [(0, (zI z3212)), (2, (pt 1 0)), (3, (pt 2 0)), (4, (zI z3213)), (7, (zI z3214)), (8, (zI z3215)), (11, (zI z3216)), (12, (zI (Int.ofNat k3242)))]) (hp 3 [(oT tab0), (oC q3218), (oC (setL ([(zU (aor .u64 x3248 (shlI .u64 (wrapF .u64 (aand .i64 (shrI .i64 z3213 k3250) (1 : Int))) k3252)))] : List Value) ((0 + k3242 * 2) + k3240 * 1) q3219))]) (.k [1, 2] [false] [.tmp 2 false, .tmp 3 false] [0, 2, 3, 4, 7, 8, 11, 12] ⟨trE (by kernel_rfl) h3220, trE (by kernel_rfl) h3257, trivial⟩) ?_
          refine .rK ?_
          exact ⟨(z3212, z3213, z3214, z3215, z3216, (wrapF .i64 (Int.add (Int.ofNat k3242) (1 : Int))), q3218, (setL ([(zU (aor .u64 x3248 (shlI .u64 (wrapF .u64 (aand .i64 (shrI .i64 z3213 k3250) (1 : Int))) k3252)))] : List Value) ((0 + k3242 * 2) + k3240 * 1) q3219)), hm, (.k [1, 2] [false] [.tmp 2 false, .tmp 3 false] [0, 2, 3, 4, 7, 8, 11, 12] ⟨trE (by kernel_rfl) h3220, trE (by kernel_rfl) h3257, trivial⟩)⟩
        · refine .ifF (ilt z3217 z3216) (by kernel_rfl) h3222 ?_
          refine .exit ?_
          exact ⟨(z3212, z3214, z3215, q3218, q3219), hm, (.k [1, 2] [false] [.tmp 2 false, .tmp 3 false] [0, 2, 3, 7, 8] ⟨trE (by kernel_rfl) h3220, trE (by kernel_rfl) h3221, trivial⟩)⟩
    · refine .ifF (ilt z3153 z3152) (by kernel_rfl) h3158 ?_
      refine .exit ?_
      exact ⟨(q3154, q3155), hm, (.k [1, 2] [false] [.tmp 2 false, .tmp 3 false] [2, 3] ⟨trE (by kernel_rfl) h3156, trE (by kernel_rfl) h3157, trivial⟩)⟩
def m52_0 (pu : PureF) (n : Nat) (q3328 : List Value) (q3329 : List Value) : Option Value :=
  (bb (Nat.ble (0 + 14) (len q3328)) (bb (Nat.beq (len (takeL 14 (dropL 0 q3328))) 14) (bb (an (Nat.ble (0 + len (takeL 14 (dropL 0 q3328))) (len q3329)) (allL scalarB (takeL 14 (dropL 0 q3328)))) (bb (allL closed1 (setL (takeL 14 (dropL 0 q3328)) 0 q3329)) (bb (Nat.ble (0 + 14) (len (setL (takeL 14 (dropL 0 q3328)) 0 q3329))) (bb (closedV (.agg ⟨(takeL 14 (dropL 0 (setL (takeL 14 (dropL 0 q3328)) 0 q3329)))⟩)) (some (.agg ⟨(takeL 14 (dropL 0 (setL (takeL 14 (dropL 0 q3328)) 0 q3329)))⟩)) none) none) none) none) none) none)
def b52_1 (pu : PureF) (n : Nat) (ih0 : Int → List Value → Int → Int → List Value → Option Value) (z3339 : Int) (q3340 : List Value) (z3341 : Int) (z3342 : Int) (q3343 : List Value) : Option Value :=
  (bb (allL closed1 q3340) (bb (allL closed1 q3343) (bb (ilt z3339 (2 : Int)) (oo (toN z3341) none fun k3365 => (bb (Nat.blt k3365 7) (oo (toN z3339) none fun k3368 => (bb (Nat.blt k3368 2) (oo (nthL q3340 ((0 + k3365 * 2) + k3368 * 1)) none fun v3371 => (oo (toI .u64 v3371) none fun x3373 => (oo (toN z3342) none fun k3375 => (bb (Nat.blt k3375 7) (bb (Nat.blt k3368 2) (oo (nthL q3340 ((0 + k3375 * 2) + k3368 * 1)) none fun v3379 => (oo (toI .u64 v3379) none fun x3381 => (bb (Nat.blt k3365 7) (bb (Nat.blt k3368 2) (bb (Nat.blt k3375 7) (bb (an (Nat.ble (((0 + k3365 * 2) + k3368 * 1) + 1) (len q3340)) true) (bb (Nat.blt k3368 2) (bb (an (Nat.ble (((0 + k3375 * 2) + k3368 * 1) + 1) (len (setL ([(.int .u64 (aand .u64 x3373 x3381))] : List Value) ((0 + k3365 * 2) + k3368 * 1) q3340))) true) (bb (allL closed1 (setL ([(.int .u64 (aor .u64 x3373 x3381))] : List Value) ((0 + k3375 * 2) + k3368 * 1) (setL ([(.int .u64 (aand .u64 x3373 x3381))] : List Value) ((0 + k3365 * 2) + k3368 * 1) q3340))) (ih0 (wrapF .i64 (Int.add (Int.ofNat k3368) (1 : Int))) (setL ([(.int .u64 (aor .u64 x3373 x3381))] : List Value) ((0 + k3375 * 2) + k3368 * 1) (setL ([(.int .u64 (aand .u64 x3373 x3381))] : List Value) ((0 + k3365 * 2) + k3368 * 1) q3340)) (Int.ofNat k3365) (Int.ofNat k3375) q3343) none) none) none) none) none) none) none))) none) none)))) none)) none)) (m52_0 pu n q3340 q3343)) none) none)
def l52_1 (pu : PureF) (n : Nat) (w : Nat) : Int → List Value → Int → Int → List Value → Option Value :=
  Nat.rec (motive := fun _ => Int → List Value → Int → Int → List Value → Option Value) (fun _ _ _ _ _ => none) (fun _ ih0 => b52_1 pu n ih0) w
def m52_ (pu : PureF) (n : Nat) (q3258 : List Value) (x3265 : Int) (x3267 : Int) : Option Value :=
  (bb (allL closed1 q3258) (bb (allL closed1 zA73) (l52_1 pu n n (0 : Int) q3258 x3265 x3267 zA73) none) none)
def m52 (pu : PureF) (n : Nat) (args : List Value) : Option Value :=
  (ll args none fun a0 args => (ll args none fun a1 args => (ll args (oo (vAgg a0) none fun q3258 => (bb (an (Nat.beq (len q3258) 14) (allL closed1 q3258)) (oo (vAgg a1) none fun l3261 => (ll l3261 none fun v3263 l3261 => (ll l3261 none fun v3264 l3261 => (ll l3261 (oo (toI .i64 v3263) none fun x3265 => (oo (toI .i64 v3264) none fun x3267 => (m52_ pu n q3258 x3265 x3267))) fun _ _ => none)))) none)) fun _ _ => none)))
theorem w52_0 (pu : PureF) (n : Nat) (q3328 : List Value) (q3329 : List Value) {v : Value} (hm : m52_0 pu n q3328 q3329 = some v) : Run tt (callP tabs isP pu (inl pu)) 1 c52_18 (fr 41 [(2, (pt 1 0)), (4, (pt 2 0))]) (hp 3 [(oT tab0), (oC q3328), (oC q3329)]) (Fin tt 1 [.cell 4 73] v) := by
  unfold m52_0 at hm
  refine .then ?_
  replace hm := bb_inv hm; obtain ⟨h3333, hm⟩ := hm
  replace hm := bb_inv hm; obtain ⟨h3334, hm⟩ := hm
  replace hm := bb_inv hm; obtain ⟨h3335, hm⟩ := hm
  refine .reg (eD (keep (hp 3 [(oT tab0), (oC q3328), (oC q3329)]) (bb (Nat.ble (0 + 14) (len q3328)) (some (.agg ⟨(takeL 14 (dropL 0 q3328))⟩)) none)) (keep_bb h3333) (eD (done (bb (Nat.beq (len (takeL 14 (dropL 0 q3328))) 14) (bb (an (Nat.ble (0 + len (takeL 14 (dropL 0 q3328))) (len q3329)) (allL scalarB (takeL 14 (dropL 0 q3328)))) (some (hp 3 [(oT tab0), (oC q3328), (oC (setL (takeL 14 (dropL 0 q3328)) 0 q3329))])) none) none) undef) (done_bb2 h3334 h3335) (eE))) ?_
  replace hm := bb_inv hm; obtain ⟨h3336, hm⟩ := hm
  refine .ghs (fr 41 [(4, (pt 1 0))]) (hp 2 [(oT tab0), (oC (setL (takeL 14 (dropL 0 q3328)) 0 q3329))]) (.k [2] [false] [.tmp 4 false] [4] ⟨trE (by kernel_rfl) h3336, trivial⟩) ?_
  refine .ret ?_
  replace hm := bb_inv hm; obtain ⟨h3337, hm⟩ := hm
  replace hm := bb_inv hm; obtain ⟨h3338, hm⟩ := hm
  exact fin_ret (.agg ⟨(takeL 14 (dropL 0 (setL (takeL 14 (dropL 0 q3328)) 0 q3329)))⟩) (aresults_of (aresultsL_cons (show aresult _ _ _ _ = some (.agg ⟨(takeL 14 (dropL 0 (setL (takeL 14 (dropL 0 q3328)) 0 q3329)))⟩) from (eq_bb (c := (Nat.ble (0 + 14) (len (setL (takeL 14 (dropL 0 q3328)) 0 q3329)))) (by kernel_rfl) h3337)) rfl) (by kernel_rfl)) h3338 hm
theorem r52 {call : CallF} (pu : PureF) (n : Nat) (hcall : call = callP tabs isP pu (inl pu)) {args : List Value} {v : Value} (hm : m52 pu n args = some v) (_ : ∀ x ∈ args, closed2 x = true) : args.length ≤ 41 ∧ Run tt call 1 c52_20 (Fr.made 41 args) (pureHeap tabs) (Fin tt 1 [.cell 4 73] v) := by
  subst hcall
  unfold m52 at hm
  have hq := ll_uncons hm; clear hm; obtain ⟨a0, args_0, rfl, hm⟩ := hq
  have hq := ll_uncons hm; clear hm; obtain ⟨a1, args_1, rfl, hm⟩ := hq
  have hq := ll_end hm; clear hm; obtain ⟨rfl, hm⟩ := hq
  replace hm := oo_inv hm; obtain ⟨q3258, h3259, hm⟩ := hm
  obtain rfl := vAgg_some h3259
  replace hm := bb_inv hm; obtain ⟨h3260, hm⟩ := hm
  replace hm := oo_inv hm; obtain ⟨l3261, h3262, hm⟩ := hm
  obtain rfl := vAgg_some h3262
  have hq := ll_uncons hm; clear hm; obtain ⟨v3263, l3261_0, rfl, hm⟩ := hq
  have hq := ll_uncons hm; clear hm; obtain ⟨v3264, l3261_1, rfl, hm⟩ := hq
  have hq := ll_end hm; clear hm; obtain ⟨rfl, hm⟩ := hq
  replace hm := oo_inv hm; obtain ⟨x3265, h3266, hm⟩ := hm
  obtain rfl := toI_some h3266
  replace hm := oo_inv hm; obtain ⟨x3267, h3268, hm⟩ := hm
  obtain rfl := toI_some h3268
  unfold m52_ at hm
  refine ⟨by simp, ?_⟩
  refine .same (F' := (fr 41 [(0, (.agg ⟨q3258⟩)), (1, (.agg ⟨[(zI x3265), (zI x3267)]⟩))])) (H' := (hp 1 [(oT tab0)])) (by kernel_rfl) (by kernel_rfl) ?_
  refine .then ?_
  refine .rK ?_
  replace hm := bb_inv hm; obtain ⟨h3269, hm⟩ := hm
  replace hm := bb_inv hm; obtain ⟨h3270, hm⟩ := hm
  refine .ghs (fr 41 [(2, (pt 1 0)), (3, (pt 2 0)), (4, (pt 3 0))]) (hp 4 [(oT tab0), (oC q3258), (oC [(zI x3265), (zI x3267)]), (oC zA73)]) (.k [1, 3] [false] [.tmp 2 false, .tmp 3 false, .tmp 4 false] [2, 3, 4] ⟨trE (by kernel_rfl) h3269, trE (by kernel_rfl) h3270, trivial⟩) ?_
  refine .join (v := v) (fun y : List Value × List Value => ((fr 41 [(2, (pt 1 0)), (4, (pt 2 0))]), (hp 3 [(oT tab0), (oC y.1), (oC y.2)]))) (fun y => m52_0 pu n y.1 y.2) ?_ ?_
  · rintro ⟨q3328, q3329⟩ hm
    exact w52_0 pu n q3328 q3329 hm
  · skip
    refine .then ?_
    refine .rK ?_
    refine .ghs (fr 41 [(2, (pt 1 0)), (3, (pt 2 0)), (4, (pt 3 0)), (8, (zI (0 : Int)))]) (hp 4 [(oT tab0), (oC q3258), (oC [(zI x3265), (zI x3267)]), (oC zA73)]) (.k [1, 3] [false] [.tmp 2 false, .tmp 3 false, .tmp 4 false] [2, 3, 4, 8] ⟨trE (by kernel_rfl) h3269, trE (by kernel_rfl) h3270, trivial⟩) ?_
    refine .block ?_
    refine .loopM (v := v) (fun y : Int × List Value × Int × Int × List Value => ((fr 41 [(2, (pt 1 0)), (3, (pt 2 0)), (4, (pt 3 0)), (8, (zI y.1))]), (hp 4 [(oT tab0), (oC y.2.1), (oC [(zI y.2.2.1), (zI y.2.2.2.1)]), (oC y.2.2.2.2)]))) (fun w y => l52_1 pu n w y.1 y.2.1 y.2.2.1 y.2.2.2.1 y.2.2.2.2) n ⟨((0 : Int), q3258, x3265, x3267, zA73), hm, (.k [1, 3] [false] [.tmp 2 false, .tmp 3 false, .tmp 4 false] [2, 3, 4, 8] ⟨trE (by kernel_rfl) h3269, trE (by kernel_rfl) h3270, trivial⟩)⟩ (fun _ => rfl) ?_
    rintro w0 ⟨z3339, q3340, z3341, z3342, q3343⟩ hm
    replace hm : b52_1 pu n (l52_1 pu n w0) z3339 q3340 z3341 z3342 q3343 = some v := hm
    unfold b52_1 at hm
    refine .then ?_
    refine .rK ?_
    replace hm := bb_inv hm; obtain ⟨h3344, hm⟩ := hm
    replace hm := bb_inv hm; obtain ⟨h3345, hm⟩ := hm
    refine .ghs (fr 41 [(2, (pt 1 0)), (3, (pt 2 0)), (4, (pt 3 0)), (8, (zI z3339)), (9, (zB (ilt z3339 (2 : Int))))]) (hp 4 [(oT tab0), (oC q3340), (oC [(zI z3341), (zI z3342)]), (oC q3343)]) (.k [1, 3] [false] [.tmp 2 false, .tmp 3 false, .tmp 4 false] [2, 3, 4, 8, 9] ⟨trE (by kernel_rfl) h3344, trE (by kernel_rfl) h3345, trivial⟩) ?_
    refine .then ?_
    have hq := bb_cases hm; clear hm; rcases hq with ⟨h3346, hm⟩ | ⟨h3346, hm⟩
    · refine .ifT (ilt z3339 (2 : Int)) (by kernel_rfl) h3346 ?_
      refine .skip ?_
      refine .ghs (fr 41 [(2, (pt 1 0)), (3, (pt 2 0)), (4, (pt 3 0)), (8, (zI z3339))]) (hp 4 [(oT tab0), (oC q3340), (oC [(zI z3341), (zI z3342)]), (oC q3343)]) (.k [1, 3] [false] [.tmp 2 false, .tmp 3 false, .tmp 4 false] [2, 3, 4, 8] ⟨trE (by kernel_rfl) h3344, trE (by kernel_rfl) h3345, trivial⟩) ?_
      refine .then ?_
      refine .block ?_
      refine .then ?_
      refine .rK ?_
      refine .ghs (fr 41 [(2, (pt 1 0)), (3, (pt 2 0)), (4, (pt 3 0)), (5, (zI z3339)), (8, (zI z3339))]) (hp 4 [(oT tab0), (oC q3340), (oC [(zI z3341), (zI z3342)]), (oC q3343)]) (.k [1, 3] [false] [.tmp 2 false, .tmp 3 false, .tmp 4 false] [2, 3, 4, 5, 8] ⟨trE (by kernel_rfl) h3344, trE (by kernel_rfl) h3345, trivial⟩) ?_
      refine .then ?_
      replace hm := oo_inv hm; obtain ⟨k3365, h3366, hm⟩ := hm
      obtain rfl := toN_some h3366
      replace hm := bb_inv hm; obtain ⟨h3367, hm⟩ := hm
      replace hm := oo_inv hm; obtain ⟨k3368, h3369, hm⟩ := hm
      obtain rfl := toN_some h3369
      replace hm := bb_inv hm; obtain ⟨h3370, hm⟩ := hm
      replace hm := oo_inv hm; obtain ⟨v3371, h3372, hm⟩ := hm
      replace hm := oo_inv hm; obtain ⟨x3373, h3374, hm⟩ := hm
      obtain rfl := toI_some h3374
      replace hm := oo_inv hm; obtain ⟨k3375, h3376, hm⟩ := hm
      obtain rfl := toN_some h3376
      replace hm := bb_inv hm; obtain ⟨h3377, hm⟩ := hm
      replace hm := bb_inv hm; obtain ⟨h3378, hm⟩ := hm
      replace hm := oo_inv hm; obtain ⟨v3379, h3380, hm⟩ := hm
      replace hm := oo_inv hm; obtain ⟨x3381, h3382, hm⟩ := hm
      obtain rfl := toI_some h3382
      refine .reg (eN 6 (Fr.puts (fr 41 [(2, (pt 1 0)), (3, (pt 2 0)), (4, (pt 3 0)), (5, (zI (Int.ofNat k3368))), (8, (zI (Int.ofNat k3368)))]) [(11, (pt 2 0)), (12, (zI (Int.ofNat k3365))), (13, (zI (Int.ofNat k3368))), (14, (.pointer (some ⟨1, (0 + k3365 * 2), none⟩))), (15, (.pointer (some ⟨1, ((0 + k3365 * 2) + k3368 * 1), none⟩))), (16, (zU x3373))]) (hp 4 [(oT tab0), (oC q3340), (oC [(zI (Int.ofNat k3365)), (zI (Int.ofNat k3375))]), (oC q3343)]) (eC 3 (keep (hp 4 [(oT tab0), (oC q3340), (oC [(zI (Int.ofNat k3365)), (zI (Int.ofNat k3375))]), (oC q3343)]) (bb (Nat.blt k3365 7) (some (.pointer (some ⟨1, (0 + k3365 * 2), none⟩))) none)) (keep_bb h3367) (eD (keep (hp 4 [(oT tab0), (oC q3340), (oC [(zI (Int.ofNat k3365)), (zI (Int.ofNat k3375))]), (oC q3343)]) (bb (Nat.blt k3368 2) (some (.pointer (some ⟨1, ((0 + k3365 * 2) + k3368 * 1), none⟩))) none)) (keep_bb h3370) (eD (keep (hp 4 [(oT tab0), (oC q3340), (oC [(zI (Int.ofNat k3365)), (zI (Int.ofNat k3375))]), (oC q3343)]) (nthL q3340 ((0 + k3365 * 2) + k3368 * 1))) (keep_eq h3372) (by kernel_rfl)))) (eC 3 (keep (hp 4 [(oT tab0), (oC q3340), (oC [(zI (Int.ofNat k3365)), (zI (Int.ofNat k3375))]), (oC q3343)]) (bb (Nat.blt k3375 7) (some (.pointer (some ⟨1, (0 + k3375 * 2), none⟩))) none)) (keep_bb h3377) (eD (keep (hp 4 [(oT tab0), (oC q3340), (oC [(zI (Int.ofNat k3365)), (zI (Int.ofNat k3375))]), (oC q3343)]) (bb (Nat.blt k3368 2) (some (.pointer (some ⟨1, ((0 + k3375 * 2) + k3368 * 1), none⟩))) none)) (keep_bb h3378) (eD (keep (hp 4 [(oT tab0), (oC q3340), (oC [(zI (Int.ofNat k3365)), (zI (Int.ofNat k3375))]), (oC q3343)]) (nthL q3340 ((0 + k3375 * 2) + k3368 * 1))) (keep_eq h3380) (eE))))) ?_
      refine .ghs (fr 41 [(2, (pt 1 0)), (3, (pt 2 0)), (4, (pt 3 0)), (5, (zI (Int.ofNat k3368))), (6, (zU x3373)), (7, (zU x3381)), (8, (zI (Int.ofNat k3368)))]) (hp 4 [(oT tab0), (oC q3340), (oC [(zI (Int.ofNat k3365)), (zI (Int.ofNat k3375))]), (oC q3343)]) (.k [1, 3] [false] [.tmp 2 false, .tmp 3 false, .tmp 4 false] [2, 3, 4, 5, 6, 7, 8] ⟨trE (by kernel_rfl) h3344, trE (by kernel_rfl) h3345, trivial⟩) ?_
      replace hm := bb_inv hm; obtain ⟨h3389, hm⟩ := hm
      replace hm := bb_inv hm; obtain ⟨h3390, hm⟩ := hm
      replace hm := bb_inv hm; obtain ⟨h3391, hm⟩ := hm
      replace hm := bb_inv hm; obtain ⟨h3392, hm⟩ := hm
      replace hm := bb_inv hm; obtain ⟨h3393, hm⟩ := hm
      replace hm := bb_inv hm; obtain ⟨h3394, hm⟩ := hm
      refine .reg (eN 15 (Fr.puts (fr 41 [(2, (pt 1 0)), (3, (pt 2 0)), (4, (pt 3 0)), (5, (zI (Int.ofNat k3368))), (6, (zU x3373)), (7, (zU x3381)), (8, (zI (Int.ofNat k3368)))]) [(23, (pt 2 0)), (24, (zI (Int.ofNat k3365))), (25, (zI (Int.ofNat k3368))), (26, (pt 2 1)), (27, (zI (Int.ofNat k3375))), (28, (zI (Int.ofNat k3368))), (29, (zU x3373)), (30, (zU x3381)), (31, (zU (aand .u64 x3373 x3381))), (32, (zU x3373)), (33, (zU x3381)), (34, (zU (aor .u64 x3373 x3381))), (35, (.pointer (some ⟨1, (0 + k3365 * 2), none⟩))), (36, (.pointer (some ⟨1, ((0 + k3365 * 2) + k3368 * 1), none⟩))), (37, (.pointer (some ⟨1, (0 + k3375 * 2), none⟩)))]) (hp 4 [(oT tab0), (oC q3340), (oC [(zI (Int.ofNat k3365)), (zI (Int.ofNat k3375))]), (oC q3343)]) (eC 12 (keep (hp 4 [(oT tab0), (oC q3340), (oC [(zI (Int.ofNat k3365)), (zI (Int.ofNat k3375))]), (oC q3343)]) (bb (Nat.blt k3365 7) (some (.pointer (some ⟨1, (0 + k3365 * 2), none⟩))) none)) (keep_bb h3389) (eD (keep (hp 4 [(oT tab0), (oC q3340), (oC [(zI (Int.ofNat k3365)), (zI (Int.ofNat k3375))]), (oC q3343)]) (bb (Nat.blt k3368 2) (some (.pointer (some ⟨1, ((0 + k3365 * 2) + k3368 * 1), none⟩))) none)) (keep_bb h3390) (eD (keep (hp 4 [(oT tab0), (oC q3340), (oC [(zI (Int.ofNat k3365)), (zI (Int.ofNat k3375))]), (oC q3343)]) (bb (Nat.blt k3375 7) (some (.pointer (some ⟨1, (0 + k3375 * 2), none⟩))) none)) (keep_bb h3391) (by kernel_rfl)))) (eD (done (bb (an (Nat.ble (((0 + k3365 * 2) + k3368 * 1) + 1) (len q3340)) true) (some (hp 4 [(oT tab0), (oC (setL ([(zU (aand .u64 x3373 x3381))] : List Value) ((0 + k3365 * 2) + k3368 * 1) q3340)), (oC [(zI (Int.ofNat k3365)), (zI (Int.ofNat k3375))]), (oC q3343)])) none) undef) (done_bb h3392) (eD (keep (hp 4 [(oT tab0), (oC (setL ([(zU (aand .u64 x3373 x3381))] : List Value) ((0 + k3365 * 2) + k3368 * 1) q3340)), (oC [(zI (Int.ofNat k3365)), (zI (Int.ofNat k3375))]), (oC q3343)]) (bb (Nat.blt k3368 2) (some (.pointer (some ⟨1, ((0 + k3375 * 2) + k3368 * 1), none⟩))) none)) (keep_bb h3393) (eD (done (bb (an (Nat.ble (((0 + k3375 * 2) + k3368 * 1) + 1) (len (setL ([(zU (aand .u64 x3373 x3381))] : List Value) ((0 + k3365 * 2) + k3368 * 1) q3340))) true) (some (hp 4 [(oT tab0), (oC (setL ([(zU (aor .u64 x3373 x3381))] : List Value) ((0 + k3375 * 2) + k3368 * 1) (setL ([(zU (aand .u64 x3373 x3381))] : List Value) ((0 + k3365 * 2) + k3368 * 1) q3340))), (oC [(zI (Int.ofNat k3365)), (zI (Int.ofNat k3375))]), (oC q3343)])) none) undef) (done_bb h3394) (eE))))) ?_
      replace hm := bb_inv hm; obtain ⟨h3395, hm⟩ := hm
      refine .ghs (fr 41 [(2, (pt 1 0)), (3, (pt 2 0)), (4, (pt 3 0)), (8, (zI (Int.ofNat k3368)))]) (hp 4 [(oT tab0), (oC (setL ([(zU (aor .u64 x3373 x3381))] : List Value) ((0 + k3375 * 2) + k3368 * 1) (setL ([(zU (aand .u64 x3373 x3381))] : List Value) ((0 + k3365 * 2) + k3368 * 1) q3340))), (oC [(zI (Int.ofNat k3365)), (zI (Int.ofNat k3375))]), (oC q3343)]) (.k [1, 3] [false] [.tmp 2 false, .tmp 3 false, .tmp 4 false] [2, 3, 4, 8] ⟨trE (by kernel_rfl) h3395, trE (by kernel_rfl) h3345, trivial⟩) ?_
      refine .rK ?_
      exact ⟨((wrapF .i64 (Int.add (Int.ofNat k3368) (1 : Int))), (setL ([(zU (aor .u64 x3373 x3381))] : List Value) ((0 + k3375 * 2) + k3368 * 1) (setL ([(zU (aand .u64 x3373 x3381))] : List Value) ((0 + k3365 * 2) + k3368 * 1) q3340)), (Int.ofNat k3365), (Int.ofNat k3375), q3343), hm, (.k [1, 3] [false] [.tmp 2 false, .tmp 3 false, .tmp 4 false] [2, 3, 4, 8] ⟨trE (by kernel_rfl) h3395, trE (by kernel_rfl) h3345, trivial⟩)⟩
    · refine .ifF (ilt z3339 (2 : Int)) (by kernel_rfl) h3346 ?_
      refine .exit ?_
      exact ⟨(q3340, q3343), hm, (.k [1, 3] [false] [.tmp 2 false, .tmp 4 false] [2, 4] ⟨trE (by kernel_rfl) h3344, trE (by kernel_rfl) h3345, trivial⟩)⟩
end
end Go.TabUM
