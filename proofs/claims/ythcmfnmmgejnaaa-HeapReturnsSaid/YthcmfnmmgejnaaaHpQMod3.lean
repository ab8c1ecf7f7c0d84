/- Models of the program's functions, and the proofs that runs give them: MADE BY PROGRAM (wip/tools/dec.py). -/
import Derived.Test.YthcmfnmmgejnaaaHpQMod1x

set_option maxRecDepth 100000
set_option maxHeartbeats 20000000
set_option linter.unusedVariables false
namespace Go.HpQM
open Go.Sp Go.HpQ
noncomputable section
def m35_0 (pu : PureF) (n : Nat) : Option Value :=
  (some (.bool false))
def b35_1 (pu : PureF) (n : Nat) (ih0 : Sl → Sl → Int → Option Value) (s0 : Sl) (s1 : Sl) (z0 : Int) : Option Value :=
  (bb (ilt z0 (21 : Int)) (oo (pu 33 [(Sl.v 1 s1)]) none fun v0 => (oo (toSl 1 v0) none fun s2 => (oo (pu 32 [(Sl.v 1 s2), (Sl.v 1 s0)]) none fun v1 => (oo (vBool v1) none fun b0 => (bb b0 (some (.bool true)) (ih0 s0 s2 (wrapF .i64 (Int.add z0 (1 : Int))))))))) (m35_0 pu n))
def l35_1 (pu : PureF) (n : Nat) (w : Nat) : Sl → Sl → Int → Option Value :=
  Nat.rec (motive := fun _ => Sl → Sl → Int → Option Value) (fun _ _ _ => none) (fun _ ih0 => b35_1 pu n ih0) w
def m35_ (pu : PureF) (n : Nat) (s0 : Sl) : Option Value :=
  (l35_1 pu n n s0 s0 (0 : Int))
def m35 (pu : PureF) (n : Nat) (args : List Value) : Option Value :=
  (ll args none fun a0 args => (ll args (oo (toSl 1 a0) none fun s0 => (m35_ pu n s0)) fun _ _ => none))
theorem w35_0 (pu : PureF) (n : Nat) {v : Value} (hm : m35_0 pu n = some v) : Run tt (callP tabs isP pu (inl pu)) 0 c35_21 (fr 15 []) (hp 0 []) (Fin tt 0 [.tmp 2] v) := by
  unfold m35_0 at hm
  refine .then ?_
  refine .rK ?_
  refine .ghs (fr 15 [(2, (zB false))]) (hp 0 []) (.k0 [] [] [2]) ?_
  refine .ret ?_
  exact fin_ret (zB false) (by kernel_rfl) (by kernel_rfl) hm
theorem r35 {call : CallF} (pu : PureF) (n : Nat) (hcall : call = callP tabs isP pu (inl pu)) {args : List Value} {v : Value} (hm : m35 pu n args = some v) (_ : ∀ x ∈ args, closed2 x = true) : args.length ≤ 15 ∧ Run tt call 0 c35_24 (Fr.made 15 args) (pureHeap tabs) (Fin tt 0 [.tmp 2] v) := by
  subst hcall
  unfold m35 at hm
  replace hm := ll_uncons hm; obtain ⟨a0, args_0, rfl, hm⟩ := hm
  replace hm := ll_end hm; obtain ⟨rfl, hm⟩ := hm
  replace hm := inv_toSl hm; obtain ⟨s0, rfl, hm⟩ := hm
  unfold m35_ at hm
  refine ⟨by simp, ?_⟩
  refine .same (F' := (fr 15 [(0, (Sl.v 1 s0))])) (H' := (hp 0 [])) (by kernel_rfl) (by kernel_rfl) ?_
  refine .then ?_
  refine .rK ?_
  refine .ghs (fr 15 [(0, (Sl.v 1 s0))]) (hp 0 []) (.k0 [] [] [0]) ?_
  refine .then ?_
  refine .rK ?_
  refine .ghs (fr 15 [(0, (Sl.v 1 s0)), (3, (Sl.v 1 s0))]) (hp 0 []) (.k0 [] [] [0, 3]) ?_
  refine .join (v := v) (fun y : Unit => ((fr 15 []), (hp 0 []))) (fun y => m35_0 pu n) ?_ ?_
  · rintro _ hm
    exact w35_0 pu n hm
  · refine .then ?_
    refine .rK ?_
    refine .ghs (fr 15 [(0, (Sl.v 1 s0)), (3, (Sl.v 1 s0)), (4, (zI (0 : Int)))]) (hp 0 []) (.k0 [] [] [0, 3, 4]) ?_
    refine .block ?_
    refine .loopM (v := v) (fun y : Sl × Sl × Int => ((fr 15 [(0, (Sl.v 1 y.1)), (3, (Sl.v 1 y.2.1)), (4, (zI y.2.2))]), (hp 0 []))) (fun w y => l35_1 pu n w y.1 y.2.1 y.2.2) n ⟨(s0, s0, (0 : Int)), hm, (.k0 [] [] [0, 3, 4])⟩ (fun _ => rfl) ?_
    rintro w0 ⟨s1, s2, z0⟩ hm
    replace hm : b35_1 pu n (l35_1 pu n w0) s1 s2 z0 = some v := hm
    unfold b35_1 at hm
    refine .then ?_
    refine .then ?_
    refine .rK ?_
    refine .ghs (fr 15 [(0, (Sl.v 1 s1)), (3, (Sl.v 1 s2)), (4, (zI z0)), (7, (zB (ilt z0 (21 : Int))))]) (hp 0 []) (.k0 [] [] [0, 3, 4, 7]) ?_
    replace hm := bb_cases hm; rcases hm with ⟨h0, hm⟩ | ⟨h0, hm⟩
    · refine .ifT (ilt z0 (21 : Int)) (by kernel_rfl) h0 ?_
      refine .skip ?_
      refine .ghs (fr 15 [(0, (Sl.v 1 s1)), (3, (Sl.v 1 s2)), (4, (zI z0))]) (hp 0 []) (.k0 [] [] [0, 3, 4]) ?_
      refine .then ?_
      refine .block ?_
      refine .then ?_
      replace hm := oo_inv hm; obtain ⟨v0, h1, hm⟩ := hm
      replace hm := inv_toSl hm; obtain ⟨s3, rfl, hm⟩ := hm
      refine .reg (eC 1 ((oo (pu 33 [(Sl.v 1 s2)]) none fun v => some (v, (hp 0 [])))) (call_eq h1) (eE)) ?_
      refine .ghs (fr 15 [(0, (Sl.v 1 s1)), (3, (Sl.v 1 s3)), (4, (zI z0))]) (hp 0 []) (.k0 [] [] [0, 3, 4]) ?_
      refine .then ?_
      replace hm := oo_inv hm; obtain ⟨v1, h2, hm⟩ := hm
      replace hm := inv_vBool hm; obtain ⟨b0, rfl, hm⟩ := hm
      refine .reg (eC 2 ((oo (pu 32 [(Sl.v 1 s3), (Sl.v 1 s1)]) none fun v => some (v, (hp 0 [])))) (call_eq h2) (eE)) ?_
      refine .ghs (fr 15 [(0, (Sl.v 1 s1)), (3, (Sl.v 1 s3)), (4, (zI z0)), (14, (zB b0))]) (hp 0 []) (.k0 [] [] [0, 3, 4, 14]) ?_
      replace hm := bb_cases hm; rcases hm with ⟨h3, hm⟩ | ⟨h3, hm⟩
      · refine .ifT b0 (by kernel_rfl) h3 ?_
        refine .then ?_
        refine .rK ?_
        refine .ghs (fr 15 [(2, (zB true))]) (hp 0 []) (.k0 [] [] [2]) ?_
        refine .ret ?_
        exact fin_ret (zB true) (by kernel_rfl) (by kernel_rfl) hm
      · refine .ifF b0 (by kernel_rfl) h3 ?_
        refine .skip ?_
        refine .ghs (fr 15 [(0, (Sl.v 1 s1)), (3, (Sl.v 1 s3)), (4, (zI z0))]) (hp 0 []) (.k0 [] [] [0, 3, 4]) ?_
        refine .rK ?_
        exact ⟨(s1, s3, (wrapF .i64 (Int.add z0 (1 : Int)))), hm, (.k0 [] [] [0, 3, 4])⟩
    · refine .ifF (ilt z0 (21 : Int)) (by kernel_rfl) h0 ?_
      refine .exit ?_
      exact ⟨(), hm, (.k0 [] [] [])⟩
def b36_0 (pu : PureF) (n : Nat) (ih0 : Int → List Value → List Value → Option Value) (z0 : Int) (q0 : List Value) (q1 : List Value) : Option Value :=
  (bb (allL closed1 q0) (bb (allL closed1 q1) (bb (Nat.ble (0 + 22) (len q0)) (oo (pu 34 [(.agg ⟨(takeL 22 (dropL 0 q0))⟩)]) none fun v0 => (oo (vBool v0) none fun b0 => (bb (allL closed2 [(.agg ⟨(takeL 22 (dropL 0 q0))⟩)]) (bb (nt b0) (bb (Nat.ble (0 + 22) (len q0)) (oo (pu 40 [(.agg ⟨(takeL 22 (dropL 0 q0))⟩)]) none fun v1 => (oo (vAgg v1) none fun q2 => (bb (an (Nat.beq (len q2) 22) (allL closed1 q2)) (bb (allL closed2 [(.agg ⟨(takeL 22 (dropL 0 q0))⟩)]) (bb (Nat.beq (len q2) 22) (bb (an (Nat.ble (0 + len q2) (len q0)) (allL scalarB q2)) (bb (allL closed1 (setL q2 0 q0)) (ih0 (wrapF .i64 (Int.add z0 (1 : Int))) (setL q2 0 q0) q1) none) none) none) none) none))) none) (bb (Nat.ble (0 + 22) (len q0)) (bb (Nat.beq (len (takeL 22 (dropL 0 q0))) 22) (bb (an (Nat.ble (0 + len (takeL 22 (dropL 0 q0))) (len q1)) (allL scalarB (takeL 22 (dropL 0 q0)))) (bb (allL closed1 (setL (takeL 22 (dropL 0 q0)) 0 q1)) (bb (Nat.ble (0 + 22) (len (setL (takeL 22 (dropL 0 q0)) 0 q1))) (bb (closedV (.tuple ⟨[(.int .i64 z0), (.agg ⟨(takeL 22 (dropL 0 (setL (takeL 22 (dropL 0 q0)) 0 q1)))⟩)]⟩)) (some (.tuple ⟨[(.int .i64 z0), (.agg ⟨(takeL 22 (dropL 0 (setL (takeL 22 (dropL 0 q0)) 0 q1)))⟩)]⟩)) none) none) none) none) none) none)) none))) none) none) none)
def l36_0 (pu : PureF) (n : Nat) (w : Nat) : Int → List Value → List Value → Option Value :=
  Nat.rec (motive := fun _ => Int → List Value → List Value → Option Value) (fun _ _ _ => none) (fun _ ih0 => b36_0 pu n ih0) w
def m36_ (pu : PureF) (n : Nat) (q0 : List Value) : Option Value :=
  (bb (allL closed1 q0) (bb (allL closed1 zA48) (bb (Nat.ble (0 + 22) (len q0)) (oo (pu 34 [(.agg ⟨(takeL 22 (dropL 0 q0))⟩)]) none fun v0 => (oo (vBool v0) none fun b0 => (bb (allL closed2 [(.agg ⟨(takeL 22 (dropL 0 q0))⟩)]) (bb (nt b0) (bb (Nat.ble (0 + 22) (len q0)) (oo (pu 40 [(.agg ⟨(takeL 22 (dropL 0 q0))⟩)]) none fun v1 => (oo (vAgg v1) none fun q1 => (bb (an (Nat.beq (len q1) 22) (allL closed1 q1)) (bb (allL closed2 [(.agg ⟨(takeL 22 (dropL 0 q0))⟩)]) (bb (Nat.beq (len q1) 22) (bb (an (Nat.ble (0 + len q1) (len q0)) (allL scalarB q1)) (bb (allL closed1 (setL q1 0 q0)) (l36_0 pu n n (1 : Int) (setL q1 0 q0) zA48) none) none) none) none) none))) none) (bb (Nat.ble (0 + 22) (len q0)) (bb (Nat.beq (len (takeL 22 (dropL 0 q0))) 22) (bb (an (Nat.ble (0 + len (takeL 22 (dropL 0 q0))) (len zA48)) (allL scalarB (takeL 22 (dropL 0 q0)))) (bb (allL closed1 (setL (takeL 22 (dropL 0 q0)) 0 zA48)) (bb (Nat.ble (0 + 22) (len (setL (takeL 22 (dropL 0 q0)) 0 zA48))) (bb (closedV (.tuple ⟨[(.int .i64 (0 : Int)), (.agg ⟨(takeL 22 (dropL 0 (setL (takeL 22 (dropL 0 q0)) 0 zA48)))⟩)]⟩)) (some (.tuple ⟨[(.int .i64 (0 : Int)), (.agg ⟨(takeL 22 (dropL 0 (setL (takeL 22 (dropL 0 q0)) 0 zA48)))⟩)]⟩)) none) none) none) none) none) none)) none))) none) none) none)
def m36 (pu : PureF) (n : Nat) (args : List Value) : Option Value :=
  (ll args none fun a0 args => (ll args (oo (vAgg a0) none fun q0 => (bb (an (Nat.beq (len q0) 22) (allL closed1 q0)) (m36_ pu n q0) none)) fun _ _ => none))
theorem r36 {call : CallF} (pu : PureF) (n : Nat) (hcall : call = callP tabs isP pu (inl pu)) {args : List Value} {v : Value} (hm : m36 pu n args = some v) (_ : ∀ x ∈ args, closed2 x = true) : args.length ≤ 14 ∧ Run tt call 0 c36_26 (Fr.made 14 args) (pureHeap tabs) (Fin tt 0 [.tmp 2, .cell 3 48] v) := by
  subst hcall
  unfold m36 at hm
  replace hm := ll_uncons hm; obtain ⟨a0, args_0, rfl, hm⟩ := hm
  replace hm := ll_end hm; obtain ⟨rfl, hm⟩ := hm
  replace hm := inv_vAgg hm; obtain ⟨q0, rfl, hm⟩ := hm
  replace hm := bb_inv hm; obtain ⟨h0, hm⟩ := hm
  unfold m36_ at hm
  refine ⟨by simp, ?_⟩
  refine .same (F' := (fr 14 [(0, (.agg ⟨q0⟩))])) (H' := (hp 0 [])) (by kernel_rfl) (by kernel_rfl) ?_
  refine .then ?_
  refine .rK ?_
  replace hm := bb_inv hm; obtain ⟨h1, hm⟩ := hm
  replace hm := bb_inv hm; obtain ⟨h2, hm⟩ := hm
  refine .ghs (fr 14 [(1, (pt 0 0)), (3, (pt 1 0))]) (hp 2 [(oC q0), (oC zA48)]) (.k [0, 1] [] [.tmp 1 false, .tmp 3 false] [1, 3] ⟨trE (by kernel_rfl) h1, trE (by kernel_rfl) h2, trivial⟩) ?_
  refine .scopeM (v := v) (fun y : Int × List Value × List Value => ((fr 14 [(1, (pt 0 0)), (3, (pt 1 0)), (4, (zI y.1))]), (hp 2 [(oC y.2.1), (oC y.2.2)]))) (fun w y => l36_0 pu n w y.1 y.2.1 y.2.2) n (fun _ => rfl) ?_ ?_
  · refine .then ?_
    refine .rK ?_
    refine .ghs (fr 14 [(1, (pt 0 0)), (3, (pt 1 0)), (4, (zI (0 : Int)))]) (hp 2 [(oC q0), (oC zA48)]) (.k [0, 1] [] [.tmp 1 false, .tmp 3 false] [1, 3, 4] ⟨trE (by kernel_rfl) h1, trE (by kernel_rfl) h2, trivial⟩) ?_
    refine .then ?_
    refine .label ?_
    refine .ghs (fr 14 [(1, (pt 0 0)), (3, (pt 1 0)), (4, (zI (0 : Int)))]) (hp 2 [(oC q0), (oC zA48)]) (.k [0, 1] [] [.tmp 1 false, .tmp 3 false] [1, 3, 4] ⟨trE (by kernel_rfl) h1, trE (by kernel_rfl) h2, trivial⟩) ?_
    refine .then ?_
    refine .then ?_
    replace hm := bb_inv hm; obtain ⟨h3, hm⟩ := hm
    replace hm := oo_inv hm; obtain ⟨v0, h4, hm⟩ := hm
    replace hm := inv_vBool hm; obtain ⟨b0, rfl, hm⟩ := hm
    replace hm := bb_inv hm; obtain ⟨h5, hm⟩ := hm
    refine .reg (eD (keep (hp 2 [(oC q0), (oC zA48)]) (bb (Nat.ble (0 + 22) (len q0)) (some (.agg ⟨(takeL 22 (dropL 0 q0))⟩)) none)) (keep_bb h3) (eD (bb (allL closed2 [(.agg ⟨(takeL 22 (dropL 0 q0))⟩)]) (oo (pu 34 [(.agg ⟨(takeL 22 (dropL 0 q0))⟩)]) none fun v => some (v, (hp 2 [(oC q0), (oC zA48)]))) (oo (mapO (purify (hp 2 [(oC q0), (oC zA48)])) [(.agg ⟨(takeL 22 (dropL 0 q0))⟩)]) none fun l1 => oo (pu 34 l1) none fun v => bb (plainT v) (some (v, (hp 2 [(oC q0), (oC zA48)]))) none)) (callc_eq h5 h4) (eE))) ?_
    refine .ghs (fr 14 [(1, (pt 0 0)), (3, (pt 1 0)), (4, (zI (0 : Int))), (7, (zB (nt b0)))]) (hp 2 [(oC q0), (oC zA48)]) (.k [0, 1] [] [.tmp 1 false, .tmp 3 false] [1, 3, 4, 7] ⟨trE (by kernel_rfl) h1, trE (by kernel_rfl) h2, trivial⟩) ?_
    replace hm := bb_cases hm; rcases hm with ⟨h6, hm⟩ | ⟨h6, hm⟩
    · refine .ifT (nt b0) (by kernel_rfl) h6 ?_
      refine .then ?_
      replace hm := bb_inv hm; obtain ⟨h7, hm⟩ := hm
      replace hm := oo_inv hm; obtain ⟨v1, h8, hm⟩ := hm
      replace hm := inv_vAgg hm; obtain ⟨q1, rfl, hm⟩ := hm
      replace hm := bb_inv hm; obtain ⟨h9, hm⟩ := hm
      replace hm := bb_inv hm; obtain ⟨h10, hm⟩ := hm
      replace hm := bb_inv hm; obtain ⟨h11, hm⟩ := hm
      replace hm := bb_inv hm; obtain ⟨h12, hm⟩ := hm
      refine .reg (eD (keep (hp 2 [(oC q0), (oC zA48)]) (bb (Nat.ble (0 + 22) (len q0)) (some (.agg ⟨(takeL 22 (dropL 0 q0))⟩)) none)) (keep_bb h7) (eD (bb (allL closed2 [(.agg ⟨(takeL 22 (dropL 0 q0))⟩)]) (oo (pu 40 [(.agg ⟨(takeL 22 (dropL 0 q0))⟩)]) none fun v => some (v, (hp 2 [(oC q0), (oC zA48)]))) (oo (mapO (purify (hp 2 [(oC q0), (oC zA48)])) [(.agg ⟨(takeL 22 (dropL 0 q0))⟩)]) none fun l1 => oo (pu 40 l1) none fun v => bb (plainT v) (some (v, (hp 2 [(oC q0), (oC zA48)]))) none)) (callc_eq h10 h8) (eD (done (bb (Nat.beq (len q1) 22) (bb (an (Nat.ble (0 + len q1) (len q0)) (allL scalarB q1)) (some (hp 2 [(oC (setL q1 0 q0)), (oC zA48)])) none) none) undef) (done_bb2 h11 h12) (eE)))) ?_
      replace hm := bb_inv hm; obtain ⟨h13, hm⟩ := hm
      refine .ghs (fr 14 [(1, (pt 0 0)), (3, (pt 1 0)), (4, (zI (0 : Int)))]) (hp 2 [(oC (setL q1 0 q0)), (oC zA48)]) (.k [0, 1] [] [.tmp 1 false, .tmp 3 false] [1, 3, 4] ⟨trE (by kernel_rfl) h13, trE (by kernel_rfl) h2, trivial⟩) ?_
      refine .then ?_
      refine .rK ?_
      refine .ghs (fr 14 [(1, (pt 0 0)), (3, (pt 1 0)), (4, (zI (1 : Int)))]) (hp 2 [(oC (setL q1 0 q0)), (oC zA48)]) (.k [0, 1] [] [.tmp 1 false, .tmp 3 false] [1, 3, 4] ⟨trE (by kernel_rfl) h13, trE (by kernel_rfl) h2, trivial⟩) ?_
      refine .goto ?_
      exact ⟨rfl, ((1 : Int), (setL q1 0 q0), zA48), hm, (.k [0, 1] [] [.tmp 1 false, .tmp 3 false] [1, 3, 4] ⟨trE (by kernel_rfl) h13, trE (by kernel_rfl) h2, trivial⟩)⟩
    · refine .ifF (nt b0) (by kernel_rfl) h6 ?_
      refine .skip ?_
      refine .ghs (fr 14 [(1, (pt 0 0)), (3, (pt 1 0)), (4, (zI (0 : Int)))]) (hp 2 [(oC q0), (oC zA48)]) (.k [0, 1] [] [.tmp 1 false, .tmp 3 false] [1, 3, 4] ⟨trE (by kernel_rfl) h1, trE (by kernel_rfl) h2, trivial⟩) ?_
      refine .then ?_
      replace hm := bb_inv hm; obtain ⟨h14, hm⟩ := hm
      replace hm := bb_inv hm; obtain ⟨h15, hm⟩ := hm
      replace hm := bb_inv hm; obtain ⟨h16, hm⟩ := hm
      refine .reg (eC 1 (keep (hp 2 [(oC q0), (oC zA48)]) (bb (Nat.ble (0 + 22) (len q0)) (some (.agg ⟨(takeL 22 (dropL 0 q0))⟩)) none)) (keep_bb h14) (eC 1 (done (bb (Nat.beq (len (takeL 22 (dropL 0 q0))) 22) (bb (an (Nat.ble (0 + len (takeL 22 (dropL 0 q0))) (len zA48)) (allL scalarB (takeL 22 (dropL 0 q0)))) (some (hp 2 [(oC q0), (oC (setL (takeL 22 (dropL 0 q0)) 0 zA48))])) none) none) undef) (done_bb2 h15 h16) (eE))) ?_
      replace hm := bb_inv hm; obtain ⟨h17, hm⟩ := hm
      refine .ghs (fr 14 [(2, (zI (0 : Int))), (3, (pt 0 0))]) (hp 1 [(oC (setL (takeL 22 (dropL 0 q0)) 0 zA48))]) (.k [1] [] [.tmp 3 false] [2, 3] ⟨trE (by kernel_rfl) h17, trivial⟩) ?_
      refine .ret ?_
      replace hm := bb_inv hm; obtain ⟨h18, hm⟩ := hm
      replace hm := bb_inv hm; obtain ⟨h19, hm⟩ := hm
      exact fin_ret (.tuple ⟨[(zI (0 : Int)), (.agg ⟨(takeL 22 (dropL 0 (setL (takeL 22 (dropL 0 q0)) 0 zA48)))⟩)]⟩) (aresults_of (aresultsL_cons (show aresult _ _ _ _ = some (zI (0 : Int)) from (by kernel_rfl)) (aresultsL_cons (show aresult _ _ _ _ = some (.agg ⟨(takeL 22 (dropL 0 (setL (takeL 22 (dropL 0 q0)) 0 zA48)))⟩) from (eq_bb (c := (Nat.ble (0 + 22) (len (setL (takeL 22 (dropL 0 q0)) 0 zA48)))) (by kernel_rfl) h18)) rfl)) (by kernel_rfl)) h19 hm
  · rintro w0 ⟨z0, q2, q3⟩ hm
    replace hm : b36_0 pu n (l36_0 pu n w0) z0 q2 q3 = some v := hm
    unfold b36_0 at hm
    refine .then ?_
    refine .skip ?_
    replace hm := bb_inv hm; obtain ⟨h20, hm⟩ := hm
    replace hm := bb_inv hm; obtain ⟨h21, hm⟩ := hm
    refine .ghs (fr 14 [(1, (pt 0 0)), (3, (pt 1 0)), (4, (zI z0))]) (hp 2 [(oC q2), (oC q3)]) (.k [0, 1] [] [.tmp 1 false, .tmp 3 false] [1, 3, 4] ⟨trE (by kernel_rfl) h20, trE (by kernel_rfl) h21, trivial⟩) ?_
    refine .then ?_
    refine .then ?_
    replace hm := bb_inv hm; obtain ⟨h22, hm⟩ := hm
    replace hm := oo_inv hm; obtain ⟨v2, h23, hm⟩ := hm
    replace hm := inv_vBool hm; obtain ⟨b1, rfl, hm⟩ := hm
    replace hm := bb_inv hm; obtain ⟨h24, hm⟩ := hm
    refine .reg (eD (keep (hp 2 [(oC q2), (oC q3)]) (bb (Nat.ble (0 + 22) (len q2)) (some (.agg ⟨(takeL 22 (dropL 0 q2))⟩)) none)) (keep_bb h22) (eD (bb (allL closed2 [(.agg ⟨(takeL 22 (dropL 0 q2))⟩)]) (oo (pu 34 [(.agg ⟨(takeL 22 (dropL 0 q2))⟩)]) none fun v => some (v, (hp 2 [(oC q2), (oC q3)]))) (oo (mapO (purify (hp 2 [(oC q2), (oC q3)])) [(.agg ⟨(takeL 22 (dropL 0 q2))⟩)]) none fun l1 => oo (pu 34 l1) none fun v => bb (plainT v) (some (v, (hp 2 [(oC q2), (oC q3)]))) none)) (callc_eq h24 h23) (eE))) ?_
    refine .ghs (fr 14 [(1, (pt 0 0)), (3, (pt 1 0)), (4, (zI z0)), (7, (zB (nt b1)))]) (hp 2 [(oC q2), (oC q3)]) (.k [0, 1] [] [.tmp 1 false, .tmp 3 false] [1, 3, 4, 7] ⟨trE (by kernel_rfl) h20, trE (by kernel_rfl) h21, trivial⟩) ?_
    replace hm := bb_cases hm; rcases hm with ⟨h25, hm⟩ | ⟨h25, hm⟩
    · refine .ifT (nt b1) (by kernel_rfl) h25 ?_
      refine .then ?_
      replace hm := bb_inv hm; obtain ⟨h26, hm⟩ := hm
      replace hm := oo_inv hm; obtain ⟨v3, h27, hm⟩ := hm
      replace hm := inv_vAgg hm; obtain ⟨q4, rfl, hm⟩ := hm
      replace hm := bb_inv hm; obtain ⟨h28, hm⟩ := hm
      replace hm := bb_inv hm; obtain ⟨h29, hm⟩ := hm
      replace hm := bb_inv hm; obtain ⟨h30, hm⟩ := hm
      replace hm := bb_inv hm; obtain ⟨h31, hm⟩ := hm
      refine .reg (eD (keep (hp 2 [(oC q2), (oC q3)]) (bb (Nat.ble (0 + 22) (len q2)) (some (.agg ⟨(takeL 22 (dropL 0 q2))⟩)) none)) (keep_bb h26) (eD (bb (allL closed2 [(.agg ⟨(takeL 22 (dropL 0 q2))⟩)]) (oo (pu 40 [(.agg ⟨(takeL 22 (dropL 0 q2))⟩)]) none fun v => some (v, (hp 2 [(oC q2), (oC q3)]))) (oo (mapO (purify (hp 2 [(oC q2), (oC q3)])) [(.agg ⟨(takeL 22 (dropL 0 q2))⟩)]) none fun l1 => oo (pu 40 l1) none fun v => bb (plainT v) (some (v, (hp 2 [(oC q2), (oC q3)]))) none)) (callc_eq h29 h27) (eD (done (bb (Nat.beq (len q4) 22) (bb (an (Nat.ble (0 + len q4) (len q2)) (allL scalarB q4)) (some (hp 2 [(oC (setL q4 0 q2)), (oC q3)])) none) none) undef) (done_bb2 h30 h31) (eE)))) ?_
      replace hm := bb_inv hm; obtain ⟨h32, hm⟩ := hm
      refine .ghs (fr 14 [(1, (pt 0 0)), (3, (pt 1 0)), (4, (zI z0))]) (hp 2 [(oC (setL q4 0 q2)), (oC q3)]) (.k [0, 1] [] [.tmp 1 false, .tmp 3 false] [1, 3, 4] ⟨trE (by kernel_rfl) h32, trE (by kernel_rfl) h21, trivial⟩) ?_
      refine .then ?_
      refine .rK ?_
      refine .ghs (fr 14 [(1, (pt 0 0)), (3, (pt 1 0)), (4, (zI (wrapF .i64 (Int.add z0 (1 : Int)))))]) (hp 2 [(oC (setL q4 0 q2)), (oC q3)]) (.k [0, 1] [] [.tmp 1 false, .tmp 3 false] [1, 3, 4] ⟨trE (by kernel_rfl) h32, trE (by kernel_rfl) h21, trivial⟩) ?_
      refine .goto ?_
      exact ⟨rfl, ((wrapF .i64 (Int.add z0 (1 : Int))), (setL q4 0 q2), q3), hm, (.k [0, 1] [] [.tmp 1 false, .tmp 3 false] [1, 3, 4] ⟨trE (by kernel_rfl) h32, trE (by kernel_rfl) h21, trivial⟩)⟩
    · refine .ifF (nt b1) (by kernel_rfl) h25 ?_
      refine .skip ?_
      refine .ghs (fr 14 [(1, (pt 0 0)), (3, (pt 1 0)), (4, (zI z0))]) (hp 2 [(oC q2), (oC q3)]) (.k [0, 1] [] [.tmp 1 false, .tmp 3 false] [1, 3, 4] ⟨trE (by kernel_rfl) h20, trE (by kernel_rfl) h21, trivial⟩) ?_
      refine .then ?_
      replace hm := bb_inv hm; obtain ⟨h33, hm⟩ := hm
      replace hm := bb_inv hm; obtain ⟨h34, hm⟩ := hm
      replace hm := bb_inv hm; obtain ⟨h35, hm⟩ := hm
      refine .reg (eC 1 (keep (hp 2 [(oC q2), (oC q3)]) (bb (Nat.ble (0 + 22) (len q2)) (some (.agg ⟨(takeL 22 (dropL 0 q2))⟩)) none)) (keep_bb h33) (eC 1 (done (bb (Nat.beq (len (takeL 22 (dropL 0 q2))) 22) (bb (an (Nat.ble (0 + len (takeL 22 (dropL 0 q2))) (len q3)) (allL scalarB (takeL 22 (dropL 0 q2)))) (some (hp 2 [(oC q2), (oC (setL (takeL 22 (dropL 0 q2)) 0 q3))])) none) none) undef) (done_bb2 h34 h35) (eE))) ?_
      replace hm := bb_inv hm; obtain ⟨h36, hm⟩ := hm
      refine .ghs (fr 14 [(2, (zI z0)), (3, (pt 0 0))]) (hp 1 [(oC (setL (takeL 22 (dropL 0 q2)) 0 q3))]) (.k [1] [] [.tmp 3 false] [2, 3] ⟨trE (by kernel_rfl) h36, trivial⟩) ?_
      refine .ret ?_
      replace hm := bb_inv hm; obtain ⟨h37, hm⟩ := hm
      replace hm := bb_inv hm; obtain ⟨h38, hm⟩ := hm
      exact fin_ret (.tuple ⟨[(zI z0), (.agg ⟨(takeL 22 (dropL 0 (setL (takeL 22 (dropL 0 q2)) 0 q3)))⟩)]⟩) (aresults_of (aresultsL_cons (show aresult _ _ _ _ = some (zI z0) from (by kernel_rfl)) (aresultsL_cons (show aresult _ _ _ _ = some (.agg ⟨(takeL 22 (dropL 0 (setL (takeL 22 (dropL 0 q2)) 0 q3)))⟩) from (eq_bb (c := (Nat.ble (0 + 22) (len (setL (takeL 22 (dropL 0 q2)) 0 q3)))) (by kernel_rfl) h37)) rfl)) (by kernel_rfl)) h38 hm
def m37_0 (pu : PureF) (n : Nat) (s0 : Sl) (z0 : Int) : Option Value :=
  (some (.tuple ⟨[(.int .i64 z0), (Sl.v 1 s0)]⟩))
def b37_1 (pu : PureF) (n : Nat) (ih0 : Sl → Int → Option Value) (s0 : Sl) (z0 : Int) : Option Value :=
  (oo (pu 35 [(Sl.v 1 s0)]) none fun v0 => (oo (vBool v0) none fun b0 => (bb (nt b0) (oo (pu 33 [(Sl.v 1 s0)]) none fun v1 => (oo (toSl 1 v1) none fun s1 => (ih0 s1 (wrapF .i64 (Int.add z0 (1 : Int)))))) (m37_0 pu n s0 z0))))
def l37_1 (pu : PureF) (n : Nat) (w : Nat) : Sl → Int → Option Value :=
  Nat.rec (motive := fun _ => Sl → Int → Option Value) (fun _ _ => none) (fun _ ih0 => b37_1 pu n ih0) w
def m37_ (pu : PureF) (n : Nat) (s0 : Sl) : Option Value :=
  (l37_1 pu n n s0 (0 : Int))
def m37 (pu : PureF) (n : Nat) (args : List Value) : Option Value :=
  (ll args none fun a0 args => (ll args (oo (toSl 1 a0) none fun s0 => (m37_ pu n s0)) fun _ _ => none))
theorem w37_0 (pu : PureF) (n : Nat) (s0 : Sl) (z0 : Int) {v : Value} (hm : m37_0 pu n s0 z0 = some v) : Run tt (callP tabs isP pu (inl pu)) 0 c37_13 (fr 14 [(0, (Sl.v 1 s0)), (4, (zI z0))]) (hp 0 []) (Fin tt 0 [.tmp 2, .tmp 3] v) := by
  unfold m37_0 at hm
  refine .then ?_
  refine .rK ?_
  refine .ghs (fr 14 [(2, (zI z0)), (3, (Sl.v 1 s0))]) (hp 0 []) (.k0 [] [] [2, 3]) ?_
  refine .ret ?_
  exact fin_ret (.tuple ⟨[(zI z0), (Sl.v 1 s0)]⟩) (by kernel_rfl) (by kernel_rfl) hm
theorem r37 {call : CallF} (pu : PureF) (n : Nat) (hcall : call = callP tabs isP pu (inl pu)) {args : List Value} {v : Value} (hm : m37 pu n args = some v) (_ : ∀ x ∈ args, closed2 x = true) : args.length ≤ 14 ∧ Run tt call 0 c37_16 (Fr.made 14 args) (pureHeap tabs) (Fin tt 0 [.tmp 2, .tmp 3] v) := by
  subst hcall
  unfold m37 at hm
  replace hm := ll_uncons hm; obtain ⟨a0, args_0, rfl, hm⟩ := hm
  replace hm := ll_end hm; obtain ⟨rfl, hm⟩ := hm
  replace hm := inv_toSl hm; obtain ⟨s0, rfl, hm⟩ := hm
  unfold m37_ at hm
  refine ⟨by simp, ?_⟩
  refine .same (F' := (fr 14 [(0, (Sl.v 1 s0))])) (H' := (hp 0 [])) (by kernel_rfl) (by kernel_rfl) ?_
  refine .then ?_
  refine .rK ?_
  refine .ghs (fr 14 [(0, (Sl.v 1 s0))]) (hp 0 []) (.k0 [] [] [0]) ?_
  refine .then ?_
  refine .rK ?_
  refine .ghs (fr 14 [(0, (Sl.v 1 s0)), (4, (zI (0 : Int)))]) (hp 0 []) (.k0 [] [] [0, 4]) ?_
  refine .join (v := v) (fun y : Sl × Int => ((fr 14 [(0, (Sl.v 1 y.1)), (4, (zI y.2))]), (hp 0 []))) (fun y => m37_0 pu n y.1 y.2) ?_ ?_
  · rintro ⟨s1, z0⟩ hm
    exact w37_0 pu n s1 z0 hm
  · refine .block ?_
    refine .loopM (v := v) (fun y : Sl × Int => ((fr 14 [(0, (Sl.v 1 y.1)), (4, (zI y.2))]), (hp 0 []))) (fun w y => l37_1 pu n w y.1 y.2) n ⟨(s0, (0 : Int)), hm, (.k0 [] [] [0, 4])⟩ (fun _ => rfl) ?_
    rintro w0 ⟨s2, z1⟩ hm
    replace hm : b37_1 pu n (l37_1 pu n w0) s2 z1 = some v := hm
    unfold b37_1 at hm
    refine .then ?_
    refine .then ?_
    replace hm := oo_inv hm; obtain ⟨v0, h0, hm⟩ := hm
    replace hm := inv_vBool hm; obtain ⟨b0, rfl, hm⟩ := hm
    refine .reg (eC 1 ((oo (pu 35 [(Sl.v 1 s2)]) none fun v => some (v, (hp 0 [])))) (call_eq h0) (eE)) ?_
    refine .ghs (fr 14 [(0, (Sl.v 1 s2)), (4, (zI z1)), (7, (zB (nt b0)))]) (hp 0 []) (.k0 [] [] [0, 4, 7]) ?_
    replace hm := bb_cases hm; rcases hm with ⟨h1, hm⟩ | ⟨h1, hm⟩
    · refine .ifT (nt b0) (by kernel_rfl) h1 ?_
      refine .skip ?_
      refine .ghs (fr 14 [(0, (Sl.v 1 s2)), (4, (zI z1))]) (hp 0 []) (.k0 [] [] [0, 4]) ?_
      refine .block ?_
      refine .then ?_
      replace hm := oo_inv hm; obtain ⟨v1, h2, hm⟩ := hm
      replace hm := inv_toSl hm; obtain ⟨s3, rfl, hm⟩ := hm
      refine .reg (eC 1 ((oo (pu 33 [(Sl.v 1 s2)]) none fun v => some (v, (hp 0 [])))) (call_eq h2) (eE)) ?_
      refine .ghs (fr 14 [(0, (Sl.v 1 s3)), (4, (zI z1))]) (hp 0 []) (.k0 [] [] [0, 4]) ?_
      refine .rK ?_
      exact ⟨(s3, (wrapF .i64 (Int.add z1 (1 : Int)))), hm, (.k0 [] [] [0, 4])⟩
    · refine .ifF (nt b0) (by kernel_rfl) h1 ?_
      refine .exit ?_
      exact ⟨(s2, z1), hm, (.k0 [] [] [0, 4])⟩
def m38_0 (pu : PureF) (n : Nat) (n0 : Nat) (c0 : Nat) (z0 : Int) (q0 : List Value) : Option Value :=
  (bb (an (Nat.ble (0 + n0 * 1) (len q0)) (allL closed1 (takeL (n0 * 1) (dropL 0 q0)))) (bb (nt (Nat.beq (Sl.fl (Sl.mk n0 0 (takeL (n0 * 1) (dropL 0 q0)))) 2)) (oo (toN z0) none fun k1 => (bb (Nat.ble k1 (Sl.n (Sl.mk n0 0 (takeL (n0 * 1) (dropL 0 q0))))) (bb (nt (Nat.beq (Sl.fl (Sl.mk n0 0 (takeL (n0 * 1) (dropL 0 q0)))) 2)) (bb (Nat.ble k1 (Sl.n (Sl.mk n0 0 (takeL (n0 * 1) (dropL 0 q0))))) (oo (pu 60 [(Sl.v 1 (Sl.mk 2 0 (takeL (2 * 1) (dropL 0 ([(Sl.v 1 (Sl.mk ((Sl.n (Sl.mk n0 0 (takeL (n0 * 1) (dropL 0 q0)))) - k1) (bb (an (Nat.beq (Sl.n (Sl.mk n0 0 (takeL (n0 * 1) (dropL 0 q0)))) (Sl.n (Sl.mk n0 0 (takeL (n0 * 1) (dropL 0 q0))))) (orr false (Nat.beq (Sl.fl (Sl.mk n0 0 (takeL (n0 * 1) (dropL 0 q0)))) 1))) 1 0) (takeL (((Sl.n (Sl.mk n0 0 (takeL (n0 * 1) (dropL 0 q0)))) - k1) * 1) (dropL (k1 * 1) (Sl.cs (Sl.mk n0 0 (takeL (n0 * 1) (dropL 0 q0)))))))), (Sl.v 1 (Sl.mk (k1 - 0) (bb (an (Nat.beq k1 (Sl.n (Sl.mk n0 0 (takeL (n0 * 1) (dropL 0 q0))))) (orr false (Nat.beq (Sl.fl (Sl.mk n0 0 (takeL (n0 * 1) (dropL 0 q0)))) 1))) 1 0) (takeL ((k1 - 0) * 1) (dropL (0 * 1) (Sl.cs (Sl.mk n0 0 (takeL (n0 * 1) (dropL 0 q0))))))))] : List Value)))))]) none fun v0 => (oo (toSl 1 v0) none fun s0 => (some (Sl.v 1 s0)))) none) none) none)) none) none)
def m38_3 (pu : PureF) (n : Nat) (ih0 : Nat → Nat → Int → Int → List Value → List Value → List Value → Option Value) (n0 : Nat) (c0 : Nat) (z0 : Int) (z1 : Int) (q0 : List Value) (q1 : List Value) (q2 : List Value) : Option Value :=
  (bb (Nat.ble (0 + 22) (len q2)) (bb (Nat.beq (len (takeL 22 (dropL 0 q2))) 22) (bb (an (Nat.ble (0 + len (takeL 22 (dropL 0 q2))) (len zA48)) (allL scalarB (takeL 22 (dropL 0 q2)))) (bb (allL closed1 q0) (bb (allL closed1 q1) (bb (allL closed1 (setL (takeL 22 (dropL 0 q2)) 0 zA48)) (bb (Nat.ble (0 + 22) (len (setL (takeL 22 (dropL 0 q2)) 0 zA48))) (oo (pu 40 [(.agg ⟨(takeL 22 (dropL 0 (setL (takeL 22 (dropL 0 q2)) 0 zA48)))⟩)]) none fun v0 => (oo (vAgg v0) none fun q3 => (bb (an (Nat.beq (len q3) 22) (allL closed1 q3)) (bb (allL closed2 [(.agg ⟨(takeL 22 (dropL 0 (setL (takeL 22 (dropL 0 q2)) 0 zA48)))⟩)]) (bb (Nat.beq (len q3) 22) (bb (an (Nat.ble (0 + len q3) (len (setL (takeL 22 (dropL 0 q2)) 0 zA48))) (allL scalarB q3)) (bb (allL closed1 (setL q3 0 (setL (takeL 22 (dropL 0 q2)) 0 zA48))) (ih0 n0 c0 z0 (wrapF .i64 (Int.add z1 (1 : Int))) q0 q1 (setL q3 0 (setL (takeL 22 (dropL 0 q2)) 0 zA48))) none) none) none) none) none))) none) none) none) none) none) none) none)
def m38_2 (pu : PureF) (n : Nat) (ih0 : Nat → Nat → Int → Int → List Value → List Value → List Value → Option Value) (n0 : Nat) (c0 : Nat) (z0 : Int) (z1 : Int) (b0 : Bool) (q0 : List Value) (q1 : List Value) (q2 : List Value) : Option Value :=
  (bb b0 (bb (allL closed1 q0) (bb (allL closed1 q1) (bb (allL closed1 q2) (bb (Nat.ble (0 + 22) (len q2)) (oo (pu 41 [(.agg ⟨(takeL 22 (dropL 0 q2))⟩)]) none fun v0 => (oo (toSl 1 v0) none fun s0 => (bb (allL closed2 [(.agg ⟨(takeL 22 (dropL 0 q2))⟩)]) (bb (an (Nat.ble (0 + (Sl.n s0) * 1) (len (Sl.cs s0))) (allL closed1 (takeL ((Sl.n s0) * 1) (dropL 0 (Sl.cs s0))))) (bb (growC 1 24 n0 c0 1 q1) (bb (allL closed1 (appL (dropL 0 q1) [(Sl.v 1 (Sl.mk (Sl.n s0) 0 (takeL ((Sl.n s0) * 1) (dropL 0 (Sl.cs s0)))))])) (oo (toN z1) none fun k1 => (bb (an (Nat.blt k1 (n0 + 1)) true) (oo (nthL (appL (dropL 0 q1) [(Sl.v 1 (Sl.mk (Sl.n s0) 0 (takeL ((Sl.n s0) * 1) (dropL 0 (Sl.cs s0)))))]) (0 + k1 * 1)) none fun v1 => (oo (toSl 1 v1) none fun s1 => (oo (toN z0) none fun k2 => (bb (an (Nat.blt k2 (n0 + 1)) true) (oo (nthL (appL (dropL 0 q1) [(Sl.v 1 (Sl.mk (Sl.n s0) 0 (takeL ((Sl.n s0) * 1) (dropL 0 (Sl.cs s0)))))]) (0 + k2 * 1)) none fun v2 => (oo (toSl 1 v2) none fun s2 => (oo (pu 53 [(Sl.v 1 s1), (Sl.v 1 s2)]) none fun v3 => (oo (toI .i64 v3) none fun x0 => (bb (ilt x0 (0 : Int)) (m38_3 pu n ih0 (n0 + 1) (2 * (n0 + 1) + bb false 1 0) (Int.ofNat k1) (Int.ofNat k1) q0 (appL (dropL 0 q1) [(Sl.v 1 (Sl.mk (Sl.n s0) 0 (takeL ((Sl.n s0) * 1) (dropL 0 (Sl.cs s0)))))]) q2) (m38_3 pu n ih0 (n0 + 1) (2 * (n0 + 1) + bb false 1 0) (Int.ofNat k2) (Int.ofNat k1) q0 (appL (dropL 0 q1) [(Sl.v 1 (Sl.mk (Sl.n s0) 0 (takeL ((Sl.n s0) * 1) (dropL 0 (Sl.cs s0)))))]) q2)))))) none)))) none)) none) none) none) none))) none) none) none) none) (bb (allL closed1 q1) (m38_0 pu n n0 c0 z0 q1) none))
def b38_1 (pu : PureF) (n : Nat) (ih0 : Nat → Nat → Int → Int → List Value → List Value → List Value → Option Value) (n0 : Nat) (c0 : Nat) (z0 : Int) (z1 : Int) (q0 : List Value) (q1 : List Value) (q2 : List Value) : Option Value :=
  (bb (ieq z1 (0 : Int)) (bb (allL closed1 q0) (bb (allL closed1 q1) (bb (allL closed1 q2) (m38_2 pu n ih0 n0 c0 z0 z1 true q0 q1 q2) none) none) none) (bb (Nat.ble (0 + 22) (len q2)) (bb (Nat.ble (0 + 22) (len q0)) (bb (flatLike ti48 (takeL 22 (dropL 0 q2))) (oo (cellsEq (takeL 22 (dropL 0 q2)) (takeL 22 (dropL 0 q0))) none fun b0 => (bb (allL closed1 q0) (bb (allL closed1 q1) (bb (allL closed1 q2) (m38_2 pu n ih0 n0 c0 z0 z1 (bq false b0) q0 q1 q2) none) none) none)) none) none) none))
def l38_1 (pu : PureF) (n : Nat) (w : Nat) : Nat → Nat → Int → Int → List Value → List Value → List Value → Option Value :=
  Nat.rec (motive := fun _ => Nat → Nat → Int → Int → List Value → List Value → List Value → Option Value) (fun _ _ _ _ _ _ _ => none) (fun _ ih0 => b38_1 pu n ih0) w
def m38_ (pu : PureF) (n : Nat) (q0 : List Value) : Option Value :=
  (bb (allL closed1 q0) (bb (Nat.ble (0 + 22) (len q0)) (oo (pu 36 [(.agg ⟨(takeL 22 (dropL 0 q0))⟩)]) none fun v0 => (oo (vTup v0) none fun l0 => (ll l0 none fun v1 l0 => (ll l0 none fun v2 l0 => (ll l0 (oo (toI .i64 v1) none fun x0 => (oo (vAgg v2) none fun q1 => (bb (an (Nat.beq (len q1) 22) (allL closed1 q1)) (bb (allL closed2 [(.agg ⟨(takeL 22 (dropL 0 q0))⟩)]) (bb (Nat.beq (len q1) 22) (bb (an (Nat.ble (0 + len q1) (len zA48)) (allL scalarB q1)) (bb (allL closed1 (setL q1 0 zA48)) (bb (Nat.ble (0 + 22) (len (setL q1 0 zA48))) (bb (Nat.beq (len (takeL 22 (dropL 0 (setL q1 0 zA48)))) 22) (bb (an (Nat.ble (0 + len (takeL 22 (dropL 0 (setL q1 0 zA48)))) (len zA48)) (allL scalarB (takeL 22 (dropL 0 (setL q1 0 zA48))))) (bb (allL closed1 (setL (takeL 22 (dropL 0 (setL q1 0 zA48))) 0 zA48)) (l38_1 pu n n 0 0 (0 : Int) (0 : Int) (setL q1 0 zA48) ([] : List Value) (setL (takeL 22 (dropL 0 (setL q1 0 zA48))) 0 zA48)) none) none) none) none) none) none) none) none) none))) fun _ _ => none))))) none) none)
def m38 (pu : PureF) (n : Nat) (args : List Value) : Option Value :=
  (ll args none fun a0 args => (ll args (oo (vAgg a0) none fun q0 => (bb (an (Nat.beq (len q0) 22) (allL closed1 q0)) (m38_ pu n q0) none)) fun _ _ => none))
theorem w38_0 (pu : PureF) (n : Nat) (n0 : Nat) (c0 : Nat) (z0 : Int) (q0 : List Value) {v : Value} (hm : m38_0 pu n n0 c0 z0 q0 = some v) : Run tt (callP tabs isP pu (inl pu)) 0 c38_26 (fr 51 [(5, (sc 0 0 1 n0 c0)), (6, (zI z0))]) (hp 1 [(oC q0)]) (Fin tt 0 [.tmp 2] v) := by
  unfold m38_0 at hm
  refine .then ?_
  replace hm := bb_inv hm; obtain ⟨h0, hm⟩ := hm
  refine .ghs (Fr.puts (fr 51 [(5, (sc 0 0 1 n0 c0)), (6, (zI z0))]) [(5, (Sl.v 1 (Sl.mk n0 0 (takeL (n0 * 1) (dropL 0 q0)))))]) (hp 1 [.dead]) (.freezeC 0 5 1 (an (Nat.ble (0 + n0 * 1) (len q0)) (allL closed1 (takeL (n0 * 1) (dropL 0 q0)))) (F1 := (Fr.puts (fr 51 [(5, (sc 0 0 1 n0 c0)), (6, (zI z0))]) [(5, (Sl.v 1 (Sl.mk n0 0 (takeL (n0 * 1) (dropL 0 q0)))))])) (H1 := (hp 1 [.dead])) (by kernel_rfl) (by kernel_rfl) h0 (GhS.id _ _)) ?_
  replace hm := bb_inv hm; obtain ⟨h1, hm⟩ := hm
  replace hm := oo_inv hm; obtain ⟨k1, h2, hm⟩ := hm
  obtain rfl := toN_some h2
  replace hm := bb_inv hm; obtain ⟨h3, hm⟩ := hm
  replace hm := bb_inv hm; obtain ⟨h4, hm⟩ := hm
  replace hm := bb_inv hm; obtain ⟨h5, hm⟩ := hm
  replace hm := oo_inv hm; obtain ⟨v0, h6, hm⟩ := hm
  replace hm := inv_toSl hm; obtain ⟨s0, rfl, hm⟩ := hm
  refine .reg (eC 2 (keep (hp 1 [.dead]) (asliceFs ti22 ⟨1, (Sl.n (Sl.mk n0 0 (takeL (n0 * 1) (dropL 0 q0)))), (Sl.fl (Sl.mk n0 0 (takeL (n0 * 1) (dropL 0 q0)))), (Sl.cs (Sl.mk n0 0 (takeL (n0 * 1) (dropL 0 q0))))⟩ (some (zI (Int.ofNat k1))) none none)) (asliceFs_eq (c1 := true) (c2 := (Nat.ble k1 (Sl.n (Sl.mk n0 0 (takeL (n0 * 1) (dropL 0 q0)))))) (l := k1) (h := (Sl.n (Sl.mk n0 0 (takeL (n0 * 1) (dropL 0 q0))))) h1 (by kernel_rfl) (by kernel_rfl) rfl (by kernel_rfl) h3) (eC 2 (keep (hp 1 [.dead]) (asliceFs ti22 ⟨1, (Sl.n (Sl.mk n0 0 (takeL (n0 * 1) (dropL 0 q0)))), (Sl.fl (Sl.mk n0 0 (takeL (n0 * 1) (dropL 0 q0)))), (Sl.cs (Sl.mk n0 0 (takeL (n0 * 1) (dropL 0 q0))))⟩ none (some (zI (Int.ofNat k1))) none)) (asliceFs_eq (c1 := (Nat.ble k1 (Sl.n (Sl.mk n0 0 (takeL (n0 * 1) (dropL 0 q0)))))) (c2 := true) (l := 0) (h := k1) h4 (by kernel_rfl) (by kernel_rfl) h5 (by kernel_rfl) rfl) (eC 1 (giveF tabs 1 (pu 60) [(sc 1 0 1 2 5)] (hp 2 [.dead, (oC [(Sl.v 1 (Sl.mk ((Sl.n (Sl.mk n0 0 (takeL (n0 * 1) (dropL 0 q0)))) - k1) (bb (an (Nat.beq (Sl.n (Sl.mk n0 0 (takeL (n0 * 1) (dropL 0 q0)))) (Sl.n (Sl.mk n0 0 (takeL (n0 * 1) (dropL 0 q0))))) (orr false (Nat.beq (Sl.fl (Sl.mk n0 0 (takeL (n0 * 1) (dropL 0 q0)))) 1))) 1 0) (takeL (((Sl.n (Sl.mk n0 0 (takeL (n0 * 1) (dropL 0 q0)))) - k1) * 1) (dropL (k1 * 1) (Sl.cs (Sl.mk n0 0 (takeL (n0 * 1) (dropL 0 q0)))))))), (Sl.v 1 (Sl.mk (k1 - 0) (bb (an (Nat.beq k1 (Sl.n (Sl.mk n0 0 (takeL (n0 * 1) (dropL 0 q0))))) (orr false (Nat.beq (Sl.fl (Sl.mk n0 0 (takeL (n0 * 1) (dropL 0 q0)))) 1))) 1 0) (takeL ((k1 - 0) * 1) (dropL (0 * 1) (Sl.cs (Sl.mk n0 0 (takeL (n0 * 1) (dropL 0 q0))))))))])])) (giveF_eq (giveL_cons (show giveV 1 (sc 1 0 1 2 5) (hp 2 [.dead, (oC [(Sl.v 1 (Sl.mk ((Sl.n (Sl.mk n0 0 (takeL (n0 * 1) (dropL 0 q0)))) - k1) (bb (an (Nat.beq (Sl.n (Sl.mk n0 0 (takeL (n0 * 1) (dropL 0 q0)))) (Sl.n (Sl.mk n0 0 (takeL (n0 * 1) (dropL 0 q0))))) (orr false (Nat.beq (Sl.fl (Sl.mk n0 0 (takeL (n0 * 1) (dropL 0 q0)))) 1))) 1 0) (takeL (((Sl.n (Sl.mk n0 0 (takeL (n0 * 1) (dropL 0 q0)))) - k1) * 1) (dropL (k1 * 1) (Sl.cs (Sl.mk n0 0 (takeL (n0 * 1) (dropL 0 q0)))))))), (Sl.v 1 (Sl.mk (k1 - 0) (bb (an (Nat.beq k1 (Sl.n (Sl.mk n0 0 (takeL (n0 * 1) (dropL 0 q0))))) (orr false (Nat.beq (Sl.fl (Sl.mk n0 0 (takeL (n0 * 1) (dropL 0 q0)))) 1))) 1 0) (takeL ((k1 - 0) * 1) (dropL (0 * 1) (Sl.cs (Sl.mk n0 0 (takeL (n0 * 1) (dropL 0 q0))))))))])]) = some ((Sl.v 1 (Sl.mk 2 0 (takeL (2 * 1) (dropL 0 ([(Sl.v 1 (Sl.mk ((Sl.n (Sl.mk n0 0 (takeL (n0 * 1) (dropL 0 q0)))) - k1) (bb (an (Nat.beq (Sl.n (Sl.mk n0 0 (takeL (n0 * 1) (dropL 0 q0)))) (Sl.n (Sl.mk n0 0 (takeL (n0 * 1) (dropL 0 q0))))) (orr false (Nat.beq (Sl.fl (Sl.mk n0 0 (takeL (n0 * 1) (dropL 0 q0)))) 1))) 1 0) (takeL (((Sl.n (Sl.mk n0 0 (takeL (n0 * 1) (dropL 0 q0)))) - k1) * 1) (dropL (k1 * 1) (Sl.cs (Sl.mk n0 0 (takeL (n0 * 1) (dropL 0 q0)))))))), (Sl.v 1 (Sl.mk (k1 - 0) (bb (an (Nat.beq k1 (Sl.n (Sl.mk n0 0 (takeL (n0 * 1) (dropL 0 q0))))) (orr false (Nat.beq (Sl.fl (Sl.mk n0 0 (takeL (n0 * 1) (dropL 0 q0)))) 1))) 1 0) (takeL ((k1 - 0) * 1) (dropL (0 * 1) (Sl.cs (Sl.mk n0 0 (takeL (n0 * 1) (dropL 0 q0))))))))] : List Value))))), (hp 2 [.dead, .dead])) from giveV_sl 1 0 1 2 5 ([(Sl.v 1 (Sl.mk ((Sl.n (Sl.mk n0 0 (takeL (n0 * 1) (dropL 0 q0)))) - k1) (bb (an (Nat.beq (Sl.n (Sl.mk n0 0 (takeL (n0 * 1) (dropL 0 q0)))) (Sl.n (Sl.mk n0 0 (takeL (n0 * 1) (dropL 0 q0))))) (orr false (Nat.beq (Sl.fl (Sl.mk n0 0 (takeL (n0 * 1) (dropL 0 q0)))) 1))) 1 0) (takeL (((Sl.n (Sl.mk n0 0 (takeL (n0 * 1) (dropL 0 q0)))) - k1) * 1) (dropL (k1 * 1) (Sl.cs (Sl.mk n0 0 (takeL (n0 * 1) (dropL 0 q0)))))))), (Sl.v 1 (Sl.mk (k1 - 0) (bb (an (Nat.beq k1 (Sl.n (Sl.mk n0 0 (takeL (n0 * 1) (dropL 0 q0))))) (orr false (Nat.beq (Sl.fl (Sl.mk n0 0 (takeL (n0 * 1) (dropL 0 q0)))) 1))) 1 0) (takeL ((k1 - 0) * 1) (dropL (0 * 1) (Sl.cs (Sl.mk n0 0 (takeL (n0 * 1) (dropL 0 q0))))))))] : List Value) [] (by kernel_rfl) (by kernel_rfl) (by kernel_rfl)) giveL_nil) (by kernel_rfl) h6) (eE)))) ?_
  refine .ghs (fr 51 [(2, (Sl.v 1 s0))]) (hp 0 []) (.k0 [] [] [2]) ?_
  refine .ret ?_
  exact fin_ret (Sl.v 1 s0) (by kernel_rfl) (by kernel_rfl) hm
theorem r38 {call : CallF} (pu : PureF) (n : Nat) (hcall : call = callP tabs isP pu (inl pu)) {args : List Value} {v : Value} (hm : m38 pu n args = some v) (_ : ∀ x ∈ args, closed2 x = true) : args.length ≤ 51 ∧ Run tt call 0 c38_31 (Fr.made 51 args) (pureHeap tabs) (Fin tt 0 [.tmp 2] v) := by
  subst hcall
  unfold m38 at hm
  replace hm := ll_uncons hm; obtain ⟨a0, args_0, rfl, hm⟩ := hm
  replace hm := ll_end hm; obtain ⟨rfl, hm⟩ := hm
  replace hm := inv_vAgg hm; obtain ⟨q0, rfl, hm⟩ := hm
  replace hm := bb_inv hm; obtain ⟨h0, hm⟩ := hm
  unfold m38_ at hm
  refine ⟨by simp, ?_⟩
  refine .same (F' := (fr 51 [(0, (.agg ⟨q0⟩))])) (H' := (hp 0 [])) (by kernel_rfl) (by kernel_rfl) ?_
  refine .then ?_
  refine .rK ?_
  replace hm := bb_inv hm; obtain ⟨h1, hm⟩ := hm
  refine .ghs (fr 51 [(1, (pt 0 0))]) (hp 1 [(oC q0)]) (.k [0] [] [.tmp 1 false] [1] ⟨trE (by kernel_rfl) h1, trivial⟩) ?_
  refine .then ?_
  replace hm := bb_inv hm; obtain ⟨h2, hm⟩ := hm
  replace hm := oo_inv hm; obtain ⟨v0, h3, hm⟩ := hm
  replace hm := inv_vTup hm; obtain ⟨l0, rfl, hm⟩ := hm
  replace hm := ll_uncons hm; obtain ⟨v1, l191906_0, rfl, hm⟩ := hm
  replace hm := ll_uncons hm; obtain ⟨v2, l191906_1, rfl, hm⟩ := hm
  replace hm := ll_end hm; obtain ⟨rfl, hm⟩ := hm
  replace hm := inv_toI hm; obtain ⟨x0, rfl, hm⟩ := hm
  replace hm := inv_vAgg hm; obtain ⟨q1, rfl, hm⟩ := hm
  replace hm := bb_inv hm; obtain ⟨h4, hm⟩ := hm
  replace hm := bb_inv hm; obtain ⟨h5, hm⟩ := hm
  replace hm := bb_inv hm; obtain ⟨h6, hm⟩ := hm
  replace hm := bb_inv hm; obtain ⟨h7, hm⟩ := hm
  refine .reg (eD (keep (hp 1 [(oC q0)]) (bb (Nat.ble (0 + 22) (len q0)) (some (.agg ⟨(takeL 22 (dropL 0 q0))⟩)) none)) (keep_bb h2) (eD (bb (allL closed2 [(.agg ⟨(takeL 22 (dropL 0 q0))⟩)]) (oo (pu 36 [(.agg ⟨(takeL 22 (dropL 0 q0))⟩)]) none fun v => some (v, (hp 1 [(oC q0)]))) (oo (mapO (purify (hp 1 [(oC q0)])) [(.agg ⟨(takeL 22 (dropL 0 q0))⟩)]) none fun l1 => oo (pu 36 l1) none fun v => bb (plainT v) (some (v, (hp 1 [(oC q0)]))) none)) (callc_eq h5 h3) (eC 5 (done (bb (Nat.beq (len q1) 22) (bb (an (Nat.ble (0 + len q1) (len zA48)) (allL scalarB q1)) (some (hp 2 [(oC q0), (oC (setL q1 0 zA48))])) none) none) undef) (done_bb2 h6 h7) (eE)))) ?_
  replace hm := bb_inv hm; obtain ⟨h8, hm⟩ := hm
  refine .ghs (fr 51 [(4, (pt 0 0))]) (hp 1 [(oC (setL q1 0 zA48))]) (.k [1] [] [.tmp 4 false] [4] ⟨trE (by kernel_rfl) h8, trivial⟩) ?_
  refine .then ?_
  refine .rK ?_
  refine .ghs (fr 51 [(4, (pt 0 0)), (5, (.slice none 0 0))]) (hp 1 [(oC (setL q1 0 zA48))]) (.k [0] [] [.tmp 4 false] [4, 5] ⟨trE (by kernel_rfl) h8, trivial⟩) ?_
  refine .then ?_
  refine .rK ?_
  refine .ghs (fr 51 [(4, (pt 0 0)), (5, (.slice none 0 0)), (6, (zI (0 : Int)))]) (hp 1 [(oC (setL q1 0 zA48))]) (.k [0] [] [.tmp 4 false] [4, 5, 6] ⟨trE (by kernel_rfl) h8, trivial⟩) ?_
  refine .join (v := v) (fun y : Nat × Nat × Int × List Value => ((fr 51 [(5, (sc 0 0 1 y.1 y.2.1)), (6, (zI y.2.2.1))]), (hp 1 [(oC y.2.2.2)]))) (fun y => m38_0 pu n y.1 y.2.1 y.2.2.1 y.2.2.2) ?_ ?_
  · rintro ⟨n0, c0, z0, q2⟩ hm
    exact w38_0 pu n n0 c0 z0 q2 hm
  · refine .then ?_
    replace hm := bb_inv hm; obtain ⟨h9, hm⟩ := hm
    replace hm := bb_inv hm; obtain ⟨h10, hm⟩ := hm
    replace hm := bb_inv hm; obtain ⟨h11, hm⟩ := hm
    refine .reg (eD (keep (hp 1 [(oC (setL q1 0 zA48))]) (bb (Nat.ble (0 + 22) (len (setL q1 0 zA48))) (some (.agg ⟨(takeL 22 (dropL 0 (setL q1 0 zA48)))⟩)) none)) (keep_bb h9) (eC 1 (done (bb (Nat.beq (len (takeL 22 (dropL 0 (setL q1 0 zA48)))) 22) (bb (an (Nat.ble (0 + len (takeL 22 (dropL 0 (setL q1 0 zA48)))) (len zA48)) (allL scalarB (takeL 22 (dropL 0 (setL q1 0 zA48))))) (some (hp 2 [(oC (setL q1 0 zA48)), (oC (setL (takeL 22 (dropL 0 (setL q1 0 zA48))) 0 zA48))])) none) none) undef) (done_bb2 h10 h11) (eE))) ?_
    replace hm := bb_inv hm; obtain ⟨h12, hm⟩ := hm
    refine .ghs (fr 51 [(4, (pt 0 0)), (5, (.slice none 0 0)), (6, (zI (0 : Int))), (7, (pt 1 0)), (8, (zI (0 : Int)))]) (hp 2 [(oC (setL q1 0 zA48)), (oC (setL (takeL 22 (dropL 0 (setL q1 0 zA48))) 0 zA48))]) (.k [0, 1] [] [.tmp 4 false, .tmp 7 false] [4, 5, 6, 7, 8] ⟨trE (by kernel_rfl) h8, trE (by kernel_rfl) h12, trivial⟩) ?_
    refine .block ?_
    refine .loopM (v := v) (fun y : Nat × Nat × Int × Int × List Value × List Value × List Value => ((fr 51 [(4, (pt 0 0)), (5, (sc 1 0 1 y.1 y.2.1)), (6, (zI y.2.2.1)), (7, (pt 2 0)), (8, (zI y.2.2.2.1))]), (hp 3 [(oC y.2.2.2.2.1), (oC y.2.2.2.2.2.1), (oC y.2.2.2.2.2.2)]))) (fun w y => l38_1 pu n w y.1 y.2.1 y.2.2.1 y.2.2.2.1 y.2.2.2.2.1 y.2.2.2.2.2.1 y.2.2.2.2.2.2) n ⟨(0, 0, (0 : Int), (0 : Int), (setL q1 0 zA48), ([] : List Value), (setL (takeL 22 (dropL 0 (setL q1 0 zA48))) 0 zA48)), hm, (.thaw 5 1 (by kernel_rfl) (.k [0, 1] [] [.tmp 4 false, .tmp 5 false, .tmp 7 false] [4, 5, 6, 7, 8] ⟨trE (by kernel_rfl) h8, trE (by kernel_rfl) h12, trivial⟩))⟩ (fun _ => rfl) ?_
    rintro w0 ⟨n1, c1, z1, z2, q3, q4, q5⟩ hm
    replace hm : b38_1 pu n (l38_1 pu n w0) n1 c1 z1 z2 q3 q4 q5 = some v := hm
    unfold b38_1 at hm
    refine .then ?_
    refine .join (v := v) (fun y : Nat × Nat × Int × Int × Bool × List Value × List Value × List Value => ((fr 51 [(4, (pt 0 0)), (5, (sc 1 0 1 y.1 y.2.1)), (6, (zI y.2.2.1)), (7, (pt 2 0)), (8, (zI y.2.2.2.1)), (21, (zB y.2.2.2.2.1))]), (hp 3 [(oC y.2.2.2.2.2.1), (oC y.2.2.2.2.2.2.1), (oC y.2.2.2.2.2.2.2)]))) (fun y => m38_2 pu n (l38_1 pu n w0) y.1 y.2.1 y.2.2.1 y.2.2.2.1 y.2.2.2.2.1 y.2.2.2.2.2.1 y.2.2.2.2.2.2.1 y.2.2.2.2.2.2.2) ?_ ?_
    · rintro ⟨n2, c2, z3, z4, b0, q6, q7, q8⟩ hm
      unfold m38_2 at hm
      replace hm := bb_cases hm; rcases hm with ⟨h13, hm⟩ | ⟨h13, hm⟩
      · refine .ifT b0 (by kernel_rfl) h13 ?_
        refine .skip ?_
        replace hm := bb_inv hm; obtain ⟨h14, hm⟩ := hm
        replace hm := bb_inv hm; obtain ⟨h15, hm⟩ := hm
        replace hm := bb_inv hm; obtain ⟨h16, hm⟩ := hm
        refine .ghs (fr 51 [(4, (pt 0 0)), (5, (sc 1 0 1 n2 c2)), (6, (zI z3)), (7, (pt 2 0)), (8, (zI z4))]) (hp 3 [(oC q6), (oC q7), (oC q8)]) (.k [0, 1, 2] [] [.tmp 4 false, .tmp 5 false, .tmp 7 false] [4, 5, 6, 7, 8] ⟨trE (by kernel_rfl) h14, trE (by kernel_rfl) h15, trE (by kernel_rfl) h16, trivial⟩) ?_
        refine .join (v := v) (fun y : Nat × Nat × Int × Int × List Value × List Value × List Value => ((fr 51 [(4, (pt 0 0)), (5, (sc 1 0 1 y.1 y.2.1)), (6, (zI y.2.2.1)), (7, (pt 2 0)), (8, (zI y.2.2.2.1))]), (hp 3 [(oC y.2.2.2.2.1), (oC y.2.2.2.2.2.1), (oC y.2.2.2.2.2.2)]))) (fun y => m38_3 pu n (l38_1 pu n w0) y.1 y.2.1 y.2.2.1 y.2.2.2.1 y.2.2.2.2.1 y.2.2.2.2.2.1 y.2.2.2.2.2.2) ?_ ?_
        · rintro ⟨n3, c3, z5, z6, q9, q16, q17⟩ hm
          unfold m38_3 at hm
          refine .then ?_
          refine .then ?_
          replace hm := bb_inv hm; obtain ⟨h17, hm⟩ := hm
          refine .reg (eD (keep (hp 3 [(oC q9), (oC q16), (oC q17)]) (bb (Nat.ble (0 + 22) (len q17)) (some (.agg ⟨(takeL 22 (dropL 0 q17))⟩)) none)) (keep_bb h17) (eE)) ?_
          replace hm := bb_inv hm; obtain ⟨h18, hm⟩ := hm
          replace hm := bb_inv hm; obtain ⟨h19, hm⟩ := hm
          refine .reg (eC 1 (done (bb (Nat.beq (len (takeL 22 (dropL 0 q17))) 22) (bb (an (Nat.ble (0 + len (takeL 22 (dropL 0 q17))) (len zA48)) (allL scalarB (takeL 22 (dropL 0 q17)))) (some (hp 4 [(oC q9), (oC q16), (oC q17), (oC (setL (takeL 22 (dropL 0 q17)) 0 zA48))])) none) none) undef) (done_bb2 h18 h19) (eE)) ?_
          replace hm := bb_inv hm; obtain ⟨h20, hm⟩ := hm
          replace hm := bb_inv hm; obtain ⟨h21, hm⟩ := hm
          replace hm := bb_inv hm; obtain ⟨h22, hm⟩ := hm
          refine .ghs (fr 51 [(4, (pt 0 0)), (5, (sc 1 0 1 n3 c3)), (6, (zI z5)), (7, (pt 2 0)), (8, (zI z6))]) (hp 3 [(oC q9), (oC q16), (oC (setL (takeL 22 (dropL 0 q17)) 0 zA48))]) (.k [0, 1, 3] [] [.tmp 4 false, .tmp 5 false, .tmp 7 false] [4, 5, 6, 7, 8] ⟨trE (by kernel_rfl) h20, trE (by kernel_rfl) h21, trE (by kernel_rfl) h22, trivial⟩) ?_
          replace hm := bb_inv hm; obtain ⟨h23, hm⟩ := hm
          replace hm := oo_inv hm; obtain ⟨v3, h24, hm⟩ := hm
          replace hm := inv_vAgg hm; obtain ⟨q18, rfl, hm⟩ := hm
          replace hm := bb_inv hm; obtain ⟨h25, hm⟩ := hm
          replace hm := bb_inv hm; obtain ⟨h26, hm⟩ := hm
          replace hm := bb_inv hm; obtain ⟨h27, hm⟩ := hm
          replace hm := bb_inv hm; obtain ⟨h28, hm⟩ := hm
          refine .reg (eD (keep (hp 3 [(oC q9), (oC q16), (oC (setL (takeL 22 (dropL 0 q17)) 0 zA48))]) (bb (Nat.ble (0 + 22) (len (setL (takeL 22 (dropL 0 q17)) 0 zA48))) (some (.agg ⟨(takeL 22 (dropL 0 (setL (takeL 22 (dropL 0 q17)) 0 zA48)))⟩)) none)) (keep_bb h23) (eD (bb (allL closed2 [(.agg ⟨(takeL 22 (dropL 0 (setL (takeL 22 (dropL 0 q17)) 0 zA48)))⟩)]) (oo (pu 40 [(.agg ⟨(takeL 22 (dropL 0 (setL (takeL 22 (dropL 0 q17)) 0 zA48)))⟩)]) none fun v => some (v, (hp 3 [(oC q9), (oC q16), (oC (setL (takeL 22 (dropL 0 q17)) 0 zA48))]))) (oo (mapO (purify (hp 3 [(oC q9), (oC q16), (oC (setL (takeL 22 (dropL 0 q17)) 0 zA48))])) [(.agg ⟨(takeL 22 (dropL 0 (setL (takeL 22 (dropL 0 q17)) 0 zA48)))⟩)]) none fun l1 => oo (pu 40 l1) none fun v => bb (plainT v) (some (v, (hp 3 [(oC q9), (oC q16), (oC (setL (takeL 22 (dropL 0 q17)) 0 zA48))]))) none)) (callc_eq h26 h24) (eC 2 (done (bb (Nat.beq (len q18) 22) (bb (an (Nat.ble (0 + len q18) (len (setL (takeL 22 (dropL 0 q17)) 0 zA48))) (allL scalarB q18)) (some (hp 3 [(oC q9), (oC q16), (oC (setL q18 0 (setL (takeL 22 (dropL 0 q17)) 0 zA48)))])) none) none) undef) (done_bb2 h27 h28) (eE)))) ?_
          replace hm := bb_inv hm; obtain ⟨h29, hm⟩ := hm
          exact ⟨(n3, c3, z5, (wrapF .i64 (Int.add z6 (1 : Int))), q9, q16, (setL q18 0 (setL (takeL 22 (dropL 0 q17)) 0 zA48))), hm, (.k [0, 1, 2] [] [.tmp 4 false, .tmp 5 false, .tmp 7 false] [4, 5, 6, 7, 8] ⟨trE (by kernel_rfl) h20, trE (by kernel_rfl) h21, trE (by kernel_rfl) h29, trivial⟩)⟩
        · refine .block ?_
          refine .then ?_
          replace hm := bb_inv hm; obtain ⟨h30, hm⟩ := hm
          replace hm := oo_inv hm; obtain ⟨v4, h31, hm⟩ := hm
          replace hm := inv_toSl hm; obtain ⟨s0, rfl, hm⟩ := hm
          replace hm := bb_inv hm; obtain ⟨h32, hm⟩ := hm
          replace hm := bb_inv hm; obtain ⟨h33, hm⟩ := hm
          replace hm := bb_inv hm; obtain ⟨h34, hm⟩ := hm
          refine .rG (OpsG.seg 3 (Fr.puts (fr 51 [(4, (pt 0 0)), (5, (sc 1 0 1 n2 c2)), (6, (zI z3)), (7, (pt 2 0)), (8, (zI z4))]) [(26, (sc 1 0 1 n2 c2)), (27, (.agg ⟨(takeL 22 (dropL 0 q8))⟩)), (28, (sc 3 0 1 (Sl.n s0) (d2 (Sl.n s0))))]) (hp 4 [(oC q6), (oC q7), (oC q8), (oC (Sl.cs s0))]) (eC 1 (keep (hp 3 [(oC q6), (oC q7), (oC q8)]) (bb (Nat.ble (0 + 22) (len q8)) (some (.agg ⟨(takeL 22 (dropL 0 q8))⟩)) none)) (keep_bb h30) (eD (bb (allL closed2 [(.agg ⟨(takeL 22 (dropL 0 q8))⟩)]) (oo (pu 41 [(.agg ⟨(takeL 22 (dropL 0 q8))⟩)]) none fun v => oo (toSl 1 v) none fun s => some (((sc 3 0 1 (Sl.n s) (d2 (Sl.n s))), (hp 4 [(oC q6), (oC q7), (oC q8), (oC (Sl.cs s))])) : Value × AHeap)) none) ((bb_true' h32).trans (live_eq (sz := 1) (k := fun s => (((sc 3 0 1 (Sl.n s) (d2 (Sl.n s))), (hp 4 [(oC q6), (oC q7), (oC q8), (oC (Sl.cs s))])) : Value × AHeap)) h31)) (by kernel_rfl))) (OpsG.ghs (Fr.puts (fr 51 [(4, (pt 0 0)), (5, (sc 1 0 1 n2 c2)), (6, (zI z3)), (7, (pt 2 0)), (8, (zI z4))]) [(26, (sc 1 0 1 n2 c2)), (27, (.agg ⟨(takeL 22 (dropL 0 q8))⟩)), (28, (Sl.v 1 (Sl.mk (Sl.n s0) 0 (takeL ((Sl.n s0) * 1) (dropL 0 (Sl.cs s0))))))]) (hp 4 [(oC q6), (oC q7), (oC q8), .dead]) (.freezeC 0 28 1 (an (Nat.ble (0 + (Sl.n s0) * 1) (len (Sl.cs s0))) (allL closed1 (takeL ((Sl.n s0) * 1) (dropL 0 (Sl.cs s0))))) (F1 := (Fr.puts (fr 51 [(4, (pt 0 0)), (5, (sc 1 0 1 n2 c2)), (6, (zI z3)), (7, (pt 2 0)), (8, (zI z4))]) [(26, (sc 1 0 1 n2 c2)), (27, (.agg ⟨(takeL 22 (dropL 0 q8))⟩)), (28, (Sl.v 1 (Sl.mk (Sl.n s0) 0 (takeL ((Sl.n s0) * 1) (dropL 0 (Sl.cs s0))))))])) (H1 := (hp 4 [(oC q6), (oC q7), (oC q8), .dead])) (by kernel_rfl) (by kernel_rfl) h33 (GhS.id _ _)) (OpsG.fin (eC 1 (growD 1 24 n2 c2 1 1 q7 [(Sl.v 1 (Sl.mk (Sl.n s0) 0 (takeL ((Sl.n s0) * 1) (dropL 0 (Sl.cs s0)))))] [] (hp 5 [(oC q6), (oC q7), (oC q8), .dead, (oC [(Sl.v 1 (Sl.mk (Sl.n s0) 0 (takeL ((Sl.n s0) * 1) (dropL 0 (Sl.cs s0)))))])])) (growD_eq h34) (eE))))) ?_
          replace hm := bb_inv hm; obtain ⟨h35, hm⟩ := hm
          refine .ghs (fr 51 [(4, (pt 0 0)), (5, (sc 1 0 1 (n2 + 1) (d2 (n2 + 1)))), (6, (zI z3)), (7, (pt 2 0)), (8, (zI z4))]) (hp 3 [(oC q6), (oC (appL (dropL 0 q7) [(Sl.v 1 (Sl.mk (Sl.n s0) 0 (takeL ((Sl.n s0) * 1) (dropL 0 (Sl.cs s0)))))])), (oC q8)]) (.k [0, 5, 2] [] [.tmp 4 false, .tmp 5 false, .tmp 7 false] [4, 5, 6, 7, 8] ⟨trE (by kernel_rfl) h14, trE (by kernel_rfl) h35, trE (by kernel_rfl) h16, trivial⟩) ?_
          refine .then ?_
          replace hm := oo_inv hm; obtain ⟨k1, h36, hm⟩ := hm
          obtain rfl := toN_some h36
          replace hm := bb_inv hm; obtain ⟨h37, hm⟩ := hm
          replace hm := oo_inv hm; obtain ⟨v5, h38, hm⟩ := hm
          replace hm := inv_toSl hm; obtain ⟨s1, rfl, hm⟩ := hm
          replace hm := oo_inv hm; obtain ⟨k2, h39, hm⟩ := hm
          obtain rfl := toN_some h39
          replace hm := bb_inv hm; obtain ⟨h40, hm⟩ := hm
          replace hm := oo_inv hm; obtain ⟨v6, h41, hm⟩ := hm
          replace hm := inv_toSl hm; obtain ⟨s2, rfl, hm⟩ := hm
          replace hm := oo_inv hm; obtain ⟨v7, h42, hm⟩ := hm
          replace hm := inv_toI hm; obtain ⟨x1, rfl, hm⟩ := hm
          refine .reg (eC 2 (keep (hp 3 [(oC q6), (oC (appL (dropL 0 q7) [(Sl.v 1 (Sl.mk (Sl.n s0) 0 (takeL ((Sl.n s0) * 1) (dropL 0 (Sl.cs s0)))))])), (oC q8)]) (bb (an (Nat.blt k1 (n2 + 1)) true) (some (.pointer (some ⟨1, (0 + k1 * 1), none⟩))) none)) (keep_bb h37) (eD (keep (hp 3 [(oC q6), (oC (appL (dropL 0 q7) [(Sl.v 1 (Sl.mk (Sl.n s0) 0 (takeL ((Sl.n s0) * 1) (dropL 0 (Sl.cs s0)))))])), (oC q8)]) (nthL (appL (dropL 0 q7) [(Sl.v 1 (Sl.mk (Sl.n s0) 0 (takeL ((Sl.n s0) * 1) (dropL 0 (Sl.cs s0)))))]) (0 + k1 * 1))) (keep_eq h38) (eC 2 (keep (hp 3 [(oC q6), (oC (appL (dropL 0 q7) [(Sl.v 1 (Sl.mk (Sl.n s0) 0 (takeL ((Sl.n s0) * 1) (dropL 0 (Sl.cs s0)))))])), (oC q8)]) (bb (an (Nat.blt k2 (n2 + 1)) true) (some (.pointer (some ⟨1, (0 + k2 * 1), none⟩))) none)) (keep_bb h40) (eD (keep (hp 3 [(oC q6), (oC (appL (dropL 0 q7) [(Sl.v 1 (Sl.mk (Sl.n s0) 0 (takeL ((Sl.n s0) * 1) (dropL 0 (Sl.cs s0)))))])), (oC q8)]) (nthL (appL (dropL 0 q7) [(Sl.v 1 (Sl.mk (Sl.n s0) 0 (takeL ((Sl.n s0) * 1) (dropL 0 (Sl.cs s0)))))]) (0 + k2 * 1))) (keep_eq h41) (eD ((oo (pu 53 [(Sl.v 1 s1), (Sl.v 1 s2)]) none fun v => some (v, (hp 3 [(oC q6), (oC (appL (dropL 0 q7) [(Sl.v 1 (Sl.mk (Sl.n s0) 0 (takeL ((Sl.n s0) * 1) (dropL 0 (Sl.cs s0)))))])), (oC q8)])))) (call_eq h42) (eE)))))) ?_
          refine .ghs (fr 51 [(4, (pt 0 0)), (5, (sc 1 0 1 (n2 + 1) (d2 (n2 + 1)))), (6, (zI (Int.ofNat k2))), (7, (pt 2 0)), (8, (zI (Int.ofNat k1))), (40, (zB (ilt x1 (0 : Int))))]) (hp 3 [(oC q6), (oC (appL (dropL 0 q7) [(Sl.v 1 (Sl.mk (Sl.n s0) 0 (takeL ((Sl.n s0) * 1) (dropL 0 (Sl.cs s0)))))])), (oC q8)]) (.k [0, 1, 2] [] [.tmp 4 false, .tmp 5 false, .tmp 7 false] [4, 5, 6, 7, 8, 40] ⟨trE (by kernel_rfl) h14, trE (by kernel_rfl) h35, trE (by kernel_rfl) h16, trivial⟩) ?_
          replace hm := bb_cases hm; rcases hm with ⟨h43, hm⟩ | ⟨h43, hm⟩
          · refine .ifT (ilt x1 (0 : Int)) (by kernel_rfl) h43 ?_
            refine .rK ?_
            exact ⟨((n2 + 1), (d2 (n2 + 1)), (Int.ofNat k1), (Int.ofNat k1), q6, (appL (dropL 0 q7) [(Sl.v 1 (Sl.mk (Sl.n s0) 0 (takeL ((Sl.n s0) * 1) (dropL 0 (Sl.cs s0)))))]), q8), hm, (.k [0, 1, 2] [] [.tmp 4 false, .tmp 5 false, .tmp 7 false] [4, 5, 6, 7, 8] ⟨trE (by kernel_rfl) h14, trE (by kernel_rfl) h35, trE (by kernel_rfl) h16, trivial⟩)⟩
          · refine .ifF (ilt x1 (0 : Int)) (by kernel_rfl) h43 ?_
            refine .skip ?_
            exact ⟨((n2 + 1), (d2 (n2 + 1)), (Int.ofNat k2), (Int.ofNat k1), q6, (appL (dropL 0 q7) [(Sl.v 1 (Sl.mk (Sl.n s0) 0 (takeL ((Sl.n s0) * 1) (dropL 0 (Sl.cs s0)))))]), q8), hm, (.k [0, 1, 2] [] [.tmp 4 false, .tmp 5 false, .tmp 7 false] [4, 5, 6, 7, 8] ⟨trE (by kernel_rfl) h14, trE (by kernel_rfl) h35, trE (by kernel_rfl) h16, trivial⟩)⟩
      · refine .ifF b0 (by kernel_rfl) h13 ?_
        refine .exit ?_
        replace hm := bb_inv hm; obtain ⟨h44, hm⟩ := hm
        exact ⟨(n2, c2, z3, q7), hm, (.k [1] [] [.tmp 5 false] [5, 6] ⟨trE (by kernel_rfl) h44, trivial⟩)⟩
    · replace hm := bb_cases hm; rcases hm with ⟨h45, hm⟩ | ⟨h45, hm⟩
      · refine .reg (eC 1 (some ((zB (ieq z2 (0 : Int))), (hp 3 [(oC q3), (oC q4), (oC q5)]))) (show _ = some ((zB true), _) from (by rw [h45])) (eE)) ?_
        replace hm := bb_inv hm; obtain ⟨h46, hm⟩ := hm
        replace hm := bb_inv hm; obtain ⟨h47, hm⟩ := hm
        replace hm := bb_inv hm; obtain ⟨h48, hm⟩ := hm
        exact ⟨(n1, c1, z1, z2, true, q3, q4, q5), hm, (.k [0, 1, 2] [] [.tmp 4 false, .tmp 5 false, .tmp 7 false] [4, 5, 6, 7, 8, 21] ⟨trE (by kernel_rfl) h46, trE (by kernel_rfl) h47, trE (by kernel_rfl) h48, trivial⟩)⟩
      · replace hm := bb_inv hm; obtain ⟨h49, hm⟩ := hm
        replace hm := bb_inv hm; obtain ⟨h50, hm⟩ := hm
        replace hm := bb_inv hm; obtain ⟨h51, hm⟩ := hm
        replace hm := oo_inv hm; obtain ⟨b1, h52, hm⟩ := hm
        refine .reg (eC 1 (some ((zB (ieq z2 (0 : Int))), (hp 3 [(oC q3), (oC q4), (oC q5)]))) (show _ = some ((zB false), _) from (by rw [h45])) (eC 1 (keep (hp 3 [(oC q3), (oC q4), (oC q5)]) (bb (Nat.ble (0 + 22) (len q5)) (some (.agg ⟨(takeL 22 (dropL 0 q5))⟩)) none)) (keep_bb h49) (eD (keep (hp 3 [(oC q3), (oC q4), (oC q5)]) (bb (Nat.ble (0 + 22) (len q3)) (some (.agg ⟨(takeL 22 (dropL 0 q3))⟩)) none)) (keep_bb h50) (eD (keep (hp 3 [(oC q3), (oC q4), (oC q5)]) (oo (bb (flatLike ti48 (takeL 22 (dropL 0 q5))) (cellsEq (takeL 22 (dropL 0 q5)) (takeL 22 (dropL 0 q3))) none) none fun b => bv (bq false b))) (arrEq_eq h51 h52) (eE))))) ?_
        replace hm := bb_inv hm; obtain ⟨h53, hm⟩ := hm
        replace hm := bb_inv hm; obtain ⟨h54, hm⟩ := hm
        replace hm := bb_inv hm; obtain ⟨h55, hm⟩ := hm
        exact ⟨(n1, c1, z1, z2, (bq false b1), q3, q4, q5), hm, (.k [0, 1, 2] [] [.tmp 4 false, .tmp 5 false, .tmp 7 false] [4, 5, 6, 7, 8, 21] ⟨trE (by kernel_rfl) h53, trE (by kernel_rfl) h54, trE (by kernel_rfl) h55, trivial⟩)⟩
end
end Go.HpQM
