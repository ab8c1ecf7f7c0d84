/- Models of the program's functions, and the proofs that runs give them: MADE BY PROGRAM (wip/tools/dec.py). -/
import Derived.Test.YthcmfnmmgejnaaaHpQMod1x

set_option maxRecDepth 100000
set_option maxHeartbeats 20000000
set_option linter.unusedVariables false
namespace Go.HpQM
open Go.Sp Go.HpQ
noncomputable section
def m39_1 (pu : PureF) (n : Nat) (n0 : Nat) (c0 : Nat) (q0 : List Value) : Option Value :=
  (bb (allL closed1 q0) (bb (an (Nat.ble (0 + n0 * 1) (len q0)) (allL closed1 (takeL (n0 * 1) (dropL 0 q0)))) (some (Sl.v 1 (Sl.mk n0 0 (takeL (n0 * 1) (dropL 0 q0))))) none) none)
def b39_2 (pu : PureF) (n : Nat) (ih0 : Sl → Nat → Nat → Sl → List Value → Option Value) (s0 : Sl) (n0 : Nat) (c0 : Nat) (s1 : Sl) (q0 : List Value) : Option Value :=
  (oo (pu 32 [(Sl.v 1 s1), (Sl.v 1 s0)]) none fun v0 => (oo (vBool v0) none fun b0 => (bb (allL closed1 q0) (bb (nt b0) (bb (growC 1 24 n0 c0 1 q0) (bb (allL closed1 (appL (dropL 0 q0) [(Sl.v 1 s1)])) (oo (pu 33 [(Sl.v 1 s1)]) none fun v1 => (oo (toSl 1 v1) none fun s2 => (ih0 s0 (n0 + 1) (2 * (n0 + 1) + bb false 1 0) s2 (appL (dropL 0 q0) [(Sl.v 1 s1)])))) none) none) (m39_1 pu n n0 c0 q0)) none)))
def l39_2 (pu : PureF) (n : Nat) (w : Nat) : Sl → Nat → Nat → Sl → List Value → Option Value :=
  Nat.rec (motive := fun _ => Sl → Nat → Nat → Sl → List Value → Option Value) (fun _ _ _ _ _ => none) (fun _ ih0 => b39_2 pu n ih0) w
def m39_0 (pu : PureF) (n : Nat) (s0 : Sl) : Option Value :=
  (oo (pu 33 [(Sl.v 1 s0)]) none fun v0 => (oo (toSl 1 v0) none fun s1 => (l39_2 pu n n s0 1 2 s1 ([(Sl.v 1 s0)] : List Value))))
def m39_4 (pu : PureF) (n : Nat) (ih0 : Sl → Sl → Sl → Option Value) (s0 : Sl) (s1 : Sl) (s2 : Sl) : Option Value :=
  (oo (pu 33 [(Sl.v 1 s2)]) none fun v0 => (oo (toSl 1 v0) none fun s3 => (ih0 s0 s1 s3)))
def b39_3 (pu : PureF) (n : Nat) (ih0 : Sl → Sl → Sl → Option Value) (s0 : Sl) (s1 : Sl) (s2 : Sl) : Option Value :=
  (oo (pu 32 [(Sl.v 1 s2), (Sl.v 1 s0)]) none fun v0 => (oo (vBool v0) none fun b0 => (bb (nt b0) (oo (pu 61 [(Sl.v 1 s2), (Sl.v 1 s1)]) none fun v1 => (oo (vBool v1) none fun b1 => (bb b1 (m39_4 pu n ih0 s0 s2 s2) (m39_4 pu n ih0 s0 s1 s2)))) (m39_0 pu n s1))))
def l39_3 (pu : PureF) (n : Nat) (w : Nat) : Sl → Sl → Sl → Option Value :=
  Nat.rec (motive := fun _ => Sl → Sl → Sl → Option Value) (fun _ _ _ => none) (fun _ ih0 => b39_3 pu n ih0) w
def m39_ (pu : PureF) (n : Nat) (s0 : Sl) : Option Value :=
  (oo (pu 37 [(Sl.v 1 s0)]) none fun v0 => (oo (vTup v0) none fun l0 => (ll l0 none fun v1 l0 => (ll l0 none fun v2 l0 => (ll l0 (oo (toI .i64 v1) none fun x0 => (oo (toSl 1 v2) none fun s1 => (oo (pu 33 [(Sl.v 1 s1)]) none fun v3 => (oo (toSl 1 v3) none fun s2 => (l39_3 pu n n s1 s1 s2))))) fun _ _ => none)))))
def m39 (pu : PureF) (n : Nat) (args : List Value) : Option Value :=
  (ll args none fun a0 args => (ll args (oo (toSl 1 a0) none fun s0 => (m39_ pu n s0)) fun _ _ => none))
theorem w39_1 (pu : PureF) (n : Nat) (n0 : Nat) (c0 : Nat) (q0 : List Value) {v : Value} (hm : m39_1 pu n n0 c0 q0 = some v) : Run tt (callP tabs isP pu (inl pu)) 0 c39_32 (fr 42 [(7, (sc 0 0 1 n0 c0))]) (hp 1 [(oC q0)]) (Fin tt 0 [.tmp 2] v) := by
  unfold m39_1 at hm
  refine .then ?_
  refine .rK ?_
  replace hm := bb_inv hm; obtain ⟨h0, hm⟩ := hm
  refine .ghs (fr 42 [(2, (sc 0 0 1 n0 c0))]) (hp 1 [(oC q0)]) (.k [0] [] [.tmp 2 false] [2] ⟨trE (by kernel_rfl) h0, trivial⟩) ?_
  replace hm := bb_inv hm; obtain ⟨h1, hm⟩ := hm
  refine .ghs (Fr.puts (fr 42 [(2, (sc 0 0 1 n0 c0))]) [(2, (Sl.v 1 (Sl.mk n0 0 (takeL (n0 * 1) (dropL 0 q0)))))]) (hp 1 [.dead]) (.freezeC 0 2 1 (an (Nat.ble (0 + n0 * 1) (len q0)) (allL closed1 (takeL (n0 * 1) (dropL 0 q0)))) (F1 := (Fr.puts (fr 42 [(2, (sc 0 0 1 n0 c0))]) [(2, (Sl.v 1 (Sl.mk n0 0 (takeL (n0 * 1) (dropL 0 q0)))))])) (H1 := (hp 1 [.dead])) (by kernel_rfl) (by kernel_rfl) h1 (GhS.id _ _)) ?_
  refine .ret ?_
  exact fin_ret (Sl.v 1 (Sl.mk n0 0 (takeL (n0 * 1) (dropL 0 q0)))) (by kernel_rfl) (by kernel_rfl) hm
theorem w39_0 (pu : PureF) (n : Nat) (s0 : Sl) {v : Value} (hm : m39_0 pu n s0 = some v) : Run tt (callP tabs isP pu (inl pu)) 0 c39_34 (fr 42 [(5, (Sl.v 1 s0))]) (hp 0 []) (Fin tt 0 [.tmp 2] v) := by
  unfold m39_0 at hm
  refine .then ?_
  refine .rK ?_
  refine .ghs (fr 42 [(5, (Sl.v 1 s0)), (7, (sc 0 0 1 1 3))]) (hp 1 [(oC [(Sl.v 1 s0)])]) (.k0 [] [.tmp 7 false] [5, 7]) ?_
  refine .join (v := v) (fun y : Nat × Nat × List Value => ((fr 42 [(7, (sc 0 0 1 y.1 y.2.1))]), (hp 1 [(oC y.2.2)]))) (fun y => m39_1 pu n y.1 y.2.1 y.2.2) ?_ ?_
  · rintro ⟨n0, c0, q0⟩ hm
    exact w39_1 pu n n0 c0 q0 hm
  · refine .then ?_
    replace hm := oo_inv hm; obtain ⟨v0, h0, hm⟩ := hm
    replace hm := inv_toSl hm; obtain ⟨s1, rfl, hm⟩ := hm
    refine .reg (eC 1 ((oo (pu 33 [(Sl.v 1 s0)]) none fun v => some (v, (hp 1 [(oC [(Sl.v 1 s0)])])))) (call_eq h0) (eE)) ?_
    refine .ghs (fr 42 [(5, (Sl.v 1 s0)), (7, (sc 0 0 1 1 3)), (8, (Sl.v 1 s1))]) (hp 1 [(oC [(Sl.v 1 s0)])]) (.k0 [] [.tmp 7 false] [5, 7, 8]) ?_
    refine .block ?_
    refine .loopM (v := v) (fun y : Sl × Nat × Nat × Sl × List Value => ((fr 42 [(5, (Sl.v 1 y.1)), (7, (sc 0 0 1 y.2.1 y.2.2.1)), (8, (Sl.v 1 y.2.2.2.1))]), (hp 1 [(oC y.2.2.2.2)]))) (fun w y => l39_2 pu n w y.1 y.2.1 y.2.2.1 y.2.2.2.1 y.2.2.2.2) n ⟨(s0, 1, 2, s1, ([(Sl.v 1 s0)] : List Value)), hm, (.weak 7 (sc 0 0 1 1 2) (v := (sc 0 0 1 1 3)) (by kernel_rfl) (Weak.cap 0 0 1 1 1) (.k0 [] [.tmp 7 false] [5, 7, 8]))⟩ (fun _ => rfl) ?_
    rintro w0 ⟨s2, n1, c1, s3, q1⟩ hm
    replace hm : b39_2 pu n (l39_2 pu n w0) s2 n1 c1 s3 q1 = some v := hm
    unfold b39_2 at hm
    refine .then ?_
    refine .then ?_
    replace hm := oo_inv hm; obtain ⟨v1, h1, hm⟩ := hm
    replace hm := inv_vBool hm; obtain ⟨b0, rfl, hm⟩ := hm
    refine .reg (eC 2 ((oo (pu 32 [(Sl.v 1 s3), (Sl.v 1 s2)]) none fun v => some (v, (hp 1 [(oC q1)])))) (call_eq h1) (eE)) ?_
    replace hm := bb_inv hm; obtain ⟨h2, hm⟩ := hm
    refine .ghs (fr 42 [(5, (Sl.v 1 s2)), (7, (sc 0 0 1 n1 c1)), (8, (Sl.v 1 s3)), (34, (zB (nt b0)))]) (hp 1 [(oC q1)]) (.k [0] [] [.tmp 7 false] [5, 7, 8, 34] ⟨trE (by kernel_rfl) h2, trivial⟩) ?_
    replace hm := bb_cases hm; rcases hm with ⟨h3, hm⟩ | ⟨h3, hm⟩
    · refine .ifT (nt b0) (by kernel_rfl) h3 ?_
      refine .skip ?_
      refine .ghs (fr 42 [(5, (Sl.v 1 s2)), (7, (sc 0 0 1 n1 c1)), (8, (Sl.v 1 s3))]) (hp 1 [(oC q1)]) (.k [0] [] [.tmp 7 false] [5, 7, 8] ⟨trE (by kernel_rfl) h2, trivial⟩) ?_
      refine .then ?_
      refine .block ?_
      replace hm := bb_inv hm; obtain ⟨h4, hm⟩ := hm
      refine .reg (eC 3 (growD 1 24 n1 c1 1 0 q1 [(Sl.v 1 s3)] [] (hp 2 [(oC q1), (oC [(Sl.v 1 s3)])])) (growD_eq h4) (eE)) ?_
      replace hm := bb_inv hm; obtain ⟨h5, hm⟩ := hm
      refine .ghs (fr 42 [(5, (Sl.v 1 s2)), (7, (sc 0 0 1 (n1 + 1) (d2 (n1 + 1)))), (8, (Sl.v 1 s3))]) (hp 1 [(oC (appL (dropL 0 q1) [(Sl.v 1 s3)]))]) (.k [2] [] [.tmp 7 false] [5, 7, 8] ⟨trE (by kernel_rfl) h5, trivial⟩) ?_
      replace hm := oo_inv hm; obtain ⟨v2, h6, hm⟩ := hm
      replace hm := inv_toSl hm; obtain ⟨s4, rfl, hm⟩ := hm
      refine .reg (eC 1 ((oo (pu 33 [(Sl.v 1 s3)]) none fun v => some (v, (hp 1 [(oC (appL (dropL 0 q1) [(Sl.v 1 s3)]))])))) (call_eq h6) (eE)) ?_
      exact ⟨(s2, (n1 + 1), (d2 (n1 + 1)), s4, (appL (dropL 0 q1) [(Sl.v 1 s3)])), hm, (.k [0] [] [.tmp 7 false] [5, 7, 8] ⟨trE (by kernel_rfl) h5, trivial⟩)⟩
    · refine .ifF (nt b0) (by kernel_rfl) h3 ?_
      refine .exit ?_
      exact ⟨(n1, c1, q1), hm, (.k [0] [] [.tmp 7 false] [7] ⟨trE (by kernel_rfl) h2, trivial⟩)⟩
theorem r39 {call : CallF} (pu : PureF) (n : Nat) (hcall : call = callP tabs isP pu (inl pu)) {args : List Value} {v : Value} (hm : m39 pu n args = some v) (_ : ∀ x ∈ args, closed2 x = true) : args.length ≤ 42 ∧ Run tt call 0 c39_38 (Fr.made 42 args) (pureHeap tabs) (Fin tt 0 [.tmp 2] v) := by
  subst hcall
  unfold m39 at hm
  replace hm := ll_uncons hm; obtain ⟨a0, args_0, rfl, hm⟩ := hm
  replace hm := ll_end hm; obtain ⟨rfl, hm⟩ := hm
  replace hm := inv_toSl hm; obtain ⟨s0, rfl, hm⟩ := hm
  unfold m39_ at hm
  refine ⟨by simp, ?_⟩
  refine .same (F' := (fr 42 [(0, (Sl.v 1 s0))])) (H' := (hp 0 [])) (by kernel_rfl) (by kernel_rfl) ?_
  refine .then ?_
  refine .rK ?_
  refine .ghs (fr 42 [(0, (Sl.v 1 s0))]) (hp 0 []) (.k0 [] [] [0]) ?_
  refine .then ?_
  replace hm := oo_inv hm; obtain ⟨v0, h0, hm⟩ := hm
  replace hm := inv_vTup hm; obtain ⟨l0, rfl, hm⟩ := hm
  replace hm := ll_uncons hm; obtain ⟨v1, l192364_0, rfl, hm⟩ := hm
  replace hm := ll_uncons hm; obtain ⟨v2, l192364_1, rfl, hm⟩ := hm
  replace hm := ll_end hm; obtain ⟨rfl, hm⟩ := hm
  replace hm := inv_toI hm; obtain ⟨x0, rfl, hm⟩ := hm
  replace hm := inv_toSl hm; obtain ⟨s1, rfl, hm⟩ := hm
  refine .reg (eC 1 ((oo (pu 37 [(Sl.v 1 s0)]) none fun v => some (v, (hp 0 [])))) (call_eq h0) (eE)) ?_
  refine .ghs (fr 42 [(4, (Sl.v 1 s1))]) (hp 0 []) (.k0 [] [] [4]) ?_
  refine .then ?_
  refine .rK ?_
  refine .ghs (fr 42 [(4, (Sl.v 1 s1)), (5, (Sl.v 1 s1))]) (hp 0 []) (.k0 [] [] [4, 5]) ?_
  refine .join (v := v) (fun y : Sl => ((fr 42 [(5, (Sl.v 1 y))]), (hp 0 []))) (fun y => m39_0 pu n y) ?_ ?_
  · rintro s2 hm
    exact w39_0 pu n s2 hm
  · refine .then ?_
    replace hm := oo_inv hm; obtain ⟨v3, h1, hm⟩ := hm
    replace hm := inv_toSl hm; obtain ⟨s3, rfl, hm⟩ := hm
    refine .reg (eC 1 ((oo (pu 33 [(Sl.v 1 s1)]) none fun v => some (v, (hp 0 [])))) (call_eq h1) (eE)) ?_
    refine .ghs (fr 42 [(4, (Sl.v 1 s1)), (5, (Sl.v 1 s1)), (6, (Sl.v 1 s3))]) (hp 0 []) (.k0 [] [] [4, 5, 6]) ?_
    refine .block ?_
    refine .loopM (v := v) (fun y : Sl × Sl × Sl => ((fr 42 [(4, (Sl.v 1 y.1)), (5, (Sl.v 1 y.2.1)), (6, (Sl.v 1 y.2.2))]), (hp 0 []))) (fun w y => l39_3 pu n w y.1 y.2.1 y.2.2) n ⟨(s1, s1, s3), hm, (.k0 [] [] [4, 5, 6])⟩ (fun _ => rfl) ?_
    rintro w0 ⟨s4, s5, s6⟩ hm
    replace hm : b39_3 pu n (l39_3 pu n w0) s4 s5 s6 = some v := hm
    unfold b39_3 at hm
    refine .then ?_
    refine .then ?_
    replace hm := oo_inv hm; obtain ⟨v4, h2, hm⟩ := hm
    replace hm := inv_vBool hm; obtain ⟨b0, rfl, hm⟩ := hm
    refine .reg (eC 2 ((oo (pu 32 [(Sl.v 1 s6), (Sl.v 1 s4)]) none fun v => some (v, (hp 0 [])))) (call_eq h2) (eE)) ?_
    refine .ghs (fr 42 [(4, (Sl.v 1 s4)), (5, (Sl.v 1 s5)), (6, (Sl.v 1 s6)), (20, (zB (nt b0)))]) (hp 0 []) (.k0 [] [] [4, 5, 6, 20]) ?_
    replace hm := bb_cases hm; rcases hm with ⟨h3, hm⟩ | ⟨h3, hm⟩
    · refine .ifT (nt b0) (by kernel_rfl) h3 ?_
      refine .skip ?_
      refine .ghs (fr 42 [(4, (Sl.v 1 s4)), (5, (Sl.v 1 s5)), (6, (Sl.v 1 s6))]) (hp 0 []) (.k0 [] [] [4, 5, 6]) ?_
      refine .join (v := v) (fun y : Sl × Sl × Sl => ((fr 42 [(4, (Sl.v 1 y.1)), (5, (Sl.v 1 y.2.1)), (6, (Sl.v 1 y.2.2))]), (hp 0 []))) (fun y => m39_4 pu n (l39_3 pu n w0) y.1 y.2.1 y.2.2) ?_ ?_
      · rintro ⟨s7, s8, s9⟩ hm
        unfold m39_4 at hm
        replace hm := oo_inv hm; obtain ⟨v5, h4, hm⟩ := hm
        replace hm := inv_toSl hm; obtain ⟨s10, rfl, hm⟩ := hm
        refine .reg (eC 1 ((oo (pu 33 [(Sl.v 1 s9)]) none fun v => some (v, (hp 0 [])))) (call_eq h4) (eE)) ?_
        exact ⟨(s7, s8, s10), hm, (.k0 [] [] [4, 5, 6])⟩
      · refine .block ?_
        refine .then ?_
        replace hm := oo_inv hm; obtain ⟨v6, h5, hm⟩ := hm
        replace hm := inv_vBool hm; obtain ⟨b1, rfl, hm⟩ := hm
        refine .reg (eC 2 ((oo (pu 61 [(Sl.v 1 s6), (Sl.v 1 s5)]) none fun v => some (v, (hp 0 [])))) (call_eq h5) (eE)) ?_
        refine .ghs (fr 42 [(4, (Sl.v 1 s4)), (5, (Sl.v 1 s5)), (6, (Sl.v 1 s6)), (25, (zB b1))]) (hp 0 []) (.k0 [] [] [4, 5, 6, 25]) ?_
        replace hm := bb_cases hm; rcases hm with ⟨h6, hm⟩ | ⟨h6, hm⟩
        · refine .ifT b1 (by kernel_rfl) h6 ?_
          refine .rK ?_
          exact ⟨(s4, s6, s6), hm, (.k0 [] [] [4, 5, 6])⟩
        · refine .ifF b1 (by kernel_rfl) h6 ?_
          refine .skip ?_
          exact ⟨(s4, s5, s6), hm, (.k0 [] [] [4, 5, 6])⟩
    · refine .ifF (nt b0) (by kernel_rfl) h3 ?_
      refine .exit ?_
      exact ⟨s5, hm, (.k0 [] [] [5])⟩

def m40_ (pu : PureF) (n : Nat) (q0 : List Value) : Option Value :=
  (bb (allL closed1 q0) (bb (allL closed1 zA48) (bb (Nat.ble (0 + 22 * 1) (len zA48)) (bb (Nat.ble (0 + 22 * 1) (len q0)) (bb (Nat.ble (1 + 21 * 1) (len q0)) (bb (an (Nat.ble (0 + len (takeL (21 * 1) (dropL 1 q0))) (len zA48)) (allL scalarB (takeL (21 * 1) (dropL 1 q0)))) (bb (allL closed1 (setL (takeL (21 * 1) (dropL 1 q0)) 0 zA48)) (bb (an (Nat.ble (0 + 1) (len (setL (takeL (21 * 1) (dropL 1 q0)) 0 zA48))) true) (bb (allL closed1 (setL ([(.int .i64 (0 : Int))] : List Value) 0 (setL (takeL (21 * 1) (dropL 1 q0)) 0 zA48))) (bb (Nat.ble (0 + 22) (len q0)) (oo (pu 57 [(.agg ⟨(takeL 22 (dropL 0 q0))⟩)]) none fun v0 => (oo (toI .i64 v0) none fun x0 => (bb (allL closed2 [(.agg ⟨(takeL 22 (dropL 0 q0))⟩)]) (oo (toN x0) none fun k1 => (bb (Nat.blt k1 22) (oo (nthL (setL ([(.int .i64 (0 : Int))] : List Value) 0 (setL (takeL (21 * 1) (dropL 1 q0)) 0 zA48)) (0 + k1 * 1)) none fun v1 => (oo (toI .i64 v1) none fun x1 => (bb (Nat.blt k1 22) (bb (an (Nat.ble ((0 + k1 * 1) + 1) (len (setL ([(.int .i64 (0 : Int))] : List Value) 0 (setL (takeL (21 * 1) (dropL 1 q0)) 0 zA48)))) true) (bb (allL closed1 (setL ([(.int .i64 (wrapF .i64 (Int.add x1 (1 : Int))))] : List Value) (0 + k1 * 1) (setL ([(.int .i64 (0 : Int))] : List Value) 0 (setL (takeL (21 * 1) (dropL 1 q0)) 0 zA48)))) (bb (Nat.ble (0 + 22) (len (setL ([(.int .i64 (wrapF .i64 (Int.add x1 (1 : Int))))] : List Value) (0 + k1 * 1) (setL ([(.int .i64 (0 : Int))] : List Value) 0 (setL (takeL (21 * 1) (dropL 1 q0)) 0 zA48))))) (bb (Nat.beq (len (takeL 22 (dropL 0 (setL ([(.int .i64 (wrapF .i64 (Int.add x1 (1 : Int))))] : List Value) (0 + k1 * 1) (setL ([(.int .i64 (0 : Int))] : List Value) 0 (setL (takeL (21 * 1) (dropL 1 q0)) 0 zA48)))))) 22) (bb (an (Nat.ble (0 + len (takeL 22 (dropL 0 (setL ([(.int .i64 (wrapF .i64 (Int.add x1 (1 : Int))))] : List Value) (0 + k1 * 1) (setL ([(.int .i64 (0 : Int))] : List Value) 0 (setL (takeL (21 * 1) (dropL 1 q0)) 0 zA48)))))) (len zA48)) (allL scalarB (takeL 22 (dropL 0 (setL ([(.int .i64 (wrapF .i64 (Int.add x1 (1 : Int))))] : List Value) (0 + k1 * 1) (setL ([(.int .i64 (0 : Int))] : List Value) 0 (setL (takeL (21 * 1) (dropL 1 q0)) 0 zA48))))))) (bb (allL closed1 (setL (takeL 22 (dropL 0 (setL ([(.int .i64 (wrapF .i64 (Int.add x1 (1 : Int))))] : List Value) (0 + k1 * 1) (setL ([(.int .i64 (0 : Int))] : List Value) 0 (setL (takeL (21 * 1) (dropL 1 q0)) 0 zA48))))) 0 zA48)) (bb (Nat.ble (0 + 22) (len (setL (takeL 22 (dropL 0 (setL ([(.int .i64 (wrapF .i64 (Int.add x1 (1 : Int))))] : List Value) (0 + k1 * 1) (setL ([(.int .i64 (0 : Int))] : List Value) 0 (setL (takeL (21 * 1) (dropL 1 q0)) 0 zA48))))) 0 zA48))) (bb (closedV (.agg ⟨(takeL 22 (dropL 0 (setL (takeL 22 (dropL 0 (setL ([(.int .i64 (wrapF .i64 (Int.add x1 (1 : Int))))] : List Value) (0 + k1 * 1) (setL ([(.int .i64 (0 : Int))] : List Value) 0 (setL (takeL (21 * 1) (dropL 1 q0)) 0 zA48))))) 0 zA48)))⟩)) (some (.agg ⟨(takeL 22 (dropL 0 (setL (takeL 22 (dropL 0 (setL ([(.int .i64 (wrapF .i64 (Int.add x1 (1 : Int))))] : List Value) (0 + k1 * 1) (setL ([(.int .i64 (0 : Int))] : List Value) 0 (setL (takeL (21 * 1) (dropL 1 q0)) 0 zA48))))) 0 zA48)))⟩)) none) none) none) none) none) none) none) none) none))) none)) none))) none) none) none) none) none) none) none) none) none) none)
def m40 (pu : PureF) (n : Nat) (args : List Value) : Option Value :=
  (ll args none fun a0 args => (ll args (oo (vAgg a0) none fun q0 => (bb (an (Nat.beq (len q0) 22) (allL closed1 q0)) (m40_ pu n q0) none)) fun _ _ => none))
theorem r40 {call : CallF} (pu : PureF) (n : Nat) (hcall : call = callP tabs isP pu (inl pu)) {args : List Value} {v : Value} (hm : m40 pu n args = some v) (_ : ∀ x ∈ args, closed2 x = true) : args.length ≤ 15 ∧ Run tt call 0 c40_11 (Fr.made 15 args) (pureHeap tabs) (Fin tt 0 [.cell 2 48] v) := by
  subst hcall
  unfold m40 at hm
  replace hm := ll_uncons hm; obtain ⟨a0, args_0, rfl, hm⟩ := hm
  replace hm := ll_end hm; obtain ⟨rfl, hm⟩ := hm
  replace hm := inv_vAgg hm; obtain ⟨q0, rfl, hm⟩ := hm
  replace hm := bb_inv hm; obtain ⟨h0, hm⟩ := hm
  unfold m40_ at hm
  refine ⟨by simp, ?_⟩
  refine .same (F' := (fr 15 [(0, (.agg ⟨q0⟩))])) (H' := (hp 0 [])) (by kernel_rfl) (by kernel_rfl) ?_
  refine .then ?_
  refine .rK ?_
  replace hm := bb_inv hm; obtain ⟨h1, hm⟩ := hm
  replace hm := bb_inv hm; obtain ⟨h2, hm⟩ := hm
  refine .ghs (fr 15 [(1, (pt 0 0)), (2, (pt 1 0))]) (hp 2 [(oC q0), (oC zA48)]) (.k [0, 1] [] [.tmp 1 false, .tmp 2 false] [1, 2] ⟨trE (by kernel_rfl) h1, trE (by kernel_rfl) h2, trivial⟩) ?_
  refine .then ?_
  refine .rK ?_
  refine .ghs (fr 15 [(1, (pt 0 0)), (2, (pt 1 0)), (3, (pt 2 0))]) (hp 3 [(oC q0), (oC zA48), (oC zA48)]) (.k [0, 1, 2] [] [.tmp 1 false, .tmp 2 false, .tmp 3 false] [1, 2, 3] ⟨trE (by kernel_rfl) h1, trE (by kernel_rfl) h2, trE (by kernel_rfl) h2, trivial⟩) ?_
  refine .then ?_
  replace hm := bb_inv hm; obtain ⟨h3, hm⟩ := hm
  replace hm := bb_inv hm; obtain ⟨h4, hm⟩ := hm
  replace hm := bb_inv hm; obtain ⟨h5, hm⟩ := hm
  replace hm := bb_inv hm; obtain ⟨h6, hm⟩ := hm
  refine .reg (eD (keep (hp 3 [(oC q0), (oC zA48), (oC zA48)]) (bb (Nat.ble (0 + 22 * 1) (len zA48)) (some (sc 2 0 1 22 45)) none)) (keep_bb h3) (eD (keep (hp 3 [(oC q0), (oC zA48), (oC zA48)]) (bb (Nat.ble (0 + 22 * 1) (len q0)) (some (sc 0 1 1 21 43)) none)) (keep_bb h4) (eD (oo (bb (Nat.ble (1 + 21 * 1) (len q0)) (some (takeL (21 * 1) (dropL 1 q0))) none) none fun new => oo (bb (an (Nat.ble (0 + len new) (len zA48)) (allL scalarB new)) (some (hp 3 [(oC q0), (oC zA48), (oC (setL new 0 zA48))])) none) none fun H' => some ((zI (21 : Int)), H')) (copy_eq' (G := fun new => (hp 3 [(oC q0), (oC zA48), (oC (setL new 0 zA48))])) (E := fun new => (an (Nat.ble (0 + len new) (len zA48)) (allL scalarB new))) h5 rfl h6) (eE)))) ?_
  replace hm := bb_inv hm; obtain ⟨h7, hm⟩ := hm
  refine .ghs (fr 15 [(1, (pt 0 0)), (2, (pt 1 0)), (3, (pt 2 0))]) (hp 3 [(oC q0), (oC zA48), (oC (setL (takeL (21 * 1) (dropL 1 q0)) 0 zA48))]) (.k [0, 1, 2] [] [.tmp 1 false, .tmp 2 false, .tmp 3 false] [1, 2, 3] ⟨trE (by kernel_rfl) h1, trE (by kernel_rfl) h2, trE (by kernel_rfl) h7, trivial⟩) ?_
  refine .then ?_
  replace hm := bb_inv hm; obtain ⟨h8, hm⟩ := hm
  refine .reg (eC 1 (done (bb (an (Nat.ble (0 + 1) (len (setL (takeL (21 * 1) (dropL 1 q0)) 0 zA48))) true) (some (hp 3 [(oC q0), (oC zA48), (oC (setL ([(zI (0 : Int))] : List Value) 0 (setL (takeL (21 * 1) (dropL 1 q0)) 0 zA48)))])) none) undef) (done_bb h8) (eE)) ?_
  replace hm := bb_inv hm; obtain ⟨h9, hm⟩ := hm
  refine .ghs (fr 15 [(1, (pt 0 0)), (2, (pt 1 0)), (3, (pt 2 0))]) (hp 3 [(oC q0), (oC zA48), (oC (setL ([(zI (0 : Int))] : List Value) 0 (setL (takeL (21 * 1) (dropL 1 q0)) 0 zA48)))]) (.k [0, 1, 2] [] [.tmp 1 false, .tmp 2 false, .tmp 3 false] [1, 2, 3] ⟨trE (by kernel_rfl) h1, trE (by kernel_rfl) h2, trE (by kernel_rfl) h9, trivial⟩) ?_
  refine .then ?_
  replace hm := bb_inv hm; obtain ⟨h10, hm⟩ := hm
  replace hm := oo_inv hm; obtain ⟨v0, h11, hm⟩ := hm
  replace hm := inv_toI hm; obtain ⟨x0, rfl, hm⟩ := hm
  replace hm := bb_inv hm; obtain ⟨h12, hm⟩ := hm
  replace hm := oo_inv hm; obtain ⟨k1, h13, hm⟩ := hm
  obtain rfl := toN_some h13
  replace hm := bb_inv hm; obtain ⟨h14, hm⟩ := hm
  replace hm := oo_inv hm; obtain ⟨v1, h15, hm⟩ := hm
  replace hm := inv_toI hm; obtain ⟨x1, rfl, hm⟩ := hm
  replace hm := bb_inv hm; obtain ⟨h16, hm⟩ := hm
  replace hm := bb_inv hm; obtain ⟨h17, hm⟩ := hm
  refine .reg (eN 3 (Fr.puts (fr 15 [(1, (pt 0 0)), (2, (pt 1 0)), (3, (pt 2 0))]) [(8, (.agg ⟨(takeL 22 (dropL 0 q0))⟩)), (9, (zI (Int.ofNat k1))), (10, (.pointer (some ⟨2, (0 + k1 * 1), none⟩)))]) (hp 3 [(oC q0), (oC zA48), (oC (setL ([(zI (0 : Int))] : List Value) 0 (setL (takeL (21 * 1) (dropL 1 q0)) 0 zA48)))]) (eD (keep (hp 3 [(oC q0), (oC zA48), (oC (setL ([(zI (0 : Int))] : List Value) 0 (setL (takeL (21 * 1) (dropL 1 q0)) 0 zA48)))]) (bb (Nat.ble (0 + 22) (len q0)) (some (.agg ⟨(takeL 22 (dropL 0 q0))⟩)) none)) (keep_bb h10) (eD (bb (allL closed2 [(.agg ⟨(takeL 22 (dropL 0 q0))⟩)]) (oo (pu 57 [(.agg ⟨(takeL 22 (dropL 0 q0))⟩)]) none fun v => some (v, (hp 3 [(oC q0), (oC zA48), (oC (setL ([(zI (0 : Int))] : List Value) 0 (setL (takeL (21 * 1) (dropL 1 q0)) 0 zA48)))]))) (oo (mapO (purify (hp 3 [(oC q0), (oC zA48), (oC (setL ([(zI (0 : Int))] : List Value) 0 (setL (takeL (21 * 1) (dropL 1 q0)) 0 zA48)))])) [(.agg ⟨(takeL 22 (dropL 0 q0))⟩)]) none fun l1 => oo (pu 57 l1) none fun v => bb (plainT v) (some (v, (hp 3 [(oC q0), (oC zA48), (oC (setL ([(zI (0 : Int))] : List Value) 0 (setL (takeL (21 * 1) (dropL 1 q0)) 0 zA48)))]))) none)) (callc_eq h12 h11) (eD (keep (hp 3 [(oC q0), (oC zA48), (oC (setL ([(zI (0 : Int))] : List Value) 0 (setL (takeL (21 * 1) (dropL 1 q0)) 0 zA48)))]) (bb (Nat.blt k1 22) (some (.pointer (some ⟨2, (0 + k1 * 1), none⟩))) none)) (keep_bb h14) (by kernel_rfl)))) (eD (keep (hp 3 [(oC q0), (oC zA48), (oC (setL ([(zI (0 : Int))] : List Value) 0 (setL (takeL (21 * 1) (dropL 1 q0)) 0 zA48)))]) (nthL (setL ([(zI (0 : Int))] : List Value) 0 (setL (takeL (21 * 1) (dropL 1 q0)) 0 zA48)) (0 + k1 * 1))) (keep_eq h15) (eC 1 (keep (hp 3 [(oC q0), (oC zA48), (oC (setL ([(zI (0 : Int))] : List Value) 0 (setL (takeL (21 * 1) (dropL 1 q0)) 0 zA48)))]) (bb (Nat.blt k1 22) (some (.pointer (some ⟨2, (0 + k1 * 1), none⟩))) none)) (keep_bb h16) (eD (done (bb (an (Nat.ble ((0 + k1 * 1) + 1) (len (setL ([(zI (0 : Int))] : List Value) 0 (setL (takeL (21 * 1) (dropL 1 q0)) 0 zA48)))) true) (some (hp 3 [(oC q0), (oC zA48), (oC (setL ([(zI (wrapF .i64 (Int.add x1 (1 : Int))))] : List Value) (0 + k1 * 1) (setL ([(zI (0 : Int))] : List Value) 0 (setL (takeL (21 * 1) (dropL 1 q0)) 0 zA48))))])) none) undef) (done_bb h17) (eE))))) ?_
  replace hm := bb_inv hm; obtain ⟨h18, hm⟩ := hm
  refine .ghs (fr 15 [(2, (pt 0 0)), (3, (pt 1 0))]) (hp 2 [(oC zA48), (oC (setL ([(zI (wrapF .i64 (Int.add x1 (1 : Int))))] : List Value) (0 + k1 * 1) (setL ([(zI (0 : Int))] : List Value) 0 (setL (takeL (21 * 1) (dropL 1 q0)) 0 zA48))))]) (.k [1, 2] [] [.tmp 2 false, .tmp 3 false] [2, 3] ⟨trE (by kernel_rfl) h2, trE (by kernel_rfl) h18, trivial⟩) ?_
  refine .then ?_
  replace hm := bb_inv hm; obtain ⟨h19, hm⟩ := hm
  replace hm := bb_inv hm; obtain ⟨h20, hm⟩ := hm
  replace hm := bb_inv hm; obtain ⟨h21, hm⟩ := hm
  refine .reg (eD (keep (hp 2 [(oC zA48), (oC (setL ([(zI (wrapF .i64 (Int.add x1 (1 : Int))))] : List Value) (0 + k1 * 1) (setL ([(zI (0 : Int))] : List Value) 0 (setL (takeL (21 * 1) (dropL 1 q0)) 0 zA48))))]) (bb (Nat.ble (0 + 22) (len (setL ([(zI (wrapF .i64 (Int.add x1 (1 : Int))))] : List Value) (0 + k1 * 1) (setL ([(zI (0 : Int))] : List Value) 0 (setL (takeL (21 * 1) (dropL 1 q0)) 0 zA48))))) (some (.agg ⟨(takeL 22 (dropL 0 (setL ([(zI (wrapF .i64 (Int.add x1 (1 : Int))))] : List Value) (0 + k1 * 1) (setL ([(zI (0 : Int))] : List Value) 0 (setL (takeL (21 * 1) (dropL 1 q0)) 0 zA48)))))⟩)) none)) (keep_bb h19) (eD (done (bb (Nat.beq (len (takeL 22 (dropL 0 (setL ([(zI (wrapF .i64 (Int.add x1 (1 : Int))))] : List Value) (0 + k1 * 1) (setL ([(zI (0 : Int))] : List Value) 0 (setL (takeL (21 * 1) (dropL 1 q0)) 0 zA48)))))) 22) (bb (an (Nat.ble (0 + len (takeL 22 (dropL 0 (setL ([(zI (wrapF .i64 (Int.add x1 (1 : Int))))] : List Value) (0 + k1 * 1) (setL ([(zI (0 : Int))] : List Value) 0 (setL (takeL (21 * 1) (dropL 1 q0)) 0 zA48)))))) (len zA48)) (allL scalarB (takeL 22 (dropL 0 (setL ([(zI (wrapF .i64 (Int.add x1 (1 : Int))))] : List Value) (0 + k1 * 1) (setL ([(zI (0 : Int))] : List Value) 0 (setL (takeL (21 * 1) (dropL 1 q0)) 0 zA48))))))) (some (hp 2 [(oC (setL (takeL 22 (dropL 0 (setL ([(zI (wrapF .i64 (Int.add x1 (1 : Int))))] : List Value) (0 + k1 * 1) (setL ([(zI (0 : Int))] : List Value) 0 (setL (takeL (21 * 1) (dropL 1 q0)) 0 zA48))))) 0 zA48)), (oC (setL ([(zI (wrapF .i64 (Int.add x1 (1 : Int))))] : List Value) (0 + k1 * 1) (setL ([(zI (0 : Int))] : List Value) 0 (setL (takeL (21 * 1) (dropL 1 q0)) 0 zA48))))])) none) none) undef) (done_bb2 h20 h21) (eE))) ?_
  replace hm := bb_inv hm; obtain ⟨h22, hm⟩ := hm
  refine .ghs (fr 15 [(2, (pt 0 0))]) (hp 1 [(oC (setL (takeL 22 (dropL 0 (setL ([(zI (wrapF .i64 (Int.add x1 (1 : Int))))] : List Value) (0 + k1 * 1) (setL ([(zI (0 : Int))] : List Value) 0 (setL (takeL (21 * 1) (dropL 1 q0)) 0 zA48))))) 0 zA48))]) (.k [0] [] [.tmp 2 false] [2] ⟨trE (by kernel_rfl) h22, trivial⟩) ?_
  refine .ret ?_
  replace hm := bb_inv hm; obtain ⟨h23, hm⟩ := hm
  replace hm := bb_inv hm; obtain ⟨h24, hm⟩ := hm
  exact fin_ret (.agg ⟨(takeL 22 (dropL 0 (setL (takeL 22 (dropL 0 (setL ([(zI (wrapF .i64 (Int.add x1 (1 : Int))))] : List Value) (0 + k1 * 1) (setL ([(zI (0 : Int))] : List Value) 0 (setL (takeL (21 * 1) (dropL 1 q0)) 0 zA48))))) 0 zA48)))⟩) (aresults_of (aresultsL_cons (show aresult _ _ _ _ = some (.agg ⟨(takeL 22 (dropL 0 (setL (takeL 22 (dropL 0 (setL ([(zI (wrapF .i64 (Int.add x1 (1 : Int))))] : List Value) (0 + k1 * 1) (setL ([(zI (0 : Int))] : List Value) 0 (setL (takeL (21 * 1) (dropL 1 q0)) 0 zA48))))) 0 zA48)))⟩) from (eq_bb (c := (Nat.ble (0 + 22) (len (setL (takeL 22 (dropL 0 (setL ([(zI (wrapF .i64 (Int.add x1 (1 : Int))))] : List Value) (0 + k1 * 1) (setL ([(zI (0 : Int))] : List Value) 0 (setL (takeL (21 * 1) (dropL 1 q0)) 0 zA48))))) 0 zA48)))) (by kernel_rfl) h23)) rfl) (by kernel_rfl)) h24 hm
def m41_0 (pu : PureF) (n : Nat) (n0 : Nat) (c0 : Nat) (q0 : List Value) : Option Value :=
  (bb (allL closed1 q0) (bb (an (Nat.ble (0 + n0 * 1) (len q0)) (allL closed1 (takeL (n0 * 1) (dropL 0 q0)))) (some (Sl.v 1 (Sl.mk n0 0 (takeL (n0 * 1) (dropL 0 q0))))) none) none)
def b41_1 (pu : PureF) (n : Nat) (ih0 : Nat → Nat → Int → List Value → List Value → Option Value) (n0 : Nat) (c0 : Nat) (z0 : Int) (q0 : List Value) (q1 : List Value) : Option Value :=
  (bb (allL closed1 q0) (bb (allL closed1 q1) (bb (ilt (0 : Int) z0) (oo (toN z0) none fun k1 => (bb (Nat.blt k1 22) (oo (nthL q0 (0 + k1 * 1)) none fun v0 => (oo (toI .i64 v0) none fun x0 => (oo (pu 62 [(Sl.v 1 (Sl.mk 1 0 (takeL (1 * 1) (dropL 0 ([(.int .i64 (Int.ofNat k1))] : List Value))))), (.int .i64 x0)]) none fun v1 => (oo (toSl 1 v1) none fun s0 => (bb (Nat.beq (Sl.n s0) 0) (ih0 n0 c0 (wrapF .i64 (Int.sub (Int.ofNat k1) (1 : Int))) q0 q1) (bb (an (allL scalarB (takeL ((Sl.n s0) * 1) (Sl.cs s0))) (growC 1 8 n0 c0 (Sl.n s0) q1)) (bb (allL closed1 (appL (dropL 0 q1) (takeL ((Sl.n s0) * 1) (Sl.cs s0)))) (ih0 (n0 + (Sl.n s0)) (2 * (n0 + (Sl.n s0)) + bb false 1 0) (wrapF .i64 (Int.sub (Int.ofNat k1) (1 : Int))) q0 (appL (dropL 0 q1) (takeL ((Sl.n s0) * 1) (Sl.cs s0)))) none) none)))))) none)) (m41_0 pu n n0 c0 q1)) none) none)
def l41_1 (pu : PureF) (n : Nat) (w : Nat) : Nat → Nat → Int → List Value → List Value → Option Value :=
  Nat.rec (motive := fun _ => Nat → Nat → Int → List Value → List Value → Option Value) (fun _ _ _ _ _ => none) (fun _ ih0 => b41_1 pu n ih0) w
def m41_ (pu : PureF) (n : Nat) (q0 : List Value) : Option Value :=
  (bb (allL closed1 q0) (l41_1 pu n n 0 0 (21 : Int) q0 ([] : List Value)) none)
def m41 (pu : PureF) (n : Nat) (args : List Value) : Option Value :=
  (ll args none fun a0 args => (ll args (oo (vAgg a0) none fun q0 => (bb (an (Nat.beq (len q0) 22) (allL closed1 q0)) (m41_ pu n q0) none)) fun _ _ => none))
theorem w41_0 (pu : PureF) (n : Nat) (n0 : Nat) (c0 : Nat) (q0 : List Value) {v : Value} (hm : m41_0 pu n n0 c0 q0 = some v) : Run tt (callP tabs isP pu (inl pu)) 0 c41_15 (fr 18 [(3, (sc 0 0 1 n0 c0))]) (hp 1 [(oC q0)]) (FinL tt 0 1 [.tmp 2] v) := by
  unfold m41_0 at hm
  refine .then ?_
  refine .rK ?_
  replace hm := bb_inv hm; obtain ⟨h0, hm⟩ := hm
  refine .ghs (fr 18 [(2, (sc 0 0 1 n0 c0))]) (hp 1 [(oC q0)]) (.k [0] [] [.tmp 2 false] [2] ⟨trE (by kernel_rfl) h0, trivial⟩) ?_
  refine .ret ?_
  replace hm := bb_inv hm; obtain ⟨h1, hm⟩ := hm
  exact finL_ret 0 0 c0 n0 [] q0 (by kernel_rfl) (by kernel_rfl) (by kernel_rfl) h1 hm
theorem r41 {call : CallF} (pu : PureF) (n : Nat) (hcall : call = callP tabs isP pu (inl pu)) {args : List Value} {v : Value} (hm : m41 pu n args = some v) (_ : ∀ x ∈ args, closed2 x = true) : args.length ≤ 18 ∧ Run tt call 0 c41_18 (Fr.made 18 args) (pureHeap tabs) (FinL tt 0 1 [.tmp 2] v) := by
  subst hcall
  unfold m41 at hm
  replace hm := ll_uncons hm; obtain ⟨a0, args_0, rfl, hm⟩ := hm
  replace hm := ll_end hm; obtain ⟨rfl, hm⟩ := hm
  replace hm := inv_vAgg hm; obtain ⟨q0, rfl, hm⟩ := hm
  replace hm := bb_inv hm; obtain ⟨h0, hm⟩ := hm
  unfold m41_ at hm
  refine ⟨by simp, ?_⟩
  refine .same (F' := (fr 18 [(0, (.agg ⟨q0⟩))])) (H' := (hp 0 [])) (by kernel_rfl) (by kernel_rfl) ?_
  refine .then ?_
  refine .rK ?_
  replace hm := bb_inv hm; obtain ⟨h1, hm⟩ := hm
  refine .ghs (fr 18 [(1, (pt 0 0))]) (hp 1 [(oC q0)]) (.k [0] [] [.tmp 1 false] [1] ⟨trE (by kernel_rfl) h1, trivial⟩) ?_
  refine .then ?_
  refine .rK ?_
  refine .ghs (fr 18 [(1, (pt 0 0)), (3, (.slice none 0 0))]) (hp 1 [(oC q0)]) (.k [0] [] [.tmp 1 false] [1, 3] ⟨trE (by kernel_rfl) h1, trivial⟩) ?_
  refine .join (v := v) (fun y : Nat × Nat × List Value => ((fr 18 [(3, (sc 0 0 1 y.1 y.2.1))]), (hp 1 [(oC y.2.2)]))) (fun y => m41_0 pu n y.1 y.2.1 y.2.2) ?_ ?_
  · rintro ⟨n0, c0, q1⟩ hm
    exact w41_0 pu n n0 c0 q1 hm
  · refine .then ?_
    refine .rK ?_
    refine .ghs (fr 18 [(1, (pt 0 0)), (3, (.slice none 0 0)), (4, (zI (21 : Int)))]) (hp 1 [(oC q0)]) (.k [0] [] [.tmp 1 false] [1, 3, 4] ⟨trE (by kernel_rfl) h1, trivial⟩) ?_
    refine .block ?_
    refine .loopM (v := v) (fun y : Nat × Nat × Int × List Value × List Value => ((fr 18 [(1, (pt 0 0)), (3, (sc 1 0 1 y.1 y.2.1)), (4, (zI y.2.2.1))]), (hp 2 [(oC y.2.2.2.1), (oC y.2.2.2.2)]))) (fun w y => l41_1 pu n w y.1 y.2.1 y.2.2.1 y.2.2.2.1 y.2.2.2.2) n ⟨(0, 0, (21 : Int), q0, ([] : List Value)), hm, (.thaw 3 1 (by kernel_rfl) (.k [0] [] [.tmp 1 false, .tmp 3 false] [1, 3, 4] ⟨trE (by kernel_rfl) h1, trivial⟩))⟩ (fun _ => rfl) ?_
    rintro w0 ⟨n1, c1, z0, q2, q3⟩ hm
    replace hm : b41_1 pu n (l41_1 pu n w0) n1 c1 z0 q2 q3 = some v := hm
    unfold b41_1 at hm
    refine .then ?_
    refine .then ?_
    refine .rK ?_
    replace hm := bb_inv hm; obtain ⟨h2, hm⟩ := hm
    replace hm := bb_inv hm; obtain ⟨h3, hm⟩ := hm
    refine .ghs (fr 18 [(1, (pt 0 0)), (3, (sc 1 0 1 n1 c1)), (4, (zI z0)), (6, (zB (ilt (0 : Int) z0)))]) (hp 2 [(oC q2), (oC q3)]) (.k [0, 1] [] [.tmp 1 false, .tmp 3 false] [1, 3, 4, 6] ⟨trE (by kernel_rfl) h2, trE (by kernel_rfl) h3, trivial⟩) ?_
    replace hm := bb_cases hm; rcases hm with ⟨h4, hm⟩ | ⟨h4, hm⟩
    · refine .ifT (ilt (0 : Int) z0) (by kernel_rfl) h4 ?_
      refine .skip ?_
      refine .ghs (fr 18 [(1, (pt 0 0)), (3, (sc 1 0 1 n1 c1)), (4, (zI z0))]) (hp 2 [(oC q2), (oC q3)]) (.k [0, 1] [] [.tmp 1 false, .tmp 3 false] [1, 3, 4] ⟨trE (by kernel_rfl) h2, trE (by kernel_rfl) h3, trivial⟩) ?_
      refine .then ?_
      refine .block ?_
      replace hm := oo_inv hm; obtain ⟨k1, h5, hm⟩ := hm
      obtain rfl := toN_some h5
      replace hm := bb_inv hm; obtain ⟨h6, hm⟩ := hm
      replace hm := oo_inv hm; obtain ⟨v0, h7, hm⟩ := hm
      replace hm := inv_toI hm; obtain ⟨x0, rfl, hm⟩ := hm
      replace hm := oo_inv hm; obtain ⟨v1, h8, hm⟩ := hm
      replace hm := inv_toSl hm; obtain ⟨s0, rfl, hm⟩ := hm
      replace hm := bb_cases hm; rcases hm with ⟨h9, hm⟩ | ⟨h9, hm⟩
      · refine .reg (eC 4 (keep (hp 3 [(oC q2), (oC q3), (oC [(zI (Int.ofNat k1))])]) (bb (Nat.blt k1 22) (some (.pointer (some ⟨0, (0 + k1 * 1), none⟩))) none)) (keep_bb h6) (eD (keep (hp 3 [(oC q2), (oC q3), (oC [(zI (Int.ofNat k1))])]) (nthL q2 (0 + k1 * 1))) (keep_eq h7) (eD (giveF tabs 1 (pu 62) [(sc 2 0 1 1 3), (zI x0)] (hp 3 [(oC q2), (oC q3), (oC [(zI (Int.ofNat k1))])])) (giveF_eq (giveL_cons (show giveV 1 (sc 2 0 1 1 3) (hp 3 [(oC q2), (oC q3), (oC [(zI (Int.ofNat k1))])]) = some ((Sl.v 1 (Sl.mk 1 0 (takeL (1 * 1) (dropL 0 ([(zI (Int.ofNat k1))] : List Value))))), (hp 3 [(oC q2), (oC q3), .dead])) from giveV_sl 2 0 1 1 3 ([(zI (Int.ofNat k1))] : List Value) [] (by kernel_rfl) (by kernel_rfl) (by kernel_rfl)) (giveL_cons (giveV_cl (z := 1) (v := (zI x0)) (H := (hp 3 [(oC q2), (oC q3), .dead])) (by kernel_rfl) (by kernel_rfl) (by kernel_rfl)) giveL_nil)) (by kernel_rfl) h8) (eD (appFs (hp 3 [(oC q2), (oC q3), .dead]) 1 8 (sc 1 0 1 n1 c1) s0) (appFs_sl0 h9) (eE))))) ?_
        refine .ghs (fr 18 [(1, (pt 0 0)), (3, (sc 1 0 1 n1 c1)), (4, (zI (Int.ofNat k1)))]) (hp 2 [(oC q2), (oC q3)]) (.k [0, 1] [] [.tmp 1 false, .tmp 3 false] [1, 3, 4] ⟨trE (by kernel_rfl) h2, trE (by kernel_rfl) h3, trivial⟩) ?_
        refine .rK ?_
        exact ⟨(n1, c1, (wrapF .i64 (Int.sub (Int.ofNat k1) (1 : Int))), q2, q3), hm, (.k [0, 1] [] [.tmp 1 false, .tmp 3 false] [1, 3, 4] ⟨trE (by kernel_rfl) h2, trE (by kernel_rfl) h3, trivial⟩)⟩
      · replace hm := bb_inv hm; obtain ⟨h10, hm⟩ := hm
        refine .reg (eC 4 (keep (hp 3 [(oC q2), (oC q3), (oC [(zI (Int.ofNat k1))])]) (bb (Nat.blt k1 22) (some (.pointer (some ⟨0, (0 + k1 * 1), none⟩))) none)) (keep_bb h6) (eD (keep (hp 3 [(oC q2), (oC q3), (oC [(zI (Int.ofNat k1))])]) (nthL q2 (0 + k1 * 1))) (keep_eq h7) (eD (giveF tabs 1 (pu 62) [(sc 2 0 1 1 3), (zI x0)] (hp 3 [(oC q2), (oC q3), (oC [(zI (Int.ofNat k1))])])) (giveF_eq (giveL_cons (show giveV 1 (sc 2 0 1 1 3) (hp 3 [(oC q2), (oC q3), (oC [(zI (Int.ofNat k1))])]) = some ((Sl.v 1 (Sl.mk 1 0 (takeL (1 * 1) (dropL 0 ([(zI (Int.ofNat k1))] : List Value))))), (hp 3 [(oC q2), (oC q3), .dead])) from giveV_sl 2 0 1 1 3 ([(zI (Int.ofNat k1))] : List Value) [] (by kernel_rfl) (by kernel_rfl) (by kernel_rfl)) (giveL_cons (giveV_cl (z := 1) (v := (zI x0)) (H := (hp 3 [(oC q2), (oC q3), .dead])) (by kernel_rfl) (by kernel_rfl) (by kernel_rfl)) giveL_nil)) (by kernel_rfl) h8) (eD (appFs (hp 3 [(oC q2), (oC q3), .dead]) 1 8 (sc 1 0 1 n1 c1) s0) (appFs_grow (H := (hp 3 [(oC q2), (oC q3), .dead])) (id := 1) (n := n1) (c2 := c1) (xs := q3) (anc := []) h9 (by kernel_rfl) (by kernel_rfl) h10) (eE))))) ?_
        replace hm := bb_inv hm; obtain ⟨h11, hm⟩ := hm
        refine .ghs (fr 18 [(1, (pt 0 0)), (3, (sc 1 0 1 (n1 + (Sl.n s0)) (d2 (n1 + (Sl.n s0))))), (4, (zI (Int.ofNat k1)))]) (hp 2 [(oC q2), (oC (appL (dropL 0 q3) (takeL ((Sl.n s0) * 1) (Sl.cs s0))))]) (.k [0, 3] [] [.tmp 1 false, .tmp 3 false] [1, 3, 4] ⟨trE (by kernel_rfl) h2, trE (by kernel_rfl) h11, trivial⟩) ?_
        refine .rK ?_
        exact ⟨((n1 + (Sl.n s0)), (d2 (n1 + (Sl.n s0))), (wrapF .i64 (Int.sub (Int.ofNat k1) (1 : Int))), q2, (appL (dropL 0 q3) (takeL ((Sl.n s0) * 1) (Sl.cs s0)))), hm, (.k [0, 1] [] [.tmp 1 false, .tmp 3 false] [1, 3, 4] ⟨trE (by kernel_rfl) h2, trE (by kernel_rfl) h11, trivial⟩)⟩
    · refine .ifF (ilt (0 : Int) z0) (by kernel_rfl) h4 ?_
      refine .exit ?_
      exact ⟨(n1, c1, q3), hm, (.k [1] [] [.tmp 3 false] [3] ⟨trE (by kernel_rfl) h3, trivial⟩)⟩
def m42_0 (pu : PureF) (n : Nat) (b0 : Bool) : Option Value :=
  (some (.bool b0))
def m42_ (pu : PureF) (n : Nat) (x0 : Int) (x1 : Int) (x2 : Int) : Option Value :=
  (bb (nt (ilt x1 x0)) (m42_0 pu n (nt (ilt x2 x1))) (m42_0 pu n false))
def m42 (pu : PureF) (n : Nat) (args : List Value) : Option Value :=
  (ll args none fun a0 args => (ll args none fun a1 args => (ll args none fun a2 args => (ll args (oo (toI .i64 a0) none fun x0 => (oo (toI .i64 a1) none fun x1 => (oo (toI .i64 a2) none fun x2 => (m42_ pu n x0 x1 x2)))) fun _ _ => none))))
theorem w42_0 (pu : PureF) (n : Nat) (b0 : Bool) {v : Value} (hm : m42_0 pu n b0 = some v) : Run tt (callP tabs isP pu (inl pu)) 0 .ret (fr 15 [(6, (zB b0))]) (hp 0 []) (Fin tt 0 [.tmp 6] v) := by
  unfold m42_0 at hm
  refine .ret ?_
  exact fin_ret (zB b0) (by kernel_rfl) (by kernel_rfl) hm
theorem r42 {call : CallF} (pu : PureF) (n : Nat) (hcall : call = callP tabs isP pu (inl pu)) {args : List Value} {v : Value} (hm : m42 pu n args = some v) (_ : ∀ x ∈ args, closed2 x = true) : args.length ≤ 15 ∧ Run tt call 0 c42_3 (Fr.made 15 args) (pureHeap tabs) (Fin tt 0 [.tmp 6] v) := by
  subst hcall
  unfold m42 at hm
  replace hm := ll_uncons hm; obtain ⟨a0, args_0, rfl, hm⟩ := hm
  replace hm := ll_uncons hm; obtain ⟨a1, args_1, rfl, hm⟩ := hm
  replace hm := ll_uncons hm; obtain ⟨a2, args_2, rfl, hm⟩ := hm
  replace hm := ll_end hm; obtain ⟨rfl, hm⟩ := hm
  replace hm := inv_toI hm; obtain ⟨x0, rfl, hm⟩ := hm
  replace hm := inv_toI hm; obtain ⟨x1, rfl, hm⟩ := hm
  replace hm := inv_toI hm; obtain ⟨x2, rfl, hm⟩ := hm
  unfold m42_ at hm
  refine ⟨by simp, ?_⟩
  refine .same (F' := (fr 15 [(0, (zI x0)), (1, (zI x1)), (2, (zI x2))])) (H' := (hp 0 [])) (by kernel_rfl) (by kernel_rfl) ?_
  refine .then ?_
  refine .rK ?_
  refine .ghs (fr 15 [(0, (zI x0)), (1, (zI x1)), (2, (zI x2))]) (hp 0 []) (.k0 [] [] [0, 1, 2]) ?_
  refine .join (v := v) (fun y : Bool => ((fr 15 [(6, (zB y))]), (hp 0 []))) (fun y => m42_0 pu n y) ?_ ?_
  · rintro b0 hm
    exact w42_0 pu n b0 hm
  · replace hm := bb_cases hm; rcases hm with ⟨h0, hm⟩ | ⟨h0, hm⟩
    · refine .reg (eC 2 (some ((zB (nt (ilt x1 x0))), (hp 0 []))) (show _ = some ((zB true), _) from (by rw [h0])) (eE)) ?_
      exact ⟨(nt (ilt x2 x1)), hm, (.k0 [] [] [6])⟩
    · refine .reg (eC 2 (some ((zB (nt (ilt x1 x0))), (hp 0 []))) (show _ = some ((zB false), _) from (by rw [h0])) (eE)) ?_
      exact ⟨false, hm, (.k0 [] [] [6])⟩
def m43_0 (pu : PureF) (n : Nat) (z0 : Int) (z1 : Int) : Option Value :=
  (some (.tuple ⟨[(.int .i64 z0), (.int .i64 z1)]⟩))
def b43_1 (pu : PureF) (n : Nat) (ih0 : Int → Int → Option Value) (z0 : Int) (z1 : Int) : Option Value :=
  (bb (ilt z0 z1) (ih0 (wrapF .i64 (Int.add z0 (1 : Int))) (wrapF .i64 (Int.sub z1 (wrapF .i64 (Int.add z0 (1 : Int)))))) (m43_0 pu n z0 z1))
def l43_1 (pu : PureF) (n : Nat) (w : Nat) : Int → Int → Option Value :=
  Nat.rec (motive := fun _ => Int → Int → Option Value) (fun _ _ => none) (fun _ ih0 => b43_1 pu n ih0) w
def m43_ (pu : PureF) (n : Nat) (x0 : Int) : Option Value :=
  (l43_1 pu n n (0 : Int) x0)
def m43 (pu : PureF) (n : Nat) (args : List Value) : Option Value :=
  (ll args none fun a0 args => (ll args (oo (toI .i64 a0) none fun x0 => (m43_ pu n x0)) fun _ _ => none))
theorem w43_0 (pu : PureF) (n : Nat) (z0 : Int) (z1 : Int) {v : Value} (hm : m43_0 pu n z0 z1 = some v) : Run tt (callP tabs isP pu (inl pu)) 0 c43_14 (fr 15 [(2, (zI z0)), (3, (zI z1))]) (hp 0 []) (Fin tt 0 [.tmp 2, .tmp 3] v) := by
  unfold m43_0 at hm
  refine .then ?_
  refine .rK ?_
  refine .ghs (fr 15 [(2, (zI z0)), (3, (zI z1))]) (hp 0 []) (.k0 [] [] [2, 3]) ?_
  refine .ret ?_
  exact fin_ret (.tuple ⟨[(zI z0), (zI z1)]⟩) (by kernel_rfl) (by kernel_rfl) hm
theorem r43 {call : CallF} (pu : PureF) (n : Nat) (hcall : call = callP tabs isP pu (inl pu)) {args : List Value} {v : Value} (hm : m43 pu n args = some v) (_ : ∀ x ∈ args, closed2 x = true) : args.length ≤ 15 ∧ Run tt call 0 c43_16 (Fr.made 15 args) (pureHeap tabs) (Fin tt 0 [.tmp 2, .tmp 3] v) := by
  subst hcall
  unfold m43 at hm
  replace hm := ll_uncons hm; obtain ⟨a0, args_0, rfl, hm⟩ := hm
  replace hm := ll_end hm; obtain ⟨rfl, hm⟩ := hm
  replace hm := inv_toI hm; obtain ⟨x0, rfl, hm⟩ := hm
  unfold m43_ at hm
  refine ⟨by simp, ?_⟩
  refine .same (F' := (fr 15 [(0, (zI x0))])) (H' := (hp 0 [])) (by kernel_rfl) (by kernel_rfl) ?_
  refine .then ?_
  refine .rK ?_
  refine .ghs (fr 15 [(0, (zI x0)), (2, (zI (0 : Int)))]) (hp 0 []) (.k0 [] [] [0, 2]) ?_
  refine .join (v := v) (fun y : Int × Int => ((fr 15 [(2, (zI y.1)), (3, (zI y.2))]), (hp 0 []))) (fun y => m43_0 pu n y.1 y.2) ?_ ?_
  · rintro ⟨z0, z1⟩ hm
    exact w43_0 pu n z0 z1 hm
  · refine .then ?_
    refine .rK ?_
    refine .ghs (fr 15 [(2, (zI (0 : Int))), (3, (zI x0))]) (hp 0 []) (.k0 [] [] [2, 3]) ?_
    refine .block ?_
    refine .loopM (v := v) (fun y : Int × Int => ((fr 15 [(2, (zI y.1)), (3, (zI y.2))]), (hp 0 []))) (fun w y => l43_1 pu n w y.1 y.2) n ⟨((0 : Int), x0), hm, (.k0 [] [] [2, 3])⟩ (fun _ => rfl) ?_
    rintro w0 ⟨z2, z3⟩ hm
    replace hm : b43_1 pu n (l43_1 pu n w0) z2 z3 = some v := hm
    unfold b43_1 at hm
    refine .then ?_
    refine .then ?_
    refine .rK ?_
    refine .ghs (fr 15 [(2, (zI z2)), (3, (zI z3)), (7, (zB (ilt z2 z3)))]) (hp 0 []) (.k0 [] [] [2, 3, 7]) ?_
    replace hm := bb_cases hm; rcases hm with ⟨h0, hm⟩ | ⟨h0, hm⟩
    · refine .ifT (ilt z2 z3) (by kernel_rfl) h0 ?_
      refine .skip ?_
      refine .ghs (fr 15 [(2, (zI z2)), (3, (zI z3))]) (hp 0 []) (.k0 [] [] [2, 3]) ?_
      refine .block ?_
      refine .then ?_
      refine .rK ?_
      refine .ghs (fr 15 [(2, (zI (wrapF .i64 (Int.add z2 (1 : Int))))), (3, (zI z3))]) (hp 0 []) (.k0 [] [] [2, 3]) ?_
      refine .rK ?_
      exact ⟨((wrapF .i64 (Int.add z2 (1 : Int))), (wrapF .i64 (Int.sub z3 (wrapF .i64 (Int.add z2 (1 : Int)))))), hm, (.k0 [] [] [2, 3])⟩
    · refine .ifF (ilt z2 z3) (by kernel_rfl) h0 ?_
      refine .exit ?_
      exact ⟨(z2, z3), hm, (.k0 [] [] [2, 3])⟩
def m44_0 (pu : PureF) (n : Nat) (z0 : Int) : Option Value :=
  (some (.int .i64 z0))
def b44_1 (pu : PureF) (n : Nat) (ih0 : Int → Int → Int → Int → Int → Int → Int → Int → Int → Int → Int → Int → Int → Int → Int → Int → Int → Int → Int → Int → Int → Int → Int → Int → Option Value) (z0 : Int) (z1 : Int) (z2 : Int) (z3 : Int) (z4 : Int) (z5 : Int) (z6 : Int) (z7 : Int) (z8 : Int) (z9 : Int) (z10 : Int) (z11 : Int) (z12 : Int) (z13 : Int) (z14 : Int) (z15 : Int) (z16 : Int) (z17 : Int) (z18 : Int) (z19 : Int) (z20 : Int) (z21 : Int) (z22 : Int) (z23 : Int) : Option Value :=
  (bb (ilt z23 (22 : Int)) (oo (toN z23) none fun k1 => (bb (Nat.blt k1 22) (oo (nthL ([(.int .i64 z1), (.int .i64 z2), (.int .i64 z3), (.int .i64 z4), (.int .i64 z5), (.int .i64 z6), (.int .i64 z7), (.int .i64 z8), (.int .i64 z9), (.int .i64 z10), (.int .i64 z11), (.int .i64 z12), (.int .i64 z13), (.int .i64 z14), (.int .i64 z15), (.int .i64 z16), (.int .i64 z17), (.int .i64 z18), (.int .i64 z19), (.int .i64 z20), (.int .i64 z21), (.int .i64 z22)] : List Value) (k1 * 1)) none fun v0 => (oo (toI .i64 v0) none fun x0 => (ih0 (wrapF .i64 (Int.add z0 (wrapF .i64 (Int.mul (Int.ofNat k1) x0)))) z1 z2 z3 z4 z5 z6 z7 z8 z9 z10 z11 z12 z13 z14 z15 z16 z17 z18 z19 z20 z21 z22 (wrapF .i64 (Int.add (Int.ofNat k1) (1 : Int)))))) none)) (m44_0 pu n z0))
def l44_1 (pu : PureF) (n : Nat) (w : Nat) : Int → Int → Int → Int → Int → Int → Int → Int → Int → Int → Int → Int → Int → Int → Int → Int → Int → Int → Int → Int → Int → Int → Int → Int → Option Value :=
  Nat.rec (motive := fun _ => Int → Int → Int → Int → Int → Int → Int → Int → Int → Int → Int → Int → Int → Int → Int → Int → Int → Int → Int → Int → Int → Int → Int → Int → Option Value) (fun _ _ _ _ _ _ _ _ _ _ _ _ _ _ _ _ _ _ _ _ _ _ _ _ => none) (fun _ ih0 => b44_1 pu n ih0) w
def m44_ (pu : PureF) (n : Nat) (x0 : Int) (x1 : Int) (x2 : Int) (x3 : Int) (x4 : Int) (x5 : Int) (x6 : Int) (x7 : Int) (x8 : Int) (x9 : Int) (x10 : Int) (x11 : Int) (x12 : Int) (x13 : Int) (x14 : Int) (x15 : Int) (x16 : Int) (x17 : Int) (x18 : Int) (x19 : Int) (x20 : Int) (x21 : Int) : Option Value :=
  (l44_1 pu n n (0 : Int) x0 x1 x2 x3 x4 x5 x6 x7 x8 x9 x10 x11 x12 x13 x14 x15 x16 x17 x18 x19 x20 x21 (0 : Int))
def m44 (pu : PureF) (n : Nat) (args : List Value) : Option Value :=
  (ll args none fun a0 args => (ll args (oo (vAgg a0) none fun l0 => (ll l0 none fun v0 l0 => (ll l0 none fun v1 l0 => (ll l0 none fun v2 l0 => (ll l0 none fun v3 l0 => (ll l0 none fun v4 l0 => (ll l0 none fun v5 l0 => (ll l0 none fun v6 l0 => (ll l0 none fun v7 l0 => (ll l0 none fun v8 l0 => (ll l0 none fun v9 l0 => (ll l0 none fun v10 l0 => (ll l0 none fun v11 l0 => (ll l0 none fun v12 l0 => (ll l0 none fun v13 l0 => (ll l0 none fun v14 l0 => (ll l0 none fun v15 l0 => (ll l0 none fun v16 l0 => (ll l0 none fun v17 l0 => (ll l0 none fun v18 l0 => (ll l0 none fun v19 l0 => (ll l0 none fun v20 l0 => (ll l0 none fun v21 l0 => (ll l0 (oo (toI .i64 v0) none fun x0 => (oo (toI .i64 v1) none fun x1 => (oo (toI .i64 v2) none fun x2 => (oo (toI .i64 v3) none fun x3 => (oo (toI .i64 v4) none fun x4 => (oo (toI .i64 v5) none fun x5 => (oo (toI .i64 v6) none fun x6 => (oo (toI .i64 v7) none fun x7 => (oo (toI .i64 v8) none fun x8 => (oo (toI .i64 v9) none fun x9 => (oo (toI .i64 v10) none fun x10 => (oo (toI .i64 v11) none fun x11 => (oo (toI .i64 v12) none fun x12 => (oo (toI .i64 v13) none fun x13 => (oo (toI .i64 v14) none fun x14 => (oo (toI .i64 v15) none fun x15 => (oo (toI .i64 v16) none fun x16 => (oo (toI .i64 v17) none fun x17 => (oo (toI .i64 v18) none fun x18 => (oo (toI .i64 v19) none fun x19 => (oo (toI .i64 v20) none fun x20 => (oo (toI .i64 v21) none fun x21 => (m44_ pu n x0 x1 x2 x3 x4 x5 x6 x7 x8 x9 x10 x11 x12 x13 x14 x15 x16 x17 x18 x19 x20 x21))))))))))))))))))))))) fun _ _ => none)))))))))))))))))))))))) fun _ _ => none))
theorem w44_0 (pu : PureF) (n : Nat) (z0 : Int) {v : Value} (hm : m44_0 pu n z0 = some v) : Run tt (callP tabs isP pu (inl pu)) 0 c44_17 (fr 18 [(3, (zI z0))]) (hp 0 []) (Fin tt 0 [.tmp 2] v) := by
  unfold m44_0 at hm
  refine .then ?_
  refine .rK ?_
  refine .ghs (fr 18 [(2, (zI z0))]) (hp 0 []) (.k0 [] [] [2]) ?_
  refine .ret ?_
  exact fin_ret (zI z0) (by kernel_rfl) (by kernel_rfl) hm
theorem r44 {call : CallF} (pu : PureF) (n : Nat) (hcall : call = callP tabs isP pu (inl pu)) {args : List Value} {v : Value} (hm : m44 pu n args = some v) (_ : ∀ x ∈ args, closed2 x = true) : args.length ≤ 18 ∧ Run tt call 0 c44_20 (Fr.made 18 args) (pureHeap tabs) (Fin tt 0 [.tmp 2] v) := by
  subst hcall
  unfold m44 at hm
  replace hm := ll_uncons hm; obtain ⟨a0, args_0, rfl, hm⟩ := hm
  replace hm := ll_end hm; obtain ⟨rfl, hm⟩ := hm
  replace hm := inv_vAgg hm; obtain ⟨l0, rfl, hm⟩ := hm
  replace hm := ll_uncons hm; obtain ⟨v0, l192701_0, rfl, hm⟩ := hm
  replace hm := ll_uncons hm; obtain ⟨v1, l192701_1, rfl, hm⟩ := hm
  replace hm := ll_uncons hm; obtain ⟨v2, l192701_2, rfl, hm⟩ := hm
  replace hm := ll_uncons hm; obtain ⟨v3, l192701_3, rfl, hm⟩ := hm
  replace hm := ll_uncons hm; obtain ⟨v4, l192701_4, rfl, hm⟩ := hm
  replace hm := ll_uncons hm; obtain ⟨v5, l192701_5, rfl, hm⟩ := hm
  replace hm := ll_uncons hm; obtain ⟨v6, l192701_6, rfl, hm⟩ := hm
  replace hm := ll_uncons hm; obtain ⟨v7, l192701_7, rfl, hm⟩ := hm
  replace hm := ll_uncons hm; obtain ⟨v8, l192701_8, rfl, hm⟩ := hm
  replace hm := ll_uncons hm; obtain ⟨v9, l192701_9, rfl, hm⟩ := hm
  replace hm := ll_uncons hm; obtain ⟨v10, l192701_10, rfl, hm⟩ := hm
  replace hm := ll_uncons hm; obtain ⟨v11, l192701_11, rfl, hm⟩ := hm
  replace hm := ll_uncons hm; obtain ⟨v12, l192701_12, rfl, hm⟩ := hm
  replace hm := ll_uncons hm; obtain ⟨v13, l192701_13, rfl, hm⟩ := hm
  replace hm := ll_uncons hm; obtain ⟨v14, l192701_14, rfl, hm⟩ := hm
  replace hm := ll_uncons hm; obtain ⟨v15, l192701_15, rfl, hm⟩ := hm
  replace hm := ll_uncons hm; obtain ⟨v16, l192701_16, rfl, hm⟩ := hm
  replace hm := ll_uncons hm; obtain ⟨v17, l192701_17, rfl, hm⟩ := hm
  replace hm := ll_uncons hm; obtain ⟨v18, l192701_18, rfl, hm⟩ := hm
  replace hm := ll_uncons hm; obtain ⟨v19, l192701_19, rfl, hm⟩ := hm
  replace hm := ll_uncons hm; obtain ⟨v20, l192701_20, rfl, hm⟩ := hm
  replace hm := ll_uncons hm; obtain ⟨v21, l192701_21, rfl, hm⟩ := hm
  replace hm := ll_end hm; obtain ⟨rfl, hm⟩ := hm
  replace hm := inv_toI hm; obtain ⟨x0, rfl, hm⟩ := hm
  replace hm := inv_toI hm; obtain ⟨x1, rfl, hm⟩ := hm
  replace hm := inv_toI hm; obtain ⟨x2, rfl, hm⟩ := hm
  replace hm := inv_toI hm; obtain ⟨x3, rfl, hm⟩ := hm
  replace hm := inv_toI hm; obtain ⟨x4, rfl, hm⟩ := hm
  replace hm := inv_toI hm; obtain ⟨x5, rfl, hm⟩ := hm
  replace hm := inv_toI hm; obtain ⟨x6, rfl, hm⟩ := hm
  replace hm := inv_toI hm; obtain ⟨x7, rfl, hm⟩ := hm
  replace hm := inv_toI hm; obtain ⟨x8, rfl, hm⟩ := hm
  replace hm := inv_toI hm; obtain ⟨x9, rfl, hm⟩ := hm
  replace hm := inv_toI hm; obtain ⟨x10, rfl, hm⟩ := hm
  replace hm := inv_toI hm; obtain ⟨x11, rfl, hm⟩ := hm
  replace hm := inv_toI hm; obtain ⟨x12, rfl, hm⟩ := hm
  replace hm := inv_toI hm; obtain ⟨x13, rfl, hm⟩ := hm
  replace hm := inv_toI hm; obtain ⟨x14, rfl, hm⟩ := hm
  replace hm := inv_toI hm; obtain ⟨x15, rfl, hm⟩ := hm
  replace hm := inv_toI hm; obtain ⟨x16, rfl, hm⟩ := hm
  replace hm := inv_toI hm; obtain ⟨x17, rfl, hm⟩ := hm
  replace hm := inv_toI hm; obtain ⟨x18, rfl, hm⟩ := hm
  replace hm := inv_toI hm; obtain ⟨x19, rfl, hm⟩ := hm
  replace hm := inv_toI hm; obtain ⟨x20, rfl, hm⟩ := hm
  replace hm := inv_toI hm; obtain ⟨x21, rfl, hm⟩ := hm
  unfold m44_ at hm
  refine ⟨by simp, ?_⟩
  refine .same (F' := (fr 18 [(0, (.agg ⟨[(zI x0), (zI x1), (zI x2), (zI x3), (zI x4), (zI x5), (zI x6), (zI x7), (zI x8), (zI x9), (zI x10), (zI x11), (zI x12), (zI x13), (zI x14), (zI x15), (zI x16), (zI x17), (zI x18), (zI x19), (zI x20), (zI x21)]⟩))])) (H' := (hp 0 [])) (by kernel_rfl) (by kernel_rfl) ?_
  refine .then ?_
  refine .rK ?_
  refine .ghs (fr 18 [(1, (pt 0 0))]) (hp 1 [(oC [(zI x0), (zI x1), (zI x2), (zI x3), (zI x4), (zI x5), (zI x6), (zI x7), (zI x8), (zI x9), (zI x10), (zI x11), (zI x12), (zI x13), (zI x14), (zI x15), (zI x16), (zI x17), (zI x18), (zI x19), (zI x20), (zI x21)])]) (.k0 [] [.tmp 1 false] [1]) ?_
  refine .then ?_
  refine .rK ?_
  refine .ghs (fr 18 [(1, (pt 0 0)), (3, (zI (0 : Int)))]) (hp 1 [(oC [(zI x0), (zI x1), (zI x2), (zI x3), (zI x4), (zI x5), (zI x6), (zI x7), (zI x8), (zI x9), (zI x10), (zI x11), (zI x12), (zI x13), (zI x14), (zI x15), (zI x16), (zI x17), (zI x18), (zI x19), (zI x20), (zI x21)])]) (.k0 [] [.tmp 1 false] [1, 3]) ?_
  refine .join (v := v) (fun y : Int => ((fr 18 [(3, (zI y))]), (hp 0 []))) (fun y => m44_0 pu n y) ?_ ?_
  · rintro z0 hm
    exact w44_0 pu n z0 hm
  · refine .then ?_
    refine .rK ?_
    refine .ghs (fr 18 [(3, (zI (0 : Int))), (6, (.agg ⟨[(zI x0), (zI x1), (zI x2), (zI x3), (zI x4), (zI x5), (zI x6), (zI x7), (zI x8), (zI x9), (zI x10), (zI x11), (zI x12), (zI x13), (zI x14), (zI x15), (zI x16), (zI x17), (zI x18), (zI x19), (zI x20), (zI x21)]⟩)), (7, (zI (0 : Int)))]) (hp 0 []) (.k0 [] [] [3, 6, 7]) ?_
    refine .block ?_
    refine .loopM (v := v) (fun y : Int × Int × Int × Int × Int × Int × Int × Int × Int × Int × Int × Int × Int × Int × Int × Int × Int × Int × Int × Int × Int × Int × Int × Int => ((fr 18 [(3, (zI y.1)), (6, (.agg ⟨[(zI y.2.1), (zI y.2.2.1), (zI y.2.2.2.1), (zI y.2.2.2.2.1), (zI y.2.2.2.2.2.1), (zI y.2.2.2.2.2.2.1), (zI y.2.2.2.2.2.2.2.1), (zI y.2.2.2.2.2.2.2.2.1), (zI y.2.2.2.2.2.2.2.2.2.1), (zI y.2.2.2.2.2.2.2.2.2.2.1), (zI y.2.2.2.2.2.2.2.2.2.2.2.1), (zI y.2.2.2.2.2.2.2.2.2.2.2.2.1), (zI y.2.2.2.2.2.2.2.2.2.2.2.2.2.1), (zI y.2.2.2.2.2.2.2.2.2.2.2.2.2.2.1), (zI y.2.2.2.2.2.2.2.2.2.2.2.2.2.2.2.1), (zI y.2.2.2.2.2.2.2.2.2.2.2.2.2.2.2.2.1), (zI y.2.2.2.2.2.2.2.2.2.2.2.2.2.2.2.2.2.1), (zI y.2.2.2.2.2.2.2.2.2.2.2.2.2.2.2.2.2.2.1), (zI y.2.2.2.2.2.2.2.2.2.2.2.2.2.2.2.2.2.2.2.1), (zI y.2.2.2.2.2.2.2.2.2.2.2.2.2.2.2.2.2.2.2.2.1), (zI y.2.2.2.2.2.2.2.2.2.2.2.2.2.2.2.2.2.2.2.2.2.1), (zI y.2.2.2.2.2.2.2.2.2.2.2.2.2.2.2.2.2.2.2.2.2.2.1)]⟩)), (7, (zI y.2.2.2.2.2.2.2.2.2.2.2.2.2.2.2.2.2.2.2.2.2.2.2))]), (hp 0 []))) (fun w y => l44_1 pu n w y.1 y.2.1 y.2.2.1 y.2.2.2.1 y.2.2.2.2.1 y.2.2.2.2.2.1 y.2.2.2.2.2.2.1 y.2.2.2.2.2.2.2.1 y.2.2.2.2.2.2.2.2.1 y.2.2.2.2.2.2.2.2.2.1 y.2.2.2.2.2.2.2.2.2.2.1 y.2.2.2.2.2.2.2.2.2.2.2.1 y.2.2.2.2.2.2.2.2.2.2.2.2.1 y.2.2.2.2.2.2.2.2.2.2.2.2.2.1 y.2.2.2.2.2.2.2.2.2.2.2.2.2.2.1 y.2.2.2.2.2.2.2.2.2.2.2.2.2.2.2.1 y.2.2.2.2.2.2.2.2.2.2.2.2.2.2.2.2.1 y.2.2.2.2.2.2.2.2.2.2.2.2.2.2.2.2.2.1 y.2.2.2.2.2.2.2.2.2.2.2.2.2.2.2.2.2.2.1 y.2.2.2.2.2.2.2.2.2.2.2.2.2.2.2.2.2.2.2.1 y.2.2.2.2.2.2.2.2.2.2.2.2.2.2.2.2.2.2.2.2.1 y.2.2.2.2.2.2.2.2.2.2.2.2.2.2.2.2.2.2.2.2.2.1 y.2.2.2.2.2.2.2.2.2.2.2.2.2.2.2.2.2.2.2.2.2.2.1 y.2.2.2.2.2.2.2.2.2.2.2.2.2.2.2.2.2.2.2.2.2.2.2) n ⟨((0 : Int), x0, x1, x2, x3, x4, x5, x6, x7, x8, x9, x10, x11, x12, x13, x14, x15, x16, x17, x18, x19, x20, x21, (0 : Int)), hm, (.k0 [] [] [3, 6, 7])⟩ (fun _ => rfl) ?_
    rintro w0 ⟨z1, z2, z3, z4, z5, z6, z7, z8, z9, z10, z11, z12, z13, z14, z15, z16, z17, z18, z19, z20, z21, z22, z23, z24⟩ hm
    replace hm : b44_1 pu n (l44_1 pu n w0) z1 z2 z3 z4 z5 z6 z7 z8 z9 z10 z11 z12 z13 z14 z15 z16 z17 z18 z19 z20 z21 z22 z23 z24 = some v := hm
    unfold b44_1 at hm
    refine .then ?_
    refine .rK ?_
    refine .ghs (fr 18 [(3, (zI z1)), (6, (.agg ⟨[(zI z2), (zI z3), (zI z4), (zI z5), (zI z6), (zI z7), (zI z8), (zI z9), (zI z10), (zI z11), (zI z12), (zI z13), (zI z14), (zI z15), (zI z16), (zI z17), (zI z18), (zI z19), (zI z20), (zI z21), (zI z22), (zI z23)]⟩)), (7, (zI z24)), (8, (zB (ilt z24 (22 : Int))))]) (hp 0 []) (.k0 [] [] [3, 6, 7, 8]) ?_
    refine .then ?_
    replace hm := bb_cases hm; rcases hm with ⟨h0, hm⟩ | ⟨h0, hm⟩
    · refine .ifT (ilt z24 (22 : Int)) (by kernel_rfl) h0 ?_
      refine .skip ?_
      refine .ghs (fr 18 [(3, (zI z1)), (6, (.agg ⟨[(zI z2), (zI z3), (zI z4), (zI z5), (zI z6), (zI z7), (zI z8), (zI z9), (zI z10), (zI z11), (zI z12), (zI z13), (zI z14), (zI z15), (zI z16), (zI z17), (zI z18), (zI z19), (zI z20), (zI z21), (zI z22), (zI z23)]⟩)), (7, (zI z24))]) (hp 0 []) (.k0 [] [] [3, 6, 7]) ?_
      refine .then ?_
      refine .block ?_
      refine .then ?_
      replace hm := oo_inv hm; obtain ⟨k1, h1, hm⟩ := hm
      obtain rfl := toN_some h1
      replace hm := bb_inv hm; obtain ⟨h2, hm⟩ := hm
      replace hm := oo_inv hm; obtain ⟨v22, h3, hm⟩ := hm
      replace hm := inv_toI hm; obtain ⟨x22, rfl, hm⟩ := hm
      refine .reg (eC 1 (keep (hp 0 []) (bb (Nat.blt k1 22) (nthL ([(zI z2), (zI z3), (zI z4), (zI z5), (zI z6), (zI z7), (zI z8), (zI z9), (zI z10), (zI z11), (zI z12), (zI z13), (zI z14), (zI z15), (zI z16), (zI z17), (zI z18), (zI z19), (zI z20), (zI z21), (zI z22), (zI z23)] : List Value) (k1 * 1)) none)) (keep_bbo h2 h3) (eE)) ?_
      refine .ghs (fr 18 [(3, (zI z1)), (4, (zI (Int.ofNat k1))), (5, (zI x22)), (6, (.agg ⟨[(zI z2), (zI z3), (zI z4), (zI z5), (zI z6), (zI z7), (zI z8), (zI z9), (zI z10), (zI z11), (zI z12), (zI z13), (zI z14), (zI z15), (zI z16), (zI z17), (zI z18), (zI z19), (zI z20), (zI z21), (zI z22), (zI z23)]⟩)), (7, (zI (Int.ofNat k1)))]) (hp 0 []) (.k0 [] [] [3, 4, 5, 6, 7]) ?_
      refine .rK ?_
      refine .ghs (fr 18 [(3, (zI (wrapF .i64 (Int.add z1 (wrapF .i64 (Int.mul (Int.ofNat k1) x22)))))), (6, (.agg ⟨[(zI z2), (zI z3), (zI z4), (zI z5), (zI z6), (zI z7), (zI z8), (zI z9), (zI z10), (zI z11), (zI z12), (zI z13), (zI z14), (zI z15), (zI z16), (zI z17), (zI z18), (zI z19), (zI z20), (zI z21), (zI z22), (zI z23)]⟩)), (7, (zI (Int.ofNat k1)))]) (hp 0 []) (.k0 [] [] [3, 6, 7]) ?_
      refine .rK ?_
      exact ⟨((wrapF .i64 (Int.add z1 (wrapF .i64 (Int.mul (Int.ofNat k1) x22)))), z2, z3, z4, z5, z6, z7, z8, z9, z10, z11, z12, z13, z14, z15, z16, z17, z18, z19, z20, z21, z22, z23, (wrapF .i64 (Int.add (Int.ofNat k1) (1 : Int)))), hm, (.k0 [] [] [3, 6, 7])⟩
    · refine .ifF (ilt z24 (22 : Int)) (by kernel_rfl) h0 ?_
      refine .exit ?_
      exact ⟨z1, hm, (.k0 [] [] [3])⟩
end
end Go.HpQM
set_option maxRecDepth 100000
set_option maxHeartbeats 20000000
set_option linter.unusedVariables false
namespace Go.HpQM
open Go.Sp Go.HpQ
noncomputable section
def m53_0 (pu : PureF) (n : Nat) (s0 : Sl) (s1 : Sl) : Option Value :=
  (bb (ilt (Int.ofNat (Sl.n s0)) (Int.ofNat (Sl.n s1))) (some (.int .i64 (-1 : Int))) (some (.int .i64 (0 : Int))))
def b53_1 (pu : PureF) (n : Nat) (ih0 : Sl → Sl → Sl → Int → Int → Option Value) (s0 : Sl) (s1 : Sl) (s2 : Sl) (z0 : Int) (z1 : Int) : Option Value :=
  (bb (ilt z1 z0) (oo (toN z1) none fun k1 => (bb (an (Nat.blt k1 (Sl.n s2)) true) (oo (nthL (Sl.cs s2) (k1 * 1)) none fun v0 => (oo (toI .i64 v0) none fun x0 => (bb (nt (ilt (Int.ofNat k1) (Int.ofNat (Sl.n s1)))) (some (.int .i64 (1 : Int))) (bb (an (Nat.blt k1 (Sl.n s1)) true) (oo (nthL (Sl.cs s1) (k1 * 1)) none fun v1 => (oo (toI .i64 v1) none fun x1 => (oo (pu 66 [(.int .i64 x0), (.int .i64 x1)]) none fun v2 => (oo (toI .i64 v2) none fun x2 => (bb (nt (ieq x2 (0 : Int))) (some (.int .i64 x2)) (ih0 s0 s1 s2 z0 (wrapF .i64 (Int.add (Int.ofNat k1) (1 : Int))))))))) none)))) none)) (m53_0 pu n s0 s1))
def l53_1 (pu : PureF) (n : Nat) (w : Nat) : Sl → Sl → Sl → Int → Int → Option Value :=
  Nat.rec (motive := fun _ => Sl → Sl → Sl → Int → Int → Option Value) (fun _ _ _ _ _ => none) (fun _ ih0 => b53_1 pu n ih0) w
def m53_ (pu : PureF) (n : Nat) (s0 : Sl) (s1 : Sl) : Option Value :=
  (l53_1 pu n n s0 s1 s0 (Int.ofNat (Sl.n s0)) (0 : Int))
def m53 (pu : PureF) (n : Nat) (args : List Value) : Option Value :=
  (ll args none fun a0 args => (ll args none fun a1 args => (ll args (oo (toSl 1 a0) none fun s0 => (oo (toSl 1 a1) none fun s1 => (m53_ pu n s0 s1))) fun _ _ => none)))
theorem w53_0 (pu : PureF) (n : Nat) (s0 : Sl) (s1 : Sl) {v : Value} (hm : m53_0 pu n s0 s1 = some v) : Run tt (callP tabs isP pu (inl pu)) 0 c53_36 (fr 36 [(0, (Sl.v 1 s0)), (1, (Sl.v 1 s1))]) (hp 0 []) (Fin tt 0 [.tmp 4] v) := by
  unfold m53_0 at hm
  refine .then ?_
  refine .then ?_
  refine .rK ?_
  refine .ghs (fr 36 [(35, (zB (ilt (Int.ofNat (Sl.n s0)) (Int.ofNat (Sl.n s1)))))]) (hp 0 []) (.k0 [] [] [35]) ?_
  replace hm := bb_cases hm; rcases hm with ⟨h0, hm⟩ | ⟨h0, hm⟩
  · refine .ifT (ilt (Int.ofNat (Sl.n s0)) (Int.ofNat (Sl.n s1))) (by kernel_rfl) h0 ?_
    refine .then ?_
    refine .rK ?_
    refine .ghs (fr 36 [(4, (zI (-1 : Int)))]) (hp 0 []) (.k0 [] [] [4]) ?_
    refine .ret ?_
    exact fin_ret (zI (-1 : Int)) (by kernel_rfl) (by kernel_rfl) hm
  · refine .ifF (ilt (Int.ofNat (Sl.n s0)) (Int.ofNat (Sl.n s1))) (by kernel_rfl) h0 ?_
    refine .skip ?_
    refine .ghs (fr 36 []) (hp 0 []) (.k0 [] [] []) ?_
    refine .then ?_
    refine .rK ?_
    refine .ghs (fr 36 [(4, (zI (0 : Int)))]) (hp 0 []) (.k0 [] [] [4]) ?_
    refine .ret ?_
    exact fin_ret (zI (0 : Int)) (by kernel_rfl) (by kernel_rfl) hm
theorem r53 {call : CallF} (pu : PureF) (n : Nat) (hcall : call = callP tabs isP pu (inl pu)) {args : List Value} {v : Value} (hm : m53 pu n args = some v) (_ : ∀ x ∈ args, closed2 x = true) : args.length ≤ 36 ∧ Run tt call 0 c53_38 (Fr.made 36 args) (pureHeap tabs) (Fin tt 0 [.tmp 4] v) := by
  subst hcall
  unfold m53 at hm
  replace hm := ll_uncons hm; obtain ⟨a0, args_0, rfl, hm⟩ := hm
  replace hm := ll_uncons hm; obtain ⟨a1, args_1, rfl, hm⟩ := hm
  replace hm := ll_end hm; obtain ⟨rfl, hm⟩ := hm
  replace hm := inv_toSl hm; obtain ⟨s0, rfl, hm⟩ := hm
  replace hm := inv_toSl hm; obtain ⟨s1, rfl, hm⟩ := hm
  unfold m53_ at hm
  refine ⟨by simp, ?_⟩
  refine .same (F' := (fr 36 [(0, (Sl.v 1 s0)), (1, (Sl.v 1 s1))])) (H' := (hp 0 [])) (by kernel_rfl) (by kernel_rfl) ?_
  refine .then ?_
  refine .rK ?_
  refine .ghs (fr 36 [(0, (Sl.v 1 s0)), (1, (Sl.v 1 s1))]) (hp 0 []) (.k0 [] [] [0, 1]) ?_
  refine .join (v := v) (fun y : Sl × Sl => ((fr 36 [(0, (Sl.v 1 y.1)), (1, (Sl.v 1 y.2))]), (hp 0 []))) (fun y => m53_0 pu n y.1 y.2) ?_ ?_
  · rintro ⟨s2, s3⟩ hm
    exact w53_0 pu n s2 s3 hm
  · refine .then ?_
    refine .rK ?_
    refine .ghs (fr 36 [(0, (Sl.v 1 s0)), (1, (Sl.v 1 s1)), (9, (Sl.v 1 s0)), (10, (zI (Int.ofNat (Sl.n s0)))), (11, (zI (0 : Int)))]) (hp 0 []) (.k0 [] [] [0, 1, 9, 10, 11]) ?_
    refine .block ?_
    refine .loopM (v := v) (fun y : Sl × Sl × Sl × Int × Int => ((fr 36 [(0, (Sl.v 1 y.1)), (1, (Sl.v 1 y.2.1)), (9, (Sl.v 1 y.2.2.1)), (10, (zI y.2.2.2.1)), (11, (zI y.2.2.2.2))]), (hp 0 []))) (fun w y => l53_1 pu n w y.1 y.2.1 y.2.2.1 y.2.2.2.1 y.2.2.2.2) n ⟨(s0, s1, s0, (Int.ofNat (Sl.n s0)), (0 : Int)), hm, (.k0 [] [] [0, 1, 9, 10, 11])⟩ (fun _ => rfl) ?_
    rintro w0 ⟨s4, s5, s6, z0, z1⟩ hm
    replace hm : b53_1 pu n (l53_1 pu n w0) s4 s5 s6 z0 z1 = some v := hm
    unfold b53_1 at hm
    refine .then ?_
    refine .rK ?_
    refine .ghs (fr 36 [(0, (Sl.v 1 s4)), (1, (Sl.v 1 s5)), (9, (Sl.v 1 s6)), (10, (zI z0)), (11, (zI z1)), (12, (zB (ilt z1 z0)))]) (hp 0 []) (.k0 [] [] [0, 1, 9, 10, 11, 12]) ?_
    refine .then ?_
    replace hm := bb_cases hm; rcases hm with ⟨h0, hm⟩ | ⟨h0, hm⟩
    · refine .ifT (ilt z1 z0) (by kernel_rfl) h0 ?_
      refine .skip ?_
      refine .ghs (fr 36 [(0, (Sl.v 1 s4)), (1, (Sl.v 1 s5)), (9, (Sl.v 1 s6)), (10, (zI z0)), (11, (zI z1))]) (hp 0 []) (.k0 [] [] [0, 1, 9, 10, 11]) ?_
      refine .then ?_
      refine .block ?_
      refine .then ?_
      replace hm := oo_inv hm; obtain ⟨k1, h1, hm⟩ := hm
      obtain rfl := toN_some h1
      replace hm := bb_inv hm; obtain ⟨h2, hm⟩ := hm
      replace hm := oo_inv hm; obtain ⟨v0, h3, hm⟩ := hm
      replace hm := inv_toI hm; obtain ⟨x0, rfl, hm⟩ := hm
      refine .reg (eC 1 (keep (hp 0 []) (bb (an (Nat.blt k1 (Sl.n s6)) true) (some (fpV (k1 * 1) (Sl.cs s6))) none)) (keep_bb h2) (eD (keep (hp 0 []) (nthL (Sl.cs s6) (k1 * 1))) (keep_eq h3) (eE))) ?_
      refine .ghs (fr 36 [(0, (Sl.v 1 s4)), (1, (Sl.v 1 s5)), (5, (zI (Int.ofNat k1))), (6, (zI x0)), (9, (Sl.v 1 s6)), (10, (zI z0)), (11, (zI (Int.ofNat k1)))]) (hp 0 []) (.k0 [] [] [0, 1, 5, 6, 9, 10, 11]) ?_
      refine .then ?_
      refine .then ?_
      refine .rK ?_
      refine .ghs (fr 36 [(0, (Sl.v 1 s4)), (1, (Sl.v 1 s5)), (5, (zI (Int.ofNat k1))), (6, (zI x0)), (9, (Sl.v 1 s6)), (10, (zI z0)), (11, (zI (Int.ofNat k1))), (19, (zB (nt (ilt (Int.ofNat k1) (Int.ofNat (Sl.n s5))))))]) (hp 0 []) (.k0 [] [] [0, 1, 5, 6, 9, 10, 11, 19]) ?_
      replace hm := bb_cases hm; rcases hm with ⟨h4, hm⟩ | ⟨h4, hm⟩
      · refine .ifT (nt (ilt (Int.ofNat k1) (Int.ofNat (Sl.n s5)))) (by kernel_rfl) h4 ?_
        refine .then ?_
        refine .rK ?_
        refine .ghs (fr 36 [(4, (zI (1 : Int)))]) (hp 0 []) (.k0 [] [] [4]) ?_
        refine .ret ?_
        exact fin_ret (zI (1 : Int)) (by kernel_rfl) (by kernel_rfl) hm
      · refine .ifF (nt (ilt (Int.ofNat k1) (Int.ofNat (Sl.n s5)))) (by kernel_rfl) h4 ?_
        refine .skip ?_
        refine .ghs (fr 36 [(0, (Sl.v 1 s4)), (1, (Sl.v 1 s5)), (5, (zI (Int.ofNat k1))), (6, (zI x0)), (9, (Sl.v 1 s6)), (10, (zI z0)), (11, (zI (Int.ofNat k1)))]) (hp 0 []) (.k0 [] [] [0, 1, 5, 6, 9, 10, 11]) ?_
        refine .then ?_
        replace hm := bb_inv hm; obtain ⟨h5, hm⟩ := hm
        replace hm := oo_inv hm; obtain ⟨v1, h6, hm⟩ := hm
        replace hm := inv_toI hm; obtain ⟨x1, rfl, hm⟩ := hm
        refine .reg (eC 2 (keep (hp 0 []) (bb (an (Nat.blt k1 (Sl.n s5)) true) (some (fpV (k1 * 1) (Sl.cs s5))) none)) (keep_bb h5) (eD (keep (hp 0 []) (nthL (Sl.cs s5) (k1 * 1))) (keep_eq h6) (eE))) ?_
        refine .ghs (fr 36 [(0, (Sl.v 1 s4)), (1, (Sl.v 1 s5)), (6, (zI x0)), (7, (zI x1)), (9, (Sl.v 1 s6)), (10, (zI z0)), (11, (zI (Int.ofNat k1)))]) (hp 0 []) (.k0 [] [] [0, 1, 6, 7, 9, 10, 11]) ?_
        refine .then ?_
        replace hm := oo_inv hm; obtain ⟨v2, h7, hm⟩ := hm
        replace hm := inv_toI hm; obtain ⟨x2, rfl, hm⟩ := hm
        refine .reg (eC 2 ((oo (pu 66 [(zI x0), (zI x1)]) none fun v => some (v, (hp 0 [])))) (call_eq h7) (eE)) ?_
        refine .ghs (fr 36 [(0, (Sl.v 1 s4)), (1, (Sl.v 1 s5)), (8, (zI x2)), (9, (Sl.v 1 s6)), (10, (zI z0)), (11, (zI (Int.ofNat k1)))]) (hp 0 []) (.k0 [] [] [0, 1, 8, 9, 10, 11]) ?_
        refine .then ?_
        refine .rK ?_
        refine .ghs (fr 36 [(0, (Sl.v 1 s4)), (1, (Sl.v 1 s5)), (8, (zI x2)), (9, (Sl.v 1 s6)), (10, (zI z0)), (11, (zI (Int.ofNat k1))), (28, (zB (nt (ieq x2 (0 : Int)))))]) (hp 0 []) (.k0 [] [] [0, 1, 8, 9, 10, 11, 28]) ?_
        replace hm := bb_cases hm; rcases hm with ⟨h8, hm⟩ | ⟨h8, hm⟩
        · refine .ifT (nt (ieq x2 (0 : Int))) (by kernel_rfl) h8 ?_
          refine .then ?_
          refine .rK ?_
          refine .ghs (fr 36 [(4, (zI x2))]) (hp 0 []) (.k0 [] [] [4]) ?_
          refine .ret ?_
          exact fin_ret (zI x2) (by kernel_rfl) (by kernel_rfl) hm
        · refine .ifF (nt (ieq x2 (0 : Int))) (by kernel_rfl) h8 ?_
          refine .skip ?_
          refine .ghs (fr 36 [(0, (Sl.v 1 s4)), (1, (Sl.v 1 s5)), (9, (Sl.v 1 s6)), (10, (zI z0)), (11, (zI (Int.ofNat k1)))]) (hp 0 []) (.k0 [] [] [0, 1, 9, 10, 11]) ?_
          refine .rK ?_
          exact ⟨(s4, s5, s6, z0, (wrapF .i64 (Int.add (Int.ofNat k1) (1 : Int)))), hm, (.k0 [] [] [0, 1, 9, 10, 11])⟩
    · refine .ifF (ilt z1 z0) (by kernel_rfl) h0 ?_
      refine .exit ?_
      exact ⟨(s4, s5), hm, (.k0 [] [] [0, 1])⟩
def m57_0 (pu : PureF) (n : Nat) (z0 : Int) : Option Value :=
  (some (.int .i64 z0))
def b57_1 (pu : PureF) (n : Nat) (ih0 : Int → Nat → Nat → Int → Int → List Value → Option Value) (z0 : Int) (n0 : Nat) (c0 : Nat) (z1 : Int) (z2 : Int) (q0 : List Value) : Option Value :=
  (bb (allL closed1 q0) (bb (ilt z2 z1) (oo (toN z2) none fun k1 => (bb (an (Nat.blt k1 n0) true) (oo (nthL q0 (1 + k1 * 1)) none fun v0 => (oo (toI .i64 v0) none fun x0 => (ih0 (wrapF .i64 (Int.add z0 x0)) n0 c0 z1 (wrapF .i64 (Int.add (Int.ofNat k1) (1 : Int))) q0))) none)) (m57_0 pu n z0)) none)
def l57_1 (pu : PureF) (n : Nat) (w : Nat) : Int → Nat → Nat → Int → Int → List Value → Option Value :=
  Nat.rec (motive := fun _ => Int → Nat → Nat → Int → Int → List Value → Option Value) (fun _ _ _ _ _ _ => none) (fun _ ih0 => b57_1 pu n ih0) w
def m57_ (pu : PureF) (n : Nat) (q0 : List Value) : Option Value :=
  (bb (allL closed1 q0) (bb (Nat.ble (0 + 22 * 1) (len q0)) (l57_1 pu n n (0 : Int) 21 43 (21 : Int) (0 : Int) q0) none) none)
def m57 (pu : PureF) (n : Nat) (args : List Value) : Option Value :=
  (ll args none fun a0 args => (ll args (oo (vAgg a0) none fun q0 => (bb (an (Nat.beq (len q0) 22) (allL closed1 q0)) (m57_ pu n q0) none)) fun _ _ => none))
theorem w57_0 (pu : PureF) (n : Nat) (z0 : Int) {v : Value} (hm : m57_0 pu n z0 = some v) : Run tt (callP tabs isP pu (inl pu)) 0 c57_17 (fr 17 [(3, (zI z0))]) (hp 0 []) (Fin tt 0 [.tmp 2] v) := by
  unfold m57_0 at hm
  refine .then ?_
  refine .rK ?_
  refine .ghs (fr 17 [(2, (zI z0))]) (hp 0 []) (.k0 [] [] [2]) ?_
  refine .ret ?_
  exact fin_ret (zI z0) (by kernel_rfl) (by kernel_rfl) hm
theorem r57 {call : CallF} (pu : PureF) (n : Nat) (hcall : call = callP tabs isP pu (inl pu)) {args : List Value} {v : Value} (hm : m57 pu n args = some v) (_ : ∀ x ∈ args, closed2 x = true) : args.length ≤ 17 ∧ Run tt call 0 c57_20 (Fr.made 17 args) (pureHeap tabs) (Fin tt 0 [.tmp 2] v) := by
  subst hcall
  unfold m57 at hm
  replace hm := ll_uncons hm; obtain ⟨a0, args_0, rfl, hm⟩ := hm
  replace hm := ll_end hm; obtain ⟨rfl, hm⟩ := hm
  replace hm := inv_vAgg hm; obtain ⟨q0, rfl, hm⟩ := hm
  replace hm := bb_inv hm; obtain ⟨h0, hm⟩ := hm
  unfold m57_ at hm
  refine ⟨by simp, ?_⟩
  refine .same (F' := (fr 17 [(0, (.agg ⟨q0⟩))])) (H' := (hp 0 [])) (by kernel_rfl) (by kernel_rfl) ?_
  refine .then ?_
  refine .rK ?_
  replace hm := bb_inv hm; obtain ⟨h1, hm⟩ := hm
  refine .ghs (fr 17 [(1, (pt 0 0))]) (hp 1 [(oC q0)]) (.k [0] [] [.tmp 1 false] [1] ⟨trE (by kernel_rfl) h1, trivial⟩) ?_
  refine .then ?_
  refine .rK ?_
  refine .ghs (fr 17 [(1, (pt 0 0)), (3, (zI (0 : Int)))]) (hp 1 [(oC q0)]) (.k [0] [] [.tmp 1 false] [1, 3] ⟨trE (by kernel_rfl) h1, trivial⟩) ?_
  refine .join (v := v) (fun y : Int => ((fr 17 [(3, (zI y))]), (hp 0 []))) (fun y => m57_0 pu n y) ?_ ?_
  · rintro z0 hm
    exact w57_0 pu n z0 hm
  · refine .then ?_
    replace hm := bb_inv hm; obtain ⟨h2, hm⟩ := hm
    refine .reg (eD (keep (hp 1 [(oC q0)]) (bb (Nat.ble (0 + 22 * 1) (len q0)) (some (sc 0 1 1 21 43)) none)) (keep_bb h2) (eE)) ?_
    refine .ghs (fr 17 [(3, (zI (0 : Int))), (6, (sc 0 1 1 21 43)), (7, (zI (21 : Int))), (8, (zI (0 : Int)))]) (hp 1 [(oC q0)]) (.k [0] [] [.tmp 6 false] [3, 6, 7, 8] ⟨trE (by kernel_rfl) h1, trivial⟩) ?_
    refine .block ?_
    refine .loopM (v := v) (fun y : Int × Nat × Nat × Int × Int × List Value => ((fr 17 [(3, (zI y.1)), (6, (sc 0 1 1 y.2.1 y.2.2.1)), (7, (zI y.2.2.2.1)), (8, (zI y.2.2.2.2.1))]), (hp 1 [(oC y.2.2.2.2.2)]))) (fun w y => l57_1 pu n w y.1 y.2.1 y.2.2.1 y.2.2.2.1 y.2.2.2.2.1 y.2.2.2.2.2) n ⟨((0 : Int), 21, 43, (21 : Int), (0 : Int), q0), hm, (.k [0] [] [.tmp 6 false] [3, 6, 7, 8] ⟨trE (by kernel_rfl) h1, trivial⟩)⟩ (fun _ => rfl) ?_
    rintro w0 ⟨z1, n0, c0, z2, z3, q1⟩ hm
    replace hm : b57_1 pu n (l57_1 pu n w0) z1 n0 c0 z2 z3 q1 = some v := hm
    unfold b57_1 at hm
    refine .then ?_
    refine .rK ?_
    replace hm := bb_inv hm; obtain ⟨h3, hm⟩ := hm
    refine .ghs (fr 17 [(3, (zI z1)), (6, (sc 0 1 1 n0 c0)), (7, (zI z2)), (8, (zI z3)), (9, (zB (ilt z3 z2)))]) (hp 1 [(oC q1)]) (.k [0] [] [.tmp 6 false] [3, 6, 7, 8, 9] ⟨trE (by kernel_rfl) h3, trivial⟩) ?_
    refine .then ?_
    replace hm := bb_cases hm; rcases hm with ⟨h4, hm⟩ | ⟨h4, hm⟩
    · refine .ifT (ilt z3 z2) (by kernel_rfl) h4 ?_
      refine .skip ?_
      refine .ghs (fr 17 [(3, (zI z1)), (6, (sc 0 1 1 n0 c0)), (7, (zI z2)), (8, (zI z3))]) (hp 1 [(oC q1)]) (.k [0] [] [.tmp 6 false] [3, 6, 7, 8] ⟨trE (by kernel_rfl) h3, trivial⟩) ?_
      refine .then ?_
      refine .block ?_
      refine .then ?_
      replace hm := oo_inv hm; obtain ⟨k1, h5, hm⟩ := hm
      obtain rfl := toN_some h5
      replace hm := bb_inv hm; obtain ⟨h6, hm⟩ := hm
      replace hm := oo_inv hm; obtain ⟨v0, h7, hm⟩ := hm
      replace hm := inv_toI hm; obtain ⟨x0, rfl, hm⟩ := hm
      refine .reg (eD (keep (hp 1 [(oC q1)]) (bb (an (Nat.blt k1 n0) true) (some (.pointer (some ⟨0, (1 + k1 * 1), none⟩))) none)) (keep_bb h6) (eD (keep (hp 1 [(oC q1)]) (nthL q1 (1 + k1 * 1))) (keep_eq h7) (eE))) ?_
      refine .ghs (fr 17 [(3, (zI z1)), (5, (zI x0)), (6, (sc 0 1 1 n0 c0)), (7, (zI z2)), (8, (zI (Int.ofNat k1)))]) (hp 1 [(oC q1)]) (.k [0] [] [.tmp 6 false] [3, 5, 6, 7, 8] ⟨trE (by kernel_rfl) h3, trivial⟩) ?_
      refine .rK ?_
      refine .ghs (fr 17 [(3, (zI (wrapF .i64 (Int.add z1 x0)))), (6, (sc 0 1 1 n0 c0)), (7, (zI z2)), (8, (zI (Int.ofNat k1)))]) (hp 1 [(oC q1)]) (.k [0] [] [.tmp 6 false] [3, 6, 7, 8] ⟨trE (by kernel_rfl) h3, trivial⟩) ?_
      refine .rK ?_
      exact ⟨((wrapF .i64 (Int.add z1 x0)), n0, c0, z2, (wrapF .i64 (Int.add (Int.ofNat k1) (1 : Int))), q1), hm, (.k [0] [] [.tmp 6 false] [3, 6, 7, 8] ⟨trE (by kernel_rfl) h3, trivial⟩)⟩
    · refine .ifF (ilt z3 z2) (by kernel_rfl) h4 ?_
      refine .exit ?_
      exact ⟨z1, hm, (.k0 [] [] [3])⟩
def m59_0 (pu : PureF) (n : Nat) (b0 : Bool) : Option Value :=
  (some (.bool b0))
def m59_ (pu : PureF) (n : Nat) (x0 : Int) (x1 : Int) (x2 : Int) : Option Value :=
  (bb (nt (ilt x0 x1)) (m59_0 pu n (nt (ilt x2 x0))) (m59_0 pu n false))
def m59 (pu : PureF) (n : Nat) (args : List Value) : Option Value :=
  (ll args none fun a0 args => (ll args none fun a1 args => (ll args none fun a2 args => (ll args (oo (toI .i64 a0) none fun x0 => (oo (toI .i64 a1) none fun x1 => (oo (toI .i64 a2) none fun x2 => (m59_ pu n x0 x1 x2)))) fun _ _ => none))))
theorem w59_0 (pu : PureF) (n : Nat) (b0 : Bool) {v : Value} (hm : m59_0 pu n b0 = some v) : Run tt (callP tabs isP pu (inl pu)) 0 .ret (fr 15 [(6, (zB b0))]) (hp 0 []) (Fin tt 0 [.tmp 6] v) := by
  unfold m59_0 at hm
  refine .ret ?_
  exact fin_ret (zB b0) (by kernel_rfl) (by kernel_rfl) hm
theorem r59 {call : CallF} (pu : PureF) (n : Nat) (hcall : call = callP tabs isP pu (inl pu)) {args : List Value} {v : Value} (hm : m59 pu n args = some v) (_ : ∀ x ∈ args, closed2 x = true) : args.length ≤ 15 ∧ Run tt call 0 c59_3 (Fr.made 15 args) (pureHeap tabs) (Fin tt 0 [.tmp 6] v) := by
  subst hcall
  unfold m59 at hm
  replace hm := ll_uncons hm; obtain ⟨a0, args_0, rfl, hm⟩ := hm
  replace hm := ll_uncons hm; obtain ⟨a1, args_1, rfl, hm⟩ := hm
  replace hm := ll_uncons hm; obtain ⟨a2, args_2, rfl, hm⟩ := hm
  replace hm := ll_end hm; obtain ⟨rfl, hm⟩ := hm
  replace hm := inv_toI hm; obtain ⟨x0, rfl, hm⟩ := hm
  replace hm := inv_toI hm; obtain ⟨x1, rfl, hm⟩ := hm
  replace hm := inv_toI hm; obtain ⟨x2, rfl, hm⟩ := hm
  unfold m59_ at hm
  refine ⟨by simp, ?_⟩
  refine .same (F' := (fr 15 [(0, (zI x0)), (1, (zI x1)), (2, (zI x2))])) (H' := (hp 0 [])) (by kernel_rfl) (by kernel_rfl) ?_
  refine .then ?_
  refine .rK ?_
  refine .ghs (fr 15 [(0, (zI x0)), (1, (zI x1)), (2, (zI x2))]) (hp 0 []) (.k0 [] [] [0, 1, 2]) ?_
  refine .join (v := v) (fun y : Bool => ((fr 15 [(6, (zB y))]), (hp 0 []))) (fun y => m59_0 pu n y) ?_ ?_
  · rintro b0 hm
    exact w59_0 pu n b0 hm
  · replace hm := bb_cases hm; rcases hm with ⟨h0, hm⟩ | ⟨h0, hm⟩
    · refine .reg (eC 2 (some ((zB (nt (ilt x0 x1))), (hp 0 []))) (show _ = some ((zB true), _) from (by rw [h0])) (eE)) ?_
      exact ⟨(nt (ilt x2 x0)), hm, (.k0 [] [] [6])⟩
    · refine .reg (eC 2 (some ((zB (nt (ilt x0 x1))), (hp 0 []))) (show _ = some ((zB false), _) from (by rw [h0])) (eE)) ?_
      exact ⟨false, hm, (.k0 [] [] [6])⟩
def m61_0 (pu : PureF) (n : Nat) (s0 : Sl) (s1 : Sl) : Option Value :=
  (some (.bool (ilt (Int.ofNat (Sl.n s0)) (Int.ofNat (Sl.n s1)))))
def m61_2 (pu : PureF) (n : Nat) (ih0 : Sl → Sl → Int → Option Value) (s0 : Sl) (s1 : Sl) (z0 : Int) (b0 : Bool) : Option Value :=
  (bb b0 (oo (toN z0) none fun k1 => (bb (an (Nat.blt k1 (Sl.n s0)) true) (oo (nthL (Sl.cs s0) (k1 * 1)) none fun v0 => (oo (toI .i64 v0) none fun x0 => (bb (an (Nat.blt k1 (Sl.n s1)) true) (oo (nthL (Sl.cs s1) (k1 * 1)) none fun v1 => (oo (toI .i64 v1) none fun x1 => (bb (nt (ieq x0 x1)) (bb (an (Nat.blt k1 (Sl.n s0)) true) (oo (nthL (Sl.cs s0) (k1 * 1)) none fun v2 => (oo (toI .i64 v2) none fun x2 => (bb (an (Nat.blt k1 (Sl.n s1)) true) (oo (nthL (Sl.cs s1) (k1 * 1)) none fun v3 => (oo (toI .i64 v3) none fun x3 => (some (.bool (ilt x2 x3))))) none))) none) (ih0 s0 s1 (wrapF .i64 (Int.add (Int.ofNat k1) (1 : Int))))))) none))) none)) (m61_0 pu n s0 s1))
def b61_1 (pu : PureF) (n : Nat) (ih0 : Sl → Sl → Int → Option Value) (s0 : Sl) (s1 : Sl) (z0 : Int) : Option Value :=
  (bb (ilt z0 (Int.ofNat (Sl.n s0))) (m61_2 pu n ih0 s0 s1 z0 (ilt z0 (Int.ofNat (Sl.n s1)))) (m61_2 pu n ih0 s0 s1 z0 false))
def l61_1 (pu : PureF) (n : Nat) (w : Nat) : Sl → Sl → Int → Option Value :=
  Nat.rec (motive := fun _ => Sl → Sl → Int → Option Value) (fun _ _ _ => none) (fun _ ih0 => b61_1 pu n ih0) w
def m61_ (pu : PureF) (n : Nat) (s0 : Sl) (s1 : Sl) : Option Value :=
  (l61_1 pu n n s0 s1 (0 : Int))
def m61 (pu : PureF) (n : Nat) (args : List Value) : Option Value :=
  (ll args none fun a0 args => (ll args none fun a1 args => (ll args (oo (toSl 1 a0) none fun s0 => (oo (toSl 1 a1) none fun s1 => (m61_ pu n s0 s1))) fun _ _ => none)))
theorem w61_0 (pu : PureF) (n : Nat) (s0 : Sl) (s1 : Sl) {v : Value} (hm : m61_0 pu n s0 s1 = some v) : Run tt (callP tabs isP pu (inl pu)) 0 c61_18 (fr 41 [(0, (Sl.v 1 s0)), (1, (Sl.v 1 s1))]) (hp 0 []) (Fin tt 0 [.tmp 4] v) := by
  unfold m61_0 at hm
  refine .then ?_
  refine .rK ?_
  refine .ghs (fr 41 [(4, (zB (ilt (Int.ofNat (Sl.n s0)) (Int.ofNat (Sl.n s1)))))]) (hp 0 []) (.k0 [] [] [4]) ?_
  refine .ret ?_
  exact fin_ret (zB (ilt (Int.ofNat (Sl.n s0)) (Int.ofNat (Sl.n s1)))) (by kernel_rfl) (by kernel_rfl) hm
theorem r61 {call : CallF} (pu : PureF) (n : Nat) (hcall : call = callP tabs isP pu (inl pu)) {args : List Value} {v : Value} (hm : m61 pu n args = some v) (_ : ∀ x ∈ args, closed2 x = true) : args.length ≤ 41 ∧ Run tt call 0 c61_20 (Fr.made 41 args) (pureHeap tabs) (Fin tt 0 [.tmp 4] v) := by
  subst hcall
  unfold m61 at hm
  replace hm := ll_uncons hm; obtain ⟨a0, args_0, rfl, hm⟩ := hm
  replace hm := ll_uncons hm; obtain ⟨a1, args_1, rfl, hm⟩ := hm
  replace hm := ll_end hm; obtain ⟨rfl, hm⟩ := hm
  replace hm := inv_toSl hm; obtain ⟨s0, rfl, hm⟩ := hm
  replace hm := inv_toSl hm; obtain ⟨s1, rfl, hm⟩ := hm
  unfold m61_ at hm
  refine ⟨by simp, ?_⟩
  refine .same (F' := (fr 41 [(0, (Sl.v 1 s0)), (1, (Sl.v 1 s1))])) (H' := (hp 0 [])) (by kernel_rfl) (by kernel_rfl) ?_
  refine .then ?_
  refine .rK ?_
  refine .ghs (fr 41 [(0, (Sl.v 1 s0)), (1, (Sl.v 1 s1))]) (hp 0 []) (.k0 [] [] [0, 1]) ?_
  refine .join (v := v) (fun y : Sl × Sl => ((fr 41 [(0, (Sl.v 1 y.1)), (1, (Sl.v 1 y.2))]), (hp 0 []))) (fun y => m61_0 pu n y.1 y.2) ?_ ?_
  · rintro ⟨s2, s3⟩ hm
    exact w61_0 pu n s2 s3 hm
  · refine .then ?_
    refine .rK ?_
    refine .ghs (fr 41 [(0, (Sl.v 1 s0)), (1, (Sl.v 1 s1)), (5, (zI (0 : Int)))]) (hp 0 []) (.k0 [] [] [0, 1, 5]) ?_
    refine .block ?_
    refine .loopM (v := v) (fun y : Sl × Sl × Int => ((fr 41 [(0, (Sl.v 1 y.1)), (1, (Sl.v 1 y.2.1)), (5, (zI y.2.2))]), (hp 0 []))) (fun w y => l61_1 pu n w y.1 y.2.1 y.2.2) n ⟨(s0, s1, (0 : Int)), hm, (.k0 [] [] [0, 1, 5])⟩ (fun _ => rfl) ?_
    rintro w0 ⟨s4, s5, z0⟩ hm
    replace hm : b61_1 pu n (l61_1 pu n w0) s4 s5 z0 = some v := hm
    unfold b61_1 at hm
    refine .then ?_
    refine .join (v := v) (fun y : Sl × Sl × Int × Bool => ((fr 41 [(0, (Sl.v 1 y.1)), (1, (Sl.v 1 y.2.1)), (5, (zI y.2.2.1)), (15, (zB y.2.2.2))]), (hp 0 []))) (fun y => m61_2 pu n (l61_1 pu n w0) y.1 y.2.1 y.2.2.1 y.2.2.2) ?_ ?_
    · rintro ⟨s6, s7, z1, b0⟩ hm
      unfold m61_2 at hm
      replace hm := bb_cases hm; rcases hm with ⟨h0, hm⟩ | ⟨h0, hm⟩
      · refine .ifT b0 (by kernel_rfl) h0 ?_
        refine .skip ?_
        refine .ghs (fr 41 [(0, (Sl.v 1 s6)), (1, (Sl.v 1 s7)), (5, (zI z1))]) (hp 0 []) (.k0 [] [] [0, 1, 5]) ?_
        refine .then ?_
        refine .block ?_
        refine .then ?_
        replace hm := oo_inv hm; obtain ⟨k1, h1, hm⟩ := hm
        obtain rfl := toN_some h1
        replace hm := bb_inv hm; obtain ⟨h2, hm⟩ := hm
        replace hm := oo_inv hm; obtain ⟨v0, h3, hm⟩ := hm
        replace hm := inv_toI hm; obtain ⟨x0, rfl, hm⟩ := hm
        replace hm := bb_inv hm; obtain ⟨h4, hm⟩ := hm
        replace hm := oo_inv hm; obtain ⟨v1, h5, hm⟩ := hm
        replace hm := inv_toI hm; obtain ⟨x1, rfl, hm⟩ := hm
        refine .reg (eC 2 (keep (hp 0 []) (bb (an (Nat.blt k1 (Sl.n s6)) true) (some (fpV (k1 * 1) (Sl.cs s6))) none)) (keep_bb h2) (eD (keep (hp 0 []) (nthL (Sl.cs s6) (k1 * 1))) (keep_eq h3) (eC 2 (keep (hp 0 []) (bb (an (Nat.blt k1 (Sl.n s7)) true) (some (fpV (k1 * 1) (Sl.cs s7))) none)) (keep_bb h4) (eD (keep (hp 0 []) (nthL (Sl.cs s7) (k1 * 1))) (keep_eq h5) (eE))))) ?_
        refine .ghs (fr 41 [(0, (Sl.v 1 s6)), (1, (Sl.v 1 s7)), (5, (zI (Int.ofNat k1))), (26, (zB (nt (ieq x0 x1))))]) (hp 0 []) (.k0 [] [] [0, 1, 5, 26]) ?_
        replace hm := bb_cases hm; rcases hm with ⟨h6, hm⟩ | ⟨h6, hm⟩
        · refine .ifT (nt (ieq x0 x1)) (by kernel_rfl) h6 ?_
          refine .then ?_
          replace hm := bb_inv hm; obtain ⟨h7, hm⟩ := hm
          replace hm := oo_inv hm; obtain ⟨v2, h8, hm⟩ := hm
          replace hm := inv_toI hm; obtain ⟨x2, rfl, hm⟩ := hm
          replace hm := bb_inv hm; obtain ⟨h9, hm⟩ := hm
          replace hm := oo_inv hm; obtain ⟨v3, h10, hm⟩ := hm
          replace hm := inv_toI hm; obtain ⟨x3, rfl, hm⟩ := hm
          refine .reg (eC 2 (keep (hp 0 []) (bb (an (Nat.blt k1 (Sl.n s6)) true) (some (fpV (k1 * 1) (Sl.cs s6))) none)) (keep_bb h7) (eD (keep (hp 0 []) (nthL (Sl.cs s6) (k1 * 1))) (keep_eq h8) (eC 2 (keep (hp 0 []) (bb (an (Nat.blt k1 (Sl.n s7)) true) (some (fpV (k1 * 1) (Sl.cs s7))) none)) (keep_bb h9) (eD (keep (hp 0 []) (nthL (Sl.cs s7) (k1 * 1))) (keep_eq h10) (eE))))) ?_
          refine .ghs (fr 41 [(4, (zB (ilt x2 x3)))]) (hp 0 []) (.k0 [] [] [4]) ?_
          refine .ret ?_
          exact fin_ret (zB (ilt x2 x3)) (by kernel_rfl) (by kernel_rfl) hm
        · refine .ifF (nt (ieq x0 x1)) (by kernel_rfl) h6 ?_
          refine .skip ?_
          refine .ghs (fr 41 [(0, (Sl.v 1 s6)), (1, (Sl.v 1 s7)), (5, (zI (Int.ofNat k1)))]) (hp 0 []) (.k0 [] [] [0, 1, 5]) ?_
          refine .rK ?_
          exact ⟨(s6, s7, (wrapF .i64 (Int.add (Int.ofNat k1) (1 : Int)))), hm, (.k0 [] [] [0, 1, 5])⟩
      · refine .ifF b0 (by kernel_rfl) h0 ?_
        refine .exit ?_
        exact ⟨(s6, s7), hm, (.k0 [] [] [0, 1])⟩
    · replace hm := bb_cases hm; rcases hm with ⟨h11, hm⟩ | ⟨h11, hm⟩
      · refine .reg (eC 3 (some ((zB (ilt z0 (Int.ofNat (Sl.n s4)))), (hp 0 []))) (show _ = some ((zB true), _) from (by rw [h11])) (eE)) ?_
        exact ⟨(s4, s5, z0, (ilt z0 (Int.ofNat (Sl.n s5)))), hm, (.k0 [] [] [0, 1, 5, 15])⟩
      · refine .reg (eC 3 (some ((zB (ilt z0 (Int.ofNat (Sl.n s4)))), (hp 0 []))) (show _ = some ((zB false), _) from (by rw [h11])) (eE)) ?_
        exact ⟨(s4, s5, z0, false), hm, (.k0 [] [] [0, 1, 5, 15])⟩

def m66_ (pu : PureF) (n : Nat) (x0 : Int) (x1 : Int) : Option Value :=
  (oo (pu 81 [(.int .i64 x0)]) none fun v0 => (oo (vBool v0) none fun b0 => (oo (pu 81 [(.int .i64 x1)]) none fun v1 => (oo (vBool v1) none fun b1 => (bb b0 (bb b1 (some (.int .i64 (0 : Int))) (some (.int .i64 (-1 : Int)))) (bb b1 (some (.int .i64 (1 : Int))) (bb (ilt x0 x1) (some (.int .i64 (-1 : Int))) (bb (ilt x1 x0) (some (.int .i64 (1 : Int))) (some (.int .i64 (0 : Int)))))))))))
def m66 (pu : PureF) (n : Nat) (args : List Value) : Option Value :=
  (ll args none fun a0 args => (ll args none fun a1 args => (ll args (oo (toI .i64 a0) none fun x0 => (oo (toI .i64 a1) none fun x1 => (m66_ pu n x0 x1))) fun _ _ => none)))
theorem r66 {call : CallF} (pu : PureF) (n : Nat) (hcall : call = callP tabs isP pu (inl pu)) {args : List Value} {v : Value} (hm : m66 pu n args = some v) (_ : ∀ x ∈ args, closed2 x = true) : args.length ≤ 20 ∧ Run tt call 0 c66_37 (Fr.made 20 args) (pureHeap tabs) (Fin tt 0 [.tmp 4] v) := by
  subst hcall
  unfold m66 at hm
  replace hm := ll_uncons hm; obtain ⟨a0, args_0, rfl, hm⟩ := hm
  replace hm := ll_uncons hm; obtain ⟨a1, args_1, rfl, hm⟩ := hm
  replace hm := ll_end hm; obtain ⟨rfl, hm⟩ := hm
  replace hm := inv_toI hm; obtain ⟨x0, rfl, hm⟩ := hm
  replace hm := inv_toI hm; obtain ⟨x1, rfl, hm⟩ := hm
  unfold m66_ at hm
  refine ⟨by simp, ?_⟩
  refine .same (F' := (fr 20 [(0, (zI x0)), (1, (zI x1))])) (H' := (hp 0 [])) (by kernel_rfl) (by kernel_rfl) ?_
  refine .then ?_
  refine .rK ?_
  refine .ghs (fr 20 [(0, (zI x0)), (1, (zI x1))]) (hp 0 []) (.k0 [] [] [0, 1]) ?_
  refine .then ?_
  replace hm := oo_inv hm; obtain ⟨v0, h0, hm⟩ := hm
  replace hm := inv_vBool hm; obtain ⟨b0, rfl, hm⟩ := hm
  refine .reg (eC 1 ((oo (pu 81 [(zI x0)]) none fun v => some (v, (hp 0 [])))) (call_eq h0) (eE)) ?_
  refine .ghs (fr 20 [(0, (zI x0)), (1, (zI x1)), (5, (zB b0))]) (hp 0 []) (.k0 [] [] [0, 1, 5]) ?_
  refine .then ?_
  replace hm := oo_inv hm; obtain ⟨v1, h1, hm⟩ := hm
  replace hm := inv_vBool hm; obtain ⟨b1, rfl, hm⟩ := hm
  refine .reg (eC 1 ((oo (pu 81 [(zI x1)]) none fun v => some (v, (hp 0 [])))) (call_eq h1) (eE)) ?_
  refine .ghs (fr 20 [(0, (zI x0)), (1, (zI x1)), (5, (zB b0)), (6, (zB b1))]) (hp 0 []) (.k0 [] [] [0, 1, 5, 6]) ?_
  refine .then ?_
  refine .then ?_
  refine .rK ?_
  refine .ghs (fr 20 [(0, (zI x0)), (1, (zI x1)), (6, (zB b1)), (11, (zB b0))]) (hp 0 []) (.k0 [] [] [0, 1, 6, 11]) ?_
  replace hm := bb_cases hm; rcases hm with ⟨h2, hm⟩ | ⟨h2, hm⟩
  · refine .ifT b0 (by kernel_rfl) h2 ?_
    refine .then ?_
    refine .then ?_
    refine .rK ?_
    refine .ghs (fr 20 [(12, (zB b1))]) (hp 0 []) (.k0 [] [] [12]) ?_
    replace hm := bb_cases hm; rcases hm with ⟨h3, hm⟩ | ⟨h3, hm⟩
    · refine .ifT b1 (by kernel_rfl) h3 ?_
      refine .then ?_
      refine .rK ?_
      refine .ghs (fr 20 [(4, (zI (0 : Int)))]) (hp 0 []) (.k0 [] [] [4]) ?_
      refine .ret ?_
      exact fin_ret (zI (0 : Int)) (by kernel_rfl) (by kernel_rfl) hm
    · refine .ifF b1 (by kernel_rfl) h3 ?_
      refine .skip ?_
      refine .ghs (fr 20 []) (hp 0 []) (.k0 [] [] []) ?_
      refine .then ?_
      refine .rK ?_
      refine .ghs (fr 20 [(4, (zI (-1 : Int)))]) (hp 0 []) (.k0 [] [] [4]) ?_
      refine .ret ?_
      exact fin_ret (zI (-1 : Int)) (by kernel_rfl) (by kernel_rfl) hm
  · refine .ifF b0 (by kernel_rfl) h2 ?_
    refine .skip ?_
    refine .ghs (fr 20 [(0, (zI x0)), (1, (zI x1)), (6, (zB b1))]) (hp 0 []) (.k0 [] [] [0, 1, 6]) ?_
    refine .then ?_
    refine .then ?_
    refine .rK ?_
    refine .ghs (fr 20 [(0, (zI x0)), (1, (zI x1)), (13, (zB b1))]) (hp 0 []) (.k0 [] [] [0, 1, 13]) ?_
    replace hm := bb_cases hm; rcases hm with ⟨h4, hm⟩ | ⟨h4, hm⟩
    · refine .ifT b1 (by kernel_rfl) h4 ?_
      refine .then ?_
      refine .rK ?_
      refine .ghs (fr 20 [(4, (zI (1 : Int)))]) (hp 0 []) (.k0 [] [] [4]) ?_
      refine .ret ?_
      exact fin_ret (zI (1 : Int)) (by kernel_rfl) (by kernel_rfl) hm
    · refine .ifF b1 (by kernel_rfl) h4 ?_
      refine .skip ?_
      refine .ghs (fr 20 [(0, (zI x0)), (1, (zI x1))]) (hp 0 []) (.k0 [] [] [0, 1]) ?_
      refine .then ?_
      refine .then ?_
      refine .rK ?_
      refine .ghs (fr 20 [(0, (zI x0)), (1, (zI x1)), (16, (zB (ilt x0 x1)))]) (hp 0 []) (.k0 [] [] [0, 1, 16]) ?_
      replace hm := bb_cases hm; rcases hm with ⟨h5, hm⟩ | ⟨h5, hm⟩
      · refine .ifT (ilt x0 x1) (by kernel_rfl) h5 ?_
        refine .then ?_
        refine .rK ?_
        refine .ghs (fr 20 [(4, (zI (-1 : Int)))]) (hp 0 []) (.k0 [] [] [4]) ?_
        refine .ret ?_
        exact fin_ret (zI (-1 : Int)) (by kernel_rfl) (by kernel_rfl) hm
      · refine .ifF (ilt x0 x1) (by kernel_rfl) h5 ?_
        refine .skip ?_
        refine .ghs (fr 20 [(0, (zI x0)), (1, (zI x1))]) (hp 0 []) (.k0 [] [] [0, 1]) ?_
        refine .then ?_
        refine .then ?_
        refine .rK ?_
        refine .ghs (fr 20 [(19, (zB (ilt x1 x0)))]) (hp 0 []) (.k0 [] [] [19]) ?_
        replace hm := bb_cases hm; rcases hm with ⟨h6, hm⟩ | ⟨h6, hm⟩
        · refine .ifT (ilt x1 x0) (by kernel_rfl) h6 ?_
          refine .then ?_
          refine .rK ?_
          refine .ghs (fr 20 [(4, (zI (1 : Int)))]) (hp 0 []) (.k0 [] [] [4]) ?_
          refine .ret ?_
          exact fin_ret (zI (1 : Int)) (by kernel_rfl) (by kernel_rfl) hm
        · refine .ifF (ilt x1 x0) (by kernel_rfl) h6 ?_
          refine .skip ?_
          refine .ghs (fr 20 []) (hp 0 []) (.k0 [] [] []) ?_
          refine .then ?_
          refine .rK ?_
          refine .ghs (fr 20 [(4, (zI (0 : Int)))]) (hp 0 []) (.k0 [] [] [4]) ?_
          refine .ret ?_
          exact fin_ret (zI (0 : Int)) (by kernel_rfl) (by kernel_rfl) hm

def m81_ (pu : PureF) (n : Nat) (x0 : Int) : Option Value :=
  (some (.bool (nt (ieq x0 x0))))
def m81 (pu : PureF) (n : Nat) (args : List Value) : Option Value :=
  (ll args none fun a0 args => (ll args (oo (toI .i64 a0) none fun x0 => (m81_ pu n x0)) fun _ _ => none))
theorem r81 {call : CallF} (pu : PureF) (n : Nat) (hcall : call = callP tabs isP pu (inl pu)) {args : List Value} {v : Value} (hm : m81 pu n args = some v) (_ : ∀ x ∈ args, closed2 x = true) : args.length ≤ 6 ∧ Run tt call 0 c81_3 (Fr.made 6 args) (pureHeap tabs) (Fin tt 0 [.tmp 2] v) := by
  subst hcall
  unfold m81 at hm
  replace hm := ll_uncons hm; obtain ⟨a0, args_0, rfl, hm⟩ := hm
  replace hm := ll_end hm; obtain ⟨rfl, hm⟩ := hm
  replace hm := inv_toI hm; obtain ⟨x0, rfl, hm⟩ := hm
  unfold m81_ at hm
  refine ⟨by simp, ?_⟩
  refine .same (F' := (fr 6 [(0, (zI x0))])) (H' := (hp 0 [])) (by kernel_rfl) (by kernel_rfl) ?_
  refine .then ?_
  refine .rK ?_
  refine .ghs (fr 6 [(0, (zI x0))]) (hp 0 []) (.k0 [] [] [0]) ?_
  refine .then ?_
  refine .rK ?_
  refine .ghs (fr 6 [(2, (zB (nt (ieq x0 x0))))]) (hp 0 []) (.k0 [] [] [2]) ?_
  refine .ret ?_
  exact fin_ret (zB (nt (ieq x0 x0))) (by kernel_rfl) (by kernel_rfl) hm
end
end Go.HpQM
