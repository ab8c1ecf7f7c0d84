/- Models of the program's functions, and the proofs that runs give them: MADE BY PROGRAM (wip/tools/dec.py). -/
import Derived.Test.YtgddliaacoofiaaHpLMod1x
import Derived.Test.YtgddliaacoofiaaHpLMod2
import Derived.Test.YtgddliaacoofiaaHpLMod3

set_option maxRecDepth 100000
set_option maxHeartbeats 20000000
set_option linter.unusedVariables false
namespace Go.HpLM
open Go.Sp Go.HpL
noncomputable section
def m56_0 (pu : PureF) (n : Nat) : Option Value :=
  (some (.bool true))
def b56_1 (pu : PureF) (n : Nat) (ih0 : Sl → Sl → Int → Option Value) (s0 : Sl) (s1 : Sl) (z0 : Int) : Option Value :=
  (bb (ilt z0 (Int.ofNat (Sl.n s0))) (oo (toN z0) none fun k1 => (bb (an (Nat.blt k1 (Sl.n s0)) true) (oo (nthL (Sl.cs s0) (k1 * 1)) none fun v0 => (oo (toI .i64 v0) none fun x0 => (bb (an (Nat.blt k1 (Sl.n s1)) true) (oo (nthL (Sl.cs s1) (k1 * 1)) none fun v1 => (oo (toI .i64 v1) none fun x1 => (bb (nt (ieq x0 x1)) (some (.bool false)) (ih0 s0 s1 (wrapF .i64 (Int.add (Int.ofNat k1) (1 : Int))))))) none))) none)) (m56_0 pu n))
def l56_1 (pu : PureF) (n : Nat) (w : Nat) : Sl → Sl → Int → Option Value :=
  Nat.rec (motive := fun _ => Sl → Sl → Int → Option Value) (fun _ _ _ => none) (fun _ ih0 => b56_1 pu n ih0) w
def m56_ (pu : PureF) (n : Nat) (s0 : Sl) (s1 : Sl) : Option Value :=
  (bb (nt (ieq (Int.ofNat (Sl.n s0)) (Int.ofNat (Sl.n s1)))) (some (.bool false)) (l56_1 pu n n s0 s1 (0 : Int)))
def m56 (pu : PureF) (n : Nat) (args : List Value) : Option Value :=
  (ll args none fun a0 args => (ll args none fun a1 args => (ll args (oo (toSl 1 a0) none fun s0 => (oo (toSl 1 a1) none fun s1 => (m56_ pu n s0 s1))) fun _ _ => none)))
theorem w56_0 (pu : PureF) (n : Nat) {v : Value} (hm : m56_0 pu n = some v) : Run tt (callP tabs isP pu (inl pu)) 0 c56_23 (fr 26 []) (hp 0 []) (Fin tt 0 [.tmp 4] v) := by
  unfold m56_0 at hm
  refine .then ?_
  refine .rK ?_
  refine .ghs (fr 26 [(4, (zB true))]) (hp 0 []) (.k0 [] [] [4]) ?_
  refine .ret ?_
  exact fin_ret (zB true) (by kernel_rfl) (by kernel_rfl) hm
theorem r56 {call : CallF} (pu : PureF) (n : Nat) (hcall : call = callP tabs isP pu (inl pu)) {args : List Value} {v : Value} (hm : m56 pu n args = some v) (_ : ∀ x ∈ args, closed2 x = true) : args.length ≤ 26 ∧ Run tt call 0 c56_26 (Fr.made 26 args) (pureHeap tabs) (Fin tt 0 [.tmp 4] v) := by
  subst hcall
  unfold m56 at hm
  replace hm := ll_uncons hm; obtain ⟨a0, args_0, rfl, hm⟩ := hm
  replace hm := ll_uncons hm; obtain ⟨a1, args_1, rfl, hm⟩ := hm
  replace hm := ll_end hm; obtain ⟨rfl, hm⟩ := hm
  replace hm := inv_toSl hm; obtain ⟨s0, rfl, hm⟩ := hm
  replace hm := inv_toSl hm; obtain ⟨s1, rfl, hm⟩ := hm
  unfold m56_ at hm
  refine ⟨by simp, ?_⟩
  refine .same (F' := (fr 26 [(0, (Sl.v 1 s0)), (1, (Sl.v 1 s1))])) (H' := (hp 0 [])) (by kernel_rfl) (by kernel_rfl) ?_
  refine .then ?_
  refine .rK ?_
  refine .ghs (fr 26 [(0, (Sl.v 1 s0)), (1, (Sl.v 1 s1))]) (hp 0 []) (.k0 [] [] [0, 1]) ?_
  refine .then ?_
  refine .then ?_
  refine .rK ?_
  refine .ghs (fr 26 [(0, (Sl.v 1 s0)), (1, (Sl.v 1 s1)), (10, (zB (nt (ieq (Int.ofNat (Sl.n s0)) (Int.ofNat (Sl.n s1))))))]) (hp 0 []) (.k0 [] [] [0, 1, 10]) ?_
  replace hm := bb_cases hm; rcases hm with ⟨h0, hm⟩ | ⟨h0, hm⟩
  · refine .ifT (nt (ieq (Int.ofNat (Sl.n s0)) (Int.ofNat (Sl.n s1)))) (by kernel_rfl) h0 ?_
    refine .then ?_
    refine .rK ?_
    refine .ghs (fr 26 [(4, (zB false))]) (hp 0 []) (.k0 [] [] [4]) ?_
    refine .ret ?_
    exact fin_ret (zB false) (by kernel_rfl) (by kernel_rfl) hm
  · refine .ifF (nt (ieq (Int.ofNat (Sl.n s0)) (Int.ofNat (Sl.n s1)))) (by kernel_rfl) h0 ?_
    refine .skip ?_
    refine .ghs (fr 26 [(0, (Sl.v 1 s0)), (1, (Sl.v 1 s1))]) (hp 0 []) (.k0 [] [] [0, 1]) ?_
    refine .join (v := v) (fun y : Unit => ((fr 26 []), (hp 0 []))) (fun y => m56_0 pu n) ?_ ?_
    · rintro _ hm
      exact w56_0 pu n hm
    · refine .then ?_
      refine .rK ?_
      refine .ghs (fr 26 [(0, (Sl.v 1 s0)), (1, (Sl.v 1 s1)), (5, (zI (0 : Int)))]) (hp 0 []) (.k0 [] [] [0, 1, 5]) ?_
      refine .block ?_
      refine .loopM (v := v) (fun y : Sl × Sl × Int => ((fr 26 [(0, (Sl.v 1 y.1)), (1, (Sl.v 1 y.2.1)), (5, (zI y.2.2))]), (hp 0 []))) (fun w y => l56_1 pu n w y.1 y.2.1 y.2.2) n ⟨(s0, s1, (0 : Int)), hm, (.k0 [] [] [0, 1, 5])⟩ (fun _ => rfl) ?_
      rintro w0 ⟨s2, s3, z0⟩ hm
      replace hm : b56_1 pu n (l56_1 pu n w0) s2 s3 z0 = some v := hm
      unfold b56_1 at hm
      refine .then ?_
      refine .then ?_
      refine .rK ?_
      refine .ghs (fr 26 [(0, (Sl.v 1 s2)), (1, (Sl.v 1 s3)), (5, (zI z0)), (14, (zB (ilt z0 (Int.ofNat (Sl.n s2)))))]) (hp 0 []) (.k0 [] [] [0, 1, 5, 14]) ?_
      replace hm := bb_cases hm; rcases hm with ⟨h1, hm⟩ | ⟨h1, hm⟩
      · refine .ifT (ilt z0 (Int.ofNat (Sl.n s2))) (by kernel_rfl) h1 ?_
        refine .skip ?_
        refine .ghs (fr 26 [(0, (Sl.v 1 s2)), (1, (Sl.v 1 s3)), (5, (zI z0))]) (hp 0 []) (.k0 [] [] [0, 1, 5]) ?_
        refine .then ?_
        refine .block ?_
        refine .then ?_
        replace hm := oo_inv hm; obtain ⟨k1, h2, hm⟩ := hm
        obtain rfl := toN_some h2
        replace hm := bb_inv hm; obtain ⟨h3, hm⟩ := hm
        replace hm := oo_inv hm; obtain ⟨v0, h4, hm⟩ := hm
        replace hm := inv_toI hm; obtain ⟨x0, rfl, hm⟩ := hm
        replace hm := bb_inv hm; obtain ⟨h5, hm⟩ := hm
        replace hm := oo_inv hm; obtain ⟨v1, h6, hm⟩ := hm
        replace hm := inv_toI hm; obtain ⟨x1, rfl, hm⟩ := hm
        refine .reg (eC 2 (keep (hp 0 []) (bb (an (Nat.blt k1 (Sl.n s2)) true) (some (fpV (k1 * 1) (Sl.cs s2))) none)) (keep_bb h3) (eD (keep (hp 0 []) (nthL (Sl.cs s2) (k1 * 1))) (keep_eq h4) (eC 2 (keep (hp 0 []) (bb (an (Nat.blt k1 (Sl.n s3)) true) (some (fpV (k1 * 1) (Sl.cs s3))) none)) (keep_bb h5) (eD (keep (hp 0 []) (nthL (Sl.cs s3) (k1 * 1))) (keep_eq h6) (eE))))) ?_
        refine .ghs (fr 26 [(0, (Sl.v 1 s2)), (1, (Sl.v 1 s3)), (5, (zI (Int.ofNat k1))), (25, (zB (nt (ieq x0 x1))))]) (hp 0 []) (.k0 [] [] [0, 1, 5, 25]) ?_
        replace hm := bb_cases hm; rcases hm with ⟨h7, hm⟩ | ⟨h7, hm⟩
        · refine .ifT (nt (ieq x0 x1)) (by kernel_rfl) h7 ?_
          refine .then ?_
          refine .rK ?_
          refine .ghs (fr 26 [(4, (zB false))]) (hp 0 []) (.k0 [] [] [4]) ?_
          refine .ret ?_
          exact fin_ret (zB false) (by kernel_rfl) (by kernel_rfl) hm
        · refine .ifF (nt (ieq x0 x1)) (by kernel_rfl) h7 ?_
          refine .skip ?_
          refine .ghs (fr 26 [(0, (Sl.v 1 s2)), (1, (Sl.v 1 s3)), (5, (zI (Int.ofNat k1)))]) (hp 0 []) (.k0 [] [] [0, 1, 5]) ?_
          refine .rK ?_
          exact ⟨(s2, s3, (wrapF .i64 (Int.add (Int.ofNat k1) (1 : Int)))), hm, (.k0 [] [] [0, 1, 5])⟩
      · refine .ifF (ilt z0 (Int.ofNat (Sl.n s2))) (by kernel_rfl) h1 ?_
        refine .exit ?_
        exact ⟨(), hm, (.k0 [] [] [])⟩
def m58_0 (pu : PureF) (n : Nat) (s0 : Sl) (z0 : Int) : Option Value :=
  (some (.tuple ⟨[(.int .i64 z0), (Sl.v 1 s0)]⟩))
def b58_1 (pu : PureF) (n : Nat) (ih0 : Sl → Int → Option Value) (s0 : Sl) (z0 : Int) : Option Value :=
  (oo (pu 51 [(Sl.v 1 s0)]) none fun v0 => (oo (vBool v0) none fun b0 => (bb (nt b0) (oo (pu 45 [(Sl.v 1 s0)]) none fun v1 => (oo (toSl 1 v1) none fun s1 => (ih0 s1 (wrapF .i64 (Int.add z0 (1 : Int)))))) (m58_0 pu n s0 z0))))
def l58_1 (pu : PureF) (n : Nat) (w : Nat) : Sl → Int → Option Value :=
  Nat.rec (motive := fun _ => Sl → Int → Option Value) (fun _ _ => none) (fun _ ih0 => b58_1 pu n ih0) w
def m58_ (pu : PureF) (n : Nat) (s0 : Sl) : Option Value :=
  (l58_1 pu n n s0 (0 : Int))
def m58 (pu : PureF) (n : Nat) (args : List Value) : Option Value :=
  (ll args none fun a0 args => (ll args (oo (toSl 1 a0) none fun s0 => (m58_ pu n s0)) fun _ _ => none))
theorem w58_0 (pu : PureF) (n : Nat) (s0 : Sl) (z0 : Int) {v : Value} (hm : m58_0 pu n s0 z0 = some v) : Run tt (callP tabs isP pu (inl pu)) 0 c58_13 (fr 14 [(0, (Sl.v 1 s0)), (4, (zI z0))]) (hp 0 []) (Fin tt 0 [.tmp 2, .tmp 3] v) := by
  unfold m58_0 at hm
  refine .then ?_
  refine .rK ?_
  refine .ghs (fr 14 [(2, (zI z0)), (3, (Sl.v 1 s0))]) (hp 0 []) (.k0 [] [] [2, 3]) ?_
  refine .ret ?_
  exact fin_ret (.tuple ⟨[(zI z0), (Sl.v 1 s0)]⟩) (by kernel_rfl) (by kernel_rfl) hm
theorem r58 {call : CallF} (pu : PureF) (n : Nat) (hcall : call = callP tabs isP pu (inl pu)) {args : List Value} {v : Value} (hm : m58 pu n args = some v) (_ : ∀ x ∈ args, closed2 x = true) : args.length ≤ 14 ∧ Run tt call 0 c58_16 (Fr.made 14 args) (pureHeap tabs) (Fin tt 0 [.tmp 2, .tmp 3] v) := by
  subst hcall
  unfold m58 at hm
  replace hm := ll_uncons hm; obtain ⟨a0, args_0, rfl, hm⟩ := hm
  replace hm := ll_end hm; obtain ⟨rfl, hm⟩ := hm
  replace hm := inv_toSl hm; obtain ⟨s0, rfl, hm⟩ := hm
  unfold m58_ at hm
  refine ⟨by simp, ?_⟩
  refine .same (F' := (fr 14 [(0, (Sl.v 1 s0))])) (H' := (hp 0 [])) (by kernel_rfl) (by kernel_rfl) ?_
  refine .then ?_
  refine .rK ?_
  refine .ghs (fr 14 [(0, (Sl.v 1 s0))]) (hp 0 []) (.k0 [] [] [0]) ?_
  refine .then ?_
  refine .rK ?_
  refine .ghs (fr 14 [(0, (Sl.v 1 s0)), (4, (zI (0 : Int)))]) (hp 0 []) (.k0 [] [] [0, 4]) ?_
  refine .join (v := v) (fun y : Sl × Int => ((fr 14 [(0, (Sl.v 1 y.1)), (4, (zI y.2))]), (hp 0 []))) (fun y => m58_0 pu n y.1 y.2) ?_ ?_
  · rintro ⟨s1, z0⟩ hm
    exact w58_0 pu n s1 z0 hm
  · refine .block ?_
    refine .loopM (v := v) (fun y : Sl × Int => ((fr 14 [(0, (Sl.v 1 y.1)), (4, (zI y.2))]), (hp 0 []))) (fun w y => l58_1 pu n w y.1 y.2) n ⟨(s0, (0 : Int)), hm, (.k0 [] [] [0, 4])⟩ (fun _ => rfl) ?_
    rintro w0 ⟨s2, z1⟩ hm
    replace hm : b58_1 pu n (l58_1 pu n w0) s2 z1 = some v := hm
    unfold b58_1 at hm
    refine .then ?_
    refine .then ?_
    replace hm := oo_inv hm; obtain ⟨v0, h0, hm⟩ := hm
    replace hm := inv_vBool hm; obtain ⟨b0, rfl, hm⟩ := hm
    refine .reg (eC 1 ((oo (pu 51 [(Sl.v 1 s2)]) none fun v => some (v, (hp 0 [])))) (call_eq h0) (eE)) ?_
    refine .ghs (fr 14 [(0, (Sl.v 1 s2)), (4, (zI z1)), (7, (zB (nt b0)))]) (hp 0 []) (.k0 [] [] [0, 4, 7]) ?_
    replace hm := bb_cases hm; rcases hm with ⟨h1, hm⟩ | ⟨h1, hm⟩
    · refine .ifT (nt b0) (by kernel_rfl) h1 ?_
      refine .skip ?_
      refine .ghs (fr 14 [(0, (Sl.v 1 s2)), (4, (zI z1))]) (hp 0 []) (.k0 [] [] [0, 4]) ?_
      refine .block ?_
      refine .then ?_
      replace hm := oo_inv hm; obtain ⟨v1, h2, hm⟩ := hm
      replace hm := inv_toSl hm; obtain ⟨s3, rfl, hm⟩ := hm
      refine .reg (eC 1 ((oo (pu 45 [(Sl.v 1 s2)]) none fun v => some (v, (hp 0 [])))) (call_eq h2) (eE)) ?_
      refine .ghs (fr 14 [(0, (Sl.v 1 s3)), (4, (zI z1))]) (hp 0 []) (.k0 [] [] [0, 4]) ?_
      refine .rK ?_
      exact ⟨(s3, (wrapF .i64 (Int.add z1 (1 : Int)))), hm, (.k0 [] [] [0, 4])⟩
    · refine .ifF (nt b0) (by kernel_rfl) h1 ?_
      refine .exit ?_
      exact ⟨(s2, z1), hm, (.k0 [] [] [0, 4])⟩
def m53_0 (pu : PureF) (n : Nat) (n0 : Nat) (c0 : Nat) (q0 : List Value) : Option Value :=
  (bb (orr (Nat.ble 2 c0) (nilL q0)) (bb (allL closed1 q0) (oo (pu 10770 [(.slice (some ⟨0, 0, some 1⟩) n0 c0), (.func (.func 68) ⟨[]⟩ ⟨[]⟩), (.agg ⟨q0⟩)]) none fun v0 => (oo (vTup v0) none fun l0 => (ll l0 none fun v1 l0 => (ll l0 none fun v2 l0 => (ll l0 (bb (isNoV v1) (oo (vAgg v2) none fun q1 => (bb (allL closed1 q1) (bb (allL closed1 q1) (bb (an (Nat.ble (0 + n0 * 1) (len q1)) (allL closed1 (takeL (n0 * 1) (dropL 0 q1)))) (some (Sl.v 1 (Sl.mk n0 0 (takeL (n0 * 1) (dropL 0 q1))))) none) none) none)) none) fun _ _ => none))))) none) none)
def m53_2 (pu : PureF) (n : Nat) (ih0 : Int → Nat → Nat → Int → List Value → List Value → Option Value) (z0 : Int) (n0 : Nat) (c0 : Nat) (z1 : Int) (q0 : List Value) (q1 : List Value) : Option Value :=
  (bb (allL closed1 q0) (bb (allL closed1 q1) (ih0 z0 n0 c0 (wrapF .i64 (Int.add z1 (1 : Int))) q0 q1) none) none)
def b53_1 (pu : PureF) (n : Nat) (ih0 : Int → Nat → Nat → Int → List Value → List Value → Option Value) (z0 : Int) (n0 : Nat) (c0 : Nat) (z1 : Int) (q0 : List Value) (q1 : List Value) : Option Value :=
  (bb (allL closed1 q0) (bb (allL closed1 q1) (bb (nt (ilt (21 : Int) z1)) (oo (toN z1) none fun k1 => (bb (Nat.blt k1 22) (oo (nthL q0 (0 + k1 * 1)) none fun v0 => (oo (toI .i64 v0) none fun x0 => (bb (ieq x0 (0 : Int)) (m53_2 pu n ih0 z0 n0 c0 (Int.ofNat k1) q0 q1) (bb (Nat.ble (0 + 22) (len q0)) (bb (Nat.beq (len (takeL 22 (dropL 0 q0))) 22) (bb (an (Nat.ble (0 + len (takeL 22 (dropL 0 q0))) (len zA54)) (allL scalarB (takeL 22 (dropL 0 q0)))) (bb (allL closed1 (setL (takeL 22 (dropL 0 q0)) 0 zA54)) (bb (Nat.blt k1 22) (oo (nthL (setL (takeL 22 (dropL 0 q0)) 0 zA54) (0 + k1 * 1)) none fun v1 => (oo (toI .i64 v1) none fun x1 => (bb (Nat.blt k1 22) (bb (an (Nat.ble ((0 + k1 * 1) + 1) (len (setL (takeL 22 (dropL 0 q0)) 0 zA54))) true) (bb (allL closed1 (setL ([(.int .i64 (wrapF .i64 (Int.sub x1 (1 : Int))))] : List Value) (0 + k1 * 1) (setL (takeL 22 (dropL 0 q0)) 0 zA54))) (bb (allL closed1 zA54) (bb (Nat.ble (0 + 22 * 1) (len zA54)) (bb (Nat.ble (0 + 22 * 1) (len (setL ([(.int .i64 (wrapF .i64 (Int.sub x1 (1 : Int))))] : List Value) (0 + k1 * 1) (setL (takeL 22 (dropL 0 q0)) 0 zA54)))) (bb (Nat.ble (1 + 20 * 1) (len (setL ([(.int .i64 (wrapF .i64 (Int.sub x1 (1 : Int))))] : List Value) (0 + k1 * 1) (setL (takeL 22 (dropL 0 q0)) 0 zA54)))) (bb (an (Nat.ble (2 + len (takeL (20 * 1) (dropL 1 (setL ([(.int .i64 (wrapF .i64 (Int.sub x1 (1 : Int))))] : List Value) (0 + k1 * 1) (setL (takeL 22 (dropL 0 q0)) 0 zA54))))) (len zA54)) (allL scalarB (takeL (20 * 1) (dropL 1 (setL ([(.int .i64 (wrapF .i64 (Int.sub x1 (1 : Int))))] : List Value) (0 + k1 * 1) (setL (takeL 22 (dropL 0 q0)) 0 zA54)))))) (bb (allL closed1 (setL (takeL (20 * 1) (dropL 1 (setL ([(.int .i64 (wrapF .i64 (Int.sub x1 (1 : Int))))] : List Value) (0 + k1 * 1) (setL (takeL 22 (dropL 0 q0)) 0 zA54)))) 2 zA54)) (bb (an (Nat.ble (1 + 1) (len (setL (takeL (20 * 1) (dropL 1 (setL ([(.int .i64 (wrapF .i64 (Int.sub x1 (1 : Int))))] : List Value) (0 + k1 * 1) (setL (takeL 22 (dropL 0 q0)) 0 zA54)))) 2 zA54))) true) (bb (allL closed1 (setL ([(.int .i64 (wrapF .i64 (Int.sub (Int.ofNat k1) z0)))] : List Value) 1 (setL (takeL (20 * 1) (dropL 1 (setL ([(.int .i64 (wrapF .i64 (Int.sub x1 (1 : Int))))] : List Value) (0 + k1 * 1) (setL (takeL 22 (dropL 0 q0)) 0 zA54)))) 2 zA54))) (bb (Nat.ble (0 + 22) (len (setL ([(.int .i64 (wrapF .i64 (Int.sub (Int.ofNat k1) z0)))] : List Value) 1 (setL (takeL (20 * 1) (dropL 1 (setL ([(.int .i64 (wrapF .i64 (Int.sub x1 (1 : Int))))] : List Value) (0 + k1 * 1) (setL (takeL 22 (dropL 0 q0)) 0 zA54)))) 2 zA54)))) (oo (pu 44 [(.agg ⟨(takeL 22 (dropL 0 (setL ([(.int .i64 (wrapF .i64 (Int.sub (Int.ofNat k1) z0)))] : List Value) 1 (setL (takeL (20 * 1) (dropL 1 (setL ([(.int .i64 (wrapF .i64 (Int.sub x1 (1 : Int))))] : List Value) (0 + k1 * 1) (setL (takeL 22 (dropL 0 q0)) 0 zA54)))) 2 zA54))))⟩)]) none fun v2 => (oo (toSl 1 v2) none fun s0 => (bb (allL closed2 [(.agg ⟨(takeL 22 (dropL 0 (setL ([(.int .i64 (wrapF .i64 (Int.sub (Int.ofNat k1) z0)))] : List Value) 1 (setL (takeL (20 * 1) (dropL 1 (setL ([(.int .i64 (wrapF .i64 (Int.sub x1 (1 : Int))))] : List Value) (0 + k1 * 1) (setL (takeL 22 (dropL 0 q0)) 0 zA54)))) 2 zA54))))⟩)]) (bb (an (Nat.ble (0 + (Sl.n s0) * 1) (len (Sl.cs s0))) (allL closed1 (takeL ((Sl.n s0) * 1) (dropL 0 (Sl.cs s0))))) (bb (growC 1 24 n0 c0 1 q1) (bb (allL closed1 (appL (dropL 0 q1) [(Sl.v 1 (Sl.mk (Sl.n s0) 0 (takeL ((Sl.n s0) * 1) (dropL 0 (Sl.cs s0)))))])) (m53_2 pu n ih0 z0 (n0 + 1) (2 * (n0 + 1) + bb false 1 0) (Int.ofNat k1) q0 (appL (dropL 0 q1) [(Sl.v 1 (Sl.mk (Sl.n s0) 0 (takeL ((Sl.n s0) * 1) (dropL 0 (Sl.cs s0)))))])) none) none) none) none))) none) none) none) none) none) none) none) none) none) none) none) none))) none) none) none) none) none)))) none)) (m53_0 pu n n0 c0 q1)) none) none)
def l53_1 (pu : PureF) (n : Nat) (w : Nat) : Int → Nat → Nat → Int → List Value → List Value → Option Value :=
  Nat.rec (motive := fun _ => Int → Nat → Nat → Int → List Value → List Value → Option Value) (fun _ _ _ _ _ _ => none) (fun _ ih0 => b53_1 pu n ih0) w
def m53_ (pu : PureF) (n : Nat) (q0 : List Value) : Option Value :=
  (bb (allL closed1 q0) (bb (Nat.ble (0 + 22) (len q0)) (oo (pu 74 [(.agg ⟨(takeL 22 (dropL 0 q0))⟩)]) none fun v0 => (oo (toI .i64 v0) none fun x0 => (bb (allL closed2 [(.agg ⟨(takeL 22 (dropL 0 q0))⟩)]) (l53_1 pu n n (wrapF .i64 (Int.sub x0 (1 : Int))) 0 0 (bb (ilt (wrapF .i64 (Int.sub x0 (1 : Int))) (1 : Int)) (1 : Int) (wrapF .i64 (Int.sub x0 (1 : Int)))) q0 ([] : List Value)) none))) none) none)
def m53 (pu : PureF) (n : Nat) (args : List Value) : Option Value :=
  (ll args none fun a0 args => (ll args (oo (vAgg a0) none fun q0 => (bb (an (Nat.beq (len q0) 22) (allL closed1 q0)) (m53_ pu n q0) none)) fun _ _ => none))
theorem w53_0 (pu : PureF) (n : Nat) (n0 : Nat) (c0 : Nat) (q0 : List Value) {v : Value} (hm : m53_0 pu n n0 c0 q0 = some v) : Run tt (callP tabs isP pu (inl pu)) 0 c53_32 (fr 42 [(4, (sc 0 0 1 n0 c0))]) (hp 1 [(oC q0)]) (Fin tt 0 [.tmp 2] v) := by
  unfold m53_0 at hm
  refine .then ?_
  replace hm := bb_inv hm; obtain ⟨h0, hm⟩ := hm
  replace hm := bb_inv hm; obtain ⟨h1, hm⟩ := hm
  replace hm := oo_inv hm; obtain ⟨v0, h2, hm⟩ := hm
  replace hm := inv_vTup hm; obtain ⟨l0, rfl, hm⟩ := hm
  replace hm := ll_uncons hm; obtain ⟨v1, l229112_0, rfl, hm⟩ := hm
  replace hm := ll_uncons hm; obtain ⟨v2, l229112_1, rfl, hm⟩ := hm
  replace hm := ll_end hm; obtain ⟨rfl, hm⟩ := hm
  replace hm := bb_inv hm; obtain ⟨h3, hm⟩ := hm
  obtain rfl := isNoV_ok h3
  replace hm := inv_vAgg hm; obtain ⟨q1, rfl, hm⟩ := hm
  replace hm := bb_inv hm; obtain ⟨h4, hm⟩ := hm
  refine .reg (eC 1 (objG tabs [[none], [none]] 2 [.tmp 0 false] [false] (pu 10770) [(sc 0 0 1 n0 c0), (.func (.func 68) ⟨[]⟩ ⟨[]⟩)] (hp 1 [(oC q0)])) (objG_eq (as := [(sc 0 0 1 n0 c0), (.func (.func 68) ⟨[]⟩ ⟨[]⟩)]) (H1 := (hp 1 [(oC q0)])) (gvAL_c (gvA_1 gv_n) (gvAL_c (gvA_1 gv_n) gvAL_n)) (objF_eq (H2 := (hp 1 [(oC q1)])) (v := (.tuple ⟨[]⟩)) (v' := (.tuple ⟨[]⟩)) [some 0] [(false, some 0)] [(oC q0)] [(sc 0 0 1 n0 c0), (.func (.func 68) ⟨[]⟩ ⟨[]⟩)] [(.agg ⟨q1⟩)] [(oC q1)] [some 0] [(false, (oC q1))] [(oC q1)] (trE (by kernel_rfl) (rootL h0 rfl)) (mapO_c (nO_list (anc := []) h1) mapO_n) (Eq.trans (by kernel_rfl) h2) (mapO_c rfl mapO_n) (mapO_c (bO_list h4) mapO_n))) (eE)) ?_
  replace hm := bb_inv hm; obtain ⟨h5, hm⟩ := hm
  refine .ghs (fr 42 [(4, (sc 0 0 1 n0 c0))]) (hp 1 [(oC q1)]) (.k [0] [] [.tmp 4 false] [4] ⟨trE (by kernel_rfl) h5, trivial⟩) ?_
  refine .then ?_
  refine .rK ?_
  refine .ghs (fr 42 [(2, (sc 0 0 1 n0 c0))]) (hp 1 [(oC q1)]) (.k [0] [] [.tmp 2 false] [2] ⟨trE (by kernel_rfl) h5, trivial⟩) ?_
  replace hm := bb_inv hm; obtain ⟨h6, hm⟩ := hm
  refine .ghs (Fr.puts (fr 42 [(2, (sc 0 0 1 n0 c0))]) [(2, (Sl.v 1 (Sl.mk n0 0 (takeL (n0 * 1) (dropL 0 q1)))))]) (hp 1 [.dead]) (.freezeC 0 2 1 (an (Nat.ble (0 + n0 * 1) (len q1)) (allL closed1 (takeL (n0 * 1) (dropL 0 q1)))) (F1 := (Fr.puts (fr 42 [(2, (sc 0 0 1 n0 c0))]) [(2, (Sl.v 1 (Sl.mk n0 0 (takeL (n0 * 1) (dropL 0 q1)))))])) (H1 := (hp 1 [.dead])) (by kernel_rfl) (by kernel_rfl) h6 (GhS.id _ _)) ?_
  refine .ret ?_
  exact fin_ret (Sl.v 1 (Sl.mk n0 0 (takeL (n0 * 1) (dropL 0 q1)))) (by kernel_rfl) (by kernel_rfl) hm
theorem r53 {call : CallF} (pu : PureF) (n : Nat) (hcall : call = callP tabs isP pu (inl pu)) {args : List Value} {v : Value} (hm : m53 pu n args = some v) (_ : ∀ x ∈ args, closed2 x = true) : args.length ≤ 42 ∧ Run tt call 0 c53_36 (Fr.made 42 args) (pureHeap tabs) (Fin tt 0 [.tmp 2] v) := by
  subst hcall
  unfold m53 at hm
  replace hm := ll_uncons hm; obtain ⟨a0, args_0, rfl, hm⟩ := hm
  replace hm := ll_end hm; obtain ⟨rfl, hm⟩ := hm
  replace hm := inv_vAgg hm; obtain ⟨q0, rfl, hm⟩ := hm
  replace hm := bb_inv hm; obtain ⟨h0, hm⟩ := hm
  unfold m53_ at hm
  refine ⟨by simp, ?_⟩
  refine .same (F' := (fr 42 [(0, (.agg ⟨q0⟩))])) (H' := (hp 0 [])) (by kernel_rfl) (by kernel_rfl) ?_
  refine .then ?_
  refine .rK ?_
  replace hm := bb_inv hm; obtain ⟨h1, hm⟩ := hm
  refine .ghs (fr 42 [(1, (pt 0 0))]) (hp 1 [(oC q0)]) (.k [0] [] [.tmp 1 false] [1] ⟨trE (by kernel_rfl) h1, trivial⟩) ?_
  refine .then ?_
  replace hm := bb_inv hm; obtain ⟨h2, hm⟩ := hm
  replace hm := oo_inv hm; obtain ⟨v0, h3, hm⟩ := hm
  replace hm := inv_toI hm; obtain ⟨x0, rfl, hm⟩ := hm
  replace hm := bb_inv hm; obtain ⟨h4, hm⟩ := hm
  refine .reg (eD (keep (hp 1 [(oC q0)]) (bb (Nat.ble (0 + 22) (len q0)) (some (.agg ⟨(takeL 22 (dropL 0 q0))⟩)) none)) (keep_bb h2) (eD (bb (allL closed2 [(.agg ⟨(takeL 22 (dropL 0 q0))⟩)]) (oo (pu 74 [(.agg ⟨(takeL 22 (dropL 0 q0))⟩)]) none fun v => some (v, (hp 1 [(oC q0)]))) (oo (mapO (purify (hp 1 [(oC q0)])) [(.agg ⟨(takeL 22 (dropL 0 q0))⟩)]) none fun l1 => oo (pu 74 l1) none fun v => bb (plainT v) (some (v, (hp 1 [(oC q0)]))) none)) (callc_eq h4 h3) (eE))) ?_
  refine .ghs (fr 42 [(1, (pt 0 0)), (3, (zI (wrapF .i64 (Int.sub x0 (1 : Int)))))]) (hp 1 [(oC q0)]) (.k [0] [] [.tmp 1 false] [1, 3] ⟨trE (by kernel_rfl) h1, trivial⟩) ?_
  refine .then ?_
  refine .rK ?_
  refine .ghs (fr 42 [(1, (pt 0 0)), (3, (zI (wrapF .i64 (Int.sub x0 (1 : Int))))), (4, (.slice none 0 0))]) (hp 1 [(oC q0)]) (.k [0] [] [.tmp 1 false] [1, 3, 4] ⟨trE (by kernel_rfl) h1, trivial⟩) ?_
  refine .join (v := v) (fun y : Nat × Nat × List Value => ((fr 42 [(4, (sc 0 0 1 y.1 y.2.1))]), (hp 1 [(oC y.2.2)]))) (fun y => m53_0 pu n y.1 y.2.1 y.2.2) ?_ ?_
  · rintro ⟨n0, c0, q1⟩ hm
    exact w53_0 pu n n0 c0 q1 hm
  · refine .then ?_
    refine .rK ?_
    refine .ghs (fr 42 [(1, (pt 0 0)), (3, (zI (wrapF .i64 (Int.sub x0 (1 : Int))))), (4, (.slice none 0 0)), (5, (zI (bb (ilt (wrapF .i64 (Int.sub x0 (1 : Int))) (1 : Int)) (1 : Int) (wrapF .i64 (Int.sub x0 (1 : Int))))))]) (hp 1 [(oC q0)]) (.k [0] [] [.tmp 1 false] [1, 3, 4, 5] ⟨trE (by kernel_rfl) h1, trivial⟩) ?_
    refine .block ?_
    refine .loopM (v := v) (fun y : Int × Nat × Nat × Int × List Value × List Value => ((fr 42 [(1, (pt 0 0)), (3, (zI y.1)), (4, (sc 1 0 1 y.2.1 y.2.2.1)), (5, (zI y.2.2.2.1))]), (hp 2 [(oC y.2.2.2.2.1), (oC y.2.2.2.2.2)]))) (fun w y => l53_1 pu n w y.1 y.2.1 y.2.2.1 y.2.2.2.1 y.2.2.2.2.1 y.2.2.2.2.2) n ⟨((wrapF .i64 (Int.sub x0 (1 : Int))), 0, 0, (bb (ilt (wrapF .i64 (Int.sub x0 (1 : Int))) (1 : Int)) (1 : Int) (wrapF .i64 (Int.sub x0 (1 : Int)))), q0, ([] : List Value)), hm, (.thaw 4 1 (by kernel_rfl) (.k [0] [] [.tmp 1 false, .tmp 4 false] [1, 3, 4, 5] ⟨trE (by kernel_rfl) h1, trivial⟩))⟩ (fun _ => rfl) ?_
    rintro w0 ⟨z0, n1, c1, z1, q2, q3⟩ hm
    replace hm : b53_1 pu n (l53_1 pu n w0) z0 n1 c1 z1 q2 q3 = some v := hm
    unfold b53_1 at hm
    refine .then ?_
    refine .then ?_
    refine .rK ?_
    replace hm := bb_inv hm; obtain ⟨h5, hm⟩ := hm
    replace hm := bb_inv hm; obtain ⟨h6, hm⟩ := hm
    refine .ghs (fr 42 [(1, (pt 0 0)), (3, (zI z0)), (4, (sc 1 0 1 n1 c1)), (5, (zI z1)), (14, (zB (nt (ilt (21 : Int) z1))))]) (hp 2 [(oC q2), (oC q3)]) (.k [0, 1] [] [.tmp 1 false, .tmp 4 false] [1, 3, 4, 5, 14] ⟨trE (by kernel_rfl) h5, trE (by kernel_rfl) h6, trivial⟩) ?_
    replace hm := bb_cases hm; rcases hm with ⟨h7, hm⟩ | ⟨h7, hm⟩
    · refine .ifT (nt (ilt (21 : Int) z1)) (by kernel_rfl) h7 ?_
      refine .skip ?_
      refine .ghs (fr 42 [(1, (pt 0 0)), (3, (zI z0)), (4, (sc 1 0 1 n1 c1)), (5, (zI z1))]) (hp 2 [(oC q2), (oC q3)]) (.k [0, 1] [] [.tmp 1 false, .tmp 4 false] [1, 3, 4, 5] ⟨trE (by kernel_rfl) h5, trE (by kernel_rfl) h6, trivial⟩) ?_
      refine .join (v := v) (fun y : Int × Nat × Nat × Int × List Value × List Value => ((fr 42 [(1, (pt 0 0)), (3, (zI y.1)), (4, (sc 1 0 1 y.2.1 y.2.2.1)), (5, (zI y.2.2.2.1))]), (hp 2 [(oC y.2.2.2.2.1), (oC y.2.2.2.2.2)]))) (fun y => m53_2 pu n (l53_1 pu n w0) y.1 y.2.1 y.2.2.1 y.2.2.2.1 y.2.2.2.2.1 y.2.2.2.2.2) ?_ ?_
      · rintro ⟨z2, n2, c2, z3, q4, q5⟩ hm
        unfold m53_2 at hm
        refine .rK ?_
        replace hm := bb_inv hm; obtain ⟨h8, hm⟩ := hm
        replace hm := bb_inv hm; obtain ⟨h9, hm⟩ := hm
        exact ⟨(z2, n2, c2, (wrapF .i64 (Int.add z3 (1 : Int))), q4, q5), hm, (.k [0, 1] [] [.tmp 1 false, .tmp 4 false] [1, 3, 4, 5] ⟨trE (by kernel_rfl) h8, trE (by kernel_rfl) h9, trivial⟩)⟩
      · refine .block ?_
        refine .then ?_
        refine .then ?_
        replace hm := oo_inv hm; obtain ⟨k1, h10, hm⟩ := hm
        obtain rfl := toN_some h10
        replace hm := bb_inv hm; obtain ⟨h11, hm⟩ := hm
        replace hm := oo_inv hm; obtain ⟨v1, h12, hm⟩ := hm
        replace hm := inv_toI hm; obtain ⟨x1, rfl, hm⟩ := hm
        refine .reg (eC 1 (keep (hp 2 [(oC q2), (oC q3)]) (bb (Nat.blt k1 22) (some (.pointer (some ⟨0, (0 + k1 * 1), none⟩))) none)) (keep_bb h11) (eD (keep (hp 2 [(oC q2), (oC q3)]) (nthL q2 (0 + k1 * 1))) (keep_eq h12) (eE))) ?_
        refine .ghs (fr 42 [(1, (pt 0 0)), (3, (zI z0)), (4, (sc 1 0 1 n1 c1)), (5, (zI (Int.ofNat k1))), (20, (zB (ieq x1 (0 : Int))))]) (hp 2 [(oC q2), (oC q3)]) (.k [0, 1] [] [.tmp 1 false, .tmp 4 false] [1, 3, 4, 5, 20] ⟨trE (by kernel_rfl) h5, trE (by kernel_rfl) h6, trivial⟩) ?_
        replace hm := bb_cases hm; rcases hm with ⟨h13, hm⟩ | ⟨h13, hm⟩
        · refine .ifT (ieq x1 (0 : Int)) (by kernel_rfl) h13 ?_
          refine .exit ?_
          exact ⟨(z0, n1, c1, (Int.ofNat k1), q2, q3), hm, (.k [0, 1] [] [.tmp 1 false, .tmp 4 false] [1, 3, 4, 5] ⟨trE (by kernel_rfl) h5, trE (by kernel_rfl) h6, trivial⟩)⟩
        · refine .ifF (ieq x1 (0 : Int)) (by kernel_rfl) h13 ?_
          refine .skip ?_
          refine .ghs (fr 42 [(1, (pt 0 0)), (3, (zI z0)), (4, (sc 1 0 1 n1 c1)), (5, (zI (Int.ofNat k1)))]) (hp 2 [(oC q2), (oC q3)]) (.k [0, 1] [] [.tmp 1 false, .tmp 4 false] [1, 3, 4, 5] ⟨trE (by kernel_rfl) h5, trE (by kernel_rfl) h6, trivial⟩) ?_
          refine .then ?_
          replace hm := bb_inv hm; obtain ⟨h14, hm⟩ := hm
          replace hm := bb_inv hm; obtain ⟨h15, hm⟩ := hm
          replace hm := bb_inv hm; obtain ⟨h16, hm⟩ := hm
          refine .reg (eD (keep (hp 2 [(oC q2), (oC q3)]) (bb (Nat.ble (0 + 22) (len q2)) (some (.agg ⟨(takeL 22 (dropL 0 q2))⟩)) none)) (keep_bb h14) (eC 1 (done (bb (Nat.beq (len (takeL 22 (dropL 0 q2))) 22) (bb (an (Nat.ble (0 + len (takeL 22 (dropL 0 q2))) (len zA54)) (allL scalarB (takeL 22 (dropL 0 q2)))) (some (hp 3 [(oC q2), (oC q3), (oC (setL (takeL 22 (dropL 0 q2)) 0 zA54))])) none) none) undef) (done_bb2 h15 h16) (eE))) ?_
          replace hm := bb_inv hm; obtain ⟨h17, hm⟩ := hm
          refine .ghs (fr 42 [(1, (pt 0 0)), (3, (zI z0)), (4, (sc 1 0 1 n1 c1)), (5, (zI (Int.ofNat k1))), (6, (pt 2 0))]) (hp 3 [(oC q2), (oC q3), (oC (setL (takeL 22 (dropL 0 q2)) 0 zA54))]) (.k [0, 1, 2] [] [.tmp 1 false, .tmp 4 false, .tmp 6 false] [1, 3, 4, 5, 6] ⟨trE (by kernel_rfl) h5, trE (by kernel_rfl) h6, trE (by kernel_rfl) h17, trivial⟩) ?_
          refine .then ?_
          replace hm := bb_inv hm; obtain ⟨h18, hm⟩ := hm
          replace hm := oo_inv hm; obtain ⟨v2, h19, hm⟩ := hm
          replace hm := inv_toI hm; obtain ⟨x2, rfl, hm⟩ := hm
          replace hm := bb_inv hm; obtain ⟨h20, hm⟩ := hm
          replace hm := bb_inv hm; obtain ⟨h21, hm⟩ := hm
          refine .reg (eC 1 (keep (hp 3 [(oC q2), (oC q3), (oC (setL (takeL 22 (dropL 0 q2)) 0 zA54))]) (bb (Nat.blt k1 22) (some (.pointer (some ⟨2, (0 + k1 * 1), none⟩))) none)) (keep_bb h18) (eD (keep (hp 3 [(oC q2), (oC q3), (oC (setL (takeL 22 (dropL 0 q2)) 0 zA54))]) (nthL (setL (takeL 22 (dropL 0 q2)) 0 zA54) (0 + k1 * 1))) (keep_eq h19) (eC 1 (keep (hp 3 [(oC q2), (oC q3), (oC (setL (takeL 22 (dropL 0 q2)) 0 zA54))]) (bb (Nat.blt k1 22) (some (.pointer (some ⟨2, (0 + k1 * 1), none⟩))) none)) (keep_bb h20) (eD (done (bb (an (Nat.ble ((0 + k1 * 1) + 1) (len (setL (takeL 22 (dropL 0 q2)) 0 zA54))) true) (some (hp 3 [(oC q2), (oC q3), (oC (setL ([(zI (wrapF .i64 (Int.sub x2 (1 : Int))))] : List Value) (0 + k1 * 1) (setL (takeL 22 (dropL 0 q2)) 0 zA54)))])) none) undef) (done_bb h21) (eE))))) ?_
          replace hm := bb_inv hm; obtain ⟨h22, hm⟩ := hm
          refine .ghs (fr 42 [(1, (pt 0 0)), (3, (zI z0)), (4, (sc 1 0 1 n1 c1)), (5, (zI (Int.ofNat k1))), (6, (pt 2 0))]) (hp 3 [(oC q2), (oC q3), (oC (setL ([(zI (wrapF .i64 (Int.sub x2 (1 : Int))))] : List Value) (0 + k1 * 1) (setL (takeL 22 (dropL 0 q2)) 0 zA54)))]) (.k [0, 1, 2] [] [.tmp 1 false, .tmp 4 false, .tmp 6 false] [1, 3, 4, 5, 6] ⟨trE (by kernel_rfl) h5, trE (by kernel_rfl) h6, trE (by kernel_rfl) h22, trivial⟩) ?_
          refine .then ?_
          refine .rK ?_
          replace hm := bb_inv hm; obtain ⟨h23, hm⟩ := hm
          refine .ghs (fr 42 [(1, (pt 0 0)), (3, (zI z0)), (4, (sc 1 0 1 n1 c1)), (5, (zI (Int.ofNat k1))), (6, (pt 2 0)), (7, (pt 3 0))]) (hp 4 [(oC q2), (oC q3), (oC (setL ([(zI (wrapF .i64 (Int.sub x2 (1 : Int))))] : List Value) (0 + k1 * 1) (setL (takeL 22 (dropL 0 q2)) 0 zA54))), (oC zA54)]) (.k [0, 1, 2, 3] [] [.tmp 1 false, .tmp 4 false, .tmp 6 false, .tmp 7 false] [1, 3, 4, 5, 6, 7] ⟨trE (by kernel_rfl) h5, trE (by kernel_rfl) h6, trE (by kernel_rfl) h22, trE (by kernel_rfl) h23, trivial⟩) ?_
          refine .then ?_
          replace hm := bb_inv hm; obtain ⟨h24, hm⟩ := hm
          replace hm := bb_inv hm; obtain ⟨h25, hm⟩ := hm
          replace hm := bb_inv hm; obtain ⟨h26, hm⟩ := hm
          replace hm := bb_inv hm; obtain ⟨h27, hm⟩ := hm
          refine .reg (eD (keep (hp 4 [(oC q2), (oC q3), (oC (setL ([(zI (wrapF .i64 (Int.sub x2 (1 : Int))))] : List Value) (0 + k1 * 1) (setL (takeL 22 (dropL 0 q2)) 0 zA54))), (oC zA54)]) (bb (Nat.ble (0 + 22 * 1) (len zA54)) (some (sc 3 2 1 20 41)) none)) (keep_bb h24) (eD (keep (hp 4 [(oC q2), (oC q3), (oC (setL ([(zI (wrapF .i64 (Int.sub x2 (1 : Int))))] : List Value) (0 + k1 * 1) (setL (takeL 22 (dropL 0 q2)) 0 zA54))), (oC zA54)]) (bb (Nat.ble (0 + 22 * 1) (len (setL ([(zI (wrapF .i64 (Int.sub x2 (1 : Int))))] : List Value) (0 + k1 * 1) (setL (takeL 22 (dropL 0 q2)) 0 zA54)))) (some (sc 2 1 1 21 43)) none)) (keep_bb h25) (eD (oo (bb (Nat.ble (1 + 20 * 1) (len (setL ([(zI (wrapF .i64 (Int.sub x2 (1 : Int))))] : List Value) (0 + k1 * 1) (setL (takeL 22 (dropL 0 q2)) 0 zA54)))) (some (takeL (20 * 1) (dropL 1 (setL ([(zI (wrapF .i64 (Int.sub x2 (1 : Int))))] : List Value) (0 + k1 * 1) (setL (takeL 22 (dropL 0 q2)) 0 zA54))))) none) none fun new => oo (bb (an (Nat.ble (2 + len new) (len zA54)) (allL scalarB new)) (some (hp 4 [(oC q2), (oC q3), (oC (setL ([(zI (wrapF .i64 (Int.sub x2 (1 : Int))))] : List Value) (0 + k1 * 1) (setL (takeL 22 (dropL 0 q2)) 0 zA54))), (oC (setL new 2 zA54))])) none) none fun H' => some ((zI (20 : Int)), H')) (copy_eq' (G := fun new => (hp 4 [(oC q2), (oC q3), (oC (setL ([(zI (wrapF .i64 (Int.sub x2 (1 : Int))))] : List Value) (0 + k1 * 1) (setL (takeL 22 (dropL 0 q2)) 0 zA54))), (oC (setL new 2 zA54))])) (E := fun new => (an (Nat.ble (2 + len new) (len zA54)) (allL scalarB new))) h26 rfl h27) (eE)))) ?_
          replace hm := bb_inv hm; obtain ⟨h28, hm⟩ := hm
          refine .ghs (fr 42 [(1, (pt 0 0)), (3, (zI z0)), (4, (sc 1 0 1 n1 c1)), (5, (zI (Int.ofNat k1))), (7, (pt 2 0))]) (hp 3 [(oC q2), (oC q3), (oC (setL (takeL (20 * 1) (dropL 1 (setL ([(zI (wrapF .i64 (Int.sub x2 (1 : Int))))] : List Value) (0 + k1 * 1) (setL (takeL 22 (dropL 0 q2)) 0 zA54)))) 2 zA54))]) (.k [0, 1, 3] [] [.tmp 1 false, .tmp 4 false, .tmp 7 false] [1, 3, 4, 5, 7] ⟨trE (by kernel_rfl) h5, trE (by kernel_rfl) h6, trE (by kernel_rfl) h28, trivial⟩) ?_
          refine .then ?_
          replace hm := bb_inv hm; obtain ⟨h29, hm⟩ := hm
          refine .reg (eC 4 (done (bb (an (Nat.ble (1 + 1) (len (setL (takeL (20 * 1) (dropL 1 (setL ([(zI (wrapF .i64 (Int.sub x2 (1 : Int))))] : List Value) (0 + k1 * 1) (setL (takeL 22 (dropL 0 q2)) 0 zA54)))) 2 zA54))) true) (some (hp 3 [(oC q2), (oC q3), (oC (setL ([(zI (wrapF .i64 (Int.sub (Int.ofNat k1) z0)))] : List Value) 1 (setL (takeL (20 * 1) (dropL 1 (setL ([(zI (wrapF .i64 (Int.sub x2 (1 : Int))))] : List Value) (0 + k1 * 1) (setL (takeL 22 (dropL 0 q2)) 0 zA54)))) 2 zA54)))])) none) undef) (done_bb h29) (eE)) ?_
          replace hm := bb_inv hm; obtain ⟨h30, hm⟩ := hm
          refine .ghs (fr 42 [(1, (pt 0 0)), (3, (zI z0)), (4, (sc 1 0 1 n1 c1)), (5, (zI (Int.ofNat k1))), (7, (pt 2 0))]) (hp 3 [(oC q2), (oC q3), (oC (setL ([(zI (wrapF .i64 (Int.sub (Int.ofNat k1) z0)))] : List Value) 1 (setL (takeL (20 * 1) (dropL 1 (setL ([(zI (wrapF .i64 (Int.sub x2 (1 : Int))))] : List Value) (0 + k1 * 1) (setL (takeL 22 (dropL 0 q2)) 0 zA54)))) 2 zA54)))]) (.k [0, 1, 2] [] [.tmp 1 false, .tmp 4 false, .tmp 7 false] [1, 3, 4, 5, 7] ⟨trE (by kernel_rfl) h5, trE (by kernel_rfl) h6, trE (by kernel_rfl) h30, trivial⟩) ?_
          replace hm := bb_inv hm; obtain ⟨h31, hm⟩ := hm
          replace hm := oo_inv hm; obtain ⟨v3, h32, hm⟩ := hm
          replace hm := inv_toSl hm; obtain ⟨s0, rfl, hm⟩ := hm
          replace hm := bb_inv hm; obtain ⟨h33, hm⟩ := hm
          replace hm := bb_inv hm; obtain ⟨h34, hm⟩ := hm
          replace hm := bb_inv hm; obtain ⟨h35, hm⟩ := hm
          refine .rG (OpsG.seg 3 (Fr.puts (fr 42 [(1, (pt 0 0)), (3, (zI z0)), (4, (sc 1 0 1 n1 c1)), (5, (zI (Int.ofNat k1))), (7, (pt 2 0))]) [(34, (sc 1 0 1 n1 c1)), (35, (.agg ⟨(takeL 22 (dropL 0 (setL ([(zI (wrapF .i64 (Int.sub (Int.ofNat k1) z0)))] : List Value) 1 (setL (takeL (20 * 1) (dropL 1 (setL ([(zI (wrapF .i64 (Int.sub x2 (1 : Int))))] : List Value) (0 + k1 * 1) (setL (takeL 22 (dropL 0 q2)) 0 zA54)))) 2 zA54))))⟩)), (36, (sc 3 0 1 (Sl.n s0) (d2 (Sl.n s0))))]) (hp 4 [(oC q2), (oC q3), (oC (setL ([(zI (wrapF .i64 (Int.sub (Int.ofNat k1) z0)))] : List Value) 1 (setL (takeL (20 * 1) (dropL 1 (setL ([(zI (wrapF .i64 (Int.sub x2 (1 : Int))))] : List Value) (0 + k1 * 1) (setL (takeL 22 (dropL 0 q2)) 0 zA54)))) 2 zA54))), (oC (Sl.cs s0))]) (eC 1 (keep (hp 3 [(oC q2), (oC q3), (oC (setL ([(zI (wrapF .i64 (Int.sub (Int.ofNat k1) z0)))] : List Value) 1 (setL (takeL (20 * 1) (dropL 1 (setL ([(zI (wrapF .i64 (Int.sub x2 (1 : Int))))] : List Value) (0 + k1 * 1) (setL (takeL 22 (dropL 0 q2)) 0 zA54)))) 2 zA54)))]) (bb (Nat.ble (0 + 22) (len (setL ([(zI (wrapF .i64 (Int.sub (Int.ofNat k1) z0)))] : List Value) 1 (setL (takeL (20 * 1) (dropL 1 (setL ([(zI (wrapF .i64 (Int.sub x2 (1 : Int))))] : List Value) (0 + k1 * 1) (setL (takeL 22 (dropL 0 q2)) 0 zA54)))) 2 zA54)))) (some (.agg ⟨(takeL 22 (dropL 0 (setL ([(zI (wrapF .i64 (Int.sub (Int.ofNat k1) z0)))] : List Value) 1 (setL (takeL (20 * 1) (dropL 1 (setL ([(zI (wrapF .i64 (Int.sub x2 (1 : Int))))] : List Value) (0 + k1 * 1) (setL (takeL 22 (dropL 0 q2)) 0 zA54)))) 2 zA54))))⟩)) none)) (keep_bb h31) (eD (bb (allL closed2 [(.agg ⟨(takeL 22 (dropL 0 (setL ([(zI (wrapF .i64 (Int.sub (Int.ofNat k1) z0)))] : List Value) 1 (setL (takeL (20 * 1) (dropL 1 (setL ([(zI (wrapF .i64 (Int.sub x2 (1 : Int))))] : List Value) (0 + k1 * 1) (setL (takeL 22 (dropL 0 q2)) 0 zA54)))) 2 zA54))))⟩)]) (oo (pu 44 [(.agg ⟨(takeL 22 (dropL 0 (setL ([(zI (wrapF .i64 (Int.sub (Int.ofNat k1) z0)))] : List Value) 1 (setL (takeL (20 * 1) (dropL 1 (setL ([(zI (wrapF .i64 (Int.sub x2 (1 : Int))))] : List Value) (0 + k1 * 1) (setL (takeL 22 (dropL 0 q2)) 0 zA54)))) 2 zA54))))⟩)]) none fun v => oo (toSl 1 v) none fun s => some (((sc 3 0 1 (Sl.n s) (d2 (Sl.n s))), (hp 4 [(oC q2), (oC q3), (oC (setL ([(zI (wrapF .i64 (Int.sub (Int.ofNat k1) z0)))] : List Value) 1 (setL (takeL (20 * 1) (dropL 1 (setL ([(zI (wrapF .i64 (Int.sub x2 (1 : Int))))] : List Value) (0 + k1 * 1) (setL (takeL 22 (dropL 0 q2)) 0 zA54)))) 2 zA54))), (oC (Sl.cs s))])) : Value × AHeap)) none) ((bb_true' h33).trans (live_eq (sz := 1) (k := fun s => (((sc 3 0 1 (Sl.n s) (d2 (Sl.n s))), (hp 4 [(oC q2), (oC q3), (oC (setL ([(zI (wrapF .i64 (Int.sub (Int.ofNat k1) z0)))] : List Value) 1 (setL (takeL (20 * 1) (dropL 1 (setL ([(zI (wrapF .i64 (Int.sub x2 (1 : Int))))] : List Value) (0 + k1 * 1) (setL (takeL 22 (dropL 0 q2)) 0 zA54)))) 2 zA54))), (oC (Sl.cs s))])) : Value × AHeap)) h32)) (by kernel_rfl))) (OpsG.ghs (Fr.puts (fr 42 [(1, (pt 0 0)), (3, (zI z0)), (4, (sc 1 0 1 n1 c1)), (5, (zI (Int.ofNat k1))), (7, (pt 2 0))]) [(34, (sc 1 0 1 n1 c1)), (35, (.agg ⟨(takeL 22 (dropL 0 (setL ([(zI (wrapF .i64 (Int.sub (Int.ofNat k1) z0)))] : List Value) 1 (setL (takeL (20 * 1) (dropL 1 (setL ([(zI (wrapF .i64 (Int.sub x2 (1 : Int))))] : List Value) (0 + k1 * 1) (setL (takeL 22 (dropL 0 q2)) 0 zA54)))) 2 zA54))))⟩)), (36, (Sl.v 1 (Sl.mk (Sl.n s0) 0 (takeL ((Sl.n s0) * 1) (dropL 0 (Sl.cs s0))))))]) (hp 4 [(oC q2), (oC q3), (oC (setL ([(zI (wrapF .i64 (Int.sub (Int.ofNat k1) z0)))] : List Value) 1 (setL (takeL (20 * 1) (dropL 1 (setL ([(zI (wrapF .i64 (Int.sub x2 (1 : Int))))] : List Value) (0 + k1 * 1) (setL (takeL 22 (dropL 0 q2)) 0 zA54)))) 2 zA54))), .dead]) (.freezeC 0 36 1 (an (Nat.ble (0 + (Sl.n s0) * 1) (len (Sl.cs s0))) (allL closed1 (takeL ((Sl.n s0) * 1) (dropL 0 (Sl.cs s0))))) (F1 := (Fr.puts (fr 42 [(1, (pt 0 0)), (3, (zI z0)), (4, (sc 1 0 1 n1 c1)), (5, (zI (Int.ofNat k1))), (7, (pt 2 0))]) [(34, (sc 1 0 1 n1 c1)), (35, (.agg ⟨(takeL 22 (dropL 0 (setL ([(zI (wrapF .i64 (Int.sub (Int.ofNat k1) z0)))] : List Value) 1 (setL (takeL (20 * 1) (dropL 1 (setL ([(zI (wrapF .i64 (Int.sub x2 (1 : Int))))] : List Value) (0 + k1 * 1) (setL (takeL 22 (dropL 0 q2)) 0 zA54)))) 2 zA54))))⟩)), (36, (Sl.v 1 (Sl.mk (Sl.n s0) 0 (takeL ((Sl.n s0) * 1) (dropL 0 (Sl.cs s0))))))])) (H1 := (hp 4 [(oC q2), (oC q3), (oC (setL ([(zI (wrapF .i64 (Int.sub (Int.ofNat k1) z0)))] : List Value) 1 (setL (takeL (20 * 1) (dropL 1 (setL ([(zI (wrapF .i64 (Int.sub x2 (1 : Int))))] : List Value) (0 + k1 * 1) (setL (takeL 22 (dropL 0 q2)) 0 zA54)))) 2 zA54))), .dead])) (by kernel_rfl) (by kernel_rfl) h34 (GhS.id _ _)) (OpsG.fin (eC 1 (growD 1 24 n1 c1 1 1 q3 [(Sl.v 1 (Sl.mk (Sl.n s0) 0 (takeL ((Sl.n s0) * 1) (dropL 0 (Sl.cs s0)))))] [] (hp 5 [(oC q2), (oC q3), (oC (setL ([(zI (wrapF .i64 (Int.sub (Int.ofNat k1) z0)))] : List Value) 1 (setL (takeL (20 * 1) (dropL 1 (setL ([(zI (wrapF .i64 (Int.sub x2 (1 : Int))))] : List Value) (0 + k1 * 1) (setL (takeL 22 (dropL 0 q2)) 0 zA54)))) 2 zA54))), .dead, (oC [(Sl.v 1 (Sl.mk (Sl.n s0) 0 (takeL ((Sl.n s0) * 1) (dropL 0 (Sl.cs s0)))))])])) (growD_eq h35) (eE))))) ?_
          replace hm := bb_inv hm; obtain ⟨h36, hm⟩ := hm
          exact ⟨(z0, (n1 + 1), (d2 (n1 + 1)), (Int.ofNat k1), q2, (appL (dropL 0 q3) [(Sl.v 1 (Sl.mk (Sl.n s0) 0 (takeL ((Sl.n s0) * 1) (dropL 0 (Sl.cs s0)))))])), hm, (.k [0, 5] [] [.tmp 1 false, .tmp 4 false] [1, 3, 4, 5] ⟨trE (by kernel_rfl) h5, trE (by kernel_rfl) h36, trivial⟩)⟩
    · refine .ifF (nt (ilt (21 : Int) z1)) (by kernel_rfl) h7 ?_
      refine .exit ?_
      exact ⟨(n1, c1, q3), hm, (.k [1] [] [.tmp 4 false] [4] ⟨trE (by kernel_rfl) h6, trivial⟩)⟩

def m81_ (pu : PureF) (n : Nat) (x0 : Int) : Option Value :=
  (oo (pu 97 [(.int .u64 x0)]) none fun v0 => (oo (toI .i64 v0) none fun x1 => (some (.int .i64 x1))))
def m81 (pu : PureF) (n : Nat) (args : List Value) : Option Value :=
  (ll args none fun a0 args => (ll args (oo (toI .u64 a0) none fun x0 => (m81_ pu n x0)) fun _ _ => none))
theorem r81 {call : CallF} (pu : PureF) (n : Nat) (hcall : call = callP tabs isP pu (inl pu)) {args : List Value} {v : Value} (hm : m81 pu n args = some v) (_ : ∀ x ∈ args, closed2 x = true) : args.length ≤ 8 ∧ Run tt call 0 c81_7 (Fr.made 8 args) (pureHeap tabs) (Fin tt 0 [.tmp 2] v) := by
  subst hcall
  unfold m81 at hm
  replace hm := ll_uncons hm; obtain ⟨a0, args_0, rfl, hm⟩ := hm
  replace hm := ll_end hm; obtain ⟨rfl, hm⟩ := hm
  replace hm := inv_toI hm; obtain ⟨x0, rfl, hm⟩ := hm
  unfold m81_ at hm
  refine ⟨by simp, ?_⟩
  refine .same (F' := (fr 8 [(0, (zU x0))])) (H' := (hp 0 [])) (by kernel_rfl) (by kernel_rfl) ?_
  refine .then ?_
  refine .rK ?_
  refine .ghs (fr 8 [(0, (zU x0))]) (hp 0 []) (.k0 [] [] [0]) ?_
  refine .then ?_
  refine .condF (by kernel_rfl) ?_
  refine .skip ?_
  refine .ghs (fr 8 [(0, (zU x0))]) (hp 0 []) (.k0 [] [] [0]) ?_
  refine .then ?_
  replace hm := oo_inv hm; obtain ⟨v0, h0, hm⟩ := hm
  replace hm := inv_toI hm; obtain ⟨x1, rfl, hm⟩ := hm
  refine .reg (eC 1 ((oo (pu 97 [(zU x0)]) none fun v => some (v, (hp 0 [])))) (call_eq h0) (eE)) ?_
  refine .ghs (fr 8 [(2, (zI x1))]) (hp 0 []) (.k0 [] [] [2]) ?_
  refine .ret ?_
  exact fin_ret (zI x1) (by kernel_rfl) (by kernel_rfl) hm
def m97_2 (pu : PureF) (n : Nat) (z0 : Int) (z1 : Int) : Option Value :=
  (oo (toN (wrapF .u8 z0)) none fun k1 => (oo (str0[k1]?) none fun c0 => (some (.int .i64 (wrapF .i64 (Int.add z1 (wrapF .i64 (Int.ofNat (UInt8.toNat c0)))))))))
def m97_1 (pu : PureF) (n : Nat) (z0 : Int) (z1 : Int) : Option Value :=
  (bb (nt (ilt z0 (256 : Int))) (m97_2 pu n (shrI .u64 z0 8) (wrapF .i64 (Int.add z1 (8 : Int)))) (m97_2 pu n z0 z1))
def m97_0 (pu : PureF) (n : Nat) (z0 : Int) (z1 : Int) : Option Value :=
  (bb (nt (ilt z0 (65536 : Int))) (m97_1 pu n (shrI .u64 z0 16) (wrapF .i64 (Int.add z1 (16 : Int)))) (m97_1 pu n z0 z1))
def m97_ (pu : PureF) (n : Nat) (x0 : Int) : Option Value :=
  (bb (nt (ilt x0 (4294967296 : Int))) (m97_0 pu n (shrI .u64 x0 32) (32 : Int)) (m97_0 pu n x0 (0 : Int)))
def m97 (pu : PureF) (n : Nat) (args : List Value) : Option Value :=
  (ll args none fun a0 args => (ll args (oo (toI .u64 a0) none fun x0 => (m97_ pu n x0)) fun _ _ => none))
theorem w97_2 (pu : PureF) (n : Nat) (z0 : Int) (z1 : Int) {v : Value} (hm : m97_2 pu n z0 z1 = some v) : Run tt (callP tabs isP pu (inl pu)) 0 c97_20 (fr 25 [(0, (zU z0)), (2, (zI z1))]) (hp 0 []) (Fin tt 0 [.tmp 2] v) := by
  unfold m97_2 at hm
  refine .then ?_
  replace hm := oo_inv hm; obtain ⟨k1, h0, hm⟩ := hm
  replace hm := oo_inv hm; obtain ⟨c0, h1, hm⟩ := hm
  refine .reg (eC 2 (some ((zY (wrapF .u8 z0)), (hp 0 []))) (show _ = some ((zY (Int.ofNat k1)), _) from (by rw [toN_some h0])) (eD (keep (hp 0 []) (oo (str0[k1]?) none fun b => iv .u8 (.ofNat b.toNat))) (ix_eq h1) (eE))) ?_
  refine .ghs (fr 25 [(2, (zI (wrapF .i64 (Int.add z1 (wrapF .i64 (Int.ofNat (UInt8.toNat c0)))))))]) (hp 0 []) (.k0 [] [] [2]) ?_
  refine .ret ?_
  exact fin_ret (zI (wrapF .i64 (Int.add z1 (wrapF .i64 (Int.ofNat (UInt8.toNat c0)))))) (by kernel_rfl) (by kernel_rfl) hm
theorem w97_1 (pu : PureF) (n : Nat) (z0 : Int) (z1 : Int) {v : Value} (hm : m97_1 pu n z0 z1 = some v) : Run tt (callP tabs isP pu (inl pu)) 0 c97_21 (fr 25 [(0, (zU z0)), (2, (zI z1))]) (hp 0 []) (Fin tt 0 [.tmp 2] v) := by
  unfold m97_1 at hm
  refine .join (v := v) (fun y : Int × Int => ((fr 25 [(0, (zU y.1)), (2, (zI y.2))]), (hp 0 []))) (fun y => m97_2 pu n y.1 y.2) ?_ ?_
  · rintro ⟨z2, z3⟩ hm
    exact w97_2 pu n z2 z3 hm
  · refine .then ?_
    refine .rK ?_
    refine .ghs (fr 25 [(0, (zU z0)), (2, (zI z1)), (14, (zB (nt (ilt z0 (256 : Int)))))]) (hp 0 []) (.k0 [] [] [0, 2, 14]) ?_
    replace hm := bb_cases hm; rcases hm with ⟨h0, hm⟩ | ⟨h0, hm⟩
    · refine .ifT (nt (ilt z0 (256 : Int))) (by kernel_rfl) h0 ?_
      refine .then ?_
      refine .rK ?_
      refine .ghs (fr 25 [(0, (zU (shrI .u64 z0 8))), (2, (zI z1))]) (hp 0 []) (.k0 [] [] [0, 2]) ?_
      refine .rK ?_
      exact ⟨((shrI .u64 z0 8), (wrapF .i64 (Int.add z1 (8 : Int)))), hm, (.k0 [] [] [0, 2])⟩
    · refine .ifF (nt (ilt z0 (256 : Int))) (by kernel_rfl) h0 ?_
      refine .skip ?_
      exact ⟨(z0, z1), hm, (.k0 [] [] [0, 2])⟩
theorem w97_0 (pu : PureF) (n : Nat) (z0 : Int) (z1 : Int) {v : Value} (hm : m97_0 pu n z0 z1 = some v) : Run tt (callP tabs isP pu (inl pu)) 0 c97_22 (fr 25 [(0, (zU z0)), (2, (zI z1))]) (hp 0 []) (Fin tt 0 [.tmp 2] v) := by
  unfold m97_0 at hm
  refine .join (v := v) (fun y : Int × Int => ((fr 25 [(0, (zU y.1)), (2, (zI y.2))]), (hp 0 []))) (fun y => m97_1 pu n y.1 y.2) ?_ ?_
  · rintro ⟨z2, z3⟩ hm
    exact w97_1 pu n z2 z3 hm
  · refine .then ?_
    refine .rK ?_
    refine .ghs (fr 25 [(0, (zU z0)), (2, (zI z1)), (8, (zB (nt (ilt z0 (65536 : Int)))))]) (hp 0 []) (.k0 [] [] [0, 2, 8]) ?_
    replace hm := bb_cases hm; rcases hm with ⟨h0, hm⟩ | ⟨h0, hm⟩
    · refine .ifT (nt (ilt z0 (65536 : Int))) (by kernel_rfl) h0 ?_
      refine .then ?_
      refine .rK ?_
      refine .ghs (fr 25 [(0, (zU (shrI .u64 z0 16))), (2, (zI z1))]) (hp 0 []) (.k0 [] [] [0, 2]) ?_
      refine .rK ?_
      exact ⟨((shrI .u64 z0 16), (wrapF .i64 (Int.add z1 (16 : Int)))), hm, (.k0 [] [] [0, 2])⟩
    · refine .ifF (nt (ilt z0 (65536 : Int))) (by kernel_rfl) h0 ?_
      refine .skip ?_
      exact ⟨(z0, z1), hm, (.k0 [] [] [0, 2])⟩
theorem r97 {call : CallF} (pu : PureF) (n : Nat) (hcall : call = callP tabs isP pu (inl pu)) {args : List Value} {v : Value} (hm : m97 pu n args = some v) (_ : ∀ x ∈ args, closed2 x = true) : args.length ≤ 25 ∧ Run tt call 0 c97_24 (Fr.made 25 args) (pureHeap tabs) (Fin tt 0 [.tmp 2] v) := by
  subst hcall
  unfold m97 at hm
  replace hm := ll_uncons hm; obtain ⟨a0, args_0, rfl, hm⟩ := hm
  replace hm := ll_end hm; obtain ⟨rfl, hm⟩ := hm
  replace hm := inv_toI hm; obtain ⟨x0, rfl, hm⟩ := hm
  unfold m97_ at hm
  refine ⟨by simp, ?_⟩
  refine .same (F' := (fr 25 [(0, (zU x0))])) (H' := (hp 0 [])) (by kernel_rfl) (by kernel_rfl) ?_
  refine .then ?_
  refine .rK ?_
  refine .ghs (fr 25 [(0, (zU x0)), (2, (zI (0 : Int)))]) (hp 0 []) (.k0 [] [] [0, 2]) ?_
  refine .join (v := v) (fun y : Int × Int => ((fr 25 [(0, (zU y.1)), (2, (zI y.2))]), (hp 0 []))) (fun y => m97_0 pu n y.1 y.2) ?_ ?_
  · rintro ⟨z0, z1⟩ hm
    exact w97_0 pu n z0 z1 hm
  · refine .then ?_
    refine .rK ?_
    refine .ghs (fr 25 [(0, (zU x0)), (2, (zI (0 : Int))), (4, (zB (nt (ilt x0 (4294967296 : Int)))))]) (hp 0 []) (.k0 [] [] [0, 2, 4]) ?_
    replace hm := bb_cases hm; rcases hm with ⟨h0, hm⟩ | ⟨h0, hm⟩
    · refine .ifT (nt (ilt x0 (4294967296 : Int))) (by kernel_rfl) h0 ?_
      refine .then ?_
      refine .rK ?_
      refine .ghs (fr 25 [(0, (zU (shrI .u64 x0 32)))]) (hp 0 []) (.k0 [] [] [0]) ?_
      refine .rK ?_
      exact ⟨((shrI .u64 x0 32), (32 : Int)), hm, (.k0 [] [] [0, 2])⟩
    · refine .ifF (nt (ilt x0 (4294967296 : Int))) (by kernel_rfl) h0 ?_
      refine .skip ?_
      exact ⟨(x0, (0 : Int)), hm, (.k0 [] [] [0, 2])⟩

def m10770_ (pu : PureF) (n : Nat) (n0 : Nat) (c0 : Nat) (q0 : List Value) : Option Value :=
  (bb (allL closed1 q0) (oo (pu 81 [(.int .u64 (wrapF .u64 (Int.ofNat n0)))]) none fun v0 => (oo (toI .i64 v0) none fun x0 => (bb (orr (Nat.ble 2 c0) (nilL q0)) (bb (allL closed1 q0) (oo (pu 10860 [(.slice (some ⟨0, 0, some 1⟩) n0 c0), (.int .i64 (0 : Int)), (.int .i64 (Int.ofNat n0)), (.int .i64 x0), (.func (.func 68) ⟨[]⟩ ⟨[]⟩), (.agg ⟨q0⟩)]) none fun v1 => (oo (vTup v1) none fun l0 => (ll l0 none fun v2 l0 => (ll l0 none fun v3 l0 => (ll l0 (bb (isNoV v2) (oo (vAgg v3) none fun q1 => (bb (allL closed1 q1) (bb (allL closed1 q1) (some (.tuple ⟨[(.tuple ⟨[]⟩), (.agg ⟨q1⟩)]⟩)) none) none)) none) fun _ _ => none))))) none) none))) none)
def m10770 (pu : PureF) (n : Nat) (args : List Value) : Option Value :=
  (ll args none fun a0 args => (ll args none fun a1 args => (ll args none fun o0 args => (ll args (oo (toSc 0 0 1 a0) none fun y0 => (oo (toFn 68 0 a1) none fun l0 => (ll l0 (oo (vAgg o0) none fun q0 => (m10770_ pu n (NC.n y0) (NC.c y0) q0)) fun _ _ => none))) fun _ _ => none))))
theorem q10770 (pu : PureF) (n : Nat) (n0 : Nat) (c0 : Nat) (q0 : List Value) {v : Value} (hm : m10770_ pu n n0 c0 q0 = some v) : Run tt (callP tabs isP pu (inl pu)) 1 c77_2 (fr 14 [(0, (sc 0 0 1 n0 c0)), (1, (.func (.func 68) ⟨[]⟩ ⟨[]⟩))]) (hp 1 [(oC q0)]) (FinO tt 0 1 [] v) := by
  unfold m10770_ at hm
  refine .then ?_
  refine .rK ?_
  replace hm := bb_inv hm; obtain ⟨h0, hm⟩ := hm
  refine .ghs (fr 14 [(0, (sc 0 0 1 n0 c0)), (1, (.func (.func 68) ⟨[]⟩ ⟨[]⟩)), (4, (zI (Int.ofNat n0)))]) (hp 1 [(oC q0)]) (.k [0] [false] [] [0, 1, 4] ⟨trE (by kernel_rfl) h0, trivial⟩) ?_
  replace hm := oo_inv hm; obtain ⟨v0, h1, hm⟩ := hm
  replace hm := inv_toI hm; obtain ⟨x0, rfl, hm⟩ := hm
  replace hm := bb_inv hm; obtain ⟨h2, hm⟩ := hm
  replace hm := bb_inv hm; obtain ⟨h3, hm⟩ := hm
  replace hm := oo_inv hm; obtain ⟨v1, h4, hm⟩ := hm
  replace hm := inv_vTup hm; obtain ⟨l0, rfl, hm⟩ := hm
  replace hm := ll_uncons hm; obtain ⟨v2, l229077_0, rfl, hm⟩ := hm
  replace hm := ll_uncons hm; obtain ⟨v3, l229077_1, rfl, hm⟩ := hm
  replace hm := ll_end hm; obtain ⟨rfl, hm⟩ := hm
  replace hm := bb_inv hm; obtain ⟨h5, hm⟩ := hm
  obtain rfl := isNoV_ok h5
  replace hm := inv_vAgg hm; obtain ⟨q1, rfl, hm⟩ := hm
  replace hm := bb_inv hm; obtain ⟨h6, hm⟩ := hm
  refine .reg (eC 4 ((oo (pu 81 [(zU (wrapF .u64 (Int.ofNat n0)))]) none fun v => some (v, (hp 1 [(oC q0)])))) (call_eq h1) (eC 1 (objG tabs [[none], [none], [none], [none], [none]] 5 [.tmp 0 false] [false] (pu 10860) [(sc 0 0 1 n0 c0), (zI (0 : Int)), (zI (Int.ofNat n0)), (zI x0), (.func (.func 68) ⟨[]⟩ ⟨[]⟩)] (hp 1 [(oC q0)])) (objG_eq (as := [(sc 0 0 1 n0 c0), (zI (0 : Int)), (zI (Int.ofNat n0)), (zI x0), (.func (.func 68) ⟨[]⟩ ⟨[]⟩)]) (H1 := (hp 1 [(oC q0)])) (gvAL_c (gvA_1 gv_n) (gvAL_c (gvA_1 gv_n) (gvAL_c (gvA_1 gv_n) (gvAL_c (gvA_1 gv_n) (gvAL_c (gvA_1 gv_n) gvAL_n))))) (objF_eq (H2 := (hp 1 [(oC q1)])) (v := (.tuple ⟨[]⟩)) (v' := (.tuple ⟨[]⟩)) [some 0] [(false, some 0)] [(oC q0)] [(sc 0 0 1 n0 c0), (zI (0 : Int)), (zI (Int.ofNat n0)), (zI x0), (.func (.func 68) ⟨[]⟩ ⟨[]⟩)] [(.agg ⟨q1⟩)] [(oC q1)] [some 0] [(false, (oC q1))] [(oC q1)] (trE (by kernel_rfl) (rootL h2 rfl)) (mapO_c (nO_list (anc := []) h3) mapO_n) (Eq.trans (by kernel_rfl) h4) (mapO_c rfl mapO_n) (mapO_c (bO_list h6) mapO_n))) (eE))) ?_
  replace hm := bb_inv hm; obtain ⟨h7, hm⟩ := hm
  refine .ghs (fr 14 []) (hp 1 [(oC q1)]) (.k [0] [false] [] [] ⟨trE (by kernel_rfl) h7, trivial⟩) ?_
  exact finO_end (.tuple ⟨[]⟩) [(oC q1)] (by kernel_rfl) hm (Nat.le_of_ble_eq_true rfl) (ooAt_cons (pO_c _) ooAt_nil)
theorem r10770 {call : CallF} (pu : PureF) (n : Nat) (hcall : call = callP tabs isP pu (inl pu)) {args : List Value} {os : List AObj} {z : Value} (ha : args.length = 2) (hk : os.length = 1) (hpl : ∀ o ∈ os, plainO o) (hm : m10770 pu n (args ++ os.map encO) = some z) : args.length ≤ 14 ∧ Run tt call (tabs.length + 1) c77_2 (Fr.made 14 args) (subHeap tabs os) (FinO tt tabs.length 1 [] z) := by
  subst hcall
  have hq := len_cons ha; clear ha; obtain ⟨a0, args, rfl, ha⟩ := hq
  have hq := len_cons ha; clear ha; obtain ⟨a1, args, rfl, ha⟩ := hq
  obtain rfl := len_nil ha
  have hq := len_cons hk; clear hk; obtain ⟨b0, os, rfl, hk⟩ := hq
  have hp0 : plainO b0 := hpl b0 (by simp)
  obtain rfl := len_nil hk
  replace hm : m10770 pu n [a0, a1, encO b0] = some z := hm
  unfold m10770 at hm
  replace hm : (oo (toSc 0 0 1 a0) none fun y0 => (oo (toFn 68 0 a1) none fun l0 => (ll l0 (oo (vAgg (encO b0)) none fun q0 => (m10770_ pu n (NC.n y0) (NC.c y0) q0)) fun _ _ => none))) = some z := hm
  replace hm := oo_inv hm; obtain ⟨y0, h0, hm⟩ := hm
  obtain rfl := toSc_some h0
  replace hm := oo_inv hm; obtain ⟨l0, h1, hm⟩ := hm
  obtain rfl := toFn_some h1
  replace hm := ll_end hm; obtain ⟨rfl, hm⟩ := hm
  replace hm := oo_inv hm; obtain ⟨q0, h2, hm⟩ := hm
  obtain rfl := vAgg_enc hp0 h2
  refine ⟨by simp, ?_⟩
  exact .same (F' := (fr 14 [(0, (sc 0 0 1 (NC.n y0) (NC.c y0))), (1, (.func (.func 68) ⟨[]⟩ ⟨[]⟩))])) (H' := (hp 1 [(oC q0)])) (by kernel_rfl) (by kernel_rfl) (q10770 pu n (NC.n y0) (NC.c y0) q0 hm)
def m10860_1 (pu : PureF) (n : Nat) (ih0 : Nat → Nat → Int → Int → Int → Bool → Bool → List Value → Option Value) (n0 : Nat) (c0 : Nat) (z0 : Int) (z1 : Int) (z2 : Int) (b0 : Bool) (b1 : Bool) (z3 : Int) (q0 : List Value) : Option Value :=
  none
def b10860_0 (pu : PureF) (n : Nat) (ih0 : Nat → Nat → Int → Int → Int → Bool → Bool → List Value → Option Value) (n0 : Nat) (c0 : Nat) (z0 : Int) (z1 : Int) (z2 : Int) (b0 : Bool) (b1 : Bool) (q0 : List Value) : Option Value :=
  (bb (allL closed1 q0) (bb (nt (ilt (12 : Int) (wrapF .i64 (Int.sub z1 z0)))) (bb (orr (Nat.ble 2 c0) (nilL q0)) (bb (allL closed1 q0) (oo (pu 11100 [(.slice (some ⟨0, 0, some 1⟩) n0 c0), (.int .i64 z0), (.int .i64 z1), (.func (.func 68) ⟨[]⟩ ⟨[]⟩), (.agg ⟨q0⟩)]) none fun v0 => (oo (vTup v0) none fun l0 => (ll l0 none fun v1 l0 => (ll l0 none fun v2 l0 => (ll l0 (bb (isNoV v1) (oo (vAgg v2) none fun q1 => (bb (allL closed1 q1) (bb (allL closed1 q1) (some (.tuple ⟨[(.tuple ⟨[]⟩), (.agg ⟨q1⟩)]⟩)) none) none)) none) fun _ _ => none))))) none) none) (bb (ieq z2 (0 : Int)) none (bb (nt b0) none (m10860_1 pu n ih0 n0 c0 z0 z1 z2 b0 b1 (wrapF .i64 (Int.sub z1 z0)) q0)))) none)
def l10860_0 (pu : PureF) (n : Nat) (w : Nat) : Nat → Nat → Int → Int → Int → Bool → Bool → List Value → Option Value :=
  Nat.rec (motive := fun _ => Nat → Nat → Int → Int → Int → Bool → Bool → List Value → Option Value) (fun _ _ _ _ _ _ _ _ => none) (fun _ ih0 => b10860_0 pu n ih0) w
def m10860_ (pu : PureF) (n : Nat) (n0 : Nat) (c0 : Nat) (z0 : Int) (z1 : Int) (z2 : Int) (q0 : List Value) : Option Value :=
  (bb (allL closed1 q0) (l10860_0 pu n n n0 c0 z0 z1 z2 true true q0) none)
def m10860 (pu : PureF) (n : Nat) (args : List Value) : Option Value :=
  (ll args none fun a0 args => (ll args none fun a1 args => (ll args none fun a2 args => (ll args none fun a3 args => (ll args none fun a4 args => (ll args none fun o0 args => (ll args (oo (toSc 0 0 1 a0) none fun y0 => (oo (toI .i64 a1) none fun x0 => (oo (toI .i64 a2) none fun x1 => (oo (toI .i64 a3) none fun x2 => (oo (toFn 68 0 a4) none fun l0 => (ll l0 (oo (vAgg o0) none fun q0 => (m10860_ pu n (NC.n y0) (NC.c y0) x0 x1 x2 q0)) fun _ _ => none)))))) fun _ _ => none)))))))
theorem q10860 (pu : PureF) (n : Nat) (n0 : Nat) (c0 : Nat) (z0 : Int) (z1 : Int) (z2 : Int) (q0 : List Value) {v : Value} (hm : m10860_ pu n n0 c0 z0 z1 z2 q0 = some v) : Run tt (callP tabs isP pu (inl pu)) 1 c86_74 (fr 148 [(0, (sc 0 0 1 n0 c0)), (1, (zI z0)), (2, (zI z1)), (3, (zI z2)), (4, (.func (.func 68) ⟨[]⟩ ⟨[]⟩))]) (hp 1 [(oC q0)]) (FinO tt 0 1 [] v) := by
  unfold m10860_ at hm
  refine .then ?_
  refine .rK ?_
  replace hm := bb_inv hm; obtain ⟨h0, hm⟩ := hm
  refine .ghs (fr 148 [(0, (sc 0 0 1 n0 c0)), (1, (zI z0)), (2, (zI z1)), (3, (zI z2)), (4, (.func (.func 68) ⟨[]⟩ ⟨[]⟩)), (10, (zB true))]) (hp 1 [(oC q0)]) (.k [0] [false] [] [0, 1, 2, 3, 4, 10] ⟨trE (by kernel_rfl) h0, trivial⟩) ?_
  refine .then ?_
  refine .rK ?_
  refine .ghs (fr 148 [(0, (sc 0 0 1 n0 c0)), (1, (zI z0)), (2, (zI z1)), (3, (zI z2)), (4, (.func (.func 68) ⟨[]⟩ ⟨[]⟩)), (10, (zB true)), (11, (zB true))]) (hp 1 [(oC q0)]) (.k [0] [false] [] [0, 1, 2, 3, 4, 10, 11] ⟨trE (by kernel_rfl) h0, trivial⟩) ?_
  refine .block ?_
  refine .loopM (v := v) (fun y : Nat × Nat × Int × Int × Int × Bool × Bool × List Value => ((fr 148 [(0, (sc 0 0 1 y.1 y.2.1)), (1, (zI y.2.2.1)), (2, (zI y.2.2.2.1)), (3, (zI y.2.2.2.2.1)), (4, (.func (.func 68) ⟨[]⟩ ⟨[]⟩)), (10, (zB y.2.2.2.2.2.1)), (11, (zB y.2.2.2.2.2.2.1))]), (hp 1 [(oC y.2.2.2.2.2.2.2)]))) (fun w y => l10860_0 pu n w y.1 y.2.1 y.2.2.1 y.2.2.2.1 y.2.2.2.2.1 y.2.2.2.2.2.1 y.2.2.2.2.2.2.1 y.2.2.2.2.2.2.2) n ⟨(n0, c0, z0, z1, z2, true, true, q0), hm, (.k [0] [false] [] [0, 1, 2, 3, 4, 10, 11] ⟨trE (by kernel_rfl) h0, trivial⟩)⟩ (fun _ => rfl) ?_
  rintro w0 ⟨n1, c1, z3, z4, z5, b0, b1, q1⟩ hm
  replace hm : b10860_0 pu n (l10860_0 pu n w0) n1 c1 z3 z4 z5 b0 b1 q1 = some v := hm
  unfold b10860_0 at hm
  refine .block ?_
  refine .then ?_
  refine .rK ?_
  replace hm := bb_inv hm; obtain ⟨h1, hm⟩ := hm
  refine .ghs (fr 148 [(0, (sc 0 0 1 n1 c1)), (1, (zI z3)), (2, (zI z4)), (3, (zI z5)), (4, (.func (.func 68) ⟨[]⟩ ⟨[]⟩)), (10, (zB b0)), (11, (zB b1)), (12, (zI (wrapF .i64 (Int.sub z4 z3))))]) (hp 1 [(oC q1)]) (.k [0] [false] [] [0, 1, 2, 3, 4, 10, 11, 12] ⟨trE (by kernel_rfl) h1, trivial⟩) ?_
  refine .then ?_
  refine .then ?_
  refine .rK ?_
  refine .ghs (fr 148 [(0, (sc 0 0 1 n1 c1)), (1, (zI z3)), (2, (zI z4)), (3, (zI z5)), (4, (.func (.func 68) ⟨[]⟩ ⟨[]⟩)), (10, (zB b0)), (11, (zB b1)), (12, (zI (wrapF .i64 (Int.sub z4 z3)))), (25, (zB (nt (ilt (12 : Int) (wrapF .i64 (Int.sub z4 z3))))))]) (hp 1 [(oC q1)]) (.k [0] [false] [] [0, 1, 2, 3, 4, 10, 11, 12, 25] ⟨trE (by kernel_rfl) h1, trivial⟩) ?_
  replace hm := bb_cases hm; rcases hm with ⟨h2, hm⟩ | ⟨h2, hm⟩
  · refine .ifT (nt (ilt (12 : Int) (wrapF .i64 (Int.sub z4 z3)))) (by kernel_rfl) h2 ?_
    refine .then ?_
    replace hm := bb_inv hm; obtain ⟨h3, hm⟩ := hm
    replace hm := bb_inv hm; obtain ⟨h4, hm⟩ := hm
    replace hm := oo_inv hm; obtain ⟨v0, h5, hm⟩ := hm
    replace hm := inv_vTup hm; obtain ⟨l0, rfl, hm⟩ := hm
    replace hm := ll_uncons hm; obtain ⟨v1, l229017_0, rfl, hm⟩ := hm
    replace hm := ll_uncons hm; obtain ⟨v2, l229017_1, rfl, hm⟩ := hm
    replace hm := ll_end hm; obtain ⟨rfl, hm⟩ := hm
    replace hm := bb_inv hm; obtain ⟨h6, hm⟩ := hm
    obtain rfl := isNoV_ok h6
    replace hm := inv_vAgg hm; obtain ⟨q2, rfl, hm⟩ := hm
    replace hm := bb_inv hm; obtain ⟨h7, hm⟩ := hm
    refine .reg (eC 4 (objG tabs [[none], [none], [none], [none]] 4 [.tmp 0 false] [false] (pu 11100) [(sc 0 0 1 n1 c1), (zI z3), (zI z4), (.func (.func 68) ⟨[]⟩ ⟨[]⟩)] (hp 1 [(oC q1)])) (objG_eq (as := [(sc 0 0 1 n1 c1), (zI z3), (zI z4), (.func (.func 68) ⟨[]⟩ ⟨[]⟩)]) (H1 := (hp 1 [(oC q1)])) (gvAL_c (gvA_1 gv_n) (gvAL_c (gvA_1 gv_n) (gvAL_c (gvA_1 gv_n) (gvAL_c (gvA_1 gv_n) gvAL_n)))) (objF_eq (H2 := (hp 1 [(oC q2)])) (v := (.tuple ⟨[]⟩)) (v' := (.tuple ⟨[]⟩)) [some 0] [(false, some 0)] [(oC q1)] [(sc 0 0 1 n1 c1), (zI z3), (zI z4), (.func (.func 68) ⟨[]⟩ ⟨[]⟩)] [(.agg ⟨q2⟩)] [(oC q2)] [some 0] [(false, (oC q2))] [(oC q2)] (trE (by kernel_rfl) (rootL h3 rfl)) (mapO_c (nO_list (anc := []) h4) mapO_n) (Eq.trans (by kernel_rfl) h5) (mapO_c rfl mapO_n) (mapO_c (bO_list h7) mapO_n))) (eE)) ?_
    replace hm := bb_inv hm; obtain ⟨h8, hm⟩ := hm
    refine .ghs (fr 148 []) (hp 1 [(oC q2)]) (.k [0] [false] [] [] ⟨trE (by kernel_rfl) h8, trivial⟩) ?_
    refine .ghs (fr 148 []) (hp 1 [(oC q2)]) (.k [0] [false] [] [] ⟨trE (by kernel_rfl) h8, trivial⟩) ?_
    refine .ret ?_
    exact finO_ret (.tuple ⟨[]⟩) [(oC q2)] (by kernel_rfl) hm (Nat.le_of_ble_eq_true rfl) (ooAt_cons (pO_c _) ooAt_nil)
  · refine .ifF (nt (ilt (12 : Int) (wrapF .i64 (Int.sub z4 z3)))) (by kernel_rfl) h2 ?_
    refine .skip ?_
    refine .ghs (fr 148 [(0, (sc 0 0 1 n1 c1)), (1, (zI z3)), (2, (zI z4)), (3, (zI z5)), (4, (.func (.func 68) ⟨[]⟩ ⟨[]⟩)), (10, (zB b0)), (11, (zB b1)), (12, (zI (wrapF .i64 (Int.sub z4 z3))))]) (hp 1 [(oC q1)]) (.k [0] [false] [] [0, 1, 2, 3, 4, 10, 11, 12] ⟨trE (by kernel_rfl) h1, trivial⟩) ?_
    refine .then ?_
    refine .then ?_
    refine .rK ?_
    refine .ghs (fr 148 [(0, (sc 0 0 1 n1 c1)), (1, (zI z3)), (2, (zI z4)), (3, (zI z5)), (4, (.func (.func 68) ⟨[]⟩ ⟨[]⟩)), (10, (zB b0)), (11, (zB b1)), (12, (zI (wrapF .i64 (Int.sub z4 z3)))), (32, (zB (ieq z5 (0 : Int))))]) (hp 1 [(oC q1)]) (.k [0] [false] [] [0, 1, 2, 3, 4, 10, 11, 12, 32] ⟨trE (by kernel_rfl) h1, trivial⟩) ?_
    replace hm := bb_cases hm; rcases hm with ⟨h9, hm⟩ | ⟨h9, hm⟩
    · refine .ifT (ieq z5 (0 : Int)) (by kernel_rfl) h9 ?_
      refine .then ?_
      cases hm
    · refine .ifF (ieq z5 (0 : Int)) (by kernel_rfl) h9 ?_
      refine .skip ?_
      refine .ghs (fr 148 [(0, (sc 0 0 1 n1 c1)), (1, (zI z3)), (2, (zI z4)), (3, (zI z5)), (4, (.func (.func 68) ⟨[]⟩ ⟨[]⟩)), (10, (zB b0)), (11, (zB b1)), (12, (zI (wrapF .i64 (Int.sub z4 z3))))]) (hp 1 [(oC q1)]) (.k [0] [false] [] [0, 1, 2, 3, 4, 10, 11, 12] ⟨trE (by kernel_rfl) h1, trivial⟩) ?_
      refine .join (v := v) (fun y : Nat × Nat × Int × Int × Int × Bool × Bool × Int × List Value => ((fr 148 [(0, (sc 0 0 1 y.1 y.2.1)), (1, (zI y.2.2.1)), (2, (zI y.2.2.2.1)), (3, (zI y.2.2.2.2.1)), (4, (.func (.func 68) ⟨[]⟩ ⟨[]⟩)), (10, (zB y.2.2.2.2.2.1)), (11, (zB y.2.2.2.2.2.2.1)), (12, (zI y.2.2.2.2.2.2.2.1))]), (hp 1 [(oC y.2.2.2.2.2.2.2.2)]))) (fun y => m10860_1 pu n (l10860_0 pu n w0) y.1 y.2.1 y.2.2.1 y.2.2.2.1 y.2.2.2.2.1 y.2.2.2.2.2.1 y.2.2.2.2.2.2.1 y.2.2.2.2.2.2.2.1 y.2.2.2.2.2.2.2.2) ?_ ?_
      · rintro ⟨n2, c2, z6, z7, z8, b2, b3, z9, q3⟩ hm
        unfold m10860_1 at hm
        refine .then ?_
        cases hm
      · refine .then ?_
        refine .rK ?_
        refine .ghs (fr 148 [(0, (sc 0 0 1 n1 c1)), (1, (zI z3)), (2, (zI z4)), (3, (zI z5)), (4, (.func (.func 68) ⟨[]⟩ ⟨[]⟩)), (10, (zB b0)), (11, (zB b1)), (12, (zI (wrapF .i64 (Int.sub z4 z3)))), (39, (zB (nt b0)))]) (hp 1 [(oC q1)]) (.k [0] [false] [] [0, 1, 2, 3, 4, 10, 11, 12, 39] ⟨trE (by kernel_rfl) h1, trivial⟩) ?_
        replace hm := bb_cases hm; rcases hm with ⟨h10, hm⟩ | ⟨h10, hm⟩
        · refine .ifT (nt b0) (by kernel_rfl) h10 ?_
          refine .then ?_
          cases hm
        · refine .ifF (nt b0) (by kernel_rfl) h10 ?_
          refine .skip ?_
          exact ⟨(n1, c1, z3, z4, z5, b0, b1, (wrapF .i64 (Int.sub z4 z3)), q1), hm, (.k [0] [false] [] [0, 1, 2, 3, 4, 10, 11, 12] ⟨trE (by kernel_rfl) h1, trivial⟩)⟩
theorem r10860 {call : CallF} (pu : PureF) (n : Nat) (hcall : call = callP tabs isP pu (inl pu)) {args : List Value} {os : List AObj} {z : Value} (ha : args.length = 5) (hk : os.length = 1) (hpl : ∀ o ∈ os, plainO o) (hm : m10860 pu n (args ++ os.map encO) = some z) : args.length ≤ 148 ∧ Run tt call (tabs.length + 1) c86_74 (Fr.made 148 args) (subHeap tabs os) (FinO tt tabs.length 1 [] z) := by
  subst hcall
  have hq := len_cons ha; clear ha; obtain ⟨a0, args, rfl, ha⟩ := hq
  have hq := len_cons ha; clear ha; obtain ⟨a1, args, rfl, ha⟩ := hq
  have hq := len_cons ha; clear ha; obtain ⟨a2, args, rfl, ha⟩ := hq
  have hq := len_cons ha; clear ha; obtain ⟨a3, args, rfl, ha⟩ := hq
  have hq := len_cons ha; clear ha; obtain ⟨a4, args, rfl, ha⟩ := hq
  obtain rfl := len_nil ha
  have hq := len_cons hk; clear hk; obtain ⟨b0, os, rfl, hk⟩ := hq
  have hp0 : plainO b0 := hpl b0 (by simp)
  obtain rfl := len_nil hk
  replace hm : m10860 pu n [a0, a1, a2, a3, a4, encO b0] = some z := hm
  unfold m10860 at hm
  replace hm : (oo (toSc 0 0 1 a0) none fun y0 => (oo (toI .i64 a1) none fun x0 => (oo (toI .i64 a2) none fun x1 => (oo (toI .i64 a3) none fun x2 => (oo (toFn 68 0 a4) none fun l0 => (ll l0 (oo (vAgg (encO b0)) none fun q0 => (m10860_ pu n (NC.n y0) (NC.c y0) x0 x1 x2 q0)) fun _ _ => none)))))) = some z := hm
  replace hm := oo_inv hm; obtain ⟨y0, h0, hm⟩ := hm
  obtain rfl := toSc_some h0
  replace hm := inv_toI hm; obtain ⟨x0, rfl, hm⟩ := hm
  replace hm := inv_toI hm; obtain ⟨x1, rfl, hm⟩ := hm
  replace hm := inv_toI hm; obtain ⟨x2, rfl, hm⟩ := hm
  replace hm := oo_inv hm; obtain ⟨l0, h1, hm⟩ := hm
  obtain rfl := toFn_some h1
  replace hm := ll_end hm; obtain ⟨rfl, hm⟩ := hm
  replace hm := oo_inv hm; obtain ⟨q0, h2, hm⟩ := hm
  obtain rfl := vAgg_enc hp0 h2
  refine ⟨by simp, ?_⟩
  exact .same (F' := (fr 148 [(0, (sc 0 0 1 (NC.n y0) (NC.c y0))), (1, (zI x0)), (2, (zI x1)), (3, (zI x2)), (4, (.func (.func 68) ⟨[]⟩ ⟨[]⟩))])) (H' := (hp 1 [(oC q0)])) (by kernel_rfl) (by kernel_rfl) (q10860 pu n (NC.n y0) (NC.c y0) x0 x1 x2 q0 hm)
end
end Go.HpLM
set_option maxRecDepth 100000
set_option maxHeartbeats 20000000
set_option linter.unusedVariables false
namespace Go.HpLM
open Go.Sp Go.HpL
noncomputable section
def m11100_1 (pu : PureF) (n : Nat) (ih0 : Nat → Nat → Int → Int → Int → List Value → Option Value) (n0 : Nat) (c0 : Nat) (z0 : Int) (z1 : Int) (z2 : Int) (q0 : List Value) : Option Value :=
  (bb (allL closed1 q0) (ih0 n0 c0 z0 z1 (wrapF .i64 (Int.add z2 (1 : Int))) q0) none)
def m11100_3 (pu : PureF) (n : Nat) (ih0 : Nat → Nat → Int → Int → Int → List Value → Option Value) (ih1 : Nat → Nat → Int → Int → Int → Int → List Value → Option Value) (n0 : Nat) (c0 : Nat) (z0 : Int) (z1 : Int) (z2 : Int) (z3 : Int) (b0 : Bool) (q0 : List Value) : Option Value :=
  (bb b0 (bb (allL closed1 q0) (oo (toN (wrapF .i64 (Int.sub z3 (1 : Int)))) none fun k1 => (oo (toN (wrapF .i64 (Int.sub z3 (1 : Int)))) none fun k2 => (bb (an (Nat.blt k2 n0) true) (oo (nthL q0 (0 + k2 * 1)) none fun v0 => (oo (toSl 1 v0) none fun s0 => (oo (toN z3) none fun k3 => (bb (an (Nat.blt k3 n0) true) (oo (nthL q0 (0 + k3 * 1)) none fun v1 => (oo (toSl 1 v1) none fun s1 => (bb (an (Nat.blt k3 n0) true) (bb (an (Nat.ble ((0 + k3 * 1) + 1) (len q0)) true) (bb (an (Nat.blt k1 n0) true) (bb (an (Nat.ble ((0 + k1 * 1) + 1) (len (setL ([(Sl.v 1 s0)] : List Value) (0 + k3 * 1) q0))) true) (bb (allL closed1 (setL ([(Sl.v 1 s1)] : List Value) (0 + k1 * 1) (setL ([(Sl.v 1 s0)] : List Value) (0 + k3 * 1) q0))) (ih1 n0 c0 z0 z1 z2 (wrapF .i64 (Int.sub (Int.ofNat k3) (1 : Int))) (setL ([(Sl.v 1 s1)] : List Value) (0 + k1 * 1) (setL ([(Sl.v 1 s0)] : List Value) (0 + k3 * 1) q0))) none) none) none) none) none))) none)))) none))) none) (bb (allL closed1 q0) (m11100_1 pu n ih0 n0 c0 z0 z1 z2 q0) none))
def b11100_2 (pu : PureF) (n : Nat) (ih0 : Nat → Nat → Int → Int → Int → List Value → Option Value) (ih1 : Nat → Nat → Int → Int → Int → Int → List Value → Option Value) (n0 : Nat) (c0 : Nat) (z0 : Int) (z1 : Int) (z2 : Int) (z3 : Int) (q0 : List Value) : Option Value :=
  (bb (ilt z0 z3) (oo (toN z3) none fun k1 => (bb (an (Nat.blt k1 n0) true) (oo (nthL q0 (0 + k1 * 1)) none fun v0 => (oo (toSl 1 v0) none fun s0 => (oo (toN (wrapF .i64 (Int.sub (Int.ofNat k1) (1 : Int)))) none fun k2 => (bb (an (Nat.blt k2 n0) true) (oo (nthL q0 (0 + k2 * 1)) none fun v1 => (oo (toSl 1 v1) none fun s1 => (oo (pu 68 [(Sl.v 1 s0), (Sl.v 1 s1)]) none fun v2 => (oo (toI .i64 v2) none fun x0 => (bb (allL closed1 q0) (m11100_3 pu n ih0 ih1 n0 c0 z0 z1 z2 (Int.ofNat k1) (ilt x0 (0 : Int)) q0) none))))) none)))) none)) (bb (allL closed1 q0) (m11100_3 pu n ih0 ih1 n0 c0 z0 z1 z2 z3 false q0) none))
def l11100_2 (pu : PureF) (n : Nat) (ih0 : Nat → Nat → Int → Int → Int → List Value → Option Value) (w : Nat) : Nat → Nat → Int → Int → Int → Int → List Value → Option Value :=
  Nat.rec (motive := fun _ => Nat → Nat → Int → Int → Int → Int → List Value → Option Value) (fun _ _ _ _ _ _ _ => none) (fun _ ih1 => b11100_2 pu n ih0 ih1) w
def b11100_0 (pu : PureF) (n : Nat) (ih0 : Nat → Nat → Int → Int → Int → List Value → Option Value) (n0 : Nat) (c0 : Nat) (z0 : Int) (z1 : Int) (z2 : Int) (q0 : List Value) : Option Value :=
  (bb (allL closed1 q0) (bb (ilt z2 z1) (l11100_2 pu n ih0 n n0 c0 z0 z1 z2 z2 q0) (some (.tuple ⟨[(.tuple ⟨[]⟩), (.agg ⟨q0⟩)]⟩))) none)
def l11100_0 (pu : PureF) (n : Nat) (w : Nat) : Nat → Nat → Int → Int → Int → List Value → Option Value :=
  Nat.rec (motive := fun _ => Nat → Nat → Int → Int → Int → List Value → Option Value) (fun _ _ _ _ _ _ => none) (fun _ ih0 => b11100_0 pu n ih0) w
def m11100_ (pu : PureF) (n : Nat) (n0 : Nat) (c0 : Nat) (z0 : Int) (z1 : Int) (q0 : List Value) : Option Value :=
  (bb (allL closed1 q0) (l11100_0 pu n n n0 c0 z0 z1 (wrapF .i64 (Int.add z0 (1 : Int))) q0) none)
def m11100 (pu : PureF) (n : Nat) (args : List Value) : Option Value :=
  (ll args none fun a0 args => (ll args none fun a1 args => (ll args none fun a2 args => (ll args none fun a3 args => (ll args none fun o0 args => (ll args (oo (toSc 0 0 1 a0) none fun y0 => (oo (toI .i64 a1) none fun x0 => (oo (toI .i64 a2) none fun x1 => (oo (toFn 68 0 a3) none fun l0 => (ll l0 (oo (vAgg o0) none fun q0 => (m11100_ pu n (NC.n y0) (NC.c y0) x0 x1 q0)) fun _ _ => none))))) fun _ _ => none))))))
theorem q11100 (pu : PureF) (n : Nat) (n0 : Nat) (c0 : Nat) (z0 : Int) (z1 : Int) (q0 : List Value) {v : Value} (hm : m11100_ pu n n0 c0 z0 z1 q0 = some v) : Run tt (callP tabs isP pu (inl pu)) 1 c110_22 (fr 53 [(0, (sc 0 0 1 n0 c0)), (1, (zI z0)), (2, (zI z1)), (3, (.func (.func 68) ⟨[]⟩ ⟨[]⟩))]) (hp 1 [(oC q0)]) (FinO tt 0 1 [] v) := by
  unfold m11100_ at hm
  refine .then ?_
  refine .rK ?_
  replace hm := bb_inv hm; obtain ⟨h0, hm⟩ := hm
  refine .ghs (fr 53 [(0, (sc 0 0 1 n0 c0)), (1, (zI z0)), (2, (zI z1)), (3, (.func (.func 68) ⟨[]⟩ ⟨[]⟩)), (8, (zI (wrapF .i64 (Int.add z0 (1 : Int)))))]) (hp 1 [(oC q0)]) (.k [0] [false] [] [0, 1, 2, 3, 8] ⟨trE (by kernel_rfl) h0, trivial⟩) ?_
  refine .block ?_
  refine .loopM (v := v) (fun y : Nat × Nat × Int × Int × Int × List Value => ((fr 53 [(0, (sc 0 0 1 y.1 y.2.1)), (1, (zI y.2.2.1)), (2, (zI y.2.2.2.1)), (3, (.func (.func 68) ⟨[]⟩ ⟨[]⟩)), (8, (zI y.2.2.2.2.1))]), (hp 1 [(oC y.2.2.2.2.2)]))) (fun w y => l11100_0 pu n w y.1 y.2.1 y.2.2.1 y.2.2.2.1 y.2.2.2.2.1 y.2.2.2.2.2) n ⟨(n0, c0, z0, z1, (wrapF .i64 (Int.add z0 (1 : Int))), q0), hm, (.k [0] [false] [] [0, 1, 2, 3, 8] ⟨trE (by kernel_rfl) h0, trivial⟩)⟩ (fun _ => rfl) ?_
  rintro w0 ⟨n1, c1, z2, z3, z4, q1⟩ hm
  replace hm : b11100_0 pu n (l11100_0 pu n w0) n1 c1 z2 z3 z4 q1 = some v := hm
  unfold b11100_0 at hm
  refine .then ?_
  refine .then ?_
  refine .rK ?_
  replace hm := bb_inv hm; obtain ⟨h1, hm⟩ := hm
  refine .ghs (fr 53 [(0, (sc 0 0 1 n1 c1)), (1, (zI z2)), (2, (zI z3)), (3, (.func (.func 68) ⟨[]⟩ ⟨[]⟩)), (8, (zI z4)), (14, (zB (ilt z4 z3)))]) (hp 1 [(oC q1)]) (.k [0] [false] [] [0, 1, 2, 3, 8, 14] ⟨trE (by kernel_rfl) h1, trivial⟩) ?_
  replace hm := bb_cases hm; rcases hm with ⟨h2, hm⟩ | ⟨h2, hm⟩
  · refine .ifT (ilt z4 z3) (by kernel_rfl) h2 ?_
    refine .skip ?_
    refine .ghs (fr 53 [(0, (sc 0 0 1 n1 c1)), (1, (zI z2)), (2, (zI z3)), (3, (.func (.func 68) ⟨[]⟩ ⟨[]⟩)), (8, (zI z4))]) (hp 1 [(oC q1)]) (.k [0] [false] [] [0, 1, 2, 3, 8] ⟨trE (by kernel_rfl) h1, trivial⟩) ?_
    refine .join (v := v) (fun y : Nat × Nat × Int × Int × Int × List Value => ((fr 53 [(0, (sc 0 0 1 y.1 y.2.1)), (1, (zI y.2.2.1)), (2, (zI y.2.2.2.1)), (3, (.func (.func 68) ⟨[]⟩ ⟨[]⟩)), (8, (zI y.2.2.2.2.1))]), (hp 1 [(oC y.2.2.2.2.2)]))) (fun y => m11100_1 pu n (l11100_0 pu n w0) y.1 y.2.1 y.2.2.1 y.2.2.2.1 y.2.2.2.2.1 y.2.2.2.2.2) ?_ ?_
    · rintro ⟨n2, c2, z5, z6, z7, q2⟩ hm
      unfold m11100_1 at hm
      refine .rK ?_
      replace hm := bb_inv hm; obtain ⟨h3, hm⟩ := hm
      exact ⟨(n2, c2, z5, z6, (wrapF .i64 (Int.add z7 (1 : Int))), q2), hm, (.k [0] [false] [] [0, 1, 2, 3, 8] ⟨trE (by kernel_rfl) h3, trivial⟩)⟩
    · refine .block ?_
      refine .then ?_
      refine .rK ?_
      refine .ghs (fr 53 [(0, (sc 0 0 1 n1 c1)), (1, (zI z2)), (2, (zI z3)), (3, (.func (.func 68) ⟨[]⟩ ⟨[]⟩)), (8, (zI z4)), (9, (zI z4))]) (hp 1 [(oC q1)]) (.k [0] [false] [] [0, 1, 2, 3, 8, 9] ⟨trE (by kernel_rfl) h1, trivial⟩) ?_
      refine .block ?_
      refine .loopM (v := v) (fun y : Nat × Nat × Int × Int × Int × Int × List Value => ((fr 53 [(0, (sc 0 0 1 y.1 y.2.1)), (1, (zI y.2.2.1)), (2, (zI y.2.2.2.1)), (3, (.func (.func 68) ⟨[]⟩ ⟨[]⟩)), (8, (zI y.2.2.2.2.1)), (9, (zI y.2.2.2.2.2.1))]), (hp 1 [(oC y.2.2.2.2.2.2)]))) (fun w y => l11100_2 pu n (l11100_0 pu n w0) w y.1 y.2.1 y.2.2.1 y.2.2.2.1 y.2.2.2.2.1 y.2.2.2.2.2.1 y.2.2.2.2.2.2) n ⟨(n1, c1, z2, z3, z4, z4, q1), hm, (.k [0] [false] [] [0, 1, 2, 3, 8, 9] ⟨trE (by kernel_rfl) h1, trivial⟩)⟩ (fun _ => rfl) ?_
      rintro w1 ⟨n3, c3, z8, z9, z10, z11, q3⟩ hm
      replace hm : b11100_2 pu n (l11100_0 pu n w0) (l11100_2 pu n (l11100_0 pu n w0) w1) n3 c3 z8 z9 z10 z11 q3 = some v := hm
      unfold b11100_2 at hm
      refine .then ?_
      refine .join (v := v) (fun y : Nat × Nat × Int × Int × Int × Int × Bool × List Value => ((fr 53 [(0, (sc 0 0 1 y.1 y.2.1)), (1, (zI y.2.2.1)), (2, (zI y.2.2.2.1)), (3, (.func (.func 68) ⟨[]⟩ ⟨[]⟩)), (8, (zI y.2.2.2.2.1)), (9, (zI y.2.2.2.2.2.1)), (34, (zB y.2.2.2.2.2.2.1))]), (hp 1 [(oC y.2.2.2.2.2.2.2)]))) (fun y => m11100_3 pu n (l11100_0 pu n w0) (l11100_2 pu n (l11100_0 pu n w0) w1) y.1 y.2.1 y.2.2.1 y.2.2.2.1 y.2.2.2.2.1 y.2.2.2.2.2.1 y.2.2.2.2.2.2.1 y.2.2.2.2.2.2.2) ?_ ?_
      · rintro ⟨n4, c4, z12, z13, z14, z15, b0, q4⟩ hm
        unfold m11100_3 at hm
        replace hm := bb_cases hm; rcases hm with ⟨h4, hm⟩ | ⟨h4, hm⟩
        · refine .ifT b0 (by kernel_rfl) h4 ?_
          refine .skip ?_
          replace hm := bb_inv hm; obtain ⟨h5, hm⟩ := hm
          refine .ghs (fr 53 [(0, (sc 0 0 1 n4 c4)), (1, (zI z12)), (2, (zI z13)), (3, (.func (.func 68) ⟨[]⟩ ⟨[]⟩)), (8, (zI z14)), (9, (zI z15))]) (hp 1 [(oC q4)]) (.k [0] [false] [] [0, 1, 2, 3, 8, 9] ⟨trE (by kernel_rfl) h5, trivial⟩) ?_
          refine .then ?_
          refine .block ?_
          replace hm := oo_inv hm; obtain ⟨k1, h6, hm⟩ := hm
          replace hm := oo_inv hm; obtain ⟨k2, h7, hm⟩ := hm
          replace hm := bb_inv hm; obtain ⟨h8, hm⟩ := hm
          replace hm := oo_inv hm; obtain ⟨v0, h9, hm⟩ := hm
          replace hm := inv_toSl hm; obtain ⟨s0, rfl, hm⟩ := hm
          replace hm := oo_inv hm; obtain ⟨k3, h10, hm⟩ := hm
          obtain rfl := toN_some h10
          replace hm := bb_inv hm; obtain ⟨h11, hm⟩ := hm
          replace hm := oo_inv hm; obtain ⟨v1, h12, hm⟩ := hm
          replace hm := inv_toSl hm; obtain ⟨s1, rfl, hm⟩ := hm
          replace hm := bb_inv hm; obtain ⟨h13, hm⟩ := hm
          replace hm := bb_inv hm; obtain ⟨h14, hm⟩ := hm
          replace hm := bb_inv hm; obtain ⟨h15, hm⟩ := hm
          replace hm := bb_inv hm; obtain ⟨h16, hm⟩ := hm
          refine .reg (eN 9 (Fr.puts (fr 53 [(0, (sc 0 0 1 n4 c4)), (1, (zI z12)), (2, (zI z13)), (3, (.func (.func 68) ⟨[]⟩ ⟨[]⟩)), (8, (zI z14)), (9, (zI (Int.ofNat k3)))]) [(37, (sc 0 0 1 n4 c4)), (38, (zI (Int.ofNat k3))), (39, (sc 0 0 1 n4 c4)), (40, (zI (Int.ofNat k3))), (41, (zI (Int.ofNat k1))), (42, (sc 0 0 1 n4 c4)), (43, (zI (Int.ofNat k3))), (44, (zI (Int.ofNat k2))), (45, (.pointer (some ⟨0, (0 + k2 * 1), none⟩)))]) (hp 1 [(oC q4)]) (eC 4 (some ((zI (wrapF .i64 (Int.sub (Int.ofNat k3) (1 : Int)))), (hp 1 [(oC q4)]))) (show _ = some ((zI (Int.ofNat k1)), _) from (by rw [toN_some h6])) (eC 2 (some ((zI (wrapF .i64 (Int.sub (Int.ofNat k3) (1 : Int)))), (hp 1 [(oC q4)]))) (show _ = some ((zI (Int.ofNat k2)), _) from (by rw [toN_some h7])) (eD (keep (hp 1 [(oC q4)]) (bb (an (Nat.blt k2 n4) true) (some (.pointer (some ⟨0, (0 + k2 * 1), none⟩))) none)) (keep_bb h8) (by kernel_rfl)))) (eN 5 (Fr.puts (fr 53 [(0, (sc 0 0 1 n4 c4)), (1, (zI z12)), (2, (zI z13)), (3, (.func (.func 68) ⟨[]⟩ ⟨[]⟩)), (8, (zI z14)), (9, (zI (Int.ofNat k3)))]) [(37, (sc 0 0 1 n4 c4)), (38, (zI (Int.ofNat k3))), (39, (sc 0 0 1 n4 c4)), (40, (zI (Int.ofNat k3))), (41, (zI (Int.ofNat k1))), (42, (sc 0 0 1 n4 c4)), (43, (zI (Int.ofNat k3))), (44, (zI (Int.ofNat k2))), (45, (.pointer (some ⟨0, (0 + k2 * 1), none⟩))), (46, (Sl.v 1 s0)), (47, (sc 0 0 1 n4 c4)), (48, (zI (Int.ofNat k3))), (49, (.pointer (some ⟨0, (0 + k3 * 1), none⟩))), (50, (Sl.v 1 s1))]) (hp 1 [(oC q4)]) (eD (keep (hp 1 [(oC q4)]) (nthL q4 (0 + k2 * 1))) (keep_eq h9) (eC 2 (keep (hp 1 [(oC q4)]) (bb (an (Nat.blt k3 n4) true) (some (.pointer (some ⟨0, (0 + k3 * 1), none⟩))) none)) (keep_bb h11) (eD (keep (hp 1 [(oC q4)]) (nthL q4 (0 + k3 * 1))) (keep_eq h12) (by kernel_rfl)))) (eD (keep (hp 1 [(oC q4)]) (bb (an (Nat.blt k3 n4) true) (some (.pointer (some ⟨0, (0 + k3 * 1), none⟩))) none)) (keep_bb h13) (eD (done (bb (an (Nat.ble ((0 + k3 * 1) + 1) (len q4)) true) (some (hp 1 [(oC (setL ([(Sl.v 1 s0)] : List Value) (0 + k3 * 1) q4))])) none) undef) (done_bb h14) (eD (keep (hp 1 [(oC (setL ([(Sl.v 1 s0)] : List Value) (0 + k3 * 1) q4))]) (bb (an (Nat.blt k1 n4) true) (some (.pointer (some ⟨0, (0 + k1 * 1), none⟩))) none)) (keep_bb h15) (eD (done (bb (an (Nat.ble ((0 + k1 * 1) + 1) (len (setL ([(Sl.v 1 s0)] : List Value) (0 + k3 * 1) q4))) true) (some (hp 1 [(oC (setL ([(Sl.v 1 s1)] : List Value) (0 + k1 * 1) (setL ([(Sl.v 1 s0)] : List Value) (0 + k3 * 1) q4)))])) none) undef) (done_bb h16) (eE))))))) ?_
          replace hm := bb_inv hm; obtain ⟨h17, hm⟩ := hm
          refine .ghs (fr 53 [(0, (sc 0 0 1 n4 c4)), (1, (zI z12)), (2, (zI z13)), (3, (.func (.func 68) ⟨[]⟩ ⟨[]⟩)), (8, (zI z14)), (9, (zI (Int.ofNat k3)))]) (hp 1 [(oC (setL ([(Sl.v 1 s1)] : List Value) (0 + k1 * 1) (setL ([(Sl.v 1 s0)] : List Value) (0 + k3 * 1) q4)))]) (.k [0] [false] [] [0, 1, 2, 3, 8, 9] ⟨trE (by kernel_rfl) h17, trivial⟩) ?_
          refine .rK ?_
          exact ⟨(n4, c4, z12, z13, z14, (wrapF .i64 (Int.sub (Int.ofNat k3) (1 : Int))), (setL ([(Sl.v 1 s1)] : List Value) (0 + k1 * 1) (setL ([(Sl.v 1 s0)] : List Value) (0 + k3 * 1) q4))), hm, (.k [0] [false] [] [0, 1, 2, 3, 8, 9] ⟨trE (by kernel_rfl) h17, trivial⟩)⟩
        · refine .ifF b0 (by kernel_rfl) h4 ?_
          refine .exit ?_
          replace hm := bb_inv hm; obtain ⟨h18, hm⟩ := hm
          exact ⟨(n4, c4, z12, z13, z14, q4), hm, (.k [0] [false] [] [0, 1, 2, 3, 8] ⟨trE (by kernel_rfl) h18, trivial⟩)⟩
      · replace hm := bb_cases hm; rcases hm with ⟨h19, hm⟩ | ⟨h19, hm⟩
        · replace hm := oo_inv hm; obtain ⟨k4, h20, hm⟩ := hm
          obtain rfl := toN_some h20
          replace hm := bb_inv hm; obtain ⟨h21, hm⟩ := hm
          replace hm := oo_inv hm; obtain ⟨v2, h22, hm⟩ := hm
          replace hm := inv_toSl hm; obtain ⟨s2, rfl, hm⟩ := hm
          replace hm := oo_inv hm; obtain ⟨k5, h23, hm⟩ := hm
          replace hm := bb_inv hm; obtain ⟨h24, hm⟩ := hm
          replace hm := oo_inv hm; obtain ⟨v3, h25, hm⟩ := hm
          replace hm := inv_toSl hm; obtain ⟨s3, rfl, hm⟩ := hm
          replace hm := oo_inv hm; obtain ⟨v4, h26, hm⟩ := hm
          replace hm := inv_toI hm; obtain ⟨x0, rfl, hm⟩ := hm
          refine .reg (eN 9 (Fr.puts (fr 53 [(0, (sc 0 0 1 n3 c3)), (1, (zI z8)), (2, (zI z9)), (3, (.func (.func 68) ⟨[]⟩ ⟨[]⟩)), (8, (zI z10)), (9, (zI (Int.ofNat k4)))]) [(18, (zI (Int.ofNat k4))), (19, (zI z8)), (20, (zB true)), (21, (zB true)), (22, (.func (.func 68) ⟨[]⟩ ⟨[]⟩)), (23, (sc 0 0 1 n3 c3)), (24, (zI (Int.ofNat k4))), (25, (.pointer (some ⟨0, (0 + k4 * 1), none⟩))), (26, (Sl.v 1 s2))]) (hp 1 [(oC q3)]) (eC 2 (some ((zB (ilt z8 (Int.ofNat k4))), (hp 1 [(oC q3)]))) (show _ = some ((zB true), _) from (by rw [h19])) (eC 4 (keep (hp 1 [(oC q3)]) (bb (an (Nat.blt k4 n3) true) (some (.pointer (some ⟨0, (0 + k4 * 1), none⟩))) none)) (keep_bb h21) (eD (keep (hp 1 [(oC q3)]) (nthL q3 (0 + k4 * 1))) (keep_eq h22) (by kernel_rfl)))) (eC 2 (some ((zI (wrapF .i64 (Int.sub (Int.ofNat k4) (1 : Int)))), (hp 1 [(oC q3)]))) (show _ = some ((zI (Int.ofNat k5)), _) from (by rw [toN_some h23])) (eD (keep (hp 1 [(oC q3)]) (bb (an (Nat.blt k5 n3) true) (some (.pointer (some ⟨0, (0 + k5 * 1), none⟩))) none)) (keep_bb h24) (eD (keep (hp 1 [(oC q3)]) (nthL q3 (0 + k5 * 1))) (keep_eq h25) (eD ((oo (pu 68 [(Sl.v 1 s2), (Sl.v 1 s3)]) none fun v => some (v, (hp 1 [(oC q3)])))) (call_eq h26) (eE)))))) ?_
          replace hm := bb_inv hm; obtain ⟨h27, hm⟩ := hm
          exact ⟨(n3, c3, z8, z9, z10, (Int.ofNat k4), (ilt x0 (0 : Int)), q3), hm, (.k [0] [false] [] [0, 1, 2, 3, 8, 9, 34] ⟨trE (by kernel_rfl) h27, trivial⟩)⟩
        · refine .reg (eC 2 (some ((zB (ilt z8 z11)), (hp 1 [(oC q3)]))) (show _ = some ((zB false), _) from (by rw [h19])) (eE)) ?_
          replace hm := bb_inv hm; obtain ⟨h28, hm⟩ := hm
          exact ⟨(n3, c3, z8, z9, z10, z11, false, q3), hm, (.k [0] [false] [] [0, 1, 2, 3, 8, 9, 34] ⟨trE (by kernel_rfl) h28, trivial⟩)⟩
  · refine .ifF (ilt z4 z3) (by kernel_rfl) h2 ?_
    refine .exit ?_
    refine .ghs (fr 53 []) (hp 1 [(oC q1)]) (.k [0] [false] [] [] ⟨trE (by kernel_rfl) h1, trivial⟩) ?_
    exact finO_end (.tuple ⟨[]⟩) [(oC q1)] (by kernel_rfl) hm (Nat.le_of_ble_eq_true rfl) (ooAt_cons (pO_c _) ooAt_nil)
theorem r11100 {call : CallF} (pu : PureF) (n : Nat) (hcall : call = callP tabs isP pu (inl pu)) {args : List Value} {os : List AObj} {z : Value} (ha : args.length = 4) (hk : os.length = 1) (hpl : ∀ o ∈ os, plainO o) (hm : m11100 pu n (args ++ os.map encO) = some z) : args.length ≤ 53 ∧ Run tt call (tabs.length + 1) c110_22 (Fr.made 53 args) (subHeap tabs os) (FinO tt tabs.length 1 [] z) := by
  subst hcall
  have hq := len_cons ha; clear ha; obtain ⟨a0, args, rfl, ha⟩ := hq
  have hq := len_cons ha; clear ha; obtain ⟨a1, args, rfl, ha⟩ := hq
  have hq := len_cons ha; clear ha; obtain ⟨a2, args, rfl, ha⟩ := hq
  have hq := len_cons ha; clear ha; obtain ⟨a3, args, rfl, ha⟩ := hq
  obtain rfl := len_nil ha
  have hq := len_cons hk; clear hk; obtain ⟨b0, os, rfl, hk⟩ := hq
  have hp0 : plainO b0 := hpl b0 (by simp)
  obtain rfl := len_nil hk
  replace hm : m11100 pu n [a0, a1, a2, a3, encO b0] = some z := hm
  unfold m11100 at hm
  replace hm : (oo (toSc 0 0 1 a0) none fun y0 => (oo (toI .i64 a1) none fun x0 => (oo (toI .i64 a2) none fun x1 => (oo (toFn 68 0 a3) none fun l0 => (ll l0 (oo (vAgg (encO b0)) none fun q0 => (m11100_ pu n (NC.n y0) (NC.c y0) x0 x1 q0)) fun _ _ => none))))) = some z := hm
  replace hm := oo_inv hm; obtain ⟨y0, h0, hm⟩ := hm
  obtain rfl := toSc_some h0
  replace hm := inv_toI hm; obtain ⟨x0, rfl, hm⟩ := hm
  replace hm := inv_toI hm; obtain ⟨x1, rfl, hm⟩ := hm
  replace hm := oo_inv hm; obtain ⟨l0, h1, hm⟩ := hm
  obtain rfl := toFn_some h1
  replace hm := ll_end hm; obtain ⟨rfl, hm⟩ := hm
  replace hm := oo_inv hm; obtain ⟨q0, h2, hm⟩ := hm
  obtain rfl := vAgg_enc hp0 h2
  refine ⟨by simp, ?_⟩
  exact .same (F' := (fr 53 [(0, (sc 0 0 1 (NC.n y0) (NC.c y0))), (1, (zI x0)), (2, (zI x1)), (3, (.func (.func 68) ⟨[]⟩ ⟨[]⟩))])) (H' := (hp 1 [(oC q0)])) (by kernel_rfl) (by kernel_rfl) (q11100 pu n (NC.n y0) (NC.c y0) x0 x1 q0 hm)
end
end Go.HpLM
set_option maxRecDepth 100000
namespace Go.HpLM
open Go.Sp Go.HpL
noncomputable section
def L : Nat := 1000000
def disp (pu : PureF) : PureF := fun g args =>
  bb (Nat.beq g 19) (m19 pu L args) (bb (Nat.beq g 42) (m42 pu L args) (bb (Nat.beq g 43) (m43 pu L args) (bb (Nat.beq g 44) (m44 pu L args) (bb (Nat.beq g 46) (m46 pu L args) (bb (Nat.beq g 47) (m47 pu L args) (bb (Nat.beq g 48) (m48 pu L args) (bb (Nat.beq g 49) (m49 pu L args) (bb (Nat.beq g 57) (m57 pu L args) (bb (Nat.beq g 74) (m74 pu L args) (bb (Nat.beq g 64) (m64 pu L args) (bb (Nat.beq g 68) (m68 pu L args) (bb (Nat.beq g 82) (m82 pu L args) (bb (Nat.beq g 98) (m98 pu L args) (bb (Nat.beq g 18) (m18 pu L args) (bb (Nat.beq g 35) (m35 pu L args) (bb (Nat.beq g 45) (m45 pu L args) (bb (Nat.beq g 50) (m50 pu L args) (bb (Nat.beq g 51) (m51 pu L args) (bb (Nat.beq g 54) (m54 pu L args) (bb (Nat.beq g 56) (m56 pu L args) (bb (Nat.beq g 58) (m58 pu L args) (bb (Nat.beq g 53) (m53 pu L args) (bb (Nat.beq g 81) (m81 pu L args) (bb (Nat.beq g 97) (m97 pu L args) (bb (Nat.beq g 10770) (m10770 pu L args) (bb (Nat.beq g 10860) (m10860 pu L args) (bb (Nat.beq g 11100) (m11100 pu L args) (bb (Nat.beq g 75) (orc75 args) (none)))))))))))))))))))))))))))))
def puN : Nat → PureF := fun n => Nat.rec (motive := fun _ => PureF) (fun _ _ => none) (fun _ ih => disp ih) n
end
end Go.HpLM
