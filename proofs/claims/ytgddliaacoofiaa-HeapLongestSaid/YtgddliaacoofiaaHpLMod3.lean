/- Models of the program's functions, and the proofs that runs give them: MADE BY PROGRAM (wip/tools/dec.py). -/
import Derived.Test.YtgddliaacoofiaaHpLMod1x

set_option maxRecDepth 100000
set_option maxHeartbeats 20000000
set_option linter.unusedVariables false
namespace Go.HpLM
open Go.Sp Go.HpL
noncomputable section

def m98_ (pu : PureF) (n : Nat) (x0 : Int) : Option Value :=
  (some (.bool (nt (ieq x0 x0))))
def m98 (pu : PureF) (n : Nat) (args : List Value) : Option Value :=
  (ll args none fun a0 args => (ll args (oo (toI .i64 a0) none fun x0 => (m98_ pu n x0)) fun _ _ => none))
theorem r98 {call : CallF} (pu : PureF) (n : Nat) (hcall : call = callP tabs isP pu (inl pu)) {args : List Value} {v : Value} (hm : m98 pu n args = some v) (_ : ∀ x ∈ args, closed2 x = true) : args.length ≤ 6 ∧ Run tt call 0 c98_3 (Fr.made 6 args) (pureHeap tabs) (Fin tt 0 [.tmp 2] v) := by
  subst hcall
  unfold m98 at hm
  replace hm := ll_uncons hm; obtain ⟨a0, args_0, rfl, hm⟩ := hm
  replace hm := ll_end hm; obtain ⟨rfl, hm⟩ := hm
  replace hm := inv_toI hm; obtain ⟨x0, rfl, hm⟩ := hm
  unfold m98_ at hm
  refine ⟨by simp, ?_⟩
  refine .same (F' := (fr 6 [(0, (zI x0))])) (H' := (hp 0 [])) (by kernel_rfl) (by kernel_rfl) ?_
  refine .then ?_
  refine .rK ?_
  refine .ghs (fr 6 [(0, (zI x0))]) (hp 0 []) (.k0 [] [] [0]) ?_
  refine .then ?_
  refine .rK ?_
  refine .ghs (fr 6 [(2, (zB (nt (ieq x0 x0))))]) (hp 0 []) (.k0 [] [] [2]) ?_
  refine .ret ?_
  exact fin_ret (zB (nt (ieq x0 x0))) (by kernel_rfl) (by kernel_rfl) hm
def m18_0 (pu : PureF) (n : Nat) : Option Value :=
  (some (.bool true))
def b18_1 (pu : PureF) (n : Nat) (ih0 : Sl → Sl → Int → Option Value) (s0 : Sl) (s1 : Sl) (z0 : Int) : Option Value :=
  (bb (ilt z0 (Int.ofNat (Sl.n s0))) (oo (toN z0) none fun k1 => (bb (an (Nat.blt k1 (Sl.n s0)) true) (oo (nthL (Sl.cs s0) (k1 * 1)) none fun v0 => (oo (toI .i64 v0) none fun x0 => (bb (an (Nat.blt k1 (Sl.n s1)) true) (oo (nthL (Sl.cs s1) (k1 * 1)) none fun v1 => (oo (toI .i64 v1) none fun x1 => (bb (nt (ieq x0 x1)) (some (.bool false)) (ih0 s0 s1 (wrapF .i64 (Int.add (Int.ofNat k1) (1 : Int))))))) none))) none)) (m18_0 pu n))
def l18_1 (pu : PureF) (n : Nat) (w : Nat) : Sl → Sl → Int → Option Value :=
  Nat.rec (motive := fun _ => Sl → Sl → Int → Option Value) (fun _ _ _ => none) (fun _ ih0 => b18_1 pu n ih0) w
def m18_ (pu : PureF) (n : Nat) (s0 : Sl) (s1 : Sl) : Option Value :=
  (bb (nt (ieq (Int.ofNat (Sl.n s0)) (Int.ofNat (Sl.n s1)))) (some (.bool false)) (l18_1 pu n n s0 s1 (0 : Int)))
def m18 (pu : PureF) (n : Nat) (args : List Value) : Option Value :=
  (ll args none fun a0 args => (ll args none fun a1 args => (ll args (oo (toSl 1 a0) none fun s0 => (oo (toSl 1 a1) none fun s1 => (m18_ pu n s0 s1))) fun _ _ => none)))
theorem w18_0 (pu : PureF) (n : Nat) {v : Value} (hm : m18_0 pu n = some v) : Run tt (callP tabs isP pu (inl pu)) 0 c18_23 (fr 26 []) (hp 0 []) (Fin tt 0 [.tmp 4] v) := by
  unfold m18_0 at hm
  refine .then ?_
  refine .rK ?_
  refine .ghs (fr 26 [(4, (zB true))]) (hp 0 []) (.k0 [] [] [4]) ?_
  refine .ret ?_
  exact fin_ret (zB true) (by kernel_rfl) (by kernel_rfl) hm
theorem r18 {call : CallF} (pu : PureF) (n : Nat) (hcall : call = callP tabs isP pu (inl pu)) {args : List Value} {v : Value} (hm : m18 pu n args = some v) (_ : ∀ x ∈ args, closed2 x = true) : args.length ≤ 26 ∧ Run tt call 0 c18_26 (Fr.made 26 args) (pureHeap tabs) (Fin tt 0 [.tmp 4] v) := by
  subst hcall
  unfold m18 at hm
  replace hm := ll_uncons hm; obtain ⟨a0, args_0, rfl, hm⟩ := hm
  replace hm := ll_uncons hm; obtain ⟨a1, args_1, rfl, hm⟩ := hm
  replace hm := ll_end hm; obtain ⟨rfl, hm⟩ := hm
  replace hm := inv_toSl hm; obtain ⟨s0, rfl, hm⟩ := hm
  replace hm := inv_toSl hm; obtain ⟨s1, rfl, hm⟩ := hm
  unfold m18_ at hm
  refine ⟨by simp, ?_⟩
  refine .same (F' := (fr 26 [(0, (Sl.v 1 s0)), (1, (Sl.v 1 s1))])) (H' := (hp 0 [])) (by kernel_rfl) (by kernel_rfl) ?_
  refine .then ?_
  refine .rK ?_
  refine .ghs (fr 26 [(0, (Sl.v 1 s0)), (1, (Sl.v 1 s1))]) (hp 0 []) (.k0 [] [] [0, 1]) ?_
  refine .then ?_
  refine .then ?_
  refine .rK ?_
  refine .ghs (fr 26 [(0, (Sl.v 1 s0)), (1, (Sl.v 1 s1)), (10, (zB (nt (ieq (Int.ofNat (Sl.n s0)) (Int.ofNat (Sl.n s1))))))]) (hp 0 []) (.k0 [] [] [0, 1, 10]) ?_
  replace hm := bb_cases hm; rcases hm with ⟨h0, hm⟩ | ⟨h0, hm⟩
  · refine .ifT (nt (ieq (Int.ofNat (Sl.n s0)) (Int.ofNat (Sl.n s1)))) (by kernel_rfl) h0 ?_
    refine .then ?_
    refine .rK ?_
    refine .ghs (fr 26 [(4, (zB false))]) (hp 0 []) (.k0 [] [] [4]) ?_
    refine .ret ?_
    exact fin_ret (zB false) (by kernel_rfl) (by kernel_rfl) hm
  · refine .ifF (nt (ieq (Int.ofNat (Sl.n s0)) (Int.ofNat (Sl.n s1)))) (by kernel_rfl) h0 ?_
    refine .skip ?_
    refine .ghs (fr 26 [(0, (Sl.v 1 s0)), (1, (Sl.v 1 s1))]) (hp 0 []) (.k0 [] [] [0, 1]) ?_
    refine .join (v := v) (fun y : Unit => ((fr 26 []), (hp 0 []))) (fun y => m18_0 pu n) ?_ ?_
    · rintro _ hm
      exact w18_0 pu n hm
    · refine .then ?_
      refine .rK ?_
      refine .ghs (fr 26 [(0, (Sl.v 1 s0)), (1, (Sl.v 1 s1)), (5, (zI (0 : Int)))]) (hp 0 []) (.k0 [] [] [0, 1, 5]) ?_
      refine .block ?_
      refine .loopM (v := v) (fun y : Sl × Sl × Int => ((fr 26 [(0, (Sl.v 1 y.1)), (1, (Sl.v 1 y.2.1)), (5, (zI y.2.2))]), (hp 0 []))) (fun w y => l18_1 pu n w y.1 y.2.1 y.2.2) n ⟨(s0, s1, (0 : Int)), hm, (.k0 [] [] [0, 1, 5])⟩ (fun _ => rfl) ?_
      rintro w0 ⟨s2, s3, z0⟩ hm
      replace hm : b18_1 pu n (l18_1 pu n w0) s2 s3 z0 = some v := hm
      unfold b18_1 at hm
      refine .then ?_
      refine .then ?_
      refine .rK ?_
      refine .ghs (fr 26 [(0, (Sl.v 1 s2)), (1, (Sl.v 1 s3)), (5, (zI z0)), (14, (zB (ilt z0 (Int.ofNat (Sl.n s2)))))]) (hp 0 []) (.k0 [] [] [0, 1, 5, 14]) ?_
      replace hm := bb_cases hm; rcases hm with ⟨h1, hm⟩ | ⟨h1, hm⟩
      · refine .ifT (ilt z0 (Int.ofNat (Sl.n s2))) (by kernel_rfl) h1 ?_
        refine .skip ?_
        refine .ghs (fr 26 [(0, (Sl.v 1 s2)), (1, (Sl.v 1 s3)), (5, (zI z0))]) (hp 0 []) (.k0 [] [] [0, 1, 5]) ?_
        refine .then ?_
        refine .block ?_
        refine .then ?_
        replace hm := oo_inv hm; obtain ⟨k1, h2, hm⟩ := hm
        obtain rfl := toN_some h2
        replace hm := bb_inv hm; obtain ⟨h3, hm⟩ := hm
        replace hm := oo_inv hm; obtain ⟨v0, h4, hm⟩ := hm
        replace hm := inv_toI hm; obtain ⟨x0, rfl, hm⟩ := hm
        replace hm := bb_inv hm; obtain ⟨h5, hm⟩ := hm
        replace hm := oo_inv hm; obtain ⟨v1, h6, hm⟩ := hm
        replace hm := inv_toI hm; obtain ⟨x1, rfl, hm⟩ := hm
        refine .reg (eC 2 (keep (hp 0 []) (bb (an (Nat.blt k1 (Sl.n s2)) true) (some (fpV (k1 * 1) (Sl.cs s2))) none)) (keep_bb h3) (eD (keep (hp 0 []) (nthL (Sl.cs s2) (k1 * 1))) (keep_eq h4) (eC 2 (keep (hp 0 []) (bb (an (Nat.blt k1 (Sl.n s3)) true) (some (fpV (k1 * 1) (Sl.cs s3))) none)) (keep_bb h5) (eD (keep (hp 0 []) (nthL (Sl.cs s3) (k1 * 1))) (keep_eq h6) (eE))))) ?_
        refine .ghs (fr 26 [(0, (Sl.v 1 s2)), (1, (Sl.v 1 s3)), (5, (zI (Int.ofNat k1))), (25, (zB (nt (ieq x0 x1))))]) (hp 0 []) (.k0 [] [] [0, 1, 5, 25]) ?_
        replace hm := bb_cases hm; rcases hm with ⟨h7, hm⟩ | ⟨h7, hm⟩
        · refine .ifT (nt (ieq x0 x1)) (by kernel_rfl) h7 ?_
          refine .then ?_
          refine .rK ?_
          refine .ghs (fr 26 [(4, (zB false))]) (hp 0 []) (.k0 [] [] [4]) ?_
          refine .ret ?_
          exact fin_ret (zB false) (by kernel_rfl) (by kernel_rfl) hm
        · refine .ifF (nt (ieq x0 x1)) (by kernel_rfl) h7 ?_
          refine .skip ?_
          refine .ghs (fr 26 [(0, (Sl.v 1 s2)), (1, (Sl.v 1 s3)), (5, (zI (Int.ofNat k1)))]) (hp 0 []) (.k0 [] [] [0, 1, 5]) ?_
          refine .rK ?_
          exact ⟨(s2, s3, (wrapF .i64 (Int.add (Int.ofNat k1) (1 : Int)))), hm, (.k0 [] [] [0, 1, 5])⟩
      · refine .ifF (ilt z0 (Int.ofNat (Sl.n s2))) (by kernel_rfl) h1 ?_
        refine .exit ?_
        exact ⟨(), hm, (.k0 [] [] [])⟩
def m35_0 (pu : PureF) (n : Nat) (z0 : Int) : Option Value :=
  (some (.tuple ⟨[(.int .i64 z0), (.int .i64 (0 : Int))]⟩))
def m35_2 (pu : PureF) (n : Nat) (ih0 : Int → Sl → Int → Option Value) (z0 : Int) (s0 : Sl) (z1 : Int) : Option Value :=
  (ih0 z0 s0 (wrapF .i64 (Int.add z1 (1 : Int))))
def b35_1 (pu : PureF) (n : Nat) (ih0 : Int → Sl → Int → Option Value) (z0 : Int) (s0 : Sl) (z1 : Int) : Option Value :=
  (bb (ilt z1 (Int.ofNat (Sl.n s0))) (oo (toN z1) none fun k1 => (bb (an (Nat.blt k1 (Sl.n s0)) true) (oo (nthL (Sl.cs s0) (k1 * 1)) none fun v0 => (oo (toSl 1 v0) none fun s1 => (bb (an (Nat.blt 0 (Sl.n s1)) true) (oo (nthL (Sl.cs s1) (0 * 1)) none fun v1 => (oo (toI .i64 v1) none fun x0 => (bb (an (Nat.blt k1 (Sl.n s0)) true) (oo (nthL (Sl.cs s0) (k1 * 1)) none fun v2 => (oo (toSl 1 v2) none fun s2 => (bb (ilt x0 (wrapF .i64 (Int.sub (Int.ofNat (Sl.n s2)) (1 : Int)))) (m35_2 pu n ih0 (wrapF .i64 (Int.add z0 (1 : Int))) s0 (Int.ofNat k1)) (m35_2 pu n ih0 z0 s0 (Int.ofNat k1))))) none))) none))) none)) (m35_0 pu n z0))
def l35_1 (pu : PureF) (n : Nat) (w : Nat) : Int → Sl → Int → Option Value :=
  Nat.rec (motive := fun _ => Int → Sl → Int → Option Value) (fun _ _ _ => none) (fun _ ih0 => b35_1 pu n ih0) w
def m35_ (pu : PureF) (n : Nat) (x0 : Int) : Option Value :=
  (oo (pu 50 [(.int .i64 x0), (.int .i64 (1 : Int)), (.int .i64 (21 : Int))]) none fun v0 => (oo (vBool v0) none fun b0 => (bb (nt b0) (some (.tuple ⟨[(.int .i64 (0 : Int)), (.int .i64 (1 : Int))]⟩)) (oo (pu 54 [(.int .i64 x0), (.int .i64 (21 : Int))]) none fun v1 => (oo (toSl 1 v1) none fun s0 => (l35_1 pu n n (0 : Int) s0 (0 : Int)))))))
def m35 (pu : PureF) (n : Nat) (args : List Value) : Option Value :=
  (ll args none fun a0 args => (ll args (oo (toI .i64 a0) none fun x0 => (m35_ pu n x0)) fun _ _ => none))
theorem w35_0 (pu : PureF) (n : Nat) (z0 : Int) {v : Value} (hm : m35_0 pu n z0 = some v) : Run tt (callP tabs isP pu (inl pu)) 0 c35_24 (fr 34 [(4, (zI z0))]) (hp 0 []) (Fin tt 0 [.tmp 2, .tmp 3] v) := by
  unfold m35_0 at hm
  refine .then ?_
  refine .rK ?_
  refine .ghs (fr 34 [(2, (zI z0)), (3, (zI (0 : Int)))]) (hp 0 []) (.k0 [] [] [2, 3]) ?_
  refine .ret ?_
  exact fin_ret (.tuple ⟨[(zI z0), (zI (0 : Int))]⟩) (by kernel_rfl) (by kernel_rfl) hm
theorem r35 {call : CallF} (pu : PureF) (n : Nat) (hcall : call = callP tabs isP pu (inl pu)) {args : List Value} {v : Value} (hm : m35 pu n args = some v) (_ : ∀ x ∈ args, closed2 x = true) : args.length ≤ 34 ∧ Run tt call 0 c35_29 (Fr.made 34 args) (pureHeap tabs) (Fin tt 0 [.tmp 2, .tmp 3] v) := by
  subst hcall
  unfold m35 at hm
  replace hm := ll_uncons hm; obtain ⟨a0, args_0, rfl, hm⟩ := hm
  replace hm := ll_end hm; obtain ⟨rfl, hm⟩ := hm
  replace hm := inv_toI hm; obtain ⟨x0, rfl, hm⟩ := hm
  unfold m35_ at hm
  refine ⟨by simp, ?_⟩
  refine .same (F' := (fr 34 [(0, (zI x0))])) (H' := (hp 0 [])) (by kernel_rfl) (by kernel_rfl) ?_
  refine .then ?_
  refine .rK ?_
  refine .ghs (fr 34 [(0, (zI x0))]) (hp 0 []) (.k0 [] [] [0]) ?_
  refine .then ?_
  refine .then ?_
  replace hm := oo_inv hm; obtain ⟨v0, h0, hm⟩ := hm
  replace hm := inv_vBool hm; obtain ⟨b0, rfl, hm⟩ := hm
  refine .reg (eC 1 ((oo (pu 50 [(zI x0), (zI (1 : Int)), (zI (21 : Int))]) none fun v => some (v, (hp 0 [])))) (call_eq h0) (eE)) ?_
  refine .ghs (fr 34 [(0, (zI x0)), (9, (zB (nt b0)))]) (hp 0 []) (.k0 [] [] [0, 9]) ?_
  replace hm := bb_cases hm; rcases hm with ⟨h1, hm⟩ | ⟨h1, hm⟩
  · refine .ifT (nt b0) (by kernel_rfl) h1 ?_
    refine .then ?_
    refine .rK ?_
    refine .ghs (fr 34 [(2, (zI (0 : Int))), (3, (zI (1 : Int)))]) (hp 0 []) (.k0 [] [] [2, 3]) ?_
    refine .ret ?_
    exact fin_ret (.tuple ⟨[(zI (0 : Int)), (zI (1 : Int))]⟩) (by kernel_rfl) (by kernel_rfl) hm
  · refine .ifF (nt b0) (by kernel_rfl) h1 ?_
    refine .skip ?_
    refine .ghs (fr 34 [(0, (zI x0))]) (hp 0 []) (.k0 [] [] [0]) ?_
    refine .then ?_
    refine .rK ?_
    refine .ghs (fr 34 [(0, (zI x0)), (4, (zI (0 : Int)))]) (hp 0 []) (.k0 [] [] [0, 4]) ?_
    refine .then ?_
    replace hm := oo_inv hm; obtain ⟨v1, h2, hm⟩ := hm
    replace hm := inv_toSl hm; obtain ⟨s0, rfl, hm⟩ := hm
    refine .reg (eC 1 ((oo (pu 54 [(zI x0), (zI (21 : Int))]) none fun v => some (v, (hp 0 [])))) (call_eq h2) (eE)) ?_
    refine .ghs (fr 34 [(4, (zI (0 : Int))), (5, (Sl.v 1 s0))]) (hp 0 []) (.k0 [] [] [4, 5]) ?_
    refine .join (v := v) (fun y : Int => ((fr 34 [(4, (zI y))]), (hp 0 []))) (fun y => m35_0 pu n y) ?_ ?_
    · rintro z0 hm
      exact w35_0 pu n z0 hm
    · refine .then ?_
      refine .rK ?_
      refine .ghs (fr 34 [(4, (zI (0 : Int))), (5, (Sl.v 1 s0)), (6, (zI (0 : Int)))]) (hp 0 []) (.k0 [] [] [4, 5, 6]) ?_
      refine .block ?_
      refine .loopM (v := v) (fun y : Int × Sl × Int => ((fr 34 [(4, (zI y.1)), (5, (Sl.v 1 y.2.1)), (6, (zI y.2.2))]), (hp 0 []))) (fun w y => l35_1 pu n w y.1 y.2.1 y.2.2) n ⟨((0 : Int), s0, (0 : Int)), hm, (.k0 [] [] [4, 5, 6])⟩ (fun _ => rfl) ?_
      rintro w0 ⟨z1, s1, z2⟩ hm
      replace hm : b35_1 pu n (l35_1 pu n w0) z1 s1 z2 = some v := hm
      unfold b35_1 at hm
      refine .then ?_
      refine .then ?_
      refine .rK ?_
      refine .ghs (fr 34 [(4, (zI z1)), (5, (Sl.v 1 s1)), (6, (zI z2)), (15, (zB (ilt z2 (Int.ofNat (Sl.n s1)))))]) (hp 0 []) (.k0 [] [] [4, 5, 6, 15]) ?_
      replace hm := bb_cases hm; rcases hm with ⟨h3, hm⟩ | ⟨h3, hm⟩
      · refine .ifT (ilt z2 (Int.ofNat (Sl.n s1))) (by kernel_rfl) h3 ?_
        refine .skip ?_
        refine .ghs (fr 34 [(4, (zI z1)), (5, (Sl.v 1 s1)), (6, (zI z2))]) (hp 0 []) (.k0 [] [] [4, 5, 6]) ?_
        refine .join (v := v) (fun y : Int × Sl × Int => ((fr 34 [(4, (zI y.1)), (5, (Sl.v 1 y.2.1)), (6, (zI y.2.2))]), (hp 0 []))) (fun y => m35_2 pu n (l35_1 pu n w0) y.1 y.2.1 y.2.2) ?_ ?_
        · rintro ⟨z3, s2, z4⟩ hm
          unfold m35_2 at hm
          refine .rK ?_
          exact ⟨(z3, s2, (wrapF .i64 (Int.add z4 (1 : Int)))), hm, (.k0 [] [] [4, 5, 6])⟩
        · refine .block ?_
          refine .then ?_
          replace hm := oo_inv hm; obtain ⟨k1, h4, hm⟩ := hm
          obtain rfl := toN_some h4
          replace hm := bb_inv hm; obtain ⟨h5, hm⟩ := hm
          replace hm := oo_inv hm; obtain ⟨v2, h6, hm⟩ := hm
          replace hm := inv_toSl hm; obtain ⟨s3, rfl, hm⟩ := hm
          replace hm := bb_inv hm; obtain ⟨h7, hm⟩ := hm
          replace hm := oo_inv hm; obtain ⟨v3, h8, hm⟩ := hm
          replace hm := inv_toI hm; obtain ⟨x1, rfl, hm⟩ := hm
          replace hm := bb_inv hm; obtain ⟨h9, hm⟩ := hm
          replace hm := oo_inv hm; obtain ⟨v4, h10, hm⟩ := hm
          replace hm := inv_toSl hm; obtain ⟨s4, rfl, hm⟩ := hm
          refine .reg (eN 5 (Fr.puts (fr 34 [(4, (zI z1)), (5, (Sl.v 1 s1)), (6, (zI (Int.ofNat k1)))]) [(18, (Sl.v 1 s1)), (19, (zI (Int.ofNat k1))), (20, (fpV (k1 * 1) (Sl.cs s1))), (21, (Sl.v 1 s3)), (22, (fpV (0 * 1) (Sl.cs s3)))]) (hp 0 []) (eC 2 (keep (hp 0 []) (bb (an (Nat.blt k1 (Sl.n s1)) true) (some (fpV (k1 * 1) (Sl.cs s1))) none)) (keep_bb h5) (eD (keep (hp 0 []) (nthL (Sl.cs s1) (k1 * 1))) (keep_eq h6) (eD (keep (hp 0 []) (bb (an (Nat.blt 0 (Sl.n s3)) true) (some (fpV (0 * 1) (Sl.cs s3))) none)) (keep_bb h7) (by kernel_rfl)))) (eD (keep (hp 0 []) (nthL (Sl.cs s3) (0 * 1))) (keep_eq h8) (eC 2 (keep (hp 0 []) (bb (an (Nat.blt k1 (Sl.n s1)) true) (some (fpV (k1 * 1) (Sl.cs s1))) none)) (keep_bb h9) (eD (keep (hp 0 []) (nthL (Sl.cs s1) (k1 * 1))) (keep_eq h10) (eE))))) ?_
          refine .ghs (fr 34 [(4, (zI z1)), (5, (Sl.v 1 s1)), (6, (zI (Int.ofNat k1))), (30, (zB (ilt x1 (wrapF .i64 (Int.sub (Int.ofNat (Sl.n s4)) (1 : Int))))))]) (hp 0 []) (.k0 [] [] [4, 5, 6, 30]) ?_
          replace hm := bb_cases hm; rcases hm with ⟨h11, hm⟩ | ⟨h11, hm⟩
          · refine .ifT (ilt x1 (wrapF .i64 (Int.sub (Int.ofNat (Sl.n s4)) (1 : Int)))) (by kernel_rfl) h11 ?_
            refine .rK ?_
            exact ⟨((wrapF .i64 (Int.add z1 (1 : Int))), s1, (Int.ofNat k1)), hm, (.k0 [] [] [4, 5, 6])⟩
          · refine .ifF (ilt x1 (wrapF .i64 (Int.sub (Int.ofNat (Sl.n s4)) (1 : Int)))) (by kernel_rfl) h11 ?_
            refine .skip ?_
            exact ⟨(z1, s1, (Int.ofNat k1)), hm, (.k0 [] [] [4, 5, 6])⟩
      · refine .ifF (ilt z2 (Int.ofNat (Sl.n s1))) (by kernel_rfl) h3 ?_
        refine .exit ?_
        exact ⟨z1, hm, (.k0 [] [] [4])⟩
def m45_1 (pu : PureF) (n : Nat) (n0 : Nat) (c0 : Nat) (q0 : List Value) : Option Value :=
  (bb (allL closed1 q0) (bb (an (Nat.ble (0 + n0 * 1) (len q0)) (allL closed1 (takeL (n0 * 1) (dropL 0 q0)))) (some (Sl.v 1 (Sl.mk n0 0 (takeL (n0 * 1) (dropL 0 q0))))) none) none)
def m45_0 (pu : PureF) (n : Nat) (s0 : Sl) (n0 : Nat) (c0 : Nat) (b0 : Bool) (q0 : List Value) : Option Value :=
  (bb (allL closed1 q0) (bb (nt b0) (bb (growC 1 8 n0 c0 1 q0) (bb (allL closed1 (appL (dropL 0 q0) [(.int .i64 (Int.ofNat (Sl.n s0)))])) (m45_1 pu n (n0 + 1) (2 * (n0 + 1) + bb false 1 0) (appL (dropL 0 q0) [(.int .i64 (Int.ofNat (Sl.n s0)))])) none) none) (m45_1 pu n n0 c0 q0)) none)
def m45_3 (pu : PureF) (n : Nat) (ih0 : Sl → Nat → Nat → Bool → Int → List Value → Option Value) (s0 : Sl) (n0 : Nat) (c0 : Nat) (b0 : Bool) (z0 : Int) (q0 : List Value) : Option Value :=
  (bb (allL closed1 q0) (ih0 s0 n0 c0 b0 (wrapF .i64 (Int.add z0 (1 : Int))) q0) none)
def m45_4 (pu : PureF) (n : Nat) (ih0 : Sl → Nat → Nat → Bool → Int → List Value → Option Value) (s0 : Sl) (n0 : Nat) (c0 : Nat) (b0 : Bool) (z0 : Int) (q0 : List Value) : Option Value :=
  (oo (toN z0) none fun k1 => (bb (an (Nat.blt k1 (Sl.n s0)) true) (oo (nthL (Sl.cs s0) (k1 * 1)) none fun v0 => (oo (toI .i64 v0) none fun x0 => (bb (allL closed1 q0) (bb (ilt (1 : Int) x0) (bb (an (Nat.blt k1 (Sl.n s0)) true) (oo (nthL (Sl.cs s0) (k1 * 1)) none fun v1 => (oo (toI .i64 v1) none fun x1 => (bb (growC 1 8 n0 c0 1 q0) (bb (allL closed1 (appL (dropL 0 q0) [(.int .i64 (wrapF .i64 (Int.sub x1 (1 : Int))))])) (m45_3 pu n ih0 s0 (n0 + 1) (2 * (n0 + 1) + bb false 1 0) b0 (Int.ofNat k1) (appL (dropL 0 q0) [(.int .i64 (wrapF .i64 (Int.sub x1 (1 : Int))))])) none) none))) none) (m45_3 pu n ih0 s0 n0 c0 b0 (Int.ofNat k1) q0)) none))) none))
def m45_5 (pu : PureF) (n : Nat) (ih0 : Sl → Nat → Nat → Bool → Int → List Value → Option Value) (s0 : Sl) (n0 : Nat) (c0 : Nat) (b0 : Bool) (z0 : Int) (b1 : Bool) (q0 : List Value) : Option Value :=
  (bb b1 (bb (growC 1 8 n0 c0 1 q0) (bb (allL closed1 (appL (dropL 0 q0) [(.int .i64 (Int.ofNat (Sl.n s0)))])) (m45_4 pu n ih0 s0 (n0 + 1) (2 * (n0 + 1) + bb false 1 0) true z0 (appL (dropL 0 q0) [(.int .i64 (Int.ofNat (Sl.n s0)))])) none) none) (bb (allL closed1 q0) (m45_4 pu n ih0 s0 n0 c0 b0 z0 q0) none))
def b45_2 (pu : PureF) (n : Nat) (ih0 : Sl → Nat → Nat → Bool → Int → List Value → Option Value) (s0 : Sl) (n0 : Nat) (c0 : Nat) (b0 : Bool) (z0 : Int) (q0 : List Value) : Option Value :=
  (bb (allL closed1 q0) (bb (ilt z0 (Int.ofNat (Sl.n s0))) (bb (nt b0) (oo (toN z0) none fun k1 => (bb (an (Nat.blt k1 (Sl.n s0)) true) (oo (nthL (Sl.cs s0) (k1 * 1)) none fun v0 => (oo (toI .i64 v0) none fun x0 => (m45_5 pu n ih0 s0 n0 c0 b0 (Int.ofNat k1) (nt (ilt (Int.ofNat (Sl.n s0)) (wrapF .i64 (Int.sub x0 (1 : Int))))) q0))) none)) (m45_5 pu n ih0 s0 n0 c0 b0 z0 false q0)) (m45_0 pu n s0 n0 c0 b0 q0)) none)
def l45_2 (pu : PureF) (n : Nat) (w : Nat) : Sl → Nat → Nat → Bool → Int → List Value → Option Value :=
  Nat.rec (motive := fun _ => Sl → Nat → Nat → Bool → Int → List Value → Option Value) (fun _ _ _ _ _ _ => none) (fun _ ih0 => b45_2 pu n ih0) w
def m45_ (pu : PureF) (n : Nat) (s0 : Sl) : Option Value :=
  (l45_2 pu n n s0 0 0 false (0 : Int) ([] : List Value))
def m45 (pu : PureF) (n : Nat) (args : List Value) : Option Value :=
  (ll args none fun a0 args => (ll args (oo (toSl 1 a0) none fun s0 => (m45_ pu n s0)) fun _ _ => none))
theorem w45_1 (pu : PureF) (n : Nat) (n0 : Nat) (c0 : Nat) (q0 : List Value) {v : Value} (hm : m45_1 pu n n0 c0 q0 = some v) : Run tt (callP tabs isP pu (inl pu)) 0 c45_30 (fr 50 [(3, (sc 0 0 1 n0 c0))]) (hp 1 [(oC q0)]) (Fin tt 0 [.tmp 2] v) := by
  unfold m45_1 at hm
  refine .then ?_
  refine .rK ?_
  replace hm := bb_inv hm; obtain ⟨h0, hm⟩ := hm
  refine .ghs (fr 50 [(2, (sc 0 0 1 n0 c0))]) (hp 1 [(oC q0)]) (.k [0] [] [.tmp 2 false] [2] ⟨trE (by kernel_rfl) h0, trivial⟩) ?_
  replace hm := bb_inv hm; obtain ⟨h1, hm⟩ := hm
  refine .ghs (Fr.puts (fr 50 [(2, (sc 0 0 1 n0 c0))]) [(2, (Sl.v 1 (Sl.mk n0 0 (takeL (n0 * 1) (dropL 0 q0)))))]) (hp 1 [.dead]) (.freezeC 0 2 1 (an (Nat.ble (0 + n0 * 1) (len q0)) (allL closed1 (takeL (n0 * 1) (dropL 0 q0)))) (F1 := (Fr.puts (fr 50 [(2, (sc 0 0 1 n0 c0))]) [(2, (Sl.v 1 (Sl.mk n0 0 (takeL (n0 * 1) (dropL 0 q0)))))])) (H1 := (hp 1 [.dead])) (by kernel_rfl) (by kernel_rfl) h1 (GhS.id _ _)) ?_
  refine .ret ?_
  exact fin_ret (Sl.v 1 (Sl.mk n0 0 (takeL (n0 * 1) (dropL 0 q0)))) (by kernel_rfl) (by kernel_rfl) hm
theorem w45_0 (pu : PureF) (n : Nat) (s0 : Sl) (n0 : Nat) (c0 : Nat) (b0 : Bool) (q0 : List Value) {v : Value} (hm : m45_0 pu n s0 n0 c0 b0 q0 = some v) : Run tt (callP tabs isP pu (inl pu)) 0 c45_31 (fr 50 [(0, (Sl.v 1 s0)), (3, (sc 0 0 1 n0 c0)), (4, (zB b0))]) (hp 1 [(oC q0)]) (Fin tt 0 [.tmp 2] v) := by
  unfold m45_0 at hm
  refine .join (v := v) (fun y : Nat × Nat × List Value => ((fr 50 [(3, (sc 0 0 1 y.1 y.2.1))]), (hp 1 [(oC y.2.2)]))) (fun y => m45_1 pu n y.1 y.2.1 y.2.2) ?_ ?_
  · rintro ⟨n1, c1, q1⟩ hm
    exact w45_1 pu n n1 c1 q1 hm
  · refine .then ?_
    refine .rK ?_
    replace hm := bb_inv hm; obtain ⟨h0, hm⟩ := hm
    refine .ghs (fr 50 [(0, (Sl.v 1 s0)), (3, (sc 0 0 1 n0 c0)), (43, (zB (nt b0)))]) (hp 1 [(oC q0)]) (.k [0] [] [.tmp 3 false] [0, 3, 43] ⟨trE (by kernel_rfl) h0, trivial⟩) ?_
    replace hm := bb_cases hm; rcases hm with ⟨h1, hm⟩ | ⟨h1, hm⟩
    · refine .ifT (nt b0) (by kernel_rfl) h1 ?_
      replace hm := bb_inv hm; obtain ⟨h2, hm⟩ := hm
      refine .reg (eC 4 (growD 1 8 n0 c0 1 0 q0 [(zI (Int.ofNat (Sl.n s0)))] [] (hp 2 [(oC q0), (oC [(zI (Int.ofNat (Sl.n s0)))])])) (growD_eq h2) (eE)) ?_
      replace hm := bb_inv hm; obtain ⟨h3, hm⟩ := hm
      exact ⟨((n0 + 1), (d2 (n0 + 1)), (appL (dropL 0 q0) [(zI (Int.ofNat (Sl.n s0)))])), hm, (.k [2] [] [.tmp 3 false] [3] ⟨trE (by kernel_rfl) h3, trivial⟩)⟩
    · refine .ifF (nt b0) (by kernel_rfl) h1 ?_
      refine .skip ?_
      exact ⟨(n0, c0, q0), hm, (.k [0] [] [.tmp 3 false] [3] ⟨trE (by kernel_rfl) h0, trivial⟩)⟩
theorem r45 {call : CallF} (pu : PureF) (n : Nat) (hcall : call = callP tabs isP pu (inl pu)) {args : List Value} {v : Value} (hm : m45 pu n args = some v) (_ : ∀ x ∈ args, closed2 x = true) : args.length ≤ 50 ∧ Run tt call 0 c45_35 (Fr.made 50 args) (pureHeap tabs) (Fin tt 0 [.tmp 2] v) := by
  subst hcall
  unfold m45 at hm
  replace hm := ll_uncons hm; obtain ⟨a0, args_0, rfl, hm⟩ := hm
  replace hm := ll_end hm; obtain ⟨rfl, hm⟩ := hm
  replace hm := inv_toSl hm; obtain ⟨s0, rfl, hm⟩ := hm
  unfold m45_ at hm
  refine ⟨by simp, ?_⟩
  refine .same (F' := (fr 50 [(0, (Sl.v 1 s0))])) (H' := (hp 0 [])) (by kernel_rfl) (by kernel_rfl) ?_
  refine .then ?_
  refine .rK ?_
  refine .ghs (fr 50 [(0, (Sl.v 1 s0))]) (hp 0 []) (.k0 [] [] [0]) ?_
  refine .then ?_
  refine .rK ?_
  refine .ghs (fr 50 [(0, (Sl.v 1 s0)), (3, (.slice none 0 0))]) (hp 0 []) (.k0 [] [] [0, 3]) ?_
  refine .then ?_
  refine .rK ?_
  refine .ghs (fr 50 [(0, (Sl.v 1 s0)), (3, (.slice none 0 0)), (4, (zB false))]) (hp 0 []) (.k0 [] [] [0, 3, 4]) ?_
  refine .join (v := v) (fun y : Sl × Nat × Nat × Bool × List Value => ((fr 50 [(0, (Sl.v 1 y.1)), (3, (sc 0 0 1 y.2.1 y.2.2.1)), (4, (zB y.2.2.2.1))]), (hp 1 [(oC y.2.2.2.2)]))) (fun y => m45_0 pu n y.1 y.2.1 y.2.2.1 y.2.2.2.1 y.2.2.2.2) ?_ ?_
  · rintro ⟨s1, n0, c0, b0, q0⟩ hm
    exact w45_0 pu n s1 n0 c0 b0 q0 hm
  · refine .then ?_
    refine .rK ?_
    refine .ghs (fr 50 [(0, (Sl.v 1 s0)), (3, (.slice none 0 0)), (4, (zB false)), (5, (zI (0 : Int)))]) (hp 0 []) (.k0 [] [] [0, 3, 4, 5]) ?_
    refine .block ?_
    refine .loopM (v := v) (fun y : Sl × Nat × Nat × Bool × Int × List Value => ((fr 50 [(0, (Sl.v 1 y.1)), (3, (sc 0 0 1 y.2.1 y.2.2.1)), (4, (zB y.2.2.2.1)), (5, (zI y.2.2.2.2.1))]), (hp 1 [(oC y.2.2.2.2.2)]))) (fun w y => l45_2 pu n w y.1 y.2.1 y.2.2.1 y.2.2.2.1 y.2.2.2.2.1 y.2.2.2.2.2) n ⟨(s0, 0, 0, false, (0 : Int), ([] : List Value)), hm, (.thaw 3 1 (by kernel_rfl) (.k0 [] [.tmp 3 false] [0, 3, 4, 5]))⟩ (fun _ => rfl) ?_
    rintro w0 ⟨s2, n1, c1, b1, z0, q1⟩ hm
    replace hm : b45_2 pu n (l45_2 pu n w0) s2 n1 c1 b1 z0 q1 = some v := hm
    unfold b45_2 at hm
    refine .then ?_
    refine .then ?_
    refine .rK ?_
    replace hm := bb_inv hm; obtain ⟨h0, hm⟩ := hm
    refine .ghs (fr 50 [(0, (Sl.v 1 s2)), (3, (sc 0 0 1 n1 c1)), (4, (zB b1)), (5, (zI z0)), (9, (zB (ilt z0 (Int.ofNat (Sl.n s2)))))]) (hp 1 [(oC q1)]) (.k [0] [] [.tmp 3 false] [0, 3, 4, 5, 9] ⟨trE (by kernel_rfl) h0, trivial⟩) ?_
    replace hm := bb_cases hm; rcases hm with ⟨h1, hm⟩ | ⟨h1, hm⟩
    · refine .ifT (ilt z0 (Int.ofNat (Sl.n s2))) (by kernel_rfl) h1 ?_
      refine .skip ?_
      refine .ghs (fr 50 [(0, (Sl.v 1 s2)), (3, (sc 0 0 1 n1 c1)), (4, (zB b1)), (5, (zI z0))]) (hp 1 [(oC q1)]) (.k [0] [] [.tmp 3 false] [0, 3, 4, 5] ⟨trE (by kernel_rfl) h0, trivial⟩) ?_
      refine .join (v := v) (fun y : Sl × Nat × Nat × Bool × Int × List Value => ((fr 50 [(0, (Sl.v 1 y.1)), (3, (sc 0 0 1 y.2.1 y.2.2.1)), (4, (zB y.2.2.2.1)), (5, (zI y.2.2.2.2.1))]), (hp 1 [(oC y.2.2.2.2.2)]))) (fun y => m45_3 pu n (l45_2 pu n w0) y.1 y.2.1 y.2.2.1 y.2.2.2.1 y.2.2.2.2.1 y.2.2.2.2.2) ?_ ?_
      · rintro ⟨s3, n2, c2, b2, z1, q2⟩ hm
        unfold m45_3 at hm
        refine .rK ?_
        replace hm := bb_inv hm; obtain ⟨h2, hm⟩ := hm
        exact ⟨(s3, n2, c2, b2, (wrapF .i64 (Int.add z1 (1 : Int))), q2), hm, (.k [0] [] [.tmp 3 false] [0, 3, 4, 5] ⟨trE (by kernel_rfl) h2, trivial⟩)⟩
      · refine .block ?_
        refine .join (v := v) (fun y : Sl × Nat × Nat × Bool × Int × List Value => ((fr 50 [(0, (Sl.v 1 y.1)), (3, (sc 0 0 1 y.2.1 y.2.2.1)), (4, (zB y.2.2.2.1)), (5, (zI y.2.2.2.2.1))]), (hp 1 [(oC y.2.2.2.2.2)]))) (fun y => m45_4 pu n (l45_2 pu n w0) y.1 y.2.1 y.2.2.1 y.2.2.2.1 y.2.2.2.2.1 y.2.2.2.2.2) ?_ ?_
        · rintro ⟨s4, n3, c3, b3, z2, q3⟩ hm
          unfold m45_4 at hm
          refine .then ?_
          replace hm := oo_inv hm; obtain ⟨k1, h3, hm⟩ := hm
          obtain rfl := toN_some h3
          replace hm := bb_inv hm; obtain ⟨h4, hm⟩ := hm
          replace hm := oo_inv hm; obtain ⟨v0, h5, hm⟩ := hm
          replace hm := inv_toI hm; obtain ⟨x0, rfl, hm⟩ := hm
          refine .reg (eC 2 (keep (hp 1 [(oC q3)]) (bb (an (Nat.blt k1 (Sl.n s4)) true) (some (fpV (k1 * 1) (Sl.cs s4))) none)) (keep_bb h4) (eD (keep (hp 1 [(oC q3)]) (nthL (Sl.cs s4) (k1 * 1))) (keep_eq h5) (eE))) ?_
          replace hm := bb_inv hm; obtain ⟨h6, hm⟩ := hm
          refine .ghs (fr 50 [(0, (Sl.v 1 s4)), (3, (sc 0 0 1 n3 c3)), (4, (zB b3)), (5, (zI (Int.ofNat k1))), (33, (zB (ilt (1 : Int) x0)))]) (hp 1 [(oC q3)]) (.k [0] [] [.tmp 3 false] [0, 3, 4, 5, 33] ⟨trE (by kernel_rfl) h6, trivial⟩) ?_
          replace hm := bb_cases hm; rcases hm with ⟨h7, hm⟩ | ⟨h7, hm⟩
          · refine .ifT (ilt (1 : Int) x0) (by kernel_rfl) h7 ?_
            replace hm := bb_inv hm; obtain ⟨h8, hm⟩ := hm
            replace hm := oo_inv hm; obtain ⟨v1, h9, hm⟩ := hm
            replace hm := inv_toI hm; obtain ⟨x1, rfl, hm⟩ := hm
            replace hm := bb_inv hm; obtain ⟨h10, hm⟩ := hm
            refine .reg (eC 3 (keep (hp 1 [(oC q3)]) (bb (an (Nat.blt k1 (Sl.n s4)) true) (some (fpV (k1 * 1) (Sl.cs s4))) none)) (keep_bb h8) (eD (keep (hp 1 [(oC q3)]) (nthL (Sl.cs s4) (k1 * 1))) (keep_eq h9) (eC 2 (growD 1 8 n3 c3 1 0 q3 [(zI (wrapF .i64 (Int.sub x1 (1 : Int))))] [] (hp 2 [(oC q3), (oC [(zI (wrapF .i64 (Int.sub x1 (1 : Int))))])])) (growD_eq h10) (eE)))) ?_
            replace hm := bb_inv hm; obtain ⟨h11, hm⟩ := hm
            exact ⟨(s4, (n3 + 1), (d2 (n3 + 1)), b3, (Int.ofNat k1), (appL (dropL 0 q3) [(zI (wrapF .i64 (Int.sub x1 (1 : Int))))])), hm, (.k [2] [] [.tmp 3 false] [0, 3, 4, 5] ⟨trE (by kernel_rfl) h11, trivial⟩)⟩
          · refine .ifF (ilt (1 : Int) x0) (by kernel_rfl) h7 ?_
            refine .skip ?_
            exact ⟨(s4, n3, c3, b3, (Int.ofNat k1), q3), hm, (.k [0] [] [.tmp 3 false] [0, 3, 4, 5] ⟨trE (by kernel_rfl) h6, trivial⟩)⟩
        · refine .join (v := v) (fun y : Sl × Nat × Nat × Bool × Int × Bool × List Value => ((fr 50 [(0, (Sl.v 1 y.1)), (3, (sc 0 0 1 y.2.1 y.2.2.1)), (4, (zB y.2.2.2.1)), (5, (zI y.2.2.2.2.1)), (23, (zB y.2.2.2.2.2.1))]), (hp 1 [(oC y.2.2.2.2.2.2)]))) (fun y => m45_5 pu n (l45_2 pu n w0) y.1 y.2.1 y.2.2.1 y.2.2.2.1 y.2.2.2.2.1 y.2.2.2.2.2.1 y.2.2.2.2.2.2) ?_ ?_
          · rintro ⟨s5, n4, c4, b4, z3, b5, q4⟩ hm
            unfold m45_5 at hm
            replace hm := bb_cases hm; rcases hm with ⟨h12, hm⟩ | ⟨h12, hm⟩
            · refine .ifT b5 (by kernel_rfl) h12 ?_
              refine .then ?_
              replace hm := bb_inv hm; obtain ⟨h13, hm⟩ := hm
              refine .reg (eC 4 (growD 1 8 n4 c4 1 0 q4 [(zI (Int.ofNat (Sl.n s5)))] [] (hp 2 [(oC q4), (oC [(zI (Int.ofNat (Sl.n s5)))])])) (growD_eq h13) (eE)) ?_
              replace hm := bb_inv hm; obtain ⟨h14, hm⟩ := hm
              refine .ghs (fr 50 [(0, (Sl.v 1 s5)), (3, (sc 0 0 1 (n4 + 1) (d2 (n4 + 1)))), (5, (zI z3))]) (hp 1 [(oC (appL (dropL 0 q4) [(zI (Int.ofNat (Sl.n s5)))]))]) (.k [2] [] [.tmp 3 false] [0, 3, 5] ⟨trE (by kernel_rfl) h14, trivial⟩) ?_
              refine .rK ?_
              exact ⟨(s5, (n4 + 1), (d2 (n4 + 1)), true, z3, (appL (dropL 0 q4) [(zI (Int.ofNat (Sl.n s5)))])), hm, (.k [0] [] [.tmp 3 false] [0, 3, 4, 5] ⟨trE (by kernel_rfl) h14, trivial⟩)⟩
            · refine .ifF b5 (by kernel_rfl) h12 ?_
              refine .skip ?_
              replace hm := bb_inv hm; obtain ⟨h15, hm⟩ := hm
              exact ⟨(s5, n4, c4, b4, z3, q4), hm, (.k [0] [] [.tmp 3 false] [0, 3, 4, 5] ⟨trE (by kernel_rfl) h15, trivial⟩)⟩
          · replace hm := bb_cases hm; rcases hm with ⟨h16, hm⟩ | ⟨h16, hm⟩
            · replace hm := oo_inv hm; obtain ⟨k2, h17, hm⟩ := hm
              obtain rfl := toN_some h17
              replace hm := bb_inv hm; obtain ⟨h18, hm⟩ := hm
              replace hm := oo_inv hm; obtain ⟨v2, h19, hm⟩ := hm
              replace hm := inv_toI hm; obtain ⟨x2, rfl, hm⟩ := hm
              refine .reg (eC 1 (some ((zB (nt b1)), (hp 1 [(oC q1)]))) (show _ = some ((zB true), _) from (by rw [h16])) (eC 3 (keep (hp 1 [(oC q1)]) (bb (an (Nat.blt k2 (Sl.n s2)) true) (some (fpV (k2 * 1) (Sl.cs s2))) none)) (keep_bb h18) (eD (keep (hp 1 [(oC q1)]) (nthL (Sl.cs s2) (k2 * 1))) (keep_eq h19) (eE)))) ?_
              exact ⟨(s2, n1, c1, b1, (Int.ofNat k2), (nt (ilt (Int.ofNat (Sl.n s2)) (wrapF .i64 (Int.sub x2 (1 : Int))))), q1), hm, (.k [0] [] [.tmp 3 false] [0, 3, 4, 5, 23] ⟨trE (by kernel_rfl) h0, trivial⟩)⟩
            · refine .reg (eC 1 (some ((zB (nt b1)), (hp 1 [(oC q1)]))) (show _ = some ((zB false), _) from (by rw [h16])) (eE)) ?_
              exact ⟨(s2, n1, c1, b1, z0, false, q1), hm, (.k [0] [] [.tmp 3 false] [0, 3, 4, 5, 23] ⟨trE (by kernel_rfl) h0, trivial⟩)⟩
    · refine .ifF (ilt z0 (Int.ofNat (Sl.n s2))) (by kernel_rfl) h1 ?_
      refine .exit ?_
      exact ⟨(s2, n1, c1, b1, q1), hm, (.k [0] [] [.tmp 3 false] [0, 3, 4] ⟨trE (by kernel_rfl) h0, trivial⟩)⟩
def m50_0 (pu : PureF) (n : Nat) (b0 : Bool) : Option Value :=
  (some (.bool b0))
def m50_ (pu : PureF) (n : Nat) (x0 : Int) (x1 : Int) (x2 : Int) : Option Value :=
  (bb (nt (ilt x0 x1)) (m50_0 pu n (nt (ilt x2 x0))) (m50_0 pu n false))
def m50 (pu : PureF) (n : Nat) (args : List Value) : Option Value :=
  (ll args none fun a0 args => (ll args none fun a1 args => (ll args none fun a2 args => (ll args (oo (toI .i64 a0) none fun x0 => (oo (toI .i64 a1) none fun x1 => (oo (toI .i64 a2) none fun x2 => (m50_ pu n x0 x1 x2)))) fun _ _ => none))))
theorem w50_0 (pu : PureF) (n : Nat) (b0 : Bool) {v : Value} (hm : m50_0 pu n b0 = some v) : Run tt (callP tabs isP pu (inl pu)) 0 .ret (fr 15 [(6, (zB b0))]) (hp 0 []) (Fin tt 0 [.tmp 6] v) := by
  unfold m50_0 at hm
  refine .ret ?_
  exact fin_ret (zB b0) (by kernel_rfl) (by kernel_rfl) hm
theorem r50 {call : CallF} (pu : PureF) (n : Nat) (hcall : call = callP tabs isP pu (inl pu)) {args : List Value} {v : Value} (hm : m50 pu n args = some v) (_ : ∀ x ∈ args, closed2 x = true) : args.length ≤ 15 ∧ Run tt call 0 c50_3 (Fr.made 15 args) (pureHeap tabs) (Fin tt 0 [.tmp 6] v) := by
  subst hcall
  unfold m50 at hm
  replace hm := ll_uncons hm; obtain ⟨a0, args_0, rfl, hm⟩ := hm
  replace hm := ll_uncons hm; obtain ⟨a1, args_1, rfl, hm⟩ := hm
  replace hm := ll_uncons hm; obtain ⟨a2, args_2, rfl, hm⟩ := hm
  replace hm := ll_end hm; obtain ⟨rfl, hm⟩ := hm
  replace hm := inv_toI hm; obtain ⟨x0, rfl, hm⟩ := hm
  replace hm := inv_toI hm; obtain ⟨x1, rfl, hm⟩ := hm
  replace hm := inv_toI hm; obtain ⟨x2, rfl, hm⟩ := hm
  unfold m50_ at hm
  refine ⟨by simp, ?_⟩
  refine .same (F' := (fr 15 [(0, (zI x0)), (1, (zI x1)), (2, (zI x2))])) (H' := (hp 0 [])) (by kernel_rfl) (by kernel_rfl) ?_
  refine .then ?_
  refine .rK ?_
  refine .ghs (fr 15 [(0, (zI x0)), (1, (zI x1)), (2, (zI x2))]) (hp 0 []) (.k0 [] [] [0, 1, 2]) ?_
  refine .join (v := v) (fun y : Bool => ((fr 15 [(6, (zB y))]), (hp 0 []))) (fun y => m50_0 pu n y) ?_ ?_
  · rintro b0 hm
    exact w50_0 pu n b0 hm
  · replace hm := bb_cases hm; rcases hm with ⟨h0, hm⟩ | ⟨h0, hm⟩
    · refine .reg (eC 2 (some ((zB (nt (ilt x0 x1))), (hp 0 []))) (show _ = some ((zB true), _) from (by rw [h0])) (eE)) ?_
      exact ⟨(nt (ilt x2 x0)), hm, (.k0 [] [] [6])⟩
    · refine .reg (eC 2 (some ((zB (nt (ilt x0 x1))), (hp 0 []))) (show _ = some ((zB false), _) from (by rw [h0])) (eE)) ?_
      exact ⟨false, hm, (.k0 [] [] [6])⟩
def m51_0 (pu : PureF) (n : Nat) : Option Value :=
  (some (.bool false))
def b51_1 (pu : PureF) (n : Nat) (ih0 : Sl → Sl → Int → Option Value) (s0 : Sl) (s1 : Sl) (z0 : Int) : Option Value :=
  (bb (ilt z0 (21 : Int)) (oo (pu 45 [(Sl.v 1 s1)]) none fun v0 => (oo (toSl 1 v0) none fun s2 => (oo (pu 56 [(Sl.v 1 s2), (Sl.v 1 s0)]) none fun v1 => (oo (vBool v1) none fun b0 => (bb b0 (some (.bool true)) (ih0 s0 s2 (wrapF .i64 (Int.add z0 (1 : Int))))))))) (m51_0 pu n))
def l51_1 (pu : PureF) (n : Nat) (w : Nat) : Sl → Sl → Int → Option Value :=
  Nat.rec (motive := fun _ => Sl → Sl → Int → Option Value) (fun _ _ _ => none) (fun _ ih0 => b51_1 pu n ih0) w
def m51_ (pu : PureF) (n : Nat) (s0 : Sl) : Option Value :=
  (l51_1 pu n n s0 s0 (0 : Int))
def m51 (pu : PureF) (n : Nat) (args : List Value) : Option Value :=
  (ll args none fun a0 args => (ll args (oo (toSl 1 a0) none fun s0 => (m51_ pu n s0)) fun _ _ => none))
theorem w51_0 (pu : PureF) (n : Nat) {v : Value} (hm : m51_0 pu n = some v) : Run tt (callP tabs isP pu (inl pu)) 0 c51_21 (fr 15 []) (hp 0 []) (Fin tt 0 [.tmp 2] v) := by
  unfold m51_0 at hm
  refine .then ?_
  refine .rK ?_
  refine .ghs (fr 15 [(2, (zB false))]) (hp 0 []) (.k0 [] [] [2]) ?_
  refine .ret ?_
  exact fin_ret (zB false) (by kernel_rfl) (by kernel_rfl) hm
theorem r51 {call : CallF} (pu : PureF) (n : Nat) (hcall : call = callP tabs isP pu (inl pu)) {args : List Value} {v : Value} (hm : m51 pu n args = some v) (_ : ∀ x ∈ args, closed2 x = true) : args.length ≤ 15 ∧ Run tt call 0 c51_24 (Fr.made 15 args) (pureHeap tabs) (Fin tt 0 [.tmp 2] v) := by
  subst hcall
  unfold m51 at hm
  replace hm := ll_uncons hm; obtain ⟨a0, args_0, rfl, hm⟩ := hm
  replace hm := ll_end hm; obtain ⟨rfl, hm⟩ := hm
  replace hm := inv_toSl hm; obtain ⟨s0, rfl, hm⟩ := hm
  unfold m51_ at hm
  refine ⟨by simp, ?_⟩
  refine .same (F' := (fr 15 [(0, (Sl.v 1 s0))])) (H' := (hp 0 [])) (by kernel_rfl) (by kernel_rfl) ?_
  refine .then ?_
  refine .rK ?_
  refine .ghs (fr 15 [(0, (Sl.v 1 s0))]) (hp 0 []) (.k0 [] [] [0]) ?_
  refine .then ?_
  refine .rK ?_
  refine .ghs (fr 15 [(0, (Sl.v 1 s0)), (3, (Sl.v 1 s0))]) (hp 0 []) (.k0 [] [] [0, 3]) ?_
  refine .join (v := v) (fun y : Unit => ((fr 15 []), (hp 0 []))) (fun y => m51_0 pu n) ?_ ?_
  · rintro _ hm
    exact w51_0 pu n hm
  · refine .then ?_
    refine .rK ?_
    refine .ghs (fr 15 [(0, (Sl.v 1 s0)), (3, (Sl.v 1 s0)), (4, (zI (0 : Int)))]) (hp 0 []) (.k0 [] [] [0, 3, 4]) ?_
    refine .block ?_
    refine .loopM (v := v) (fun y : Sl × Sl × Int => ((fr 15 [(0, (Sl.v 1 y.1)), (3, (Sl.v 1 y.2.1)), (4, (zI y.2.2))]), (hp 0 []))) (fun w y => l51_1 pu n w y.1 y.2.1 y.2.2) n ⟨(s0, s0, (0 : Int)), hm, (.k0 [] [] [0, 3, 4])⟩ (fun _ => rfl) ?_
    rintro w0 ⟨s1, s2, z0⟩ hm
    replace hm : b51_1 pu n (l51_1 pu n w0) s1 s2 z0 = some v := hm
    unfold b51_1 at hm
    refine .then ?_
    refine .then ?_
    refine .rK ?_
    refine .ghs (fr 15 [(0, (Sl.v 1 s1)), (3, (Sl.v 1 s2)), (4, (zI z0)), (7, (zB (ilt z0 (21 : Int))))]) (hp 0 []) (.k0 [] [] [0, 3, 4, 7]) ?_
    replace hm := bb_cases hm; rcases hm with ⟨h0, hm⟩ | ⟨h0, hm⟩
    · refine .ifT (ilt z0 (21 : Int)) (by kernel_rfl) h0 ?_
      refine .skip ?_
      refine .ghs (fr 15 [(0, (Sl.v 1 s1)), (3, (Sl.v 1 s2)), (4, (zI z0))]) (hp 0 []) (.k0 [] [] [0, 3, 4]) ?_
      refine .then ?_
      refine .block ?_
      refine .then ?_
      replace hm := oo_inv hm; obtain ⟨v0, h1, hm⟩ := hm
      replace hm := inv_toSl hm; obtain ⟨s3, rfl, hm⟩ := hm
      refine .reg (eC 1 ((oo (pu 45 [(Sl.v 1 s2)]) none fun v => some (v, (hp 0 [])))) (call_eq h1) (eE)) ?_
      refine .ghs (fr 15 [(0, (Sl.v 1 s1)), (3, (Sl.v 1 s3)), (4, (zI z0))]) (hp 0 []) (.k0 [] [] [0, 3, 4]) ?_
      refine .then ?_
      replace hm := oo_inv hm; obtain ⟨v1, h2, hm⟩ := hm
      replace hm := inv_vBool hm; obtain ⟨b0, rfl, hm⟩ := hm
      refine .reg (eC 2 ((oo (pu 56 [(Sl.v 1 s3), (Sl.v 1 s1)]) none fun v => some (v, (hp 0 [])))) (call_eq h2) (eE)) ?_
      refine .ghs (fr 15 [(0, (Sl.v 1 s1)), (3, (Sl.v 1 s3)), (4, (zI z0)), (14, (zB b0))]) (hp 0 []) (.k0 [] [] [0, 3, 4, 14]) ?_
      replace hm := bb_cases hm; rcases hm with ⟨h3, hm⟩ | ⟨h3, hm⟩
      · refine .ifT b0 (by kernel_rfl) h3 ?_
        refine .then ?_
        refine .rK ?_
        refine .ghs (fr 15 [(2, (zB true))]) (hp 0 []) (.k0 [] [] [2]) ?_
        refine .ret ?_
        exact fin_ret (zB true) (by kernel_rfl) (by kernel_rfl) hm
      · refine .ifF b0 (by kernel_rfl) h3 ?_
        refine .skip ?_
        refine .ghs (fr 15 [(0, (Sl.v 1 s1)), (3, (Sl.v 1 s3)), (4, (zI z0))]) (hp 0 []) (.k0 [] [] [0, 3, 4]) ?_
        refine .rK ?_
        exact ⟨(s1, s3, (wrapF .i64 (Int.add z0 (1 : Int)))), hm, (.k0 [] [] [0, 3, 4])⟩
    · refine .ifF (ilt z0 (21 : Int)) (by kernel_rfl) h0 ?_
      refine .exit ?_
      exact ⟨(), hm, (.k0 [] [] [])⟩
def m54_0 (pu : PureF) (n : Nat) (n0 : Nat) (c0 : Nat) (q0 : List Value) : Option Value :=
  (bb (allL closed1 q0) (bb (an (Nat.ble (0 + n0 * 1) (len q0)) (allL closed1 (takeL (n0 * 1) (dropL 0 q0)))) (some (Sl.v 1 (Sl.mk n0 0 (takeL (n0 * 1) (dropL 0 q0))))) none) none)
def m54_3 (pu : PureF) (n : Nat) (ih0 : Int → Int → Nat → Nat → Int → List Value → Option Value) (z0 : Int) (z1 : Int) (n0 : Nat) (c0 : Nat) (z2 : Int) (q0 : List Value) : Option Value :=
  (bb (allL closed1 q0) (ih0 z0 z1 n0 c0 (wrapF .i64 (Int.add z2 (1 : Int))) q0) none)
def b54_4 (pu : PureF) (n : Nat) (ih0 : Int → Int → Nat → Nat → Int → List Value → Option Value) (ih1 : Int → Int → Nat → Nat → Int → Sl → Int → List Value → Option Value) (z0 : Int) (z1 : Int) (n0 : Nat) (c0 : Nat) (z2 : Int) (s0 : Sl) (z3 : Int) (q0 : List Value) : Option Value :=
  (bb (allL closed1 q0) (bb (ilt z3 (Int.ofNat (Sl.n s0))) (oo (toN z3) none fun k1 => (bb (an (Nat.blt k1 (Sl.n s0)) true) (oo (nthL (Sl.cs s0) (k1 * 1)) none fun v0 => (oo (toSl 1 v0) none fun s1 => (bb (Nat.beq (Sl.n s1) 0) (bb (growC 1 24 n0 c0 1 q0) (bb (allL closed1 (appL (dropL 0 q0) [(Sl.v 1 (Sl.mk 1 0 (takeL (1 * 1) (dropL 0 ([(.int .i64 z2)] : List Value)))))])) (ih1 z0 z1 (n0 + 1) (2 * (n0 + 1) + bb false 1 0) z2 s0 (wrapF .i64 (Int.add (Int.ofNat k1) (1 : Int))) (appL (dropL 0 q0) [(Sl.v 1 (Sl.mk 1 0 (takeL (1 * 1) (dropL 0 ([(.int .i64 z2)] : List Value)))))])) none) none) (bb (roomy (1 + (Sl.n s1)) 8) (bb (an (Nat.ble (0 + (1 + (Sl.n s1)) * 1) (len (appL (takeL (1 * 1) (dropL 0 ([(.int .i64 z2)] : List Value))) (takeL ((Sl.n s1) * 1) (Sl.cs s1))))) (allL closed1 (takeL ((1 + (Sl.n s1)) * 1) (dropL 0 (appL (takeL (1 * 1) (dropL 0 ([(.int .i64 z2)] : List Value))) (takeL ((Sl.n s1) * 1) (Sl.cs s1))))))) (bb (growC 1 24 n0 c0 1 q0) (bb (allL closed1 (appL (dropL 0 q0) [(Sl.v 1 (Sl.mk (1 + (Sl.n s1)) 0 (takeL ((1 + (Sl.n s1)) * 1) (dropL 0 (appL (takeL (1 * 1) (dropL 0 ([(.int .i64 z2)] : List Value))) (takeL ((Sl.n s1) * 1) (Sl.cs s1)))))))])) (ih1 z0 z1 (n0 + 1) (2 * (n0 + 1) + bb false 1 0) z2 s0 (wrapF .i64 (Int.add (Int.ofNat k1) (1 : Int))) (appL (dropL 0 q0) [(Sl.v 1 (Sl.mk (1 + (Sl.n s1)) 0 (takeL ((1 + (Sl.n s1)) * 1) (dropL 0 (appL (takeL (1 * 1) (dropL 0 ([(.int .i64 z2)] : List Value))) (takeL ((Sl.n s1) * 1) (Sl.cs s1)))))))])) none) none) none) none)))) none)) (m54_3 pu n ih0 z0 z1 n0 c0 z2 q0)) none)
def l54_4 (pu : PureF) (n : Nat) (ih0 : Int → Int → Nat → Nat → Int → List Value → Option Value) (w : Nat) : Int → Int → Nat → Nat → Int → Sl → Int → List Value → Option Value :=
  Nat.rec (motive := fun _ => Int → Int → Nat → Nat → Int → Sl → Int → List Value → Option Value) (fun _ _ _ _ _ _ _ _ => none) (fun _ ih1 => b54_4 pu n ih0 ih1) w
def m54_2 (pu : PureF) (n : Nat) (ih0 : Int → Int → Nat → Nat → Int → List Value → Option Value) (z0 : Int) (z1 : Int) (n0 : Nat) (c0 : Nat) (z2 : Int) (b0 : Bool) (q0 : List Value) : Option Value :=
  (bb b0 (bb (allL closed1 q0) (oo (pu 54 [(.int .i64 (wrapF .i64 (Int.sub z0 z2))), (.int .i64 z2)]) none fun v0 => (oo (toSl 1 v0) none fun s0 => (l54_4 pu n ih0 n z0 z1 n0 c0 z2 s0 (0 : Int) q0))) none) (bb (allL closed1 q0) (m54_0 pu n n0 c0 q0) none))
def b54_1 (pu : PureF) (n : Nat) (ih0 : Int → Int → Nat → Nat → Int → List Value → Option Value) (z0 : Int) (z1 : Int) (n0 : Nat) (c0 : Nat) (z2 : Int) (q0 : List Value) : Option Value :=
  (bb (nt (ilt z1 z2)) (bb (allL closed1 q0) (m54_2 pu n ih0 z0 z1 n0 c0 z2 (nt (ilt z0 z2)) q0) none) (bb (allL closed1 q0) (m54_2 pu n ih0 z0 z1 n0 c0 z2 false q0) none))
def l54_1 (pu : PureF) (n : Nat) (w : Nat) : Int → Int → Nat → Nat → Int → List Value → Option Value :=
  Nat.rec (motive := fun _ => Int → Int → Nat → Nat → Int → List Value → Option Value) (fun _ _ _ _ _ _ => none) (fun _ ih0 => b54_1 pu n ih0) w
def m54_ (pu : PureF) (n : Nat) (x0 : Int) (x1 : Int) : Option Value :=
  (bb (ieq x0 (0 : Int)) (some (Sl.v 1 (Sl.mk 1 0 (takeL (1 * 1) (dropL 0 ([(Sl.v 1 (Sl.mk 0 2 []))] : List Value)))))) (l54_1 pu n n x0 x1 0 0 (1 : Int) ([] : List Value)))
def m54 (pu : PureF) (n : Nat) (args : List Value) : Option Value :=
  (ll args none fun a0 args => (ll args none fun a1 args => (ll args (oo (toI .i64 a0) none fun x0 => (oo (toI .i64 a1) none fun x1 => (m54_ pu n x0 x1))) fun _ _ => none)))
theorem w54_0 (pu : PureF) (n : Nat) (n0 : Nat) (c0 : Nat) (q0 : List Value) {v : Value} (hm : m54_0 pu n n0 c0 q0 = some v) : Run tt (callP tabs isP pu (inl pu)) 0 c54_33 (fr 44 [(5, (sc 0 0 1 n0 c0))]) (hp 1 [(oC q0)]) (Fin tt 0 [.tmp 4] v) := by
  unfold m54_0 at hm
  refine .then ?_
  refine .rK ?_
  replace hm := bb_inv hm; obtain ⟨h0, hm⟩ := hm
  refine .ghs (fr 44 [(4, (sc 0 0 1 n0 c0))]) (hp 1 [(oC q0)]) (.k [0] [] [.tmp 4 false] [4] ⟨trE (by kernel_rfl) h0, trivial⟩) ?_
  replace hm := bb_inv hm; obtain ⟨h1, hm⟩ := hm
  refine .ghs (Fr.puts (fr 44 [(4, (sc 0 0 1 n0 c0))]) [(4, (Sl.v 1 (Sl.mk n0 0 (takeL (n0 * 1) (dropL 0 q0)))))]) (hp 1 [.dead]) (.freezeC 0 4 1 (an (Nat.ble (0 + n0 * 1) (len q0)) (allL closed1 (takeL (n0 * 1) (dropL 0 q0)))) (F1 := (Fr.puts (fr 44 [(4, (sc 0 0 1 n0 c0))]) [(4, (Sl.v 1 (Sl.mk n0 0 (takeL (n0 * 1) (dropL 0 q0)))))])) (H1 := (hp 1 [.dead])) (by kernel_rfl) (by kernel_rfl) h1 (GhS.id _ _)) ?_
  refine .ret ?_
  exact fin_ret (Sl.v 1 (Sl.mk n0 0 (takeL (n0 * 1) (dropL 0 q0)))) (by kernel_rfl) (by kernel_rfl) hm
theorem r54 {call : CallF} (pu : PureF) (n : Nat) (hcall : call = callP tabs isP pu (inl pu)) {args : List Value} {v : Value} (hm : m54 pu n args = some v) (_ : ∀ x ∈ args, closed2 x = true) : args.length ≤ 44 ∧ Run tt call 0 c54_37 (Fr.made 44 args) (pureHeap tabs) (Fin tt 0 [.tmp 4] v) := by
  subst hcall
  unfold m54 at hm
  replace hm := ll_uncons hm; obtain ⟨a0, args_0, rfl, hm⟩ := hm
  replace hm := ll_uncons hm; obtain ⟨a1, args_1, rfl, hm⟩ := hm
  replace hm := ll_end hm; obtain ⟨rfl, hm⟩ := hm
  replace hm := inv_toI hm; obtain ⟨x0, rfl, hm⟩ := hm
  replace hm := inv_toI hm; obtain ⟨x1, rfl, hm⟩ := hm
  unfold m54_ at hm
  refine ⟨by simp, ?_⟩
  refine .same (F' := (fr 44 [(0, (zI x0)), (1, (zI x1))])) (H' := (hp 0 [])) (by kernel_rfl) (by kernel_rfl) ?_
  refine .then ?_
  refine .rK ?_
  refine .ghs (fr 44 [(0, (zI x0)), (1, (zI x1))]) (hp 0 []) (.k0 [] [] [0, 1]) ?_
  refine .then ?_
  refine .then ?_
  refine .rK ?_
  refine .ghs (fr 44 [(0, (zI x0)), (1, (zI x1)), (10, (zB (ieq x0 (0 : Int))))]) (hp 0 []) (.k0 [] [] [0, 1, 10]) ?_
  replace hm := bb_cases hm; rcases hm with ⟨h0, hm⟩ | ⟨h0, hm⟩
  · refine .ifT (ieq x0 (0 : Int)) (by kernel_rfl) h0 ?_
    refine .then ?_
    refine .rG (OpsG.seg 1 (Fr.puts (fr 44 [(0, (zI x0)), (1, (zI x1)), (10, (zB (ieq x0 (0 : Int))))]) [(11, (sc 0 0 1 1 3))]) (hp 1 [(oC [(.slice none 0 0)])]) (by kernel_rfl) (OpsG.ghs (Fr.puts (fr 44 [(0, (zI x0)), (1, (zI x1)), (10, (zB (ieq x0 (0 : Int))))]) [(11, (sc 0 0 1 1 3))]) (hp 1 [(oC [(Sl.v 1 (Sl.mk 0 2 []))])]) (.nilC 0 0 1 [(.slice none 0 0)] (imm := false) (spent := false) (anc := []) (by kernel_rfl) (by kernel_rfl) (by kernel_rfl) (GhS.id _ _)) (OpsG.fin eE))) ?_
    refine .ghs (fr 44 [(4, (sc 0 0 1 1 3))]) (hp 1 [(oC [(Sl.v 1 (Sl.mk 0 2 []))])]) (.k0 [] [.tmp 4 false] [4]) ?_
    refine .ghs (Fr.puts (fr 44 [(4, (sc 0 0 1 1 3))]) [(4, (Sl.v 1 (Sl.mk 1 0 (takeL (1 * 1) (dropL 0 ([(Sl.v 1 (Sl.mk 0 2 []))] : List Value))))))]) (hp 1 [.dead]) (.freeze 0 4 1 (by kernel_rfl) (by kernel_rfl) (GhS.id _ _)) ?_
    refine .ret ?_
    exact fin_ret (Sl.v 1 (Sl.mk 1 0 (takeL (1 * 1) (dropL 0 ([(Sl.v 1 (Sl.mk 0 2 []))] : List Value))))) (by kernel_rfl) (by kernel_rfl) hm
  · refine .ifF (ieq x0 (0 : Int)) (by kernel_rfl) h0 ?_
    refine .skip ?_
    refine .ghs (fr 44 [(0, (zI x0)), (1, (zI x1))]) (hp 0 []) (.k0 [] [] [0, 1]) ?_
    refine .then ?_
    refine .rK ?_
    refine .ghs (fr 44 [(0, (zI x0)), (1, (zI x1)), (5, (.slice none 0 0))]) (hp 0 []) (.k0 [] [] [0, 1, 5]) ?_
    refine .join (v := v) (fun y : Nat × Nat × List Value => ((fr 44 [(5, (sc 0 0 1 y.1 y.2.1))]), (hp 1 [(oC y.2.2)]))) (fun y => m54_0 pu n y.1 y.2.1 y.2.2) ?_ ?_
    · rintro ⟨n0, c0, q0⟩ hm
      exact w54_0 pu n n0 c0 q0 hm
    · refine .then ?_
      refine .rK ?_
      refine .ghs (fr 44 [(0, (zI x0)), (1, (zI x1)), (5, (.slice none 0 0)), (6, (zI (1 : Int)))]) (hp 0 []) (.k0 [] [] [0, 1, 5, 6]) ?_
      refine .block ?_
      refine .loopM (v := v) (fun y : Int × Int × Nat × Nat × Int × List Value => ((fr 44 [(0, (zI y.1)), (1, (zI y.2.1)), (5, (sc 0 0 1 y.2.2.1 y.2.2.2.1)), (6, (zI y.2.2.2.2.1))]), (hp 1 [(oC y.2.2.2.2.2)]))) (fun w y => l54_1 pu n w y.1 y.2.1 y.2.2.1 y.2.2.2.1 y.2.2.2.2.1 y.2.2.2.2.2) n ⟨(x0, x1, 0, 0, (1 : Int), ([] : List Value)), hm, (.thaw 5 1 (by kernel_rfl) (.k0 [] [.tmp 5 false] [0, 1, 5, 6]))⟩ (fun _ => rfl) ?_
      rintro w0 ⟨z0, z1, n1, c1, z2, q1⟩ hm
      replace hm : b54_1 pu n (l54_1 pu n w0) z0 z1 n1 c1 z2 q1 = some v := hm
      unfold b54_1 at hm
      refine .then ?_
      refine .join (v := v) (fun y : Int × Int × Nat × Nat × Int × Bool × List Value => ((fr 44 [(0, (zI y.1)), (1, (zI y.2.1)), (5, (sc 0 0 1 y.2.2.1 y.2.2.2.1)), (6, (zI y.2.2.2.2.1)), (19, (zB y.2.2.2.2.2.1))]), (hp 1 [(oC y.2.2.2.2.2.2)]))) (fun y => m54_2 pu n (l54_1 pu n w0) y.1 y.2.1 y.2.2.1 y.2.2.2.1 y.2.2.2.2.1 y.2.2.2.2.2.1 y.2.2.2.2.2.2) ?_ ?_
      · rintro ⟨z3, z4, n2, c2, z5, b0, q2⟩ hm
        unfold m54_2 at hm
        replace hm := bb_cases hm; rcases hm with ⟨h1, hm⟩ | ⟨h1, hm⟩
        · refine .ifT b0 (by kernel_rfl) h1 ?_
          refine .skip ?_
          replace hm := bb_inv hm; obtain ⟨h2, hm⟩ := hm
          refine .ghs (fr 44 [(0, (zI z3)), (1, (zI z4)), (5, (sc 0 0 1 n2 c2)), (6, (zI z5))]) (hp 1 [(oC q2)]) (.k [0] [] [.tmp 5 false] [0, 1, 5, 6] ⟨trE (by kernel_rfl) h2, trivial⟩) ?_
          refine .join (v := v) (fun y : Int × Int × Nat × Nat × Int × List Value => ((fr 44 [(0, (zI y.1)), (1, (zI y.2.1)), (5, (sc 0 0 1 y.2.2.1 y.2.2.2.1)), (6, (zI y.2.2.2.2.1))]), (hp 1 [(oC y.2.2.2.2.2)]))) (fun y => m54_3 pu n (l54_1 pu n w0) y.1 y.2.1 y.2.2.1 y.2.2.2.1 y.2.2.2.2.1 y.2.2.2.2.2) ?_ ?_
          · rintro ⟨z6, z7, n3, c3, z8, q3⟩ hm
            unfold m54_3 at hm
            refine .rK ?_
            replace hm := bb_inv hm; obtain ⟨h3, hm⟩ := hm
            exact ⟨(z6, z7, n3, c3, (wrapF .i64 (Int.add z8 (1 : Int))), q3), hm, (.k [0] [] [.tmp 5 false] [0, 1, 5, 6] ⟨trE (by kernel_rfl) h3, trivial⟩)⟩
          · refine .block ?_
            refine .then ?_
            replace hm := oo_inv hm; obtain ⟨v0, h4, hm⟩ := hm
            replace hm := inv_toSl hm; obtain ⟨s0, rfl, hm⟩ := hm
            refine .reg (eC 4 ((oo (pu 54 [(zI (wrapF .i64 (Int.sub z3 z5))), (zI z5)]) none fun v => some (v, (hp 1 [(oC q2)])))) (call_eq h4) (eE)) ?_
            refine .ghs (fr 44 [(0, (zI z3)), (1, (zI z4)), (5, (sc 0 0 1 n2 c2)), (6, (zI z5)), (7, (Sl.v 1 s0))]) (hp 1 [(oC q2)]) (.k [0] [] [.tmp 5 false] [0, 1, 5, 6, 7] ⟨trE (by kernel_rfl) h2, trivial⟩) ?_
            refine .then ?_
            refine .rK ?_
            refine .ghs (fr 44 [(0, (zI z3)), (1, (zI z4)), (5, (sc 0 0 1 n2 c2)), (6, (zI z5)), (7, (Sl.v 1 s0)), (8, (zI (0 : Int)))]) (hp 1 [(oC q2)]) (.k [0] [] [.tmp 5 false] [0, 1, 5, 6, 7, 8] ⟨trE (by kernel_rfl) h2, trivial⟩) ?_
            refine .block ?_
            refine .loopM (v := v) (fun y : Int × Int × Nat × Nat × Int × Sl × Int × List Value => ((fr 44 [(0, (zI y.1)), (1, (zI y.2.1)), (5, (sc 0 0 1 y.2.2.1 y.2.2.2.1)), (6, (zI y.2.2.2.2.1)), (7, (Sl.v 1 y.2.2.2.2.2.1)), (8, (zI y.2.2.2.2.2.2.1))]), (hp 1 [(oC y.2.2.2.2.2.2.2)]))) (fun w y => l54_4 pu n (l54_1 pu n w0) w y.1 y.2.1 y.2.2.1 y.2.2.2.1 y.2.2.2.2.1 y.2.2.2.2.2.1 y.2.2.2.2.2.2.1 y.2.2.2.2.2.2.2) n ⟨(z3, z4, n2, c2, z5, s0, (0 : Int), q2), hm, (.k [0] [] [.tmp 5 false] [0, 1, 5, 6, 7, 8] ⟨trE (by kernel_rfl) h2, trivial⟩)⟩ (fun _ => rfl) ?_
            rintro w1 ⟨z9, z10, n4, c4, z11, s1, z12, q4⟩ hm
            replace hm : b54_4 pu n (l54_1 pu n w0) (l54_4 pu n (l54_1 pu n w0) w1) z9 z10 n4 c4 z11 s1 z12 q4 = some v := hm
            unfold b54_4 at hm
            refine .then ?_
            refine .then ?_
            refine .rK ?_
            replace hm := bb_inv hm; obtain ⟨h5, hm⟩ := hm
            refine .ghs (fr 44 [(0, (zI z9)), (1, (zI z10)), (5, (sc 0 0 1 n4 c4)), (6, (zI z11)), (7, (Sl.v 1 s1)), (8, (zI z12)), (30, (zB (ilt z12 (Int.ofNat (Sl.n s1)))))]) (hp 1 [(oC q4)]) (.k [0] [] [.tmp 5 false] [0, 1, 5, 6, 7, 8, 30] ⟨trE (by kernel_rfl) h5, trivial⟩) ?_
            replace hm := bb_cases hm; rcases hm with ⟨h6, hm⟩ | ⟨h6, hm⟩
            · refine .ifT (ilt z12 (Int.ofNat (Sl.n s1))) (by kernel_rfl) h6 ?_
              refine .skip ?_
              refine .ghs (fr 44 [(0, (zI z9)), (1, (zI z10)), (5, (sc 0 0 1 n4 c4)), (6, (zI z11)), (7, (Sl.v 1 s1)), (8, (zI z12))]) (hp 1 [(oC q4)]) (.k [0] [] [.tmp 5 false] [0, 1, 5, 6, 7, 8] ⟨trE (by kernel_rfl) h5, trivial⟩) ?_
              refine .then ?_
              refine .block ?_
              replace hm := oo_inv hm; obtain ⟨k1, h7, hm⟩ := hm
              obtain rfl := toN_some h7
              replace hm := bb_inv hm; obtain ⟨h8, hm⟩ := hm
              replace hm := oo_inv hm; obtain ⟨v1, h9, hm⟩ := hm
              replace hm := inv_toSl hm; obtain ⟨s2, rfl, hm⟩ := hm
              replace hm := bb_cases hm; rcases hm with ⟨h10, hm⟩ | ⟨h10, hm⟩
              · replace hm := bb_inv hm; obtain ⟨h11, hm⟩ := hm
                refine .rG (OpsG.seg 8 (Fr.puts (fr 44 [(0, (zI z9)), (1, (zI z10)), (5, (sc 0 0 1 n4 c4)), (6, (zI z11)), (7, (Sl.v 1 s1)), (8, (zI (Int.ofNat k1)))]) [(33, (sc 0 0 1 n4 c4)), (34, (zI z11)), (35, (sc 1 0 1 1 3)), (36, (Sl.v 1 s1)), (37, (zI (Int.ofNat k1))), (38, (fpV (k1 * 1) (Sl.cs s1))), (39, (Sl.v 1 s2)), (40, (sc 1 0 1 1 3))]) (hp 2 [(oC q4), (oC [(zI z11)])]) (eC 5 (keep (hp 2 [(oC q4), (oC [(zI z11)])]) (bb (an (Nat.blt k1 (Sl.n s1)) true) (some (fpV (k1 * 1) (Sl.cs s1))) none)) (keep_bb h8) (eD (keep (hp 2 [(oC q4), (oC [(zI z11)])]) (nthL (Sl.cs s1) (k1 * 1))) (keep_eq h9) (eD (appFs (hp 2 [(oC q4), (oC [(zI z11)])]) 1 8 (sc 1 0 1 1 3) s2) (appFs_sl0 h10) (by kernel_rfl)))) (OpsG.ghs (Fr.puts (fr 44 [(0, (zI z9)), (1, (zI z10)), (5, (sc 0 0 1 n4 c4)), (6, (zI z11)), (7, (Sl.v 1 s1)), (8, (zI (Int.ofNat k1)))]) [(33, (sc 0 0 1 n4 c4)), (34, (zI z11)), (35, (sc 1 0 1 1 3)), (36, (Sl.v 1 s1)), (37, (zI (Int.ofNat k1))), (38, (fpV (k1 * 1) (Sl.cs s1))), (39, (Sl.v 1 s2)), (40, (Sl.v 1 (Sl.mk 1 0 (takeL (1 * 1) (dropL 0 ([(zI z11)] : List Value))))))]) (hp 2 [(oC q4), .dead]) (.freeze 0 40 1 (by kernel_rfl) (by kernel_rfl) (GhS.id _ _)) (OpsG.fin (eC 1 (growD 1 24 n4 c4 1 0 q4 [(Sl.v 1 (Sl.mk 1 0 (takeL (1 * 1) (dropL 0 ([(zI z11)] : List Value)))))] [] (hp 3 [(oC q4), .dead, (oC [(Sl.v 1 (Sl.mk 1 0 (takeL (1 * 1) (dropL 0 ([(zI z11)] : List Value)))))])])) (growD_eq h11) (eE))))) ?_
                replace hm := bb_inv hm; obtain ⟨h12, hm⟩ := hm
                refine .ghs (fr 44 [(0, (zI z9)), (1, (zI z10)), (5, (sc 0 0 1 (n4 + 1) (d2 (n4 + 1)))), (6, (zI z11)), (7, (Sl.v 1 s1)), (8, (zI (Int.ofNat k1)))]) (hp 1 [(oC (appL (dropL 0 q4) [(Sl.v 1 (Sl.mk 1 0 (takeL (1 * 1) (dropL 0 ([(zI z11)] : List Value)))))]))]) (.k [3] [] [.tmp 5 false] [0, 1, 5, 6, 7, 8] ⟨trE (by kernel_rfl) h12, trivial⟩) ?_
                refine .rK ?_
                exact ⟨(z9, z10, (n4 + 1), (d2 (n4 + 1)), z11, s1, (wrapF .i64 (Int.add (Int.ofNat k1) (1 : Int))), (appL (dropL 0 q4) [(Sl.v 1 (Sl.mk 1 0 (takeL (1 * 1) (dropL 0 ([(zI z11)] : List Value)))))])), hm, (.k [0] [] [.tmp 5 false] [0, 1, 5, 6, 7, 8] ⟨trE (by kernel_rfl) h12, trivial⟩)⟩
              · replace hm := bb_inv hm; obtain ⟨h11, hm⟩ := hm
                replace hm := bb_inv hm; obtain ⟨h13, hm⟩ := hm
                replace hm := bb_inv hm; obtain ⟨h14, hm⟩ := hm
                refine .rG (OpsG.seg 8 (Fr.puts (fr 44 [(0, (zI z9)), (1, (zI z10)), (5, (sc 0 0 1 n4 c4)), (6, (zI z11)), (7, (Sl.v 1 s1)), (8, (zI (Int.ofNat k1)))]) [(33, (sc 0 0 1 n4 c4)), (34, (zI z11)), (35, (sc 1 0 1 1 3)), (36, (Sl.v 1 s1)), (37, (zI (Int.ofNat k1))), (38, (fpV (k1 * 1) (Sl.cs s1))), (39, (Sl.v 1 s2)), (40, (sc 2 0 1 (1 + (Sl.n s2)) (d2 (1 + (Sl.n s2)))))]) (hp 3 [(oC q4), (oC [(zI z11)]), (oC (appL (takeL (1 * 1) (dropL 0 ([(zI z11)] : List Value))) (takeL ((Sl.n s2) * 1) (Sl.cs s2))))]) (eC 5 (keep (hp 2 [(oC q4), (oC [(zI z11)])]) (bb (an (Nat.blt k1 (Sl.n s1)) true) (some (fpV (k1 * 1) (Sl.cs s1))) none)) (keep_bb h8) (eD (keep (hp 2 [(oC q4), (oC [(zI z11)])]) (nthL (Sl.cs s1) (k1 * 1))) (keep_eq h9) (eD (appFs (hp 2 [(oC q4), (oC [(zI z11)])]) 1 8 (sc 1 0 1 1 3) s2) (appFs_full (H := (hp 2 [(oC q4), (oC [(zI z11)])])) (id := 1) (n := 1) (xs := ([(zI z11)] : List Value)) (imm := false) (sp := false) (anc := []) h10 h11 (by kernel_rfl) (by kernel_rfl)) (by kernel_rfl)))) (OpsG.ghs (Fr.puts (fr 44 [(0, (zI z9)), (1, (zI z10)), (5, (sc 0 0 1 n4 c4)), (6, (zI z11)), (7, (Sl.v 1 s1)), (8, (zI (Int.ofNat k1)))]) [(33, (sc 0 0 1 n4 c4)), (34, (zI z11)), (35, (sc 1 0 1 1 3)), (36, (Sl.v 1 s1)), (37, (zI (Int.ofNat k1))), (38, (fpV (k1 * 1) (Sl.cs s1))), (39, (Sl.v 1 s2)), (40, (Sl.v 1 (Sl.mk (1 + (Sl.n s2)) 0 (takeL ((1 + (Sl.n s2)) * 1) (dropL 0 (appL (takeL (1 * 1) (dropL 0 ([(zI z11)] : List Value))) (takeL ((Sl.n s2) * 1) (Sl.cs s2))))))))]) (hp 3 [(oC q4), (oC [(zI z11)]), .dead]) (.freezeC 0 40 1 (an (Nat.ble (0 + (1 + (Sl.n s2)) * 1) (len (appL (takeL (1 * 1) (dropL 0 ([(zI z11)] : List Value))) (takeL ((Sl.n s2) * 1) (Sl.cs s2))))) (allL closed1 (takeL ((1 + (Sl.n s2)) * 1) (dropL 0 (appL (takeL (1 * 1) (dropL 0 ([(zI z11)] : List Value))) (takeL ((Sl.n s2) * 1) (Sl.cs s2))))))) (F1 := (Fr.puts (fr 44 [(0, (zI z9)), (1, (zI z10)), (5, (sc 0 0 1 n4 c4)), (6, (zI z11)), (7, (Sl.v 1 s1)), (8, (zI (Int.ofNat k1)))]) [(33, (sc 0 0 1 n4 c4)), (34, (zI z11)), (35, (sc 1 0 1 1 3)), (36, (Sl.v 1 s1)), (37, (zI (Int.ofNat k1))), (38, (fpV (k1 * 1) (Sl.cs s1))), (39, (Sl.v 1 s2)), (40, (Sl.v 1 (Sl.mk (1 + (Sl.n s2)) 0 (takeL ((1 + (Sl.n s2)) * 1) (dropL 0 (appL (takeL (1 * 1) (dropL 0 ([(zI z11)] : List Value))) (takeL ((Sl.n s2) * 1) (Sl.cs s2))))))))])) (H1 := (hp 3 [(oC q4), (oC [(zI z11)]), .dead])) (by kernel_rfl) (by kernel_rfl) h13 (GhS.id _ _)) (OpsG.fin (eC 1 (growD 1 24 n4 c4 1 0 q4 [(Sl.v 1 (Sl.mk (1 + (Sl.n s2)) 0 (takeL ((1 + (Sl.n s2)) * 1) (dropL 0 (appL (takeL (1 * 1) (dropL 0 ([(zI z11)] : List Value))) (takeL ((Sl.n s2) * 1) (Sl.cs s2)))))))] [] (hp 4 [(oC q4), (oC [(zI z11)]), .dead, (oC [(Sl.v 1 (Sl.mk (1 + (Sl.n s2)) 0 (takeL ((1 + (Sl.n s2)) * 1) (dropL 0 (appL (takeL (1 * 1) (dropL 0 ([(zI z11)] : List Value))) (takeL ((Sl.n s2) * 1) (Sl.cs s2)))))))])])) (growD_eq h14) (eE))))) ?_
                replace hm := bb_inv hm; obtain ⟨h15, hm⟩ := hm
                refine .ghs (fr 44 [(0, (zI z9)), (1, (zI z10)), (5, (sc 0 0 1 (n4 + 1) (d2 (n4 + 1)))), (6, (zI z11)), (7, (Sl.v 1 s1)), (8, (zI (Int.ofNat k1)))]) (hp 1 [(oC (appL (dropL 0 q4) [(Sl.v 1 (Sl.mk (1 + (Sl.n s2)) 0 (takeL ((1 + (Sl.n s2)) * 1) (dropL 0 (appL (takeL (1 * 1) (dropL 0 ([(zI z11)] : List Value))) (takeL ((Sl.n s2) * 1) (Sl.cs s2)))))))]))]) (.k [4] [] [.tmp 5 false] [0, 1, 5, 6, 7, 8] ⟨trE (by kernel_rfl) h15, trivial⟩) ?_
                refine .rK ?_
                exact ⟨(z9, z10, (n4 + 1), (d2 (n4 + 1)), z11, s1, (wrapF .i64 (Int.add (Int.ofNat k1) (1 : Int))), (appL (dropL 0 q4) [(Sl.v 1 (Sl.mk (1 + (Sl.n s2)) 0 (takeL ((1 + (Sl.n s2)) * 1) (dropL 0 (appL (takeL (1 * 1) (dropL 0 ([(zI z11)] : List Value))) (takeL ((Sl.n s2) * 1) (Sl.cs s2)))))))])), hm, (.k [0] [] [.tmp 5 false] [0, 1, 5, 6, 7, 8] ⟨trE (by kernel_rfl) h15, trivial⟩)⟩
            · refine .ifF (ilt z12 (Int.ofNat (Sl.n s1))) (by kernel_rfl) h6 ?_
              refine .exit ?_
              exact ⟨(z9, z10, n4, c4, z11, q4), hm, (.k [0] [] [.tmp 5 false] [0, 1, 5, 6] ⟨trE (by kernel_rfl) h5, trivial⟩)⟩
        · refine .ifF b0 (by kernel_rfl) h1 ?_
          refine .exit ?_
          replace hm := bb_inv hm; obtain ⟨h16, hm⟩ := hm
          exact ⟨(n2, c2, q2), hm, (.k [0] [] [.tmp 5 false] [5] ⟨trE (by kernel_rfl) h16, trivial⟩)⟩
      · replace hm := bb_cases hm; rcases hm with ⟨h17, hm⟩ | ⟨h17, hm⟩
        · refine .reg (eC 2 (some ((zB (nt (ilt z1 z2))), (hp 1 [(oC q1)]))) (show _ = some ((zB true), _) from (by rw [h17])) (eE)) ?_
          replace hm := bb_inv hm; obtain ⟨h18, hm⟩ := hm
          exact ⟨(z0, z1, n1, c1, z2, (nt (ilt z0 z2)), q1), hm, (.k [0] [] [.tmp 5 false] [0, 1, 5, 6, 19] ⟨trE (by kernel_rfl) h18, trivial⟩)⟩
        · refine .reg (eC 2 (some ((zB (nt (ilt z1 z2))), (hp 1 [(oC q1)]))) (show _ = some ((zB false), _) from (by rw [h17])) (eE)) ?_
          replace hm := bb_inv hm; obtain ⟨h19, hm⟩ := hm
          exact ⟨(z0, z1, n1, c1, z2, false, q1), hm, (.k [0] [] [.tmp 5 false] [0, 1, 5, 6, 19] ⟨trE (by kernel_rfl) h19, trivial⟩)⟩
end
end Go.HpLM
