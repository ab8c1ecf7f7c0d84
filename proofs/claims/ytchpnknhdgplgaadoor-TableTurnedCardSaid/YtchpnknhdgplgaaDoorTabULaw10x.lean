/- The plain law of TableTurned, eighth part: the comparisons. -/
import Derived.Test.YtchpnknhdgplgaaDoorTabULaw7x

set_option maxRecDepth 100000
namespace Go.TabUM
open Go.Sp Go.TabU Go.TM

theorem mapO_I (l : List Int) : mapO (toI .i64) (l.map I) = some l := by
  induction l with
  | nil => rfl
  | cons x l ih =>
    show oo (toI .i64 (I x)) none (fun b => oo (mapO (toI .i64) (l.map I)) none fun r => some (b :: r)) = _
    rw [toI_mk, oo_some, ih]; rfl
theorem mapI (l : List Int) : mapL I64 l = l.map I := mapI64 l
theorem whole_ok {k : Nat} (h1 : 1 ≤ k) (h2 : k ≤ 1000000) : wholeC 0 1 k k = true := by
  unfold wholeC
  rw [show Nat.beq k k = true from Nat.beq_refl k, Nat.ble_eq_true_of_le h1, Nat.ble_eq_true_of_le h2]; rfl
theorem srtZ_perm (l : List Int) : (srtZ l).Perm l := List.mergeSort_perm _ _
theorem srtZ_sorted (l : List Int) : (srtZ l).Pairwise (· ≤ ·) := by
  have := List.pairwise_mergeSort (le := fun x y : Int => decide (x ≤ y)) (fun a b c h1 h2 => by simp at *; omega) (fun a b => by simp; omega) l
  exact this.imp fun h => by simpa using h
theorem srtZ_same {a b : List Int} (h : a.Perm b) : srtZ a = srtZ b :=
  List.Perm.eq_of_pairwise (fun _ _ _ _ h1 h2 => Int.le_antisymm h1 h2) (srtZ_sorted a) (srtZ_sorted b) ((srtZ_perm a).trans (h.trans (srtZ_perm b).symm))

theorem takeN {N : Nat} {R : List Int} (h : R.length = N) : takeL (N * 1) (R.map I) = R.map I := by rw [← h]; exact takeI' R
theorem chkN {N : Nat} {R : List Int} (h : R.length = N) : an (Nat.ble (0 + N * 1) (len (R.map I))) (allL closed1 (R.map I)) = true := by rw [← h]; have := wholeI R; rw [takeI] at this; exact this
theorem bleN {N : Nat} {R : List Int} (h : R.length = N) : Nat.ble (0 + N * 1) (len (R.map I)) = true := Nat.ble_eq_true_of_le (by rw [len_eq, List.length_map]; omega)
theorem anT : an true true = true := rfl
theorem room8 (n : Nat) (h : n ≤ 1000) : roomy (0 + n) 8 = true := by rw [Nat.zero_add]; exact roomyS h
abbrev sN (N : Nat) (R : List Int) : Sl := Sl.mk N 0 (R.map I)

theorem m3_gen (pu : PureF) (n N : Nat) (L m1 m2 z : Int) (s : Sl) (b' : Bool) (C : List (Int × Int)) (R A : List Int) (h1 : 1 ≤ N) (h7 : N ≤ 7) (hR : R.length = N) (hA : A.length = N) (hp : A.Perm R)
    (hsame : ∀ l : List Int, l.length = N → pu 10150 [Sl.v 1 (sN N l), Sl.v 1 (sN N l)] = some (.tuple ⟨[.bool true]⟩))
    (h4 : ∀ b, (b = false → sorts N C) → m6_4 pu n (Int.ofNat N) b L s b' m1 m2 z (Sl.mk C.length 0 (pc C)) = some (.bool true)) :
    m6_3 pu n (Int.ofNat N) (sN N R) (sN N A) (ifb (sorts N C)) L s b' m1 m2 z (Sl.mk C.length 0 (pc C)) = some (.bool true) := by
  unfold m6_3
  have hX : (srtZ R).length = N := by rw [(srtZ_perm R).length_eq, hR]
  have lR : len (R.map I) = N := by rw [len_eq, List.length_map, hR]
  have lA : len (A.map I) = N := by rw [len_eq, List.length_map, hA]
  simp only [sN, room8 N (by omega), bb_true, takeN hR, takeN hA, clI, mapO_I, oo_some, lR, lA, whole_ok h1 (by omega : N ≤ 1000000), srtZ_same hp, mapI, drop0, takeN hX, bleN hX, anT]
  rw [hsame _ hX]
  simp only [oo_some, vTup_mk, ll_cons', ll_nil', vBool_mk, nt_eq, Bool.not_true, bb_false]
  by_cases hs : sorts N C
  · rw [ifb_t hs]
    simp only [Bool.not_true, bb_false]
    cases h2 : ilt (Int.ofNat N) 2 with
    | true => rw [bb_true]; exact h4 _ fun h => by cases h
    | false => rw [bb_false]; exact h4 _ fun _ => hs
  · rw [ifb_f hs]
    simp only [Bool.not_false, bb_true]
    exact h4 _ fun h => by cases h

noncomputable def hf (x : Int) : Int := shrI .i64 x 1
theorem wNeg (x : Int) (h1 : -128 ≤ x) (h2 : x ≤ 127) : wrapF .i64 (Int.sub (.ofNat 0) x) = - x := by
  have : Int.sub (.ofNat 0) x = -x := by show (0 : Int) - x = -x; omega
  rw [this]; exact wrapI _ (by omega) (by omega)
theorem l9_gen (pu : PureF) (n N : Nat) (L m1 m2 z : Int) (s : Sl) (b' is : Bool) (C : Sl) (R A : List Int) (h1 : 1 ≤ N) (h7 : N ≤ 7) (hA : A.length = N) (hr : ∀ j, j < N → -128 ≤ A.getD j 0 ∧ A.getD j 0 ≤ 127) :
    ∀ (f k : Nat), N - k < f → k ≤ N → l6_9 pu n f (Int.ofNat N) (sN N R) (sN N A) (sN N (turn A)) (sN N (A.map hf)) is (Int.ofNat N) (Int.ofNat k) L s b' m1 m2 z C = m6_3 pu n (Int.ofNat N) (sN N R) (sN N A) is L s b' m1 m2 z C := by
  intro f
  induction f with
  | zero => intro k h; omega
  | succ f ih =>
    intro k h hk
    show b6_9 pu n (l6_9 pu n f) _ _ _ _ _ _ _ _ _ _ _ _ _ _ _ = _
    unfold b6_9
    by_cases hlt : k < N
    · have e1 : wrapF .i64 (Int.sub (Int.ofNat N) 1) = Int.ofNat (N - 1) := wSub N 1 (by omega) (by omega)
      have e2 : wrapF .i64 (Int.sub (Int.ofNat (N - 1)) (Int.ofNat k)) = Int.ofNat (N - 1 - k) := wSub _ _ (by omega) (by omega)
      have hlt2 : N - 1 - k < N := by omega
      have g1 := getD_I (turn A) (N - 1 - k) (by rw [turn_len, hA]; omega)
      have g2 := getD_I A k (by omega)
      have g3 := getD_I (A.map hf) k (by simp; omega)
      rw [turn_at A _ (by omega), show A.length - 1 - (N - 1 - k) = k by omega] at g1
      rw [getD_map hf A k (by omega)] at g3
      have w := wNeg (A.getD k 0) (hr k hlt).1 (hr k hlt).2
      rw [lt_true hlt]
      simp only [bb_true, e1, e2, toN_mk, oo_some, blt_eq, hlt, hlt2, decide_true, an_eq, Bool.true_and, nthL_eq, Nat.mul_one, g1, g2, g3, toI_mk, w, ne_f, bb_false]
      unfold m6_10
      rw [show nt (ieq (hf (A.getD k 0)) (shrI .i64 (A.getD k 0) 1)) = false from ne_f _, bb_false, wrapS k (by omega)]
      exact ih (k + 1) (by omega) (by omega)
    · have : k = N := by omega
      subst this
      rw [lt_false hlt, bb_false]

theorem hf_mono : mono hf := by
  intro a b h
  unfold hf
  rw [shrI_eq, shrI_eq]
  rw [show (2 : Int) ^ (min 1 IntKind.i64.bits) = 2 from rfl, Int.fdiv_eq_ediv_of_nonneg _ (by decide), Int.fdiv_eq_ediv_of_nonneg _ (by decide)]
  exact Int.ediv_le_ediv (by decide) h
end Go.TabUM
set_option maxRecDepth 100000
namespace Go.TabUM
open Go.Sp Go.TabU Go.TM

theorem bq_self (b : Bool) : bq false (bq b b) = false := by cases b <;> rfl
theorem m1_gen (pu : PureF) (n N : Nat) (hn : 10 < n) (L m1 m2 : Int) (s : Sl) (b' : Bool) (C E D : List (Int × Int)) (R T H : List Int) (c1 c2 c3 c4 c5 : Nat) (h1 : 1 ≤ N) (h7 : N ≤ 7)
    (h8 : pu 8 [] = some (.bool true))
    (hone : pu 10230 [(.agg ⟨[(.int .u8 L), (Sl.v 2 (Sl.mk 1 0 (takeL (1 * 2) (dropL 0 ([(.int .u8 m1), (.int .u8 m2)] : List Value))))), (.bool false)]⟩), (.int .i64 (1 : Int))] = some (mk N D))
    (hs : ∀ E, okC N E → E.length ≤ 24 → pu 10090 [(.agg ⟨[I (Int.ofNat N), (Sl.v 2 (Sl.mk E.length 0 (pc E)))]⟩)] = some (.tuple ⟨[.tuple ⟨[.bool (ifb (sorts N E)), I 0]⟩]⟩))
    (hsame : ∀ l : List Int, l.length = N → pu 10150 [Sl.v 1 (sN N l), Sl.v 1 (sN N l)] = some (.tuple ⟨[.bool true]⟩))
    (hRun : ∀ E R, okC N E → E.length ≤ 24 → R.length = N → pu 10240 [(.agg ⟨[I (Int.ofNat N), (Sl.v 2 (Sl.mk E.length 0 (pc E)))]⟩), (Sl.v 1 (Sl.mk N 0 (R.map I)))] = some (.tuple ⟨[.tuple ⟨[Sl.v 1 (Sl.mk N 0 ((runs R E).map I)), I 0]⟩]⟩))
    (hC : okC N C) (hD : okC N D) (hE : okC N E) (hl : C.length ≤ 20) (hDl : D.length ≤ 1) (hEl : E.length ≤ 24) (hR : R.length = N) (hT : T.length = N) (hH : H.length = N)
    (hTr : runs T E = turn (runs R C)) (hHr : runs H C = (runs R C).map hf) (hsE : sorts N E ↔ sorts N C) (hr : ∀ x ∈ R, -128 ≤ x ∧ x ≤ 127) :
    m6_1 pu n (Int.ofNat N) N c1 N c2 N c3 L s b' m1 m2 (Int.ofNat N) C.length c4 (Int.ofNat N) E.length c5 (R.map I) (T.map I) (H.map I) (pc C) (pc E) = some (.bool true) := by
  unfold m6_1
  have r1 := hRun C R hC (by omega) hR
  have r2 := hRun E T hE hEl hT
  have r3 := hRun C H hC (by omega) hH
  have s1 := hs C hC (by omega)
  have s2 := hs E hE hEl
  rw [ifb_congr hsE] at s2
  simp -implicitDefEqProofs only [drop0, takeP, takeN hR, takeN hT, takeN hH, clP, clI, bleP, bleN hR, bleN hT, bleN hH, anT, bb_true, r1, oo_some, vTup_mk, ll_cons', ll_nil', toSl_mk, toI_mk]
  simp -implicitDefEqProofs only [r2, oo_some, vTup_mk, ll_cons', ll_nil', toSl_mk, toI_mk]
  simp -implicitDefEqProofs only [r3, s1, s2, oo_some, vTup_mk, ll_cons', ll_nil', toSl_mk, toI_mk, vBool_mk, ne_f, bb_false, bq_self]
  unfold m6_2
  rw [bb_false, hTr, hHr]
  have hA : (runs R C).length = N := by rw [runs_len, hR]
  have hp : (runs R C).Perm R := runs_perm C R hC hR
  have hrA : ∀ j, j < N → -128 ≤ (runs R C).getD j 0 ∧ (runs R C).getD j 0 ≤ 127 := by
    intro j hj
    have hj2 : j < (runs R C).length := by omega
    refine hr _ (hp.mem_iff.1 ?_)
    rw [show (runs R C).getD j 0 = (runs R C)[j] from by simp [List.getD, hj2]]
    exact List.getElem_mem hj2
  have e9 := l9_gen pu n N L m1 m2 (Int.ofNat N) s b' (ifb (sorts N C)) (Sl.mk C.length 0 (pc C)) R (runs R C) h1 h7 hA hrA n 0 (by omega) (by omega)
  rw [show (0 : Int) = Int.ofNat 0 from rfl]
  refine e9.trans ?_
  exact m3_gen pu n N L m1 m2 (Int.ofNat N) s b' C R (runs R C) h1 h7 hR hA hp hsame fun b hb =>
    m4_gen pu n N L m1 m2 (Int.ofNat N) s b' b C D h8 hone hs hC hD hl hDl hb

def fil (N i : Nat) (g : Nat → Int) : List Int := (List.range N).map fun j => if j < i then g j else 0
def lif (N i : Nat) (g : Nat → Int) : List Int := (List.range N).map fun j => if N - 1 - j < i then g j else 0
theorem fil_len (N i : Nat) (g : Nat → Int) : (fil N i g).length = N := by simp [fil]
theorem lif_len (N i : Nat) (g : Nat → Int) : (lif N i g).length = N := by simp [lif]
theorem fil_set (N i : Nat) (g : Nat → Int) : (fil N i g).set i (g i) = fil N (i + 1) g := by
  apply List.ext_getElem (by simp [fil])
  intro j h1 h2
  rw [List.getElem_set]
  by_cases h : i = j
  · subst h; simp [fil]
  · rw [if_neg h]
    simp only [fil, List.getElem_map, List.getElem_range]
    by_cases h3 : j < i
    · rw [if_pos h3, if_pos (by omega)]
    · rw [if_neg h3, if_neg (by omega)]
theorem lif_set (N i : Nat) (g : Nat → Int) (hi : i < N) : (lif N i g).set (N - 1 - i) (g (N - 1 - i)) = lif N (i + 1) g := by
  apply List.ext_getElem (by simp [lif])
  intro j h1 h2
  have hj : j < N := by simpa [lif] using h2
  rw [List.getElem_set]
  by_cases h : N - 1 - i = j
  · subst h
    rw [if_pos rfl]
    simp only [lif, List.getElem_map, List.getElem_range]
    rw [if_pos (by omega)]
  · rw [if_neg h]
    simp only [lif, List.getElem_map, List.getElem_range]
    by_cases h3 : N - 1 - j < i
    · rw [if_pos h3, if_pos (by omega)]
    · rw [if_neg h3, if_neg (by omega)]
theorem fil_zero (N : Nat) (g : Nat → Int) : fil N 0 g = List.replicate N 0 := by
  apply List.ext_getElem (by simp [fil])
  intro j h1 h2; simp [fil]
theorem lif_zero (N : Nat) (g : Nat → Int) : lif N 0 g = List.replicate N 0 := by
  apply List.ext_getElem (by simp [lif])
  intro j h1 h2; simp [lif]
theorem zrow (k : Nat) : zeroRow ([I 0] : List Value) k = (List.replicate k (0 : Int)).map I := by
  induction k with
  | zero => rfl
  | succ k ih =>
    show appL [I 0] (zeroRow ([I 0] : List Value) k) = _
    rw [ih]; rfl
theorem toI_i8 (x : Int) : toI .i8 (.int .i8 x) = some x := rfl
theorem get8 (z1 z2 z3 z4 z5 : Int) : ∀ k, k < 5 → nthL ([(.int .i8 z1), (.int .i8 z2), (.int .i8 z3), (.int .i8 z4), (.int .i8 z5)] : List Value) k = some (.int .i8 (([z1, z2, z3, z4, z5] : List Int).getD k 0))
  | 0, _ => rfl
  | 1, _ => rfl
  | 2, _ => rfl
  | 3, _ => rfl
  | 4, _ => rfl
  | k + 5, h => by omega
theorem w8 (x : Int) (h : -128 ≤ x ∧ x ≤ 127) : wrapF .i64 x = x := wrapI _ (by omega) (by omega)
theorem l11_gen (pu : PureF) (n N : Nat) (L m1 m2 z5' z8 : Int) (s : Sl) (b' : Bool) (z1 z2 z3 z4 z5 : Int) (C E : List (Int × Int)) (c1 c2 c3 nC c4 nE c5 : Nat) (h1 : 1 ≤ N) (h5 : N ≤ 5) (hB : ∀ k, k < 5 → -128 ≤ ([z1, z2, z3, z4, z5] : List Int).getD k 0 ∧ ([z1, z2, z3, z4, z5] : List Int).getD k 0 ≤ 127)
    (g t h : Nat → Int) (hg : ∀ k, k < 5 → g k = ([z1, z2, z3, z4, z5] : List Int).getD k 0) (ht : ∀ k, k < N → t (N - 1 - k) = - ([z1, z2, z3, z4, z5] : List Int).getD k 0) (hh : ∀ k, k < 5 → h k = hf (([z1, z2, z3, z4, z5] : List Int).getD k 0)) :
    ∀ (f i : Nat), N - i < f → i ≤ N → l6_11 pu n f (Int.ofNat N) N c1 N c2 N c3 (Int.ofNat N) (Int.ofNat i) L s b' z1 z2 z3 z4 z5 m1 m2 z5' nC c4 z8 nE c5 ((fil N i g).map I) ((lif N i t).map I) ((fil N i h).map I) (pc C) (pc E) =
      m6_1 pu n (Int.ofNat N) N c1 N c2 N c3 L s b' m1 m2 z5' nC c4 z8 nE c5 ((fil N N g).map I) ((lif N N t).map I) ((fil N N h).map I) (pc C) (pc E) := by
  intro f
  induction f with
  | zero => intro i h; omega
  | succ f ih =>
    intro i h9 hi
    show b6_11 pu n (l6_11 pu n f) _ _ _ _ _ _ _ _ _ _ _ _ _ _ _ _ _ _ _ _ _ _ _ _ _ _ _ _ _ _ = _
    unfold b6_11
    rw [clI, clI, clI, clP, clP]
    by_cases hlt : i < N
    · have i5 : i < 5 := by omega
      have e1 : wrapF .i64 (Int.sub (Int.ofNat N) 1) = Int.ofNat (N - 1) := wSub N 1 (by omega) (by omega)
      have e2 : wrapF .i64 (Int.sub (Int.ofNat (N - 1)) (Int.ofNat i)) = Int.ofNat (N - 1 - i) := wSub _ _ (by omega) (by omega)
      have i2 : N - 1 - i < N := by omega
      have bI := hB i i5
      have x1 := get8 z1 z2 z3 z4 z5 i i5
      have s1 : setL ([I (([z1, z2, z3, z4, z5] : List Int).getD i 0)] : List Value) i ((fil N i g).map I) = (fil N (i + 1) g).map I := by
        rw [setL_one _ _ _ (by rw [List.length_map, fil_len]; exact hlt), ← List.map_set, ← hg i i5, fil_set]
      have s2 : setL ([I (- ([z1, z2, z3, z4, z5] : List Int).getD i 0)] : List Value) (N - 1 - i) ((lif N i t).map I) = (lif N (i + 1) t).map I := by
        rw [setL_one _ _ _ (by rw [List.length_map, lif_len]; exact i2), ← List.map_set, ← ht i hlt, lif_set N i t hlt]
      have s3 : setL ([I (shrI .i64 (([z1, z2, z3, z4, z5] : List Int).getD i 0) 1)] : List Value) i ((fil N i h).map I) = (fil N (i + 1) h).map I := by
        have e := hh i i5
        unfold hf at e
        rw [setL_one _ _ _ (by rw [List.length_map, fil_len]; exact hlt), ← List.map_set, ← e, fil_set]
      rw [lt_true hlt]
      simp only [bb_true, e1, e2, toN_mk, oo_some, blt_eq, hlt, i2, i5, decide_true, an_eq, Bool.true_and, Bool.and_true, Nat.mul_one, Nat.zero_add, x1, toI_i8, w8 _ bI, wNeg _ bI.1 bI.2, s1, s2, s3, clI, ble_eq, len_eq, List.length_map, fil_len, lif_len, Nat.succ_le_of_lt hlt, Nat.succ_le_of_lt i2, wrapS i (by omega : i < 1000000)]
      exact ih (i + 1) (by omega) (by omega)
    · have : i = N := by omega
      subst this
      rw [lt_false hlt]
      simp only [bb_true, bb_false]
end Go.TabUM
set_option maxRecDepth 100000
namespace Go.TabUM
open Go.Sp Go.TabU Go.TM

structure Env (pu : PureF) (N : Nat) (L m1 m2 : Int) (D : List (Int × Int)) : Prop where
  h8 : pu 8 [] = some (.bool true)
  one : pu 10230 [(.agg ⟨[(.int .u8 L), (Sl.v 2 (Sl.mk 1 0 (takeL (1 * 2) (dropL 0 ([(.int .u8 m1), (.int .u8 m2)] : List Value))))), (.bool false)]⟩), (.int .i64 (1 : Int))] = some (mk N D)
  sorts : ∀ E, okC N E → E.length ≤ 24 → pu 10090 [(.agg ⟨[I (Int.ofNat N), (Sl.v 2 (Sl.mk E.length 0 (pc E)))]⟩)] = some (.tuple ⟨[.tuple ⟨[.bool (ifb (sorts N E)), I 0]⟩]⟩)
  same : ∀ l : List Int, l.length = N → pu 10150 [Sl.v 1 (sN N l), Sl.v 1 (sN N l)] = some (.tuple ⟨[.bool true]⟩)
  run : ∀ E R, okC N E → E.length ≤ 24 → R.length = N → pu 10240 [(.agg ⟨[I (Int.ofNat N), (Sl.v 2 (Sl.mk E.length 0 (pc E)))]⟩), (Sl.v 1 (Sl.mk N 0 (R.map I)))] = some (.tuple ⟨[.tuple ⟨[Sl.v 1 (Sl.mk N 0 ((runs R E).map I)), I 0]⟩]⟩)
  okD : okC N D
  lenD : D.length ≤ 1

theorem okN (N : Nat) (h : N ≤ 5) : an (Nat.ble N N) (an (Nat.ble (N * 8) 1099511627776) (an (Nat.ble N 1099511627776) true)) = true := by
  rw [Nat.ble_eq_true_of_le (Nat.le_refl N), Nat.ble_eq_true_of_le (by omega : N * 8 ≤ 1099511627776), Nat.ble_eq_true_of_le (by omega : N ≤ 1099511627776)]; rfl
theorem turn_fil (N : Nat) (g : Nat → Int) : lif N N (fun j => - g (N - 1 - j)) = turn (fil N N g) := by
  apply List.ext_getElem (by rw [lif_len, turn_len, fil_len])
  intro j h1 h2
  have hj : j < N := by simpa [lif] using h1
  have e := turn_at (fil N N g) j (by rw [fil_len]; exact hj)
  have e1 : (turn (fil N N g)).getD j 0 = (turn (fil N N g))[j] := by simp [List.getD, h2]
  rw [← e1, e, fil_len]
  have h3 : N - 1 - j < N := by omega
  simp [lif, fil, hj, h3, List.getD]
theorem map_fil (N : Nat) (g : Nat → Int) : fil N N (fun j => hf (g j)) = (fil N N g).map hf := by
  apply List.ext_getElem (by simp [fil])
  intro j h1 h2
  have hj : j < N := by simpa [fil] using h1
  simp [fil, hj]
theorem m0_gen (pu : PureF) (n N : Nat) (hn : 10 < n) (L m1 m2 : Int) (s : Sl) (b' : Bool) (C D : List (Int × Int)) (z1 z2 z3 z4 z5 : Int) (c1 c2 : Nat) (h1 : 1 ≤ N) (h5 : N ≤ 5) (he : Env pu N L m1 m2 D)
    (hB : ∀ k, k < 5 → -128 ≤ ([z1, z2, z3, z4, z5] : List Int).getD k 0 ∧ ([z1, z2, z3, z4, z5] : List Int).getD k 0 ≤ 127) (hC : okC N C) (hl : C.length ≤ 20) :
    m6_0 pu n (Int.ofNat N) L s b' z1 z2 z3 z4 z5 m1 m2 (Int.ofNat N) C.length c1 (Int.ofNat N) (C.map (mir N)).length c2 (pc C) (pc (C.map (mir N))) = some (.bool true) := by
  unfold m6_0
  have e11 := l11_gen pu n N L m1 m2 (Int.ofNat N) (Int.ofNat N) s b' z1 z2 z3 z4 z5 C (C.map (mir N)) (2 * N + bb true 1 0) (2 * N + bb true 1 0) (2 * N + bb true 1 0) C.length c1 (C.map (mir N)).length c2 h1 h5 hB
    (fun j => ([z1, z2, z3, z4, z5] : List Int).getD j 0) (fun j => - ([z1, z2, z3, z4, z5] : List Int).getD (N - 1 - j) 0) (fun j => hf (([z1, z2, z3, z4, z5] : List Int).getD j 0)) (fun _ _ => rfl)
    (fun k hk => by show - ([z1, z2, z3, z4, z5] : List Int).getD (N - 1 - (N - 1 - k)) 0 = _; rw [show N - 1 - (N - 1 - k) = k by omega]) (fun _ _ => rfl) n 0 (by omega) (by omega)
  rw [fil_zero, lif_zero, fil_zero] at e11
  simp -implicitDefEqProofs only [toN_mk, oo_some, okN N h5, bb_true, zrow, clI, clP]
  refine e11.trans ?_
  have hTT := turn_fil N (fun j => ([z1, z2, z3, z4, z5] : List Int).getD j 0)
  have hHH := map_fil N (fun j => ([z1, z2, z3, z4, z5] : List Int).getD j 0)
  have hR := fil_len N N (fun j => ([z1, z2, z3, z4, z5] : List Int).getD j 0)
  refine m1_gen pu n N hn L m1 m2 s b' C (C.map (mir N)) D _ _ _ _ _ _ _ _ h1 (by omega) he.h8 he.one he.sorts he.same he.run hC he.okD (okC_mir hC) hl he.lenD (by rw [List.length_map]; omega) hR (lif_len _ _ _) (fil_len _ _ _) ?_ ?_ (sorts_mir_iff hC).symm ?_
  · rw [hTT]; exact runs_turn C _ hC hR
  · rw [hHH]; exact runs_map hf_mono C _ hC hR
  · intro x hx
    simp only [fil, List.mem_map, List.mem_range] at hx
    obtain ⟨j, hj, rfl⟩ := hx
    rw [if_pos hj]
    exact hB j (by omega)

theorem l12_gen (pu : PureF) (n N : Nat) (L m1 m2 : Int) (s : Sl) (b' : Bool) (C : List (Int × Int)) (z1 z2 z3 z4 z5 : Int) (c1 c2 : Nat) (h1 : 1 ≤ N) (h5 : N ≤ 5) (hC : okC N C) (hl : C.length ≤ 20) :
    ∀ (f i : Nat) (acc : List (Int × Int)), C.length - i < f → i ≤ C.length → acc.length = i →
      l6_12 pu n f (Int.ofNat N) C.length c1 (Int.ofNat C.length) (Int.ofNat i) L s b' z1 z2 z3 z4 z5 m1 m2 (Int.ofNat N) C.length c2 (Int.ofNat N) acc.length (2 * acc.length) (pc C) (pc acc) =
      m6_0 pu n (Int.ofNat N) L s b' z1 z2 z3 z4 z5 m1 m2 (Int.ofNat N) C.length c2 (Int.ofNat N) (acc ++ (C.drop i).map (mir N)).length (2 * (acc ++ (C.drop i).map (mir N)).length) (pc C) (pc (acc ++ (C.drop i).map (mir N))) := by
  intro f
  induction f with
  | zero => intro i acc h; omega
  | succ f ih =>
    intro i acc h hi hacc
    show b6_12 pu n (l6_12 pu n f) _ _ _ _ _ _ _ _ _ _ _ _ _ _ _ _ _ _ _ _ _ _ _ = _
    unfold b6_12
    by_cases hlt : i < C.length
    · obtain ⟨g1, g2⟩ := pc_get C i hlt
      have e : C.drop i = C[i] :: C.drop (i + 1) := List.drop_eq_getElem_cons hlt
      obtain ⟨A, B, hA, hB, a1, b1, hAB, tA, tB⟩ := ok_at hC hlt
      rw [hA] at g1
      rw [hB] at g2
      have hb : Nat.ble ((0 + i * 2) + 2) (len (pc C)) = true := Nat.ble_eq_true_of_le (by rw [len_eq, pc_len]; omega)
      have hi2 : an (Nat.blt i C.length) true = true := by rw [blt_eq, decide_eq_true hlt]; rfl
      have e1 : wrapF .i64 (Int.sub (Int.ofNat N) 1) = Int.ofNat (N - 1) := wSub N 1 (by omega) (by omega)
      have e2 : wrapF .i64 (Int.sub (Int.ofNat (N - 1)) (Int.ofNat B)) = Int.ofNat (N - 1 - B) := wSub _ _ (by omega) (by omega)
      have e3 : wrapF .i64 (Int.sub (Int.ofNat (N - 1)) (Int.ofNat A)) = Int.ofNat (N - 1 - A) := wSub _ _ (by omega) (by omega)
      have hm : mir N C[i] = (Int.ofNat (N - 1 - B), Int.ofNat (N - 1 - A)) := by
        unfold mir
        rw [hA, hB]
        refine Prod.ext ?_ ?_
        · show (N : Int) - 1 - (B : Int) = ((N - 1 - B : Nat) : Int); omega
        · show (N : Int) - 1 - (A : Int) = ((N - 1 - A : Nat) : Int); omega
      have n1 : nthL (pc C) (0 + i * 2) = some (I (Int.ofNat A)) := by rw [nthL_eq, Nat.zero_add]; exact g1
      have n2 : nthL (pc C) ((0 + i * 2) + 1) = some (I (Int.ofNat B)) := by rw [nthL_eq, Nat.zero_add]; exact g2
      have gr := growP acc 1 (by omega) (by omega)
      have next := ih (i + 1) (acc ++ [mir N C[i]]) (by omega) (by omega) (by simp; omega)
      rw [hm] at next
      rw [show (acc ++ [(Int.ofNat (N - 1 - B), Int.ofNat (N - 1 - A))]).length = acc.length + [(Int.ofNat (N - 1 - B), Int.ofNat (N - 1 - A))].length from List.length_append] at next
      rw [lt_true hlt, clP, clP]
      simp -implicitDefEqProofs only [bb_true, toN_mk, oo_some, hi2, hb, n1, n2, toI_mk, e1, e2, e3, gr, pc_snoc, clP, bb_false, Nat.add_zero, wrapS i (by omega : i < 1000000)]
      refine next.trans ?_
      rw [e, List.map_cons, hm, List.append_assoc]
      rfl
    · have : i = C.length := by omega
      subst this
      rw [lt_false hlt, clP, clP, bb_true, bb_true, bb_false, List.drop_length, List.map_nil, List.append_nil]

theorem m6_gen (pu : PureF) (n N : Nat) (hn : 100 < n) (L m1 m2 : Int) (s : Sl) (b' : Bool) (C D : List (Int × Int)) (z1 z2 z3 z4 z5 : Int) (h1 : 1 ≤ N) (h5 : N ≤ 5) (he : Env pu N L m1 m2 D)
    (hmade : pu 10230 [(.agg ⟨[(.int .u8 L), (Sl.v 2 s), (.bool b')]⟩), (.int .i64 (10 : Int))] = some (mk N C))
    (hB : ∀ k, k < 5 → -128 ≤ ([z1, z2, z3, z4, z5] : List Int).getD k 0 ∧ ([z1, z2, z3, z4, z5] : List Int).getD k 0 ≤ 127) (hC : okC N C) (hl : C.length ≤ 20) :
    m6_ pu n L s b' z1 z2 z3 z4 z5 m1 m2 = some (.bool true) := by
  unfold m6_
  rw [hmade]
  unfold mk
  simp -implicitDefEqProofs only [oo_some, vTup_mk, ll_cons', ll_nil', vAgg_mk, toI_mk, sc_mk, clP, bb_true]
  have e12 := l12_gen pu n N L m1 m2 s b' C z1 z2 z3 z4 z5 (2 * C.length) (2 * C.length) h1 h5 hC hl n 0 [] (by omega) (by omega) rfl
  rw [List.drop_zero, List.nil_append] at e12
  exact e12.trans (m0_gen pu n N (by omega) L m1 m2 s b' C D z1 z2 z3 z4 z5 _ _ h1 h5 he hB hC hl)

theorem e8 (n : Nat) : puN (n + 4) 8 [] = some (.bool true) := by kernel_rfl
theorem e6 (n : Nat) (L m1 m2 z1 z2 z3 z4 z5 : Int) (s : Sl) (b : Bool) :
    puN (n + 1) 6 [.agg ⟨[.int .u8 L, Sl.v 2 s, .bool b]⟩, .agg ⟨[.int .i8 z1, .int .i8 z2, .int .i8 z3, .int .i8 z4, .int .i8 z5]⟩, .agg ⟨[.int .u8 m1, .int .u8 m2]⟩] = m6_ (puN n) 1000000 L s b z1 z2 z3 z4 z5 m1 m2 := by kernel_rfl
theorem p6 (n L m1 m2 : Nat) (P : List (Nat × Nat)) (b : Bool) (z1 z2 z3 z4 z5 : Int) (hL : L < 256) (hP : byte P) (h1 : m1 < 256) (h2 : m2 < 256)
    (hB : ∀ k, k < 5 → -128 ≤ ([z1, z2, z3, z4, z5] : List Int).getD k 0 ∧ ([z1, z2, z3, z4, z5] : List Int).getD k 0 ≤ 127) :
    puN (n + 11) 6 [.agg ⟨[.int .u8 (Int.ofNat L), Sl.v 2 (ps P), .bool b]⟩, .agg ⟨[.int .i8 z1, .int .i8 z2, .int .i8 z3, .int .i8 z4, .int .i8 z5]⟩, .agg ⟨[.int .u8 (Int.ofNat m1), .int .u8 (Int.ofNat m2)]⟩] = some (.bool true) := by
  rw [e6 (n + 10)]
  obtain ⟨C, hC, hCl, hmade⟩ := pMade (n + 9) L 10 P hL hP b (Nat.le_refl _)
  obtain ⟨D, hD, hDl, hone⟩ := pMade (n + 9) L 1 [(m1, m2)] hL (by intro p hp; simp only [List.mem_singleton] at hp; subst hp; exact ⟨h1, h2⟩) false (by omega)
  have n1 : 1 ≤ 1 + L % 5 := by omega
  have n5 : 1 + L % 5 ≤ 5 := by omega
  refine m6_gen (puN (n + 10)) 1000000 (1 + L % 5) (by omega) _ _ _ (ps P) b C D z1 z2 z3 z4 z5 n1 n5 ⟨e8 (n + 6), hone, ?_, ?_, ?_, hD, by simpa using hDl⟩ hmade hB hC (by split at hCl <;> omega)
  · intro E hE hEl
    exact pSorts (n + 6) 0 _ E n1 (by omega) hEl hE (chk_ok n1 (by omega) hEl hE)
  · intro l hl
    have := pSame (n + 9) 0 0 l (by omega)
    unfold S sl at this
    rw [hl] at this
    exact this
  · intro E R hE hEl hR
    have := pRun (n + 7) 0 0 (1 + L % 5) E R (by omega) hEl hE (chk_ok n1 (by omega) hEl hE) hR
    unfold S sl at this
    rw [runs_len, hR] at this
    exact this
end Go.TabUM
