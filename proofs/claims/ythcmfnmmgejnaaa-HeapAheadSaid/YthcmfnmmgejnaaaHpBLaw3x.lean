/- What the kernel sees, of any heaps of at most 21 cards: MADE BY PROGRAM (wip/hb/runs.py). -/
import Derived.Test.YthcmfnmmgejnaaaHpBRun1
import Derived.Test.YthcmfnmmgejnaaaHpBRun2
import Derived.Test.YthcmfnmmgejnaaaHpBRun3
import Derived.Test.YthcmfnmmgejnaaaHpBRun4
import Derived.Test.YthcmfnmmgejnaaaHpBRun5
import Derived.Test.YthcmfnmmgejnaaaHpBLaw1x

set_option maxRecDepth 100000
namespace Go.HpBM
open Go Go.Sp Go.HpB Go.HpT
theorem map_at {α : Type} {f g : List Nat → α} {l : List (List Nat)} (h : mapL f l = mapL g l) {p : List Nat} (hp : p ∈ l) : f p = g p := by
  rw [mapL_eq, mapL_eq] at h
  exact List.map_inj_left.1 h p hp
theorem all_at {f : List Nat → Bool} {l : List (List Nat)} (h : allL f l = true) {p : List Nat} (hp : p ∈ l) : f p = true := by
  rw [allL_eq, List.all_eq_true] at h
  exact h p hp
theorem in_pts {p : List Nat} (h : okP 21 p = true) : ∃ k, 1 ≤ k ∧ k ≤ 21 ∧ sumL p = k ∧ p ∈ pts k k k := by
  obtain ⟨h1, h2⟩ := an_inv (show an (Nat.ble 1 (sumL p)) (an (Nat.ble (sumL p) 21) (isPt p (sumL p) (sumL p))) = true from h)
  obtain ⟨h2, h3⟩ := an_inv h2
  exact ⟨sumL p, Nat.le_of_ble_eq_true h1, Nat.le_of_ble_eq_true h2, rfl, mem_pts p _ _ _ (Nat.le_refl _) h3⟩
theorem P27 (n : Nat) {p : List Nat} (h : okP 21 p = true) : puN (n + 12) 27 [sv p] = some (cv p) := by
  obtain ⟨k, h1, h2, hs, hm⟩ := in_pts h
  clear hs
  match k, h1, h2, hm with
  | 1, _, _, hm => exact map_at (f := fun p => puN (n + 12) 27 [sv p]) (g := fun p => some (cv p)) (e27_1 n) hm
  | 2, _, _, hm => exact map_at (f := fun p => puN (n + 12) 27 [sv p]) (g := fun p => some (cv p)) (e27_2 n) hm
  | 3, _, _, hm => exact map_at (f := fun p => puN (n + 12) 27 [sv p]) (g := fun p => some (cv p)) (e27_3 n) hm
  | 4, _, _, hm => exact map_at (f := fun p => puN (n + 12) 27 [sv p]) (g := fun p => some (cv p)) (e27_4 n) hm
  | 5, _, _, hm => exact map_at (f := fun p => puN (n + 12) 27 [sv p]) (g := fun p => some (cv p)) (e27_5 n) hm
  | 6, _, _, hm => exact map_at (f := fun p => puN (n + 12) 27 [sv p]) (g := fun p => some (cv p)) (e27_6 n) hm
  | 7, _, _, hm => exact map_at (f := fun p => puN (n + 12) 27 [sv p]) (g := fun p => some (cv p)) (e27_7 n) hm
  | 8, _, _, hm => exact map_at (f := fun p => puN (n + 12) 27 [sv p]) (g := fun p => some (cv p)) (e27_8 n) hm
  | 9, _, _, hm => exact map_at (f := fun p => puN (n + 12) 27 [sv p]) (g := fun p => some (cv p)) (e27_9 n) hm
  | 10, _, _, hm => exact map_at (f := fun p => puN (n + 12) 27 [sv p]) (g := fun p => some (cv p)) (e27_10 n) hm
  | 11, _, _, hm => exact map_at (f := fun p => puN (n + 12) 27 [sv p]) (g := fun p => some (cv p)) (e27_11 n) hm
  | 12, _, _, hm => exact map_at (f := fun p => puN (n + 12) 27 [sv p]) (g := fun p => some (cv p)) (e27_12 n) hm
  | 13, _, _, hm => exact map_at (f := fun p => puN (n + 12) 27 [sv p]) (g := fun p => some (cv p)) (e27_13 n) hm
  | 14, _, _, hm => exact map_at (f := fun p => puN (n + 12) 27 [sv p]) (g := fun p => some (cv p)) (e27_14 n) hm
  | 15, _, _, hm => exact map_at (f := fun p => puN (n + 12) 27 [sv p]) (g := fun p => some (cv p)) (e27_15 n) hm
  | 16, _, _, hm => exact map_at (f := fun p => puN (n + 12) 27 [sv p]) (g := fun p => some (cv p)) (e27_16 n) hm
  | 17, _, _, hm => exact map_at (f := fun p => puN (n + 12) 27 [sv p]) (g := fun p => some (cv p)) (e27_17 n) hm
  | 18, _, _, hm => exact map_at (f := fun p => puN (n + 12) 27 [sv p]) (g := fun p => some (cv p)) (e27_18 n) hm
  | 19, _, _, hm => exact map_at (f := fun p => puN (n + 12) 27 [sv p]) (g := fun p => some (cv p)) (e27_19 n) hm
  | 20, _, _, hm => exact map_at (f := fun p => puN (n + 12) 27 [sv p]) (g := fun p => some (cv p)) (e27_20 n) hm
  | 21, _, _, hm => exact map_at (f := fun p => puN (n + 12) 27 [sv p]) (g := fun p => some (cv p)) (e27_21 n) hm
  | k + 22, _, h2, _ => omega
theorem P33 (n : Nat) {p : List Nat} (h : okP 21 p = true) : puN (n + 12) 33 [sv p] = some (sv (rnd p)) := by
  obtain ⟨k, h1, h2, hs, hm⟩ := in_pts h
  clear hs
  match k, h1, h2, hm with
  | 1, _, _, hm => exact map_at (f := fun p => puN (n + 12) 33 [sv p]) (g := fun p => some (sv (rnd p))) (e33_1 n) hm
  | 2, _, _, hm => exact map_at (f := fun p => puN (n + 12) 33 [sv p]) (g := fun p => some (sv (rnd p))) (e33_2 n) hm
  | 3, _, _, hm => exact map_at (f := fun p => puN (n + 12) 33 [sv p]) (g := fun p => some (sv (rnd p))) (e33_3 n) hm
  | 4, _, _, hm => exact map_at (f := fun p => puN (n + 12) 33 [sv p]) (g := fun p => some (sv (rnd p))) (e33_4 n) hm
  | 5, _, _, hm => exact map_at (f := fun p => puN (n + 12) 33 [sv p]) (g := fun p => some (sv (rnd p))) (e33_5 n) hm
  | 6, _, _, hm => exact map_at (f := fun p => puN (n + 12) 33 [sv p]) (g := fun p => some (sv (rnd p))) (e33_6 n) hm
  | 7, _, _, hm => exact map_at (f := fun p => puN (n + 12) 33 [sv p]) (g := fun p => some (sv (rnd p))) (e33_7 n) hm
  | 8, _, _, hm => exact map_at (f := fun p => puN (n + 12) 33 [sv p]) (g := fun p => some (sv (rnd p))) (e33_8 n) hm
  | 9, _, _, hm => exact map_at (f := fun p => puN (n + 12) 33 [sv p]) (g := fun p => some (sv (rnd p))) (e33_9 n) hm
  | 10, _, _, hm => exact map_at (f := fun p => puN (n + 12) 33 [sv p]) (g := fun p => some (sv (rnd p))) (e33_10 n) hm
  | 11, _, _, hm => exact map_at (f := fun p => puN (n + 12) 33 [sv p]) (g := fun p => some (sv (rnd p))) (e33_11 n) hm
  | 12, _, _, hm => exact map_at (f := fun p => puN (n + 12) 33 [sv p]) (g := fun p => some (sv (rnd p))) (e33_12 n) hm
  | 13, _, _, hm => exact map_at (f := fun p => puN (n + 12) 33 [sv p]) (g := fun p => some (sv (rnd p))) (e33_13 n) hm
  | 14, _, _, hm => exact map_at (f := fun p => puN (n + 12) 33 [sv p]) (g := fun p => some (sv (rnd p))) (e33_14 n) hm
  | 15, _, _, hm => exact map_at (f := fun p => puN (n + 12) 33 [sv p]) (g := fun p => some (sv (rnd p))) (e33_15 n) hm
  | 16, _, _, hm => exact map_at (f := fun p => puN (n + 12) 33 [sv p]) (g := fun p => some (sv (rnd p))) (e33_16 n) hm
  | 17, _, _, hm => exact map_at (f := fun p => puN (n + 12) 33 [sv p]) (g := fun p => some (sv (rnd p))) (e33_17 n) hm
  | 18, _, _, hm => exact map_at (f := fun p => puN (n + 12) 33 [sv p]) (g := fun p => some (sv (rnd p))) (e33_18 n) hm
  | 19, _, _, hm => exact map_at (f := fun p => puN (n + 12) 33 [sv p]) (g := fun p => some (sv (rnd p))) (e33_19 n) hm
  | 20, _, _, hm => exact map_at (f := fun p => puN (n + 12) 33 [sv p]) (g := fun p => some (sv (rnd p))) (e33_20 n) hm
  | 21, _, _, hm => exact map_at (f := fun p => puN (n + 12) 33 [sv p]) (g := fun p => some (sv (rnd p))) (e33_21 n) hm
  | k + 22, _, h2, _ => omega
theorem P28 (n : Nat) {p : List Nat} (h : okP 21 p = true) : puN (n + 12) 28 [cv p] = some (llV (aheadT p)) := by
  obtain ⟨k, h1, h2, hs, hm⟩ := in_pts h
  clear hs
  match k, h1, h2, hm with
  | 1, _, _, hm => exact map_at (f := fun p => puN (n + 12) 28 [cv p]) (g := fun p => some (llV (aheadT p))) (e28_1 n) hm
  | 2, _, _, hm => exact map_at (f := fun p => puN (n + 12) 28 [cv p]) (g := fun p => some (llV (aheadT p))) (e28_2 n) hm
  | 3, _, _, hm => exact map_at (f := fun p => puN (n + 12) 28 [cv p]) (g := fun p => some (llV (aheadT p))) (e28_3 n) hm
  | 4, _, _, hm => exact map_at (f := fun p => puN (n + 12) 28 [cv p]) (g := fun p => some (llV (aheadT p))) (e28_4 n) hm
  | 5, _, _, hm => exact map_at (f := fun p => puN (n + 12) 28 [cv p]) (g := fun p => some (llV (aheadT p))) (e28_5 n) hm
  | 6, _, _, hm => exact map_at (f := fun p => puN (n + 12) 28 [cv p]) (g := fun p => some (llV (aheadT p))) (e28_6 n) hm
  | 7, _, _, hm => exact map_at (f := fun p => puN (n + 12) 28 [cv p]) (g := fun p => some (llV (aheadT p))) (e28_7 n) hm
  | 8, _, _, hm => exact map_at (f := fun p => puN (n + 12) 28 [cv p]) (g := fun p => some (llV (aheadT p))) (e28_8 n) hm
  | 9, _, _, hm => exact map_at (f := fun p => puN (n + 12) 28 [cv p]) (g := fun p => some (llV (aheadT p))) (e28_9 n) hm
  | 10, _, _, hm => exact map_at (f := fun p => puN (n + 12) 28 [cv p]) (g := fun p => some (llV (aheadT p))) (e28_10 n) hm
  | 11, _, _, hm => exact map_at (f := fun p => puN (n + 12) 28 [cv p]) (g := fun p => some (llV (aheadT p))) (e28_11 n) hm
  | 12, _, _, hm => exact map_at (f := fun p => puN (n + 12) 28 [cv p]) (g := fun p => some (llV (aheadT p))) (e28_12 n) hm
  | 13, _, _, hm => exact map_at (f := fun p => puN (n + 12) 28 [cv p]) (g := fun p => some (llV (aheadT p))) (e28_13 n) hm
  | 14, _, _, hm => exact map_at (f := fun p => puN (n + 12) 28 [cv p]) (g := fun p => some (llV (aheadT p))) (e28_14 n) hm
  | 15, _, _, hm => exact map_at (f := fun p => puN (n + 12) 28 [cv p]) (g := fun p => some (llV (aheadT p))) (e28_15 n) hm
  | 16, _, _, hm => exact map_at (f := fun p => puN (n + 12) 28 [cv p]) (g := fun p => some (llV (aheadT p))) (e28_16 n) hm
  | 17, _, _, hm => exact map_at (f := fun p => puN (n + 12) 28 [cv p]) (g := fun p => some (llV (aheadT p))) (e28_17 n) hm
  | 18, _, _, hm => exact map_at (f := fun p => puN (n + 12) 28 [cv p]) (g := fun p => some (llV (aheadT p))) (e28_18 n) hm
  | 19, _, _, hm => exact map_at (f := fun p => puN (n + 12) 28 [cv p]) (g := fun p => some (llV (aheadT p))) (e28_19 n) hm
  | 20, _, _, hm => exact map_at (f := fun p => puN (n + 12) 28 [cv p]) (g := fun p => some (llV (aheadT p))) (e28_20 n) hm
  | 21, _, _, hm => exact map_at (f := fun p => puN (n + 12) 28 [cv p]) (g := fun p => some (llV (aheadT p))) (e28_21 n) hm
  | k + 22, _, h2, _ => omega
theorem Pseen {p : List Nat} (h : okP 21 p = true) : seenB p = true := by
  obtain ⟨k, h1, h2, hs, hm⟩ := in_pts h
  clear hs
  match k, h1, h2, hm with
  | 1, _, _, hm => exact all_at seen_1 hm
  | 2, _, _, hm => exact all_at seen_2 hm
  | 3, _, _, hm => exact all_at seen_3 hm
  | 4, _, _, hm => exact all_at seen_4 hm
  | 5, _, _, hm => exact all_at seen_5 hm
  | 6, _, _, hm => exact all_at seen_6 hm
  | 7, _, _, hm => exact all_at seen_7 hm
  | 8, _, _, hm => exact all_at seen_8 hm
  | 9, _, _, hm => exact all_at seen_9 hm
  | 10, _, _, hm => exact all_at seen_10 hm
  | 11, _, _, hm => exact all_at seen_11 hm
  | 12, _, _, hm => exact all_at seen_12 hm
  | 13, _, _, hm => exact all_at seen_13 hm
  | 14, _, _, hm => exact all_at seen_14 hm
  | 15, _, _, hm => exact all_at seen_15 hm
  | 16, _, _, hm => exact all_at seen_16 hm
  | 17, _, _, hm => exact all_at seen_17 hm
  | 18, _, _, hm => exact all_at seen_18 hm
  | 19, _, _, hm => exact all_at seen_19 hm
  | 20, _, _, hm => exact all_at seen_20 hm
  | 21, _, _, hm => exact all_at seen_21 hm
  | k + 22, _, h2, _ => omega
theorem Pasc (k : Nat) (h1 : 1 ≤ k) (h2 : k ≤ 21) : ascT (pts k k k) = true := by
  match k, h1, h2 with
  | 1, _, _ => exact asc_1
  | 2, _, _ => exact asc_2
  | 3, _, _ => exact asc_3
  | 4, _, _ => exact asc_4
  | 5, _, _ => exact asc_5
  | 6, _, _ => exact asc_6
  | 7, _, _ => exact asc_7
  | 8, _, _ => exact asc_8
  | 9, _, _ => exact asc_9
  | 10, _, _ => exact asc_10
  | 11, _, _ => exact asc_11
  | 12, _, _ => exact asc_12
  | 13, _, _ => exact asc_13
  | 14, _, _ => exact asc_14
  | 15, _, _ => exact asc_15
  | 16, _, _ => exact asc_16
  | 17, _, _ => exact asc_17
  | 18, _, _ => exact asc_18
  | 19, _, _ => exact asc_19
  | 20, _, _ => exact asc_20
  | 21, _, _ => exact asc_21
  | k + 22, _, h2 => omega
end Go.HpBM
set_option maxRecDepth 100000
namespace Go.HpBM
open Go.Sp Go.HpB Go.HpT

theorem eqP_eq : ∀ (a b : List Nat), eqP a b = true → a = b
  | [], b, h => by
    have h : nilL b = true := h
    cases b with
    | nil => rfl
    | cons x r => cases h
  | x :: a, b, h => by
    have h : ll b false (fun y r => an (Nat.beq x y) (eqP a r)) = true := h
    cases b with
    | nil => cases h
    | cons y r =>
      obtain ⟨h1, h2⟩ := an_inv (show an (Nat.beq x y) (eqP a r) = true from h)
      rw [Nat.eq_of_beq_eq_true h1, eqP_eq a r h2]
theorem len_isPt : ∀ (p : List Nat) (left most : Nat), isPt p left most = true → p.length ≤ left
  | [], _, _, _ => Nat.zero_le _
  | a :: p, left, most, h => by
    obtain ⟨h1, h2⟩ := an_inv (show an (Nat.ble 1 a) (an (Nat.ble a most) (an (Nat.ble a left) (isPt p (left - a) a))) = true from h)
    obtain ⟨_, h3⟩ := an_inv h2
    obtain ⟨h3, h4⟩ := an_inv h3
    have := len_isPt p _ _ h4
    have := Nat.le_of_ble_eq_true h1
    have := Nat.le_of_ble_eq_true h3
    rw [List.length_cons]; omega
theorem ok_sum {p : List Nat} (h : okP 21 p = true) : 1 ≤ sumL p ∧ sumL p ≤ 21 := by
  obtain ⟨h1, h2⟩ := an_inv (show an (Nat.ble 1 (sumL p)) (an (Nat.ble (sumL p) 21) (isPt p (sumL p) (sumL p))) = true from h)
  exact ⟨Nat.le_of_ble_eq_true h1, Nat.le_of_ble_eq_true (an_inv h2).1⟩
theorem ok_len {p : List Nat} (h : okP 21 p = true) : p.length ≤ 21 := by
  obtain ⟨h1, h2⟩ := an_inv (show an (Nat.ble 1 (sumL p)) (an (Nat.ble (sumL p) 21) (isPt p (sumL p) (sumL p))) = true from h)
  obtain ⟨h2, h3⟩ := an_inv h2
  exact Nat.le_trans (len_isPt p _ _ h3) (Nat.le_of_ble_eq_true h2)
theorem takeI (r : List Int) : takeL (r.length * 1) (dropL 0 (r.map I)) = r.map I := by
  have : r.length * 1 = (r.map I).length := by rw [List.length_map, Nat.mul_one]
  rw [this, dropL_eq, List.drop_zero, takeL_eq, List.take_length]
theorem takeI' (r : List Int) : takeL (r.length * 1) (r.map I) = r.map I := by
  have := takeI r
  rwa [dropL_eq, List.drop_zero] at this
theorem wholeI (r : List Int) : an (Nat.ble (0 + r.length * 1) (len (r.map I))) (allL closed1 (takeL (r.length * 1) (dropL 0 (r.map I)))) = true := by
  rw [takeI, clI, len_eq, List.length_map, ble_eq]; simp

theorem l32 (pu : PureF) (a b : List Nat) (hl : a.length = b.length) (h100 : a.length ≤ 100) : ∀ (f i : Nat), a.length - i < f → i ≤ a.length → a.take i = b.take i →
    l32_1 pu 1000000 f (sl 0 (nI a)) (sl 0 (nI b)) (Int.ofNat i) = some (.bool (decide (a = b))) := by
  intro f
  induction f with
  | zero => intro i h; omega
  | succ f ih =>
    intro i hf hi ht
    show b32_1 pu 1000000 (l32_1 pu 1000000 f) _ _ _ = _
    unfold b32_1
    rw [sl_n, nI_len]
    by_cases hlt : i < a.length
    · have hlb : i < b.length := by omega
      rw [lt_true hlt]
      simp only [bb_true, toN_mk, oo_some, sl_n, sl_cs, nI_len, blt_eq, hlt, hlb, decide_true, an_eq, Bool.true_and, nthL_eq, Nat.mul_one, getN a i hlt, getN b i hlb, toI_mk]
      by_cases e : a[i] = b[i]
      · rw [e, neqr, bb_false, wrapS i (by omega)]
        exact ih (i + 1) (by omega) (by omega) (by rw [List.take_succ_eq_append_getElem hlt, List.take_succ_eq_append_getElem hlb, ht, e])
      · have q : nt (ieq (Int.ofNat a[i]) (Int.ofNat b[i])) = true := by
          have : ieq (Int.ofNat a[i]) (Int.ofNat b[i]) = false := by rw [ieq_eq]; simp only [Int.ofNat_eq_natCast]; exact decide_eq_false (by omega)
          rw [this]; rfl
        have hne : a ≠ b := fun g => e (by subst g; rfl)
        rw [q, bb_true, decide_eq_false hne]
    · have : i = a.length := by omega
      subst this
      rw [List.take_length, hl, List.take_length] at ht
      rw [lt_false hlt, bb_false, decide_eq_true ht]; rfl
theorem p32 (n : Nat) (a b : List Nat) (h100 : a.length ≤ 100) : puN (n + 1) 32 [sv a, sv b] = some (.bool (decide (a = b))) := by
  rw [sv_eq, sv_eq]
  refine Eq.trans (b := m32_ (puN n) 1000000 (sl 0 (nI a)) (sl 0 (nI b))) (by kernel_rfl) ?_
  unfold m32_
  rw [sl_n, sl_n, nI_len, nI_len]
  by_cases hl : a.length = b.length
  · rw [hl, neqr, bb_false]
    exact l32 (puN n) a b hl h100 1000000 0 (by omega) (by omega) rfl
  · have q : nt (ieq (Int.ofNat a.length) (Int.ofNat b.length)) = true := by
      have : ieq (Int.ofNat a.length) (Int.ofNat b.length) = false := by rw [ieq_eq]; simp only [Int.ofNat_eq_natCast]; exact decide_eq_false (by omega)
      rw [this]; rfl
    have hne : a ≠ b := fun g => hl (by rw [g])
    rw [q, bb_true, decide_eq_false hne]
theorem p24 (n : Nat) (q : List Nat) (hl : q.length ≤ 100) : puN (n + 1) 24 [sv q, sv q] = some (.bool true) := by
  have l24 : ∀ (l : List Int), l.length ≤ 100 → ∀ (f i : Nat), l.length - i < f → i ≤ l.length → l24_1 (puN n) 1000000 f (sl 0 l) (sl 0 l) (Int.ofNat i) = some (.bool true) := by
    intro l hl f
    induction f with
    | zero => intro i h; omega
    | succ f ih =>
      intro i hf hi
      show b24_1 (puN n) 1000000 (l24_1 (puN n) 1000000 f) _ _ _ = _
      unfold b24_1
      rw [sl_n]
      by_cases hlt : i < l.length
      · rw [lt_true hlt]
        simp only [bb_true, toN_mk, oo_some, sl_n, sl_cs, blt_eq, hlt, decide_true, an_eq, Bool.true_and, nthL_eq, Nat.mul_one, getI l i hlt, toI_mk, neqr, bb_false, wrapS i (by omega)]
        exact ih (i + 1) (by omega) (by omega)
      · rw [lt_false hlt]; rfl
  rw [sv_eq]
  refine Eq.trans (b := m24_ (puN n) 1000000 (sl 0 (nI q)) (sl 0 (nI q))) (by kernel_rfl) ?_
  unfold m24_
  rw [sl_n, neqr, bb_false]
  exact l24 (nI q) (by rw [nI_len]; exact hl) 1000000 0 (by rw [nI_len]; omega) (by omega)
noncomputable def LLs (L : List (List Nat)) : Sl := ⟨L.length, 0, L.map sv⟩
theorem l9 (n : Nat) (L : List (List Nat)) (hL : L.length ≤ 50) (hr : ∀ r ∈ L, r.length ≤ 50) : ∀ (f i : Nat), L.length - i < f → i ≤ L.length → l9_1 (puN (n + 1)) 1000000 f (LLs L) (LLs L) (Int.ofNat i) = some (.bool true) := by
  intro f
  induction f with
  | zero => intro i h; omega
  | succ f ih =>
    intro i hf hi
    show b9_1 (puN (n + 1)) 1000000 (l9_1 (puN (n + 1)) 1000000 f) _ _ _ = _
    unfold b9_1
    rw [show (LLs L).n = L.length from rfl]
    by_cases hlt : i < L.length
    · have gx : (LLs L).cs[i]? = some (Sl.v 1 (sl 0 (nI L[i]))) := by
        show (L.map sv)[i]? = _
        rw [List.getElem?_map, List.getElem?_eq_getElem hlt, Option.map_some, sv_eq]
      have e := p24 n L[i] (by have := hr _ (List.getElem_mem hlt); omega)
      rw [sv_eq] at e
      rw [lt_true hlt]
      simp only [bb_true, toN_mk, oo_some, blt_eq, hlt, decide_true, an_eq, Bool.true_and, nthL_eq, Nat.mul_one, gx, toSl_mk, show (LLs L).n = L.length from rfl]
      rw [e, oo_some, vBool_mk, oo_some, show nt true = false from rfl, bb_false, wrapS i (by omega)]
      exact ih (i + 1) (by omega) (by omega)
    · rw [lt_false hlt]; rfl
theorem okA : ∀ k, 1 ≤ k → k ≤ 21 → allL (okP 21) (pts k k k) = true
  | 1, _, _ => by kernel_rfl
  | 2, _, _ => by kernel_rfl
  | 3, _, _ => by kernel_rfl
  | 4, _, _ => by kernel_rfl
  | 5, _, _ => by kernel_rfl
  | 6, _, _ => by kernel_rfl
  | 7, _, _ => by kernel_rfl
  | 8, _, _ => by kernel_rfl
  | 9, _, _ => by kernel_rfl
  | 10, _, _ => by kernel_rfl
  | 11, _, _ => by kernel_rfl
  | 12, _, _ => by kernel_rfl
  | 13, _, _ => by kernel_rfl
  | 14, _, _ => by kernel_rfl
  | 15, _, _ => by kernel_rfl
  | 16, _, _ => by kernel_rfl
  | 17, _, _ => by kernel_rfl
  | 18, _, _ => by kernel_rfl
  | 19, _, _ => by kernel_rfl
  | 20, _, _ => by kernel_rfl
  | 21, _, _ => by kernel_rfl
  | k + 22, _, h => by omega
theorem okR : ∀ k, 1 ≤ k → k ≤ 21 → allL (fun p => okP 21 (rnd p)) (pts k k k) = true
  | 1, _, _ => by kernel_rfl
  | 2, _, _ => by kernel_rfl
  | 3, _, _ => by kernel_rfl
  | 4, _, _ => by kernel_rfl
  | 5, _, _ => by kernel_rfl
  | 6, _, _ => by kernel_rfl
  | 7, _, _ => by kernel_rfl
  | 8, _, _ => by kernel_rfl
  | 9, _, _ => by kernel_rfl
  | 10, _, _ => by kernel_rfl
  | 11, _, _ => by kernel_rfl
  | 12, _, _ => by kernel_rfl
  | 13, _, _ => by kernel_rfl
  | 14, _, _ => by kernel_rfl
  | 15, _, _ => by kernel_rfl
  | 16, _, _ => by kernel_rfl
  | 17, _, _ => by kernel_rfl
  | 18, _, _ => by kernel_rfl
  | 19, _, _ => by kernel_rfl
  | 20, _, _ => by kernel_rfl
  | 21, _, _ => by kernel_rfl
  | k + 22, _, h => by omega
theorem mem_rng : ∀ (n m : Nat), m < n → m ∈ rngT n
  | n + 1, m, h => by
    show m ∈ appL (rngT n) [n]
    rw [appL_eq, List.mem_append]
    by_cases e : m = n
    · right; simp [e]
    · left; exact mem_rng n m (by omega)
theorem few (l m : Nat) (hl : l ≤ 21) (hm : m ≤ 21) : (pts 21 l m).length ≤ 900 := by
  have e := few_all
  rw [allL_eq, List.all_eq_true] at e
  have e := e l (mem_rng 22 l (by omega))
  rw [allL_eq, List.all_eq_true] at e
  have := Nat.le_of_ble_eq_true (e m (mem_rng 22 m (by omega)))
  rwa [len_eq] at this
theorem heads_s (ih : Nat → Nat → List (List Nat)) (l m : Nat) : heads ih l (m + 1) = heads ih l m ++ (ih (l - (m + 1)) (m + 1)).map (fun p => (m + 1) :: p) := by
  show appL (heads ih l m) (mapL _ _) = _
  rw [appL_eq, mapL_eq]
theorem heads_congr {ih ih' : Nat → Nat → List (List Nat)} {l : Nat} : ∀ m, (∀ h, 1 ≤ h → h ≤ m → ih (l - h) h = ih' (l - h) h) → heads ih l m = heads ih' l m
  | 0, _ => rfl
  | m + 1, h => by rw [heads_s, heads_s, heads_congr m (fun k h1 h2 => h k h1 (by omega)), h (m + 1) (by omega) (by omega)]
theorem pts_0 (f m : Nat) : pts f 0 m = [[]] := by cases f <;> rfl
theorem pts_s (f l m : Nat) : pts (f + 1) (l + 1) m = heads (pts f) (l + 1) (Nat.min (l + 1) m) := rfl
theorem pts_f : ∀ (f l m : Nat), l ≤ f → pts (f + 1) l m = pts f l m
  | f, 0, m, _ => by rw [pts_0, pts_0]
  | 0, l + 1, m, h => by omega
  | f + 1, l + 1, m, h => by
    rw [pts_s, pts_s]
    exact heads_congr _ fun k h1 h2 => pts_f f (l + 1 - k) k (by omega)
theorem pts_21 : ∀ (d f l m : Nat), f + d = 21 → l ≤ f → pts f l m = pts 21 l m
  | 0, f, l, m, h, _ => by rw [show f = 21 by omega]
  | d + 1, f, l, m, h, hl => by rw [← pts_f f l m hl, pts_21 d (f + 1) l m (by omega) (by omega)]
theorem heads_le (ih : Nat → Nat → List (List Nat)) (l : Nat) : ∀ (d k : Nat), (heads ih l k).length ≤ (heads ih l (k + d)).length
  | 0, k => Nat.le_refl _
  | d + 1, k => by
    have := heads_le ih l d k
    rw [show k + (d + 1) = (k + d) + 1 by omega, heads_s, List.length_append]
    omega
noncomputable def ev (x : Nat × List Nat) : Value := Sl.v 1 (sl x.1 (nI x.2))
theorem svev (p : List Nat) : sv p = ev (0, p) := sv_eq p
theorem clS (L : List (List Nat)) : allL closed1 (L.map sv) = true := by
  rw [allL_eq, List.all_eq_true]; intro x hx
  obtain ⟨r, _, rfl⟩ := List.mem_map.1 hx; rw [svev]; rfl
theorem snocS (L : List (List Nat)) (r : List Nat) : appL (dropL 0 (L.map sv)) [sv r] = (L ++ [r]).map sv := by
  rw [appL_eq, dropL_eq, List.drop_zero, List.map_append]; rfl
theorem growG (sz by' n k : Nat) (xs : List Value) (hr : roomy (n + k) by' = true) (hk : 1 ≤ k) (hx : xs.length = n * sz) : growC sz by' n (2 * n) k xs = true := by
  unfold growC
  have e : (2 * n) / 2 = n := by omega
  have e2 : (2 * n) % 2 = 0 := by omega
  rw [e, e2, hr]
  have b1 : Nat.ble (n + k) n = false := by rw [ble_eq]; exact decide_eq_false (by omega)
  have b2 : Nat.ble (0 + n * sz) (len xs) = true := by rw [ble_eq, len_eq, hx]; simp
  have b3 : Nat.beq (0 + n * sz) (len xs) = true := by rw [len_eq, hx, Nat.zero_add]; exact Nat.beq_refl _
  rw [b1, b2, b3]; rfl
theorem roomyB {n b : Nat} (hn : n ≤ 1000) (hb : b ≤ 100) : roomy n b = true := by
  unfold roomy; rw [ble_eq]
  have := Nat.mul_le_mul (show 4 * n + 4096 ≤ 8096 by omega) hb
  simp; omega
theorem growS (L : List (List Nat)) (h : L.length ≤ 950) : growC 1 24 L.length (2 * L.length) 1 (L.map sv) = true := growG 1 24 L.length 1 _ (roomyB (by omega) (by omega)) (by omega) (by rw [List.length_map, Nat.mul_one])
theorem wholeS (L : List (List Nat)) : an (Nat.ble (0 + L.length * 1) (len (L.map sv))) (allL closed1 (takeL (L.length * 1) (dropL 0 (L.map sv)))) = true := by
  have : L.length * 1 = (L.map sv).length := by rw [List.length_map, Nat.mul_one]
  rw [Nat.zero_add, this, dropL_eq, List.drop_zero, takeL_eq, List.take_length, clS, len_eq, ble_eq]
  simp
theorem takeS (L : List (List Nat)) : takeL (L.length * 1) (dropL 0 (L.map sv)) = L.map sv := by
  have : L.length * 1 = (L.map sv).length := by rw [List.length_map, Nat.mul_one]
  rw [this, dropL_eq, List.drop_zero, takeL_eq, List.take_length]
theorem l30_in (pu : PureF) (ih0 : Int → Int → Nat → Nat → Int → List Value → Option Value) (z1 z2 : Int) (h : Nat) (R : List (Nat × List Nat)) (hR : R.length ≤ 900) (hr : ∀ r ∈ R, r.2.length ≤ 100) (hh : h ≤ 100) : ∀ (f i : Nat) (P : List (List Nat)), R.length - i < f → i ≤ R.length → P.length + R.length ≤ 900 + i →
    l30_4 pu 1000000 ih0 f z1 z2 P.length (2 * P.length) (Int.ofNat h) ⟨R.length, 0, R.map ev⟩ (Int.ofNat i) (P.map sv) =
      ih0 z1 z2 (P ++ (R.drop i).map (fun r => h :: r.2)).length (2 * (P ++ (R.drop i).map (fun r => h :: r.2)).length) (Int.ofNat (h + 1)) ((P ++ (R.drop i).map (fun r => h :: r.2)).map sv) := by
  intro f
  induction f with
  | zero => intro i P hf; omega
  | succ f ih =>
    intro i P hf hi hP
    show b30_4 pu 1000000 ih0 (l30_4 pu 1000000 ih0 f) _ _ _ _ _ _ _ _ = _
    unfold b30_4
    rw [clS, bb_true]
    by_cases hlt : i < R.length
    · have gx : (R.map ev)[i]? = some (Sl.v 1 (sl R[i].1 (nI R[i].2))) := by rw [List.getElem?_map, List.getElem?_eq_getElem hlt, Option.map_some]; rfl
      have hl := hr _ (List.getElem_mem hlt)
      have g1 := growS P (by omega)
      have step := ih (i + 1) (P ++ [h :: R[i].2]) (by omega) (by omega) (by simp; omega)
      rw [List.length_append, List.length_singleton, List.append_assoc] at step
      rw [List.drop_eq_getElem_cons hlt, List.map_cons, lt_true hlt]
      simp only [bb_true, toN_mk, oo_some, blt_eq, hlt, decide_true, an_eq, Bool.true_and, nthL_eq, Nat.mul_one, gx, toSl_mk, sl_n, sl_cs]
      by_cases h0 : R[i].2 = []
      · have e1 : Nat.beq (nI R[i].2).length 0 = true := by rw [h0]; rfl
        have sn := snocS P [h]
        have e2 : sv [h] = Sl.v 1 (Sl.mk 1 0 (takeL 1 (dropL 0 ([I (Int.ofNat h)] : List Value)))) := rfl
        rw [e2] at sn
        rw [e1, bb_true, g1, bb_true, sn, clS, bb_true, wrapS i (by omega)]
        rw [h0] at step ⊢
        exact step
      · have e1 : Nat.beq (nI R[i].2).length 0 = false := by
          rw [nI_len]
          cases hc : R[i].2 with
          | nil => exact absurd hc h0
          | cons a t => rfl
        have rm : roomy (1 + (nI R[i].2).length) 8 = true := roomyB (by rw [nI_len]; omega) (by omega)
        have w := wholeI (nI (h :: R[i].2))
        have t := takeI (nI (h :: R[i].2))
        have hl1 : (nI (h :: R[i].2)).length = 1 + (nI R[i].2).length := by rw [nI_len, nI_len, List.length_cons]; omega
        have hap : appL (takeL 1 (dropL 0 ([I (Int.ofNat h)] : List Value))) (takeL (nI R[i].2).length ((nI R[i].2).map I)) = (nI (h :: R[i].2)).map I := by
          have := takeI' (nI R[i].2)
          rw [Nat.mul_one] at this
          rw [this]; rfl
        rw [hl1, Nat.mul_one] at w t
        simp only [an_eq] at w
        have sn := snocS P (h :: R[i].2)
        have e2 : sv (h :: R[i].2) = Sl.v 1 (Sl.mk (1 + (nI R[i].2).length) 0 ((nI (h :: R[i].2)).map I)) := by
          rw [sv_eq]; unfold sl; rw [hl1]
        rw [e2] at sn
        rw [e1, bb_false, rm, bb_true, hap, w, bb_true, g1, bb_true, t, sn, clS, bb_true, wrapS i (by omega)]
        exact step
    · have : i = R.length := by omega
      subst this
      rw [show (Sl.mk R.length 0 (R.map ev)).n = R.length from rfl, lt_false hlt, bb_false, List.drop_length, List.map_nil, List.append_nil]
      unfold m30_3
      rw [clS, bb_true, wrapS h (by omega)]
end Go.HpBM
set_option maxRecDepth 100000
namespace Go.HpBM
open Go.Sp Go.HpB Go.HpT

theorem heads_mem {ih : Nat → Nat → List (List Nat)} {l : Nat} {p : List Nat} : ∀ {m : Nat}, p ∈ heads ih l m → ∃ h r, 1 ≤ h ∧ h ≤ m ∧ p = h :: r ∧ r ∈ ih (l - h) h
  | 0, h => by cases h
  | m + 1, h => by
    rw [heads_s] at h
    rcases List.mem_append.1 h with h | h
    · obtain ⟨a, r, h1, h2, h3, h4⟩ := heads_mem h
      exact ⟨a, r, h1, by omega, h3, h4⟩
    · obtain ⟨r, h1, h2⟩ := List.mem_map.1 h
      exact ⟨m + 1, r, by omega, Nat.le_refl _, h2.symm, h1⟩
theorem pts_len : ∀ (f l m : Nat) (p : List Nat), p ∈ pts f l m → p.length ≤ l
  | f, 0, m, p, h => by
    rw [pts_0] at h
    rw [List.mem_singleton.1 h]; exact Nat.le_refl _
  | 0, l + 1, m, p, h => by cases h
  | f + 1, l + 1, m, p, h => by
    rw [pts_s] at h
    obtain ⟨a, r, h1, h2, h3, h4⟩ := heads_mem h
    have := pts_len f _ _ r h4
    have : a ≤ l + 1 := Nat.le_trans h2 (Nat.min_le_left _ _)
    rw [h3, List.length_cons]; omega
noncomputable def RR (f l m : Nat) : List (Nat × List Nat) := if l = 0 then [(2, [])] else (pts f l m).map fun p => (0, p)
theorem RR_len (f l m : Nat) : (RR f l m).length = (pts f l m).length := by
  unfold RR
  by_cases h : l = 0
  · subst h; rw [if_pos rfl, pts_0]; rfl
  · rw [if_neg h, List.length_map]
theorem RR_map (f l m h : Nat) : (RR f l m).map (fun r => h :: r.2) = (pts f l m).map fun p => h :: p := by
  unfold RR
  by_cases e : l = 0
  · subst e; rw [if_pos rfl, pts_0]; rfl
  · rw [if_neg e, List.map_map]; rfl
theorem RR_in (f l m : Nat) : ∀ r ∈ RR f l m, r.2.length ≤ l := by
  intro r hr
  unfold RR at hr
  by_cases e : l = 0
  · rw [if_pos e] at hr; rw [List.mem_singleton.1 hr]; exact Nat.zero_le _
  · rw [if_neg e] at hr
    obtain ⟨p, hp, rfl⟩ := List.mem_map.1 hr
    exact pts_len f l m p hp
theorem wrapD (a b : Nat) (h : b ≤ a) (ha : a ≤ 1000) : wrapF .i64 (Int.sub (Int.ofNat a) (Int.ofNat b)) = Int.ofNat (a - b) := by
  have e : Int.sub (Int.ofNat a) (Int.ofNat b) = Int.ofNat (a - b) := by show (a : Int) - (b : Int) = ((a - b : Nat) : Int); omega
  rw [e]
  exact wrapN (by simp only [Int.ofNat_eq_natCast]; omega) (by simp only [Int.ofNat_eq_natCast]; omega)
def AllOk (pu : PureF) (f : Nat) : Prop := ∀ l m, l ≤ f → l ≤ 21 → m ≤ 21 → pu 30 [I (Int.ofNat l), I (Int.ofNat m)] = some (Sl.v 1 ⟨(RR f l m).length, 0, (RR f l m).map ev⟩)
theorem l30 (pu : PureF) (f l m : Nat) (hA : AllOk pu f) (hf : f ≤ 20) (hl : l + 1 ≤ f + 1) (hm : m ≤ 21) : ∀ (g k : Nat), Nat.min (l + 1) m - k < g → k ≤ Nat.min (l + 1) m →
    l30_1 pu 1000000 g (Int.ofNat (l + 1)) (Int.ofNat m) (heads (pts f) (l + 1) k).length (2 * (heads (pts f) (l + 1) k).length) (Int.ofNat (k + 1)) ((heads (pts f) (l + 1) k).map sv) =
      some (Sl.v 1 ⟨(pts (f + 1) (l + 1) m).length, 0, (pts (f + 1) (l + 1) m).map sv⟩) := by
  have hN : (heads (pts f) (l + 1) (Nat.min (l + 1) m)).length ≤ 900 := by
    rw [← pts_s, pts_21 (20 - f) (f + 1) (l + 1) m (by omega) hl]
    exact few (l + 1) m (by omega) hm
  intro g
  induction g with
  | zero => intro k h; omega
  | succ g ih =>
    intro k hg hk
    show b30_1 pu 1000000 (l30_1 pu 1000000 g) _ _ _ _ _ _ = _
    unfold b30_1 m30_2
    by_cases hlt : k < Nat.min (l + 1) m
    · have h1 : k + 1 ≤ l + 1 := Nat.le_trans hlt (Nat.min_le_left _ _)
      have h2 : k + 1 ≤ m := Nat.le_trans hlt (Nat.min_le_right _ _)
      have e := hA (l + 1 - (k + 1)) (k + 1) (by omega) (by omega) (by omega)
      have hR : (RR f (l + 1 - (k + 1)) (k + 1)).length = (pts f (l + 1 - (k + 1)) (k + 1)).length := RR_len _ _ _
      have hR2 : (pts f (l + 1 - (k + 1)) (k + 1)).length ≤ 900 := by
        rw [pts_21 (21 - f) f _ _ (by omega) (by omega)]; exact few _ _ (by omega) (by omega)
      have hs := heads_s (pts f) (l + 1) k
      have hsl : (heads (pts f) (l + 1) (k + 1)).length ≤ 900 := by
        obtain ⟨d, hd⟩ : ∃ d, Nat.min (l + 1) m = (k + 1) + d := ⟨Nat.min (l + 1) m - (k + 1), by omega⟩
        have := heads_le (pts f) (l + 1) d (k + 1)
        rw [← hd] at this; omega
      have hsum : (heads (pts f) (l + 1) k).length + (pts f (l + 1 - (k + 1)) (k + 1)).length ≤ 900 := by
        rw [hs, List.length_append, List.length_map] at hsl; exact hsl
      have q := l30_in pu (l30_1 pu 1000000 g) (Int.ofNat (l + 1)) (Int.ofNat m) (k + 1) (RR f (l + 1 - (k + 1)) (k + 1)) (by omega) (fun r hr => by have := RR_in _ _ _ r hr; omega) (by omega) 1000000 0 (heads (pts f) (l + 1) k) (by omega) (by omega) (by omega)
      rw [List.drop_zero, RR_map, ← hs] at q
      rw [lt_false (show ¬ m < k + 1 by omega), show nt false = true from rfl, bb_true, clS, bb_true, lt_false (show ¬ l + 1 < k + 1 by omega), show nt false = true from rfl, bb_true, bb_true, wrapD (l + 1) (k + 1) h1 (by omega), e, oo_some, toSl_mk, oo_some]
      refine Eq.trans q ?_
      exact ih (k + 1) (by omega) (by omega)
    · have hke : k = Nat.min (l + 1) m := by omega
      have hend : m30_0 pu 1000000 (heads (pts f) (l + 1) k).length (2 * (heads (pts f) (l + 1) k).length) ((heads (pts f) (l + 1) k).map sv) = some (Sl.v 1 ⟨(pts (f + 1) (l + 1) m).length, 0, (pts (f + 1) (l + 1) m).map sv⟩) := by
        unfold m30_0
        rw [clS, bb_true, wholeS, bb_true, takeS, hke, ← pts_s]
      by_cases hm2 : m < k + 1
      · rw [lt_true hm2, show nt true = false from rfl, bb_false, clS, bb_true, bb_false, bb_true, hend]
      · have hl2 : l + 1 < k + 1 := by
          have : Nat.min (l + 1) m = l + 1 ∨ Nat.min (l + 1) m = m := by
            rcases Nat.le_total (l + 1) m with h | h
            · left; exact Nat.min_eq_left h
            · right; exact Nat.min_eq_right h
          omega
        rw [lt_false hm2, show nt false = true from rfl, bb_true, clS, bb_true, lt_true hl2, show nt true = false from rfl, bb_false, bb_true, hend]
theorem all_ok (n : Nat) : ∀ f, f ≤ 21 → AllOk (puN (n + f + 1)) f
  | f, hf21 => by
    intro l m hl hl21 hm
    cases l with
    | zero =>
      refine Eq.trans (b := m30_ (puN (n + f)) 1000000 (Int.ofNat 0) (Int.ofNat m)) (by kernel_rfl) ?_
      unfold m30_
      rw [show ieq (Int.ofNat 0) 0 = true from rfl, bb_true]; rfl
    | succ l =>
      cases f with
      | zero => omega
      | succ f =>
        have hA := all_ok n f (by omega)
        refine Eq.trans (b := m30_ (puN (n + f + 1)) 1000000 (Int.ofNat (l + 1)) (Int.ofNat m)) (by kernel_rfl) ?_
        unfold m30_
        have h0 : ieq (Int.ofNat (l + 1)) 0 = false := by rw [ieq_eq]; simp only [Int.ofNat_eq_natCast]; exact decide_eq_false (by omega)
        rw [h0, bb_false]
        have q := l30 _ f l m hA (by omega) hl hm 1000000 0 (by have h : Nat.min (l + 1) m ≤ l + 1 := Nat.min_le_left _ _; omega) (Nat.zero_le _)
        refine Eq.trans q ?_
        unfold RR
        rw [if_neg (by omega), List.length_map, List.map_map]
        congr 3
        apply List.map_congr_left
        intro p _
        exact svev p
theorem lt_irr : ∀ (a : List Nat), ltL a a = false
  | [] => rfl
  | x :: a => by
    show bb (Nat.blt x x) true (bb (Nat.beq x x) (ltL a a) false) = false
    rw [show Nat.blt x x = false by rw [blt_eq]; exact decide_eq_false (Nat.lt_irrefl x), bb_false, Nat.beq_refl, bb_true, lt_irr a]
theorem lt_cons (x y : Nat) (a b : List Nat) : ltL (x :: a) (y :: b) = true ↔ x < y ∨ (x = y ∧ ltL a b = true) := by
  show bb (Nat.blt x y) true (bb (Nat.beq x y) (ltL a b) false) = true ↔ _
  rw [blt_eq]
  by_cases h : x < y
  · rw [decide_eq_true h, bb_true]; exact ⟨fun _ => .inl h, fun _ => rfl⟩
  · rw [decide_eq_false h, bb_false]
    by_cases e : x = y
    · subst e
      rw [Nat.beq_refl, bb_true]
      exact ⟨fun g => .inr ⟨rfl, g⟩, fun g => g.elim (fun g => absurd g h) fun g => g.2⟩
    · have : Nat.beq x y = false := by
        cases hb : Nat.beq x y with
        | false => rfl
        | true => exact absurd (Nat.eq_of_beq_eq_true hb) e
      rw [this, bb_false]
      exact ⟨fun g => (by cases g), fun g => g.elim (fun g => absurd g h) fun g => absurd g.1 e⟩
theorem lt_trans : ∀ (a b c : List Nat), ltL a b = true → ltL b c = true → ltL a c = true
  | [], b, [], _, h => by cases b <;> cases h
  | [], _, _ :: _, _, _ => rfl
  | x :: a, [], c, h, _ => by cases h
  | x :: a, y :: b, [], _, h => by cases h
  | x :: a, y :: b, z :: c, h1, h2 => by
    rw [lt_cons] at h1 h2 ⊢
    rcases h1 with h1 | ⟨h1, h3⟩
    · rcases h2 with h2 | ⟨h2, _⟩
      · exact .inl (by omega)
      · exact .inl (by omega)
    · rcases h2 with h2 | ⟨h2, h4⟩
      · exact .inl (by omega)
      · exact .inr ⟨by omega, lt_trans a b c h3 h4⟩
theorem asc_pw : ∀ (L : List (List Nat)), ascT L = true → L.Pairwise (fun a b => ltL a b = true)
  | [], _ => List.Pairwise.nil
  | [x], _ => by simp
  | x :: y :: L, h => by
    obtain ⟨h1, h2⟩ := an_inv (show an (ltL x y) (ascT (y :: L)) = true from h)
    have ih := asc_pw (y :: L) h2
    refine List.Pairwise.cons (fun z hz => ?_) ih
    rcases List.mem_cons.1 hz with rfl | hz
    · exact h1
    · exact lt_trans _ _ _ h1 ((List.pairwise_cons.1 ih).1 z hz)
theorem pw_eq : ∀ (A B : List (List Nat)), A.Pairwise (fun a b => ltL a b = true) → B.Pairwise (fun a b => ltL a b = true) → (∀ x, x ∈ A ↔ x ∈ B) → A = B
  | [], [], _, _, _ => rfl
  | [], b :: B, _, _, h => by have := (h b).2 (by simp); cases this
  | a :: A, [], _, _, h => by have := (h a).1 (by simp); cases this
  | a :: A, b :: B, hA, hB, h => by
    obtain ⟨a1, a2⟩ := List.pairwise_cons.1 hA
    obtain ⟨b1, b2⟩ := List.pairwise_cons.1 hB
    have e : a = b := by
      rcases List.mem_cons.1 ((h a).1 (by simp)) with e | e
      · exact e
      · rcases List.mem_cons.1 ((h b).2 (by simp)) with g | g
        · exact g.symm
        · have := lt_trans _ _ _ (b1 a e) (a1 b g)
          rw [lt_irr] at this; cases this
    subst e
    rw [pw_eq A B a2 b2 fun x => ?_]
    constructor
    · intro hx
      rcases List.mem_cons.1 ((h x).1 (by simp [hx])) with e | e
      · subst e; have := a1 x hx; rw [lt_irr] at this; cases this
      · exact e
    · intro hx
      rcases List.mem_cons.1 ((h x).2 (by simp [hx])) with e | e
      · subst e; have := b1 x hx; rw [lt_irr] at this; cases this
      · exact e
theorem memT_mem : ∀ (L : List (List Nat)) (p : List Nat), memT p L = true → p ∈ L
  | [], p, h => by cases h
  | x :: L, p, h => by
    have h : bb (eqP x p) true (memT p L) = true := h
    cases he : eqP x p with
    | true => rw [eqP_eq _ _ he]; simp
    | false => rw [he, bb_false] at h; exact List.mem_cons_of_mem _ (memT_mem L p h)
theorem ahead_eq {p : List Nat} (hp : okP 21 p = true) : aheadT p = (pts (sumL p) (sumL p) (sumL p)).filter fun l => decide (rnd l = p) := by
  have hs := ok_sum hp
  obtain ⟨h1, h2⟩ := an_inv (show an (ascT (aheadT p)) (an (allL (fun l => an (okP 21 l) (an (eqP (rnd l) p) (Nat.beq (sumL l) (sumL p)))) (aheadT p)) (memT p (aheadT (rnd p)))) = true from Pseen hp)
  obtain ⟨h2, _⟩ := an_inv h2
  rw [allL_eq, List.all_eq_true] at h2
  refine pw_eq _ _ (asc_pw _ h1) ((asc_pw _ (Pasc _ hs.1 hs.2)).filter _) fun x => ?_
  rw [List.mem_filter]
  constructor
  · intro hx
    obtain ⟨g1, g2⟩ := an_inv (h2 x hx)
    obtain ⟨g2, g3⟩ := an_inv g2
    obtain ⟨k, _, _, k1, k2⟩ := in_pts g1
    have g3 := Nat.eq_of_beq_eq_true g3
    rw [← g3, k1]
    exact ⟨k2, decide_eq_true (eqP_eq _ _ g2)⟩
  · rintro ⟨hx, he⟩
    have he := of_decide_eq_true he
    have ha := okA _ hs.1 hs.2
    rw [allL_eq, List.all_eq_true] at ha
    have hok := ha x hx
    obtain ⟨_, g⟩ := an_inv (show an (ascT (aheadT x)) (an (allL _ (aheadT x)) (memT x (aheadT (rnd x)))) = true from Pseen hok)
    obtain ⟨_, g⟩ := an_inv g
    rw [he] at g
    exact memT_mem _ _ g
theorem rnd_ok {p : List Nat} (h : okP 21 p = true) : okP 21 (rnd p) = true := by
  have hs := ok_sum h
  have := okR _ hs.1 hs.2
  rw [allL_eq, List.all_eq_true] at this
  obtain ⟨k, _, _, k1, k2⟩ := in_pts h
  rw [k1] at this
  exact this p k2
theorem l31 (pu : PureF) (p : List Nat) (hp : p.length ≤ 100) (hs : sumL p ≤ 100) : ∀ (f i : Nat) (s : Nat), p.length - i < f → i ≤ p.length → s + sumL (p.drop i) ≤ 100 → l31_1 pu 1000000 f (sl 0 (nI p)) (Int.ofNat s) (Int.ofNat i) = some (I (Int.ofNat (s + sumL (p.drop i)))) := by
  intro f
  induction f with
  | zero => intro i s h; omega
  | succ f ih =>
    intro i s hf hi hb
    show b31_1 pu 1000000 (l31_1 pu 1000000 f) _ _ _ = _
    unfold b31_1
    rw [sl_n, nI_len]
    by_cases hlt : i < p.length
    · have hd : sumL (p.drop i) = p[i] + sumL (p.drop (i + 1)) := by rw [List.drop_eq_getElem_cons hlt]; rfl
      have e : wrapF .i64 (Int.add (Int.ofNat s) (Int.ofNat p[i])) = Int.ofNat (s + p[i]) := by
        have : Int.add (Int.ofNat s) (Int.ofNat p[i]) = Int.ofNat (s + p[i]) := by show (s : Int) + (p[i] : Int) = ((s + p[i] : Nat) : Int); omega
        rw [this]; exact wrapN (by simp only [Int.ofNat_eq_natCast]; omega) (by simp only [Int.ofNat_eq_natCast]; omega)
      rw [lt_true hlt]
      simp only [bb_true, toN_mk, oo_some, sl_n, sl_cs, nI_len, blt_eq, hlt, decide_true, an_eq, Bool.true_and, nthL_eq, Nat.mul_one, getN p i hlt, toI_mk, e, wrapS i (by omega)]
      rw [ih (i + 1) (s + p[i]) (by omega) (by omega) (by omega), hd, Nat.add_assoc]
    · have : i = p.length := by omega
      subst this
      rw [lt_false hlt, bb_false, List.drop_length]; rfl
theorem p31 (n : Nat) {p : List Nat} (hp : okP 21 p = true) : puN (n + 1) 31 [sv p] = some (I (Int.ofNat (sumL p))) := by
  have h1 := ok_sum hp
  have h2 := ok_len hp
  have := l31 (puN n) p (by omega) (by omega) 1000000 0 0 (by omega) (by omega) (by rw [List.drop_zero]; omega)
  rw [List.drop_zero, Nat.zero_add] at this
  rw [sv_eq]
  exact Eq.trans (b := m31_ (puN n) 1000000 (sl 0 (nI p))) (by kernel_rfl) this
noncomputable def two (v : Value) (e : Int) : Option Value := some (.tuple ⟨[v, I e]⟩)
theorem l8 (n : Nat) (p : List Nat) (hp : okP 21 p = true) (R : List (List Nat)) (hR : R.length ≤ 900) (hok : ∀ r ∈ R, okP 21 r = true) : ∀ (f i : Nat) (P : List (List Nat)), R.length - i < f → i ≤ R.length → P.length ≤ i →
    l8_1 (puN (n + 12)) 1000000 f (sl 0 (nI p)) P.length (2 * P.length) ⟨R.length, 0, R.map sv⟩ (Int.ofNat i) (P.map sv) = two (llV (P ++ (R.drop i).filter fun l => decide (rnd l = p))) 0 := by
  intro f
  induction f with
  | zero => intro i P h; omega
  | succ f ih =>
    intro i P hf hi hP
    show b8_1 (puN (n + 12)) 1000000 (l8_1 (puN (n + 12)) 1000000 f) _ _ _ _ _ _ = _
    unfold b8_1
    rw [clS, bb_true]
    by_cases hlt : i < R.length
    · have ho := hok _ (List.getElem_mem hlt)
      have gx : (R.map sv)[i]? = some (Sl.v 1 (sl 0 (nI R[i]))) := by rw [List.getElem?_map, List.getElem?_eq_getElem hlt, Option.map_some, sv_eq]
      have e1 := P33 n ho
      have e2 := p32 (n + 11) (rnd R[i]) p (by
        have hq := rnd_ok ho
        have := ok_len hq; omega)
      rw [sv_eq, sv_eq] at e1 e2
      rw [List.drop_eq_getElem_cons hlt, lt_true hlt]
      simp only [bb_true, toN_mk, oo_some, blt_eq, hlt, decide_true, an_eq, Bool.true_and, nthL_eq, Nat.mul_one, gx, toSl_mk]
      rw [e1, oo_some, toSl_mk, oo_some, e2, oo_some, vBool_mk, oo_some]
      unfold m8_2
      by_cases hc : rnd R[i] = p
      · have sn := snocS P R[i]
        have g1 := growS P (by omega)
        have step := ih (i + 1) (P ++ [R[i]]) (by omega) (by omega) (by simp; omega)
        rw [List.length_append, List.length_singleton] at step
        rw [sv_eq R[i]] at sn
        rw [decide_eq_true hc, bb_true, g1, bb_true, sn, clS, bb_true, bb_true, wrapS i (by omega), List.filter_cons_of_pos (by simpa using hc)]
        refine Eq.trans step ?_
        rw [List.append_assoc]; rfl
      · rw [decide_eq_false hc, bb_false, clS, bb_true, wrapS i (by omega), List.filter_cons_of_neg (by simpa using hc)]
        exact ih (i + 1) P (by omega) (by omega) (by omega)
    · have : i = R.length := by omega
      subst this
      rw [show (Sl.mk R.length 0 (R.map sv)).n = R.length from rfl, lt_false hlt, bb_false, List.drop_length, List.filter_nil, List.append_nil]
      unfold m8_0 two llV
      rw [clS, bb_true, wholeS, bb_true, takeS, len_eq, mapL_eq]
theorem p8 (n : Nat) {p : List Nat} (hp : okP 21 p = true) (e : puN (n + 24) 29 [sv p] = some (I 0)) : puN (n + 25) 8 [sv p] = two (llV (aheadT p)) 0 := by
  have hs := ok_sum hp
  have e1 := p31 (n + 23) hp
  have e2 := all_ok (n + 2) 21 (by omega) (sumL p) 21 hs.2 hs.2 (by omega)
  rw [sv_eq] at e e1 ⊢
  refine Eq.trans (b := m8_ (puN (n + 24)) 1000000 (sl 0 (nI p))) (by kernel_rfl) ?_
  unfold m8_
  rw [e, oo_some, toI_mk, oo_some, show nt (ieq (0 : Int) 0) = false from rfl, bb_false, e1, oo_some, toI_mk, oo_some]
  have e3 : puN (n + 24) 30 [I (Int.ofNat (sumL p)), I 21] = some (Sl.v 1 ⟨(pts (sumL p) (sumL p) (sumL p)).length, 0, (pts (sumL p) (sumL p) (sumL p)).map sv⟩) := by
    refine Eq.trans e2 ?_
    have hp2 : pts 21 (sumL p) 21 = pts (sumL p) (sumL p) (sumL p) := by
      rw [pts_21 (21 - sumL p) (sumL p) (sumL p) (sumL p) (by omega) (Nat.le_refl _)]
      obtain ⟨k, hk⟩ : ∃ k, sumL p = k + 1 := ⟨sumL p - 1, by omega⟩
      rw [hk, pts_s, pts_s, show Nat.min (k + 1) 21 = k + 1 from Nat.min_eq_left (by omega), show Nat.min (k + 1) (k + 1) = k + 1 from Nat.min_self _]
    unfold RR
    rw [if_neg (by omega), List.length_map, List.map_map, hp2]
    congr 3
    apply List.map_congr_left
    intro q _
    exact (svev q).symm
  have hok := okA _ hs.1 hs.2
  rw [allL_eq, List.all_eq_true] at hok
  have hfew : (pts (sumL p) (sumL p) (sumL p)).length ≤ 900 := by
    rw [pts_21 (21 - sumL p) (sumL p) _ _ (by omega) (Nat.le_refl _)]; exact few _ _ (by omega) (by omega)
  have q := l8 (n + 12) p hp (pts (sumL p) (sumL p) (sumL p)) hfew hok 1000000 0 [] (by omega) (by omega) (by simp)
  rw [List.drop_zero, List.nil_append, ← ahead_eq hp] at q
  rw [e3, oo_some, toSl_mk, oo_some]
  exact q
theorem p7 (n : Nat) {p : List Nat} (hp : okP 21 p = true) (e : puN (n + 12) 26 [sv p] = some (I 0)) : puN (n + 13) 7 [sv p] = two (llV (aheadT p)) 0 := by
  have e1 := P27 n hp
  have e2 := P28 n hp
  have c6 : an (Nat.beq (len (cvl p)) 22) (allL closed1 (cvl p)) = true := by kernel_rfl
  have c4 : allL closed2 [.agg ⟨cvl p⟩] = true := by kernel_rfl
  rw [sv_eq] at e e1 ⊢
  unfold cv at e1 e2
  unfold llV at e2
  refine Eq.trans (b := m7_ (puN (n + 12)) 1000000 (sl 0 (nI p))) (by kernel_rfl) ?_
  unfold m7_
  rw [e, oo_some, toI_mk, oo_some, show nt (ieq (0 : Int) 0) = false from rfl, bb_false, e1, oo_some, vAgg_mk, oo_some, c6, bb_true, e2, oo_some, toSl_mk, oo_some, c4, bb_true]; rfl
theorem p7e (n : Nat) (s : Sl) (c : Int) (hc : c ≠ 0) (e : puN (n + 12) 26 [Sl.v 1 s] = some (I c)) : puN (n + 13) 7 [Sl.v 1 s] = two (Sl.v 1 ⟨0, 2, []⟩) c := by
  refine Eq.trans (b := m7_ (puN (n + 12)) 1000000 s) (by kernel_rfl) ?_
  unfold m7_
  rw [e, oo_some, toI_mk, oo_some, ne_t hc, bb_true]; rfl
theorem p8e (n : Nat) (s : Sl) (c : Int) (hc : c ≠ 0) (e : puN (n + 24) 29 [Sl.v 1 s] = some (I c)) : puN (n + 25) 8 [Sl.v 1 s] = two (Sl.v 1 ⟨0, 2, []⟩) c := by
  refine Eq.trans (b := m8_ (puN (n + 24)) 1000000 s) (by kernel_rfl) ?_
  unfold m8_
  rw [e, oo_some, toI_mk, oo_some, ne_t hc, bb_true]; rfl
section
variable (pu : PureF) (b : Sl) (e6 : pu 6 [] = some (.bool true))
include e6
theorem m3_big (e5 : pu 5 [Sl.v 1 b] = some (.bool true)) : m3_ pu 1000000 b = some (.bool true) := by
  unfold m3_
  rw [e5, oo_some, vBool_mk, oo_some, bb_true, e6]; rfl
theorem m3_p (e5 : pu 5 [Sl.v 1 b] = some (.bool false)) {c : Int} {s : Sl} (e7 : pu 7 [Sl.v 1 b] = two (Sl.v 1 s) c) (e8 : pu 8 [Sl.v 1 b] = two (Sl.v 1 s) c) (e9 : pu 9 [Sl.v 1 s, Sl.v 1 s] = some (.bool true)) : m3_ pu 1000000 b = some (.bool true) := by
  unfold two at e7 e8
  unfold m3_
  rw [e5, oo_some, vBool_mk, oo_some, bb_false, e7]
  simp -implicitDefEqProofs only [oo_some, vTup_mk, ll_cons', ll_nil', toSl_mk, toI_mk]
  rw [e8]
  simp -implicitDefEqProofs only [oo_some, vTup_mk, ll_cons', ll_nil', toSl_mk, toI_mk, bb_true, ieqr, e9, e6, vBool_mk, m3_0]
end
noncomputable def puW : PureF := fun g args => bb (Nat.beq g 6) (ll args (some (.bool true)) fun _ _ => none) (puN 60 g args)
theorem puW_n (g : FuncId) (args : List Value) (h : Nat.beq g 6 = false) : puW g args = puN 60 g args := by
  unfold puW; rw [h, bb_false]
theorem puW_6 : puW 6 [] = some (.bool true) := rfl
theorem puW_g (g : FuncId) (h : Nat.beq g 6 = false) : puW g = puN 60 g := by funext a; exact puW_n g a h
theorem puW_w : puW 6 = fun args => ll args (some (.bool true)) fun _ _ => none := rfl
theorem nil9 : puN 60 9 [Sl.v 1 ⟨0, 2, []⟩, Sl.v 1 ⟨0, 2, []⟩] = some (.bool true) := by kernel_rfl
theorem p9 (n : Nat) (L : List (List Nat)) (hL : L.length ≤ 50) (hr : ∀ r ∈ L, r.length ≤ 50) : puN (n + 2) 9 [Sl.v 1 (LLs L), Sl.v 1 (LLs L)] = some (.bool true) := by
  refine Eq.trans (b := m9_ (puN (n + 1)) 1000000 (LLs L) (LLs L)) (by kernel_rfl) ?_
  unfold m9_
  rw [neqr, bb_false]
  exact l9 n L hL hr 1000000 0 (by omega) (by omega)
theorem insT_len (a : List Nat) : ∀ L : List (List Nat), (insT a L).length = L.length + 1
  | [] => rfl
  | x :: L => by
    show (bb (ltL a x) (a :: x :: L) (x :: insT a L)).length = _
    cases ltL a x with
    | true => rw [bb_true]; rfl
    | false => rw [bb_false, List.length_cons, insT_len a L, List.length_cons]
theorem ahead_len (p0 : List Nat) : ∀ p : List Nat, (List.rec (motive := fun _ => List (List Nat)) [] (fun h r ih => bb (ll r false fun y _ => Nat.beq y h) ih (bb (Nat.ble (len p0) (h + 1)) (insT (appL (mapL Nat.succ (remT h p0)) (onesT (h + 1 - len p0))) ih) ih)) p : List (List Nat)).length ≤ p.length
  | [] => Nat.le_refl _
  | h :: r => by
    have ih := ahead_len p0 r
    show (bb (ll r false fun y _ => Nat.beq y h) _ (bb (Nat.ble (len p0) (h + 1)) (insT _ _) _)).length ≤ _
    rw [List.length_cons]
    cases (ll r false fun y _ => Nat.beq y h) with
    | true => rw [bb_true]; omega
    | false =>
      rw [bb_false]
      cases Nat.ble (len p0) (h + 1) with
      | true => rw [bb_true, insT_len]; omega
      | false => rw [bb_false]; omega
theorem pAhead (l : List Int) : m3_ puW 1000000 (sl 0 l) = some (.bool true) := by
  have e5 := p5 59 0 l
  rw [show (59 + 1 : Nat) = 60 from rfl, ← puW_n 5 _ rfl] at e5
  by_cases hb : 60 < l.length
  · rw [decide_eq_true hb] at e5
    exact m3_big puW (sl 0 l) puW_6 e5
  · rw [decide_eq_false hb] at e5
    have hl : l.length ≤ 60 := by omega
    have a14 : puN 59 26 [Sl.v 1 (sl 0 l)] = some (I (chk l)) := p26 57 0 l hl
    have a15 : puN 59 29 [Sl.v 1 (sl 0 l)] = some (I (chk l)) := p29 57 0 l hl
    have w7 := puW_n 7 [Sl.v 1 (sl 0 l)] rfl
    have w8 := puW_n 8 [Sl.v 1 (sl 0 l)] rfl
    by_cases hc : chk l = 0
    · obtain ⟨p, rfl, hp⟩ := ok_of hc
      rw [hc, ← sv_eq] at a14 a15
      have x7 := p7 47 hp a14
      have x8 := p8 35 hp a15
      have hv : llV (aheadT p) = Sl.v 1 (LLs (aheadT p)) := by unfold llV LLs; rw [len_eq, mapL_eq]
      have h1 : (aheadT p).length ≤ 50 := by have := ahead_len p p; have := ok_len hp; exact Nat.le_trans (ahead_len p p) (by omega)
      have h2 : ∀ r ∈ aheadT p, r.length ≤ 50 := by
        obtain ⟨_, g⟩ := an_inv (show an (ascT (aheadT p)) (an (allL (fun l => an (okP 21 l) (an (eqP (rnd l) p) (Nat.beq (sumL l) (sumL p)))) (aheadT p)) (memT p (aheadT (rnd p)))) = true from Pseen hp)
        obtain ⟨g, _⟩ := an_inv g
        rw [allL_eq, List.all_eq_true] at g
        intro r hr
        have := ok_len (an_inv (g r hr)).1
        omega
      have x9 := (puW_n 9 [Sl.v 1 (LLs (aheadT p)), Sl.v 1 (LLs (aheadT p))] rfl).trans (p9 58 _ h1 h2)
      rw [hv, sv_eq] at x7 x8
      exact m3_p puW _ puW_6 e5 (w7.trans x7) (w8.trans x8) x9
    · exact m3_p puW _ puW_6 e5 (w7.trans (p7e 47 _ _ hc a14)) (w8.trans (p8e 35 _ _ hc a15)) ((puW_n 9 _ rfl).trans nil9)
noncomputable def mLaw (args : List Value) : Option Value := m3 puW 1000000 args
theorem mLaw_ok (l : List Int) : mLaw [Sl.v 1 (sl 0 l)] = some (Value.bool true) :=
  Eq.trans (b := m3_ puW 1000000 (sl 0 l)) (by kernel_rfl) (pAhead l)
end Go.HpBM
