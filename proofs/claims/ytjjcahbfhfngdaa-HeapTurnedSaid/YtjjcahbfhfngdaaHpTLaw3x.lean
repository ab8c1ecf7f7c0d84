/- Heaps turned: plain maths. -/
import Derived.Test.YtjjcahbfhfngdaaSpObjx
import Derived.Test.YtjjcahbfhfngdaaHpTPux
import Derived.KernelRfl

namespace Go.HtM

def cj (l : List Nat) (i : Nat) : Nat := l.countP fun h => decide (i < h)
def conj (l : List Nat) : List Nat := (List.range (l.headD 0)).map (cj l)
structure Hp (l : List Nat) : Prop where
  ne : l ≠ []
  desc : l.Pairwise (fun a b => b ≤ a)
  pos : ∀ a ∈ l, 1 ≤ a
  sum : l.sum ≤ 21
theorem mem_sum : ∀ (l : List Nat) (a : Nat), a ∈ l → a ≤ l.sum
  | b :: l, a, h => by
    rw [List.sum_cons]
    rcases List.mem_cons.1 h with rfl | h
    · omega
    · have := mem_sum l a h; omega
theorem len_sum : ∀ (l : List Nat), (∀ a ∈ l, 1 ≤ a) → l.length ≤ l.sum
  | [], _ => by simp
  | a :: l, h => by
    have h1 := h a (by simp)
    have h2 := len_sum l (fun b hb => h b (by simp [hb]))
    rw [List.sum_cons, List.length_cons]; omega
theorem Hp.le {l : List Nat} (h : Hp l) : ∀ a ∈ l, a ≤ 21 := fun a ha => Nat.le_trans (mem_sum l a ha) h.sum
theorem Hp.len {l : List Nat} (h : Hp l) : l.length ≤ 21 := Nat.le_trans (len_sum l h.pos) h.sum
theorem cj_cons (a : Nat) (l : List Nat) (i : Nat) : cj (a :: l) i = cj l i + if i < a then 1 else 0 := by
  unfold cj
  rw [List.countP_cons]
  simp
theorem cj_le (l : List Nat) (i : Nat) : cj l i ≤ l.length := List.countP_le_length
theorem cj_anti (l : List Nat) {i j : Nat} (h : i ≤ j) : cj l j ≤ cj l i := by
  unfold cj
  apply List.countP_mono_left
  intro x _ hx
  simp only [decide_eq_true_eq] at hx ⊢
  omega
theorem cj_zero : ∀ (l : List Nat), (∀ a ∈ l, 1 ≤ a) → cj l 0 = l.length
  | [], _ => rfl
  | a :: l, h => by
    have h1 := h a (by simp)
    rw [cj_cons, cj_zero l (fun b hb => h b (by simp [hb])), if_pos (by omega), List.length_cons]
theorem cj_none (l : List Nat) (i : Nat) (h : ∀ a ∈ l, a ≤ i) : cj l i = 0 := by
  unfold cj
  rw [List.countP_eq_zero]
  intro a ha
  have := h a ha
  simp only [decide_eq_true_eq]; omega
theorem cj_get : ∀ (l : List Nat) (i j : Nat) (hj : j < l.length), l.Pairwise (fun a b => b ≤ a) → (j < cj l i ↔ i < l[j])
  | a :: l, i, j, hj, hd => by
    obtain ⟨h1, h2⟩ := List.pairwise_cons.1 hd
    rw [cj_cons]
    by_cases hi : i < a
    · rw [if_pos hi]
      cases j with
      | zero => simp only [List.getElem_cons_zero]; omega
      | succ j =>
        have hj' : j < l.length := by simpa using hj
        have := cj_get l i j hj' h2
        simp only [List.getElem_cons_succ]
        omega
    · rw [if_neg hi, cj_none l i (fun b hb => by have := h1 b hb; omega)]
      cases j with
      | zero => simp only [List.getElem_cons_zero]; omega
      | succ j =>
        have hj' : j < l.length := by simpa using hj
        have := h1 l[j] (List.getElem_mem hj')
        simp only [List.getElem_cons_succ]
        omega
theorem count_range (m k : Nat) : (List.range m).countP (fun i => decide (i < k)) = min m k := by
  induction m with
  | zero => simp
  | succ m ih =>
    rw [List.range_succ, List.countP_append, ih]
    by_cases h : m < k
    · simp [h]; omega
    · simp [h]; omega
theorem sum_range_cj : ∀ (l : List Nat) (m : Nat), (∀ a ∈ l, a ≤ m) → ((List.range m).map (cj l)).sum = l.sum
  | [], m, _ => by
    have : ∀ m : Nat, ((List.range m).map (cj [])).sum = 0 := by
      intro m
      induction m with
      | zero => rfl
      | succ m ih => rw [List.range_succ, List.map_append, List.sum_append, ih]; rfl
    rw [this]; rfl
  | a :: l, m, h => by
    have ih := sum_range_cj l m (fun b hb => h b (by simp [hb]))
    have ha := h a (by simp)
    have : ∀ m : Nat, ((List.range m).map (cj (a :: l))).sum = ((List.range m).map (cj l)).sum + min m a := by
      intro m
      induction m with
      | zero => simp
      | succ m ih2 =>
        rw [List.range_succ, List.map_append, List.map_append, List.sum_append, List.sum_append, ih2]
        simp only [List.map_cons, List.map_nil, List.sum_cons, List.sum_nil, cj_cons]
        split <;> omega
    rw [this, ih, List.sum_cons]
    omega
theorem conj_len (l : List Nat) : (conj l).length = l.headD 0 := by simp [conj]
theorem Hp.head {l : List Nat} (h : Hp l) : ∃ a t, l = a :: t ∧ 1 ≤ a ∧ a ≤ 21 ∧ ∀ b ∈ l, b ≤ a := by
  cases l with
  | nil => exact absurd rfl h.ne
  | cons a t =>
    refine ⟨a, t, rfl, h.pos a (by simp), h.le a (by simp), fun b hb => ?_⟩
    rcases List.mem_cons.1 hb with rfl | hb
    · exact Nat.le_refl _
    · exact (List.pairwise_cons.1 h.desc).1 b hb
theorem conj_get (l : List Nat) (i : Nat) (h : i < (conj l).length) : (conj l)[i] = cj l i := by simp [conj]
theorem conj_sum {l : List Nat} (h : Hp l) : (conj l).sum = l.sum := by
  obtain ⟨a, t, rfl, _, _, h3⟩ := h.head
  exact sum_range_cj _ a h3
theorem conj_hp {l : List Nat} (h : Hp l) : Hp (conj l) := by
  obtain ⟨a, t, e, h1, h2, h3⟩ := h.head
  refine ⟨?_, ?_, ?_, by rw [conj_sum h]; exact h.sum⟩
  · intro hn
    have := conj_len l
    rw [hn, e] at this
    simp at this; omega
  · unfold conj
    rw [List.pairwise_map]
    exact List.pairwise_lt_range.imp fun hij => cj_anti l (Nat.le_of_lt hij)
  · intro x hx
    unfold conj at hx
    obtain ⟨i, hi, rfl⟩ := List.mem_map.1 hx
    have hi : i < l.headD 0 := by simpa using hi
    rw [e] at hi ⊢
    rw [cj_cons, if_pos (by simpa using hi)]
    omega
theorem conj_head {l : List Nat} (h : Hp l) : (conj l).headD 0 = l.length := by
  obtain ⟨a, t, e, h1, h2, h3⟩ := h.head
  have hl : 0 < (conj l).length := by rw [conj_len, e]; simp; omega
  have e1 : (conj l).headD 0 = (conj l)[0] := by
    rw [List.headD_eq_head?_getD, List.head?_eq_getElem?, List.getElem?_eq_getElem hl, Option.getD_some]
  rw [e1, conj_get l 0 hl]
  exact cj_zero l h.pos
theorem conj_conj {l : List Nat} (h : Hp l) : conj (conj l) = l := by
  obtain ⟨a, t, e, h1, h2, h3⟩ := h.head
  apply List.ext_getElem
  · rw [conj_len, conj_head h]
  · intro j hj hj2
    rw [conj_get _ _ hj]
    unfold cj
    conv => lhs; unfold conj
    rw [List.countP_map]
    have : ((List.range (l.headD 0)).countP ((fun h => decide (j < h)) ∘ cj l)) = (List.range (l.headD 0)).countP (fun i => decide (i < l[j])) := by
      apply List.countP_congr
      intro i _
      have := cj_get l i j hj2 h.desc
      simp only [Function.comp, decide_eq_true_eq]
      exact this
    rw [this, count_range]
    have h4 := h3 l[j] (List.getElem_mem hj2)
    have : l.headD 0 = a := by rw [e]; rfl
    omega
end Go.HtM
set_option maxRecDepth 100000
namespace Go.HpTM
open Go.Sp Go.HpT Go.HtM

theorem lt_true {a b : Nat} (h : a < b) : ilt (Int.ofNat a) (Int.ofNat b) = true := by simp [ilt_eq, h]
theorem lt_false {a b : Nat} (h : ¬ a < b) : ilt (Int.ofNat a) (Int.ofNat b) = false := by simp [ilt_eq]; omega
theorem ieqr (x : Int) : ieq x x = true := by simp [ieq_eq]
theorem neqr (x : Int) : nt (ieq x x) = false := by rw [ieqr]; rfl
theorem setL_one {α : Type} (v : α) : ∀ (i : Nat) (xs : List α), i < xs.length → setL [v] i xs = xs.set i v
  | 0, x :: xs, _ => rfl
  | i + 1, x :: xs, h => by
    have := setL_one v i xs (by simpa using h)
    show x :: setL [v] i xs = x :: xs.set i v
    rw [this]
def nI (l : List Nat) : List Int := l.map Int.ofNat
theorem nI_len (l : List Nat) : (nI l).length = l.length := by simp [nI]
theorem nI_get (l : List Nat) (i : Nat) (h : i < l.length) : (nI l)[i]'(by rw [nI_len]; exact h) = Int.ofNat l[i] := by simp [nI]
theorem nI_app (a b : List Nat) : nI (a ++ b) = nI a ++ nI b := by simp [nI]
theorem getN (l : List Nat) (i : Nat) (h : i < l.length) : ((nI l).map I)[i]? = some (I (Int.ofNat l[i])) := by rw [getI _ i (by rw [nI_len]; exact h), nI_get l i h]
theorem clI (l : List Int) : allL closed1 (l.map I) = true := by rw [allL_eq, closedI]
theorem wholeI (r : List Int) : an (Nat.ble (0 + r.length * 1) (len (r.map I))) (allL closed1 (takeL (r.length * 1) (dropL 0 (r.map I)))) = true := by
  have : r.length * 1 = (r.map I).length := by rw [List.length_map, Nat.mul_one]
  rw [Nat.zero_add, this, dropL_eq, List.drop_zero, takeL_eq, List.take_length, clI, len_eq, ble_eq]
  simp
theorem takeI (r : List Int) : takeL (r.length * 1) (dropL 0 (r.map I)) = r.map I := by
  have : r.length * 1 = (r.map I).length := by rw [List.length_map, Nat.mul_one]
  rw [this, dropL_eq, List.drop_zero, takeL_eq, List.take_length]
theorem snocN (r : List Nat) (a : Nat) : appL (dropL 0 ((nI r).map I)) [I (Int.ofNat a)] = (nI (r ++ [a])).map I := by
  rw [appL_eq, dropL_eq, List.drop_zero, nI_app, List.map_append]; rfl
theorem growG (sz by' n k : Nat) (xs : List Value) (hr : roomy (n + k) by' = true) (hk : 1 ≤ k) (hx : xs.length = n * sz) : growC sz by' n (2 * n) k xs = true := by
  unfold growC
  have e : (2 * n) / 2 = n := by omega
  have e2 : (2 * n) % 2 = 0 := by omega
  rw [e, e2, hr]
  have b1 : Nat.ble (n + k) n = false := by rw [ble_eq]; exact decide_eq_false (by omega)
  have b2 : Nat.ble (0 + n * sz) (len xs) = true := by rw [ble_eq, len_eq, hx]; simp
  have b3 : Nat.beq (0 + n * sz) (len xs) = true := by rw [len_eq, hx, Nat.zero_add]; exact Nat.beq_refl _
  rw [b1, b2, b3]; rfl
theorem roomyB {n b : Nat} (hn : n ≤ 1000) (hb : b ≤ 100) : roomy n b = true := by
  unfold roomy; rw [ble_eq]
  have := Nat.mul_le_mul (show 4 * n + 4096 ≤ 8096 by omega) hb
  simp; omega
theorem mapO_I (l : List Int) : mapO (toI .i64) (l.map I) = some l := by
  induction l with
  | nil => rfl
  | cons x l ih => exact mapO_c rfl ih
theorem p33 (n : Nat) (a b c : Int) : puN (n + 1) 33 [I a, I b, I c] = some (Value.bool (decide (a ≤ b) && decide (b ≤ c))) := by
  show bb (nt (ilt b a)) (some (Value.bool (nt (ilt c b)))) (some (Value.bool false)) = _
  by_cases h1 : a ≤ b <;> by_cases h2 : b ≤ c <;> simp [ilt_eq, h1, h2, show (b < a) ↔ ¬ a ≤ b from by omega, show (c < b) ↔ ¬ b ≤ c from by omega]
theorem wrapN {z : Int} (h1 : -1000000 ≤ z) (h2 : z ≤ 1000000) : wrapF .i64 z = z := wrapI _ (by omega) (by omega)

theorem sum_take (l : List Nat) (i : Nat) (h : i < l.length) : (l.take (i + 1)).sum = (l.take i).sum + l[i] := by
  rw [List.take_succ_eq_append_getElem h, List.sum_append]; simp
theorem sum_le (l : List Nat) (i : Nat) : (l.take i).sum ≤ l.sum := by
  have := congrArg List.sum (List.take_append_drop i l)
  rw [List.sum_append] at this; omega

theorem l14 (n fl : Nat) (l : List Nat) (hp : Hp l) : ∀ (f i last : Nat), l.length - i < f → i ≤ l.length → (∀ (h : i < l.length), l[i] ≤ last) →
    l14_1 (puN (n + 1)) 1000000 f (Int.ofNat (l.take i).sum) (Int.ofNat last) (sl fl (nI l)) (Int.ofNat l.length) (Int.ofNat i) = some (I 0) := by
  have hlen := hp.len
  intro f
  induction f with
  | zero => intro i last h; omega
  | succ f ih =>
    intro i last hf hi hla
    show b14_1 (puN (n + 1)) 1000000 (l14_1 (puN (n + 1)) 1000000 f) _ _ _ _ _ = _
    unfold b14_1
    by_cases hlt : i < l.length
    · have q := p33 n 1 (Int.ofNat l[i]) 21
      have m := List.getElem_mem hlt
      have h1 := hp.pos _ m
      have h2 := hp.le _ m
      have h3 := hla hlt
      have hs := sum_take l i hlt
      have hsl := sum_le l (i + 1)
      have hs21 := hp.sum
      have d : (decide ((1 : Int) ≤ Int.ofNat l[i]) && decide (Int.ofNat l[i] ≤ 21)) = true := by
        simp only [Int.ofNat_eq_natCast, Bool.and_eq_true, decide_eq_true_eq]; omega
      rw [d] at q
      rw [lt_true hlt]
      simp only [bb_true, toN_mk, oo_some, sl_n, sl_cs, nI_len, blt_eq, hlt, decide_true, an_eq, Bool.true_and, nthL_eq, Nat.mul_one, getN l i hlt, toI_mk]
      rw [q, oo_some, vBool_mk, oo_some, show nt true = false from rfl, bb_false, lt_false (show ¬ last < l[i] by omega), bb_false]
      have e : wrapF .i64 (Int.add (Int.ofNat (l.take i).sum) (Int.ofNat l[i])) = Int.ofNat (l.take (i + 1)).sum := by
        have : Int.add (Int.ofNat (l.take i).sum) (Int.ofNat l[i]) = Int.ofNat (l.take (i + 1)).sum := by
          rw [hs]; show ((l.take i).sum : Int) + (l[i] : Int) = ((((l.take i).sum + l[i] : Nat)) : Int); omega
        rw [this]; exact wrapN (by simp only [Int.ofNat_eq_natCast]; omega) (by simp only [Int.ofNat_eq_natCast]; omega)
      have e2 : ilt 22 (Int.ofNat (l.take (i + 1)).sum) = false := by rw [ilt_eq]; simp only [Int.ofNat_eq_natCast]; exact decide_eq_false (by omega)
      rw [e, e2, bb_false, wrapS i (by omega)]
      exact ih (i + 1) l[i] (by omega) (by omega) fun h => (List.pairwise_iff_getElem.1 hp.desc) i (i + 1) hlt h (by omega)
    · have : i = l.length := by omega
      subst this
      have hs21 := hp.sum
      have e2 : ilt 21 (Int.ofNat l.sum) = false := by rw [ilt_eq]; simp only [Int.ofNat_eq_natCast]; exact decide_eq_false (by omega)
      rw [lt_false hlt, bb_false, List.take_length]
      unfold m14_0
      rw [e2]; rfl
theorem p14 (n fl : Nat) (l : List Nat) (hp : Hp l) : puN (n + 2) 14 [S fl (nI l)] = some (I 0) := by
  refine Eq.trans (b := m14_ (puN (n + 1)) 1000000 (sl fl (nI l))) (by kernel_rfl) ?_
  unfold m14_
  have hlen := hp.len
  have h0 : 0 < l.length := List.length_pos_iff.2 hp.ne
  have : ieq (Int.ofNat (sl fl (nI l)).n) 0 = false := by rw [ieq_eq, sl_n, nI_len]; simp only [Int.ofNat_eq_natCast]; exact decide_eq_false (by omega)
  rw [this, bb_false, sl_n, nI_len]
  exact l14 n fl l hp 1000000 0 21 (by omega) (by omega) fun h => hp.le _ (List.getElem_mem h)
theorem l17 (pu : PureF) (fl : Nat) (l : List Nat) (hl : l.length ≤ 100) (hs : l.sum ≤ 1000) : ∀ (f i : Nat), l.length - i < f → i ≤ l.length →
    l17_1 pu 1000000 f (Int.ofNat (l.take i).sum) (sl fl (nI l)) (Int.ofNat l.length) (Int.ofNat i) = some (I (Int.ofNat l.sum)) := by
  intro f
  induction f with
  | zero => intro i h; omega
  | succ f ih =>
    intro i hf hi
    show b17_1 pu 1000000 (l17_1 pu 1000000 f) _ _ _ _ = _
    unfold b17_1
    by_cases hlt : i < l.length
    · have hst := sum_take l i hlt
      have hsl := sum_le l (i + 1)
      have e : wrapF .i64 (Int.add (Int.ofNat (l.take i).sum) (Int.ofNat l[i])) = Int.ofNat (l.take (i + 1)).sum := by
        have : Int.add (Int.ofNat (l.take i).sum) (Int.ofNat l[i]) = Int.ofNat (l.take (i + 1)).sum := by
          rw [hst]; show ((l.take i).sum : Int) + (l[i] : Int) = ((((l.take i).sum + l[i] : Nat)) : Int); omega
        rw [this]; exact wrapN (by simp only [Int.ofNat_eq_natCast]; omega) (by simp only [Int.ofNat_eq_natCast]; omega)
      rw [lt_true hlt]
      simp only [bb_true, toN_mk, oo_some, sl_n, sl_cs, nI_len, blt_eq, hlt, decide_true, an_eq, Bool.true_and, nthL_eq, Nat.mul_one, getN l i hlt, toI_mk, e, wrapS i (by omega)]
      exact ih (i + 1) (by omega) (by omega)
    · have : i = l.length := by omega
      subst this
      rw [lt_false hlt, bb_false, List.take_length]; rfl
theorem p17 (n fl : Nat) (l : List Nat) (hl : l.length ≤ 100) (hs : l.sum ≤ 1000) : puN (n + 1) 17 [S fl (nI l)] = some (I (Int.ofNat l.sum)) := by
  refine Eq.trans (b := m17_ (puN n) 1000000 (sl fl (nI l))) (by kernel_rfl) ?_
  unfold m17_
  rw [sl_n, nI_len]
  exact l17 (puN n) fl l hl hs 1000000 0 (by omega) (by omega)
theorem l13 (pu : PureF) (f1 f2 : Nat) (l : List Int) (hl : l.length ≤ 100) : ∀ (f i : Nat), l.length - i < f → i ≤ l.length → l13_1 pu 1000000 f (sl f1 l) (sl f2 l) (Int.ofNat i) = some (.bool true) := by
  intro f
  induction f with
  | zero => intro i h; omega
  | succ f ih =>
    intro i hf hi
    show b13_1 pu 1000000 (l13_1 pu 1000000 f) _ _ _ = _
    unfold b13_1
    rw [sl_n]
    by_cases hlt : i < l.length
    · rw [lt_true hlt]
      simp only [bb_true, toN_mk, oo_some, sl_n, sl_cs, blt_eq, hlt, decide_true, an_eq, Bool.true_and, nthL_eq, Nat.mul_one, getI l i hlt, toI_mk, neqr, bb_false, wrapS i (by omega)]
      exact ih (i + 1) (by omega) (by omega)
    · rw [lt_false hlt]; rfl
theorem p13 (n f1 f2 : Nat) (l : List Int) (hl : l.length ≤ 100) : puN (n + 1) 13 [S f1 l, S f2 l] = some (.bool true) := by
  refine Eq.trans (b := m13_ (puN n) 1000000 (sl f1 l) (sl f2 l)) (by kernel_rfl) ?_
  unfold m13_
  rw [sl_n, sl_n, neqr, bb_false]
  exact l13 (puN n) f1 f2 l hl 1000000 0 (by omega) (by omega)
def Rv (Z X : List Int) (i : Nat) : Prop := X.length = Z.length ∧ ∀ k (h : k < X.length) (h2 : k < Z.length) (h3 : Z.length - 1 - k < Z.length), X[k] = if k < i ∨ Z.length - i ≤ k then Z[Z.length - 1 - k] else Z[k]
theorem l10410 (pu : PureF) (c : Nat) (Z : List Int) (hZ : Z.length ≤ 100) (h1 : 1 ≤ Z.length) : ∀ (f i : Nat) (X : List Int), Z.length - i < f → 2 * i ≤ Z.length → Rv Z X i →
    l10410_0 pu 1000000 f Z.length c (Int.ofNat i) ((Z.length : Int) - 1 - (i : Int)) (X.map I) = some (.tuple ⟨[.tuple ⟨[]⟩, .agg ⟨Z.reverse.map I⟩]⟩) := by
  intro f
  induction f with
  | zero => intro i X h; omega
  | succ f ih =>
    intro i X hf hi hX
    obtain ⟨hl, hg⟩ := hX
    show b10410_0 pu 1000000 (l10410_0 pu 1000000 f) _ _ _ _ _ = _
    unfold b10410_0
    rw [clI, bb_true]
    have ej : (Z.length : Int) - 1 - (i : Int) = Int.ofNat (Z.length - 1 - i) := by simp only [Int.ofNat_eq_natCast]; omega
    rw [ej]
    by_cases hlt : i < Z.length - 1 - i
    · have hiX : i < X.length := by omega
      have hjX : Z.length - 1 - i < X.length := by omega
      have hiZ : i < Z.length := by omega
      have hjZ : Z.length - 1 - i < Z.length := by omega
      have s1 : setL ([I X[Z.length - 1 - i]] : List Value) i (X.map I) = (X.set i X[Z.length - 1 - i]).map I := by rw [setL_one _ _ _ (by simpa using hiX), List.map_set]
      have s2 : setL ([I X[i]] : List Value) (Z.length - 1 - i) ((X.set i X[Z.length - 1 - i]).map I) = ((X.set i X[Z.length - 1 - i]).set (Z.length - 1 - i) X[i]).map I := by rw [setL_one _ _ _ (by simpa using hjX), ← List.map_set]
      have hsub : wrapF .i64 (Int.sub (Int.ofNat (Z.length - 1 - i)) 1) = (Z.length : Int) - 1 - ((i + 1 : Nat) : Int) := by
        have : Int.sub (Int.ofNat (Z.length - 1 - i)) 1 = (Z.length : Int) - 1 - ((i + 1 : Nat) : Int) := by show ((Z.length - 1 - i : Nat) : Int) - 1 = _; omega
        rw [this]; exact wrapN (by omega) (by omega)
      rw [lt_true hlt]
      simp only [bb_true, toN_mk, oo_some, blt_eq, hiZ, hjZ, decide_true, an_eq, Bool.true_and, Bool.and_true, nthL_eq, Nat.zero_add, Nat.mul_one, getI X _ hiX, getI X _ hjX, toI_mk, s1, s2, ble_eq, len_eq, List.length_map, List.length_set, Nat.succ_le_of_lt hiX, Nat.succ_le_of_lt hjX, clI, wrapS i (by omega), hsub]
      refine ih (i + 1) _ (by omega) (by omega) ⟨by simp [hl], fun k hk hk2 hk3 => ?_⟩
      have gi := hg i hiX hiZ hjZ
      have gj := hg (Z.length - 1 - i) hjX hjZ (by omega)
      rw [if_neg (by omega)] at gi gj
      rw [List.getElem_set]
      by_cases k1 : Z.length - 1 - i = k
      · rw [if_pos k1, if_pos (by omega), gi]
        congr 1; omega
      · rw [if_neg k1, List.getElem_set]
        by_cases k2 : i = k
        · rw [if_pos k2, if_pos (by omega), gj]
          congr 1; omega
        · rw [if_neg k2, hg k (by simpa using hk) hk2 hk3]
          by_cases k3 : k < i ∨ Z.length - i ≤ k
          · rw [if_pos k3, if_pos (by omega)]
          · rw [if_neg k3, if_neg (by omega)]
    · rw [lt_false hlt, bb_false]
      have : X = Z.reverse := by
        apply List.ext_getElem
        · rw [hl, List.length_reverse]
        · intro k hk hk2
          rw [List.getElem_reverse, hg k hk (by omega) (by omega)]
          split
          · rfl
          · congr 1; omega
      rw [this]
theorem p10410 (n : Nat) (Z : List Int) (hZ : Z.length ≤ 100) (h1 : 1 ≤ Z.length) (c : Nat) : puN (n + 1) 10410 [.slice (some ⟨0, 0, some 1⟩) Z.length c, .agg ⟨Z.map I⟩] = some (.tuple ⟨[.tuple ⟨[]⟩, .agg ⟨Z.reverse.map I⟩]⟩) := by
  refine Eq.trans (b := m10410_ (puN n) 1000000 Z.length c (Z.map I)) (by kernel_rfl) ?_
  unfold m10410_
  have : wrapF .i64 (Int.sub (Int.ofNat Z.length) 1) = (Z.length : Int) - 1 - ((0 : Nat) : Int) := by
    have : Int.sub (Int.ofNat Z.length) 1 = (Z.length : Int) - 1 - ((0 : Nat) : Int) := by show ((Z.length : Nat) : Int) - 1 = _; omega
    rw [this]; exact wrapN (by omega) (by omega)
  rw [clI, bb_true, this]
  exact l10410 (puN n) c Z hZ h1 1000000 0 Z (by omega) (by omega) ⟨rfl, fun k h h2 h3 => by rw [if_neg (by omega)]⟩
end Go.HpTM
set_option maxRecDepth 100000
namespace Go.HpTM
open Go.Sp Go.HpT Go.HtM

theorem srtZ_perm (l : List Int) : (srtZ l).Perm l := List.mergeSort_perm _ _
theorem srtZ_sorted (l : List Int) : (srtZ l).Pairwise (· ≤ ·) := by
  have := List.pairwise_mergeSort (le := fun x y : Int => decide (x ≤ y)) (fun a b c h1 h2 => by simp at *; omega) (fun a b => by simp; omega) l
  exact this.imp fun h => by simpa using h
theorem natL : ∀ (l : List Int), (∀ a ∈ l, 0 ≤ a) → ∃ r : List Nat, l = nI r
  | [], _ => ⟨[], rfl⟩
  | a :: l, h => by
    obtain ⟨r, e⟩ := natL l (fun b hb => h b (by simp [hb]))
    have a1 := h a (by simp)
    refine ⟨a.toNat :: r, ?_⟩
    rw [e]; show a :: nI r = Int.ofNat a.toNat :: nI r
    rw [show Int.ofNat a.toNat = a from by simp only [Int.ofNat_eq_natCast]; omega]
theorem nI_back (r : List Nat) : (nI r).map Int.toNat = r := by
  unfold nI; rw [List.map_map]
  have : (Int.toNat ∘ Int.ofNat) = id := by funext x; rfl
  rw [this, List.map_id]
theorem sort_rev (P : List Nat) : ∃ r : List Nat, (srtZ (nI P)).reverse = nI r ∧ r.Perm P ∧ r.Pairwise (fun a b => b ≤ a) := by
  have hp := srtZ_perm (nI P)
  obtain ⟨r, hr⟩ := natL (srtZ (nI P)).reverse (fun a ha => by
    have : a ∈ nI P := hp.mem_iff.1 (List.mem_reverse.1 ha)
    obtain ⟨x, _, rfl⟩ := List.mem_map.1 this
    exact Int.natCast_nonneg x)
  refine ⟨r, hr, ?_, ?_⟩
  · have h1 : (nI r).Perm (nI P) := by rw [← hr]; exact (List.reverse_perm _).trans hp
    have := h1.map Int.toNat
    rwa [nI_back, nI_back] at this
  · have h1 : (nI r).Pairwise (fun a b => b ≤ a) := by
      rw [← hr, List.pairwise_reverse]; exact srtZ_sorted _
    unfold nI at h1
    rw [List.pairwise_map] at h1
    exact h1.imp fun h => Int.ofNat_le.1 h
theorem perm_hp {P r : List Nat} (hp : r.Perm P) (hd : r.Pairwise (fun a b => b ≤ a)) (hn : P ≠ []) (h1 : ∀ a ∈ P, 1 ≤ a) (hs : P.sum ≤ 21) : Hp r := by
  refine ⟨fun e => hn ?_, hd, fun a ha => h1 a (hp.mem_iff.1 ha), ?_⟩
  · subst e; exact hp.symm.eq_nil
  · have : r.sum = P.sum := hp.sum_nat
    omega
theorem m16_1p (n : Nat) (P : List Nat) (c : Nat) (hc : 2 ≤ c) (hn : P ≠ []) (h1 : ∀ a ∈ P, 1 ≤ a) (hs : P.sum ≤ 21) : ∃ r, Hp r ∧ m16_1 (puN (n + 1)) 1000000 P.length c ((nI P).map I) = some (S 0 (nI r)) := by
  obtain ⟨r, hr, hp, hd⟩ := sort_rev P
  have H := perm_hp hp hd hn h1 hs
  refine ⟨r, H, ?_⟩
  have hl : P.length ≤ 21 := by have := H.len; have := hp.length_eq; omega
  have h0 : 0 < P.length := List.length_pos_iff.2 hn
  have hz : (srtZ (nI P)).length = P.length := by rw [(srtZ_perm _).length_eq, nI_len]
  have hrl : (nI r).length = P.length := by rw [nI_len, hp.length_eq]
  have wh : wholeC 0 1 P.length P.length = true := by
    unfold wholeC
    simp; omega
  have q := p10410 n (srtZ (nI P)) (by omega) (by omega) c
  rw [hz, hr] at q
  have w := wholeI (nI r)
  have t := takeI (nI r)
  rw [hrl] at w t
  have hb : Nat.ble 2 c = true := by rw [ble_eq]; exact decide_eq_true hc
  unfold m16_1
  rw [mapO_I, oo_some, len_eq, List.length_map, nI_len, wh, bb_true, mapI64, show (srtZ (nI P)).map I64 = (srtZ (nI P)).map I from rfl, clI, bb_true, hb, show orr true (nilL ((srtZ (nI P)).map I)) = true from rfl, bb_true, bb_true, q]
  simp only [oo_some, vTup_mk, ll_cons', ll_nil', vAgg_mk, show isNoV (.tuple ⟨[]⟩) = true from rfl, bb_true, clI]
  rw [w, bb_true, t]
  unfold S sl
  rw [hrl]
theorem m16_0p (n : Nat) (P : List Nat) (h1 : ∀ a ∈ P, 1 ≤ a) (hs : P.sum ≤ 21) : ∃ r, Hp r ∧ m16_0 (puN (n + 1)) 1000000 P.length (2 * P.length) ((nI P).map I) = some (S 0 (nI r)) := by
  unfold m16_0
  rw [clI, bb_true]
  by_cases hn : P = []
  · subst hn
    rw [show ieq (Int.ofNat ([] : List Nat).length) 0 = true from rfl, bb_true]
    exact m16_1p n [1] 3 (by omega) (by simp) (by simp) (by simp)
  · have h0 : 0 < P.length := List.length_pos_iff.2 hn
    have : ieq (Int.ofNat P.length) 0 = false := by rw [ieq_eq]; simp only [Int.ofNat_eq_natCast]; exact decide_eq_false (by omega)
    rw [this, bb_false]
    exact m16_1p n P _ (by omega) hn h1 hs
theorem l16 (n fl : Nat) (b : List Int) (hb : ∀ x ∈ b, 0 ≤ x ∧ x < 256) : ∀ (f i z : Nat) (P : List Nat), z < f → i ≤ b.length → i + z ≤ 21 → (∀ a ∈ P, 1 ≤ a) → P.sum + z ≤ 21 → P.length ≤ 21 - z →
    ∃ r, Hp r ∧ l16_2 (puN (n + 1)) 1000000 f P.length (2 * P.length) (Int.ofNat z) ⟨b.length, fl, b.map (Value.int .u8)⟩ (Int.ofNat b.length) (Int.ofNat i) ((nI P).map I) = some (S 0 (nI r)) := by
  intro f
  induction f with
  | zero => intro i z P h; omega
  | succ f ih =>
    intro i z P hf hi hiz h1 hs hpl
    show ∃ r, Hp r ∧ b16_2 (puN (n + 1)) 1000000 (l16_2 (puN (n + 1)) 1000000 f) _ _ _ _ _ _ _ = _
    unfold b16_2
    rw [clI, bb_true]
    by_cases hlt : i < b.length
    · obtain ⟨x1, x2⟩ := hb b[i] (List.getElem_mem hlt)
      have gx : (b.map (Value.int .u8))[i]? = some (Value.int .u8 b[i]) := by simp [hlt]
      rw [lt_true hlt]
      simp only [bb_true, toN_mk, oo_some, blt_eq, hlt, decide_true, an_eq, Bool.true_and, nthL_eq, Nat.mul_one, gx, toI_mk8]
      by_cases hz : z = 0
      · subst hz
        rw [show ieq (Int.ofNat 0) 0 = true from rfl, bb_true]
        exact m16_0p n P h1 (by omega)
      · have e0 : ieq (Int.ofNat z) 0 = false := by rw [ieq_eq]; simp only [Int.ofNat_eq_natCast]; exact decide_eq_false (by omega)
        obtain ⟨x, hx⟩ : ∃ x : Nat, b[i] = Int.ofNat x := ⟨b[i].toNat, by simp only [Int.ofNat_eq_natCast]; omega⟩
        have hx2 : x < 256 := by rw [hx] at x2; simp only [Int.ofNat_eq_natCast] at x2; omega
        have hm : x % z < z := Nat.mod_lt _ (by omega)
        have ew : wrapF .i64 (Int.ofNat x) = Int.ofNat x := wrapN (by simp only [Int.ofNat_eq_natCast]; omega) (by simp only [Int.ofNat_eq_natCast]; omega)
        have et : Int.tmod (Int.ofNat x) (Int.ofNat z) = Int.ofNat (x % z) := (Int.ofNat_tmod _ _).symm
        have ea : wrapF .i64 (Int.add 1 (Int.ofNat (x % z))) = Int.ofNat (1 + x % z) := by
          have : Int.add 1 (Int.ofNat (x % z)) = Int.ofNat (1 + x % z) := by show (1 : Int) + ((x % z : Nat) : Int) = ((1 + x % z : Nat) : Int); omega
          rw [this]; exact wrapN (by simp only [Int.ofNat_eq_natCast]; omega) (by simp only [Int.ofNat_eq_natCast]; omega)
        have es : wrapF .i64 (Int.sub (Int.ofNat z) (Int.ofNat (1 + x % z))) = Int.ofNat (z - (1 + x % z)) := by
          have : Int.sub (Int.ofNat z) (Int.ofNat (1 + x % z)) = Int.ofNat (z - (1 + x % z)) := by show ((z : Nat) : Int) - ((1 + x % z : Nat) : Int) = ((z - (1 + x % z) : Nat) : Int); omega
          rw [this]; exact wrapN (by simp only [Int.ofNat_eq_natCast]; omega) (by simp only [Int.ofNat_eq_natCast]; omega)
        have g1 := growG 1 8 P.length 1 ((nI P).map I) (roomyB (by omega) (by omega)) (by omega) (by rw [List.length_map, nI_len, Nat.mul_one])
        rw [e0, show nt false = true from rfl, bb_false, bb_true, hx, ew, et, ea, es, g1, bb_true, snocN, clI, bb_true, wrapS i (by omega)]
        obtain ⟨r, hr, e⟩ := ih (i + 1) (z - (1 + x % z)) (P ++ [1 + x % z]) (by omega) (by omega) (by omega) (by
          intro a ha
          rcases List.mem_append.1 ha with ha | ha
          · exact h1 a ha
          · rw [List.mem_singleton.1 ha]; omega) (by rw [List.sum_append]; simp; omega) (by simp; omega)
        refine ⟨r, hr, ?_⟩
        have hl : (P ++ [1 + x % z]).length = P.length + 1 := by simp
        rw [hl] at e
        exact e
    · have : i = b.length := by omega
      subst this
      rw [lt_false hlt, bb_false]
      exact m16_0p n P h1 (by omega)
theorem p16 (n fl : Nat) (b : List Int) (hb : ∀ x ∈ b, 0 ≤ x ∧ x < 256) : ∃ r, Hp r ∧ puN (n + 2) 16 [Sl.v 1 ⟨b.length, fl, b.map (Value.int .u8)⟩, I 21] = some (S 0 (nI r)) := by
  obtain ⟨r, hr, e⟩ := l16 n fl b hb 1000000 0 21 [] (by omega) (by omega) (by omega) (by simp) (by simp) (by simp)
  exact ⟨r, hr, Eq.trans (b := m16_ (puN (n + 1)) 1000000 ⟨b.length, fl, b.map (Value.int .u8)⟩ 21) (by kernel_rfl) e⟩

def row (a : Nat) (F : Nat → Nat) : List Nat := (List.range a).map F
theorem row_len (a : Nat) (F : Nat → Nat) : (row a F).length = a := by simp [row]
theorem row_get (a : Nat) (F : Nat → Nat) (j : Nat) (h : j < (row a F).length) : (row a F)[j] = F j := by simp [row]
theorem row_congr {a : Nat} {F G : Nat → Nat} (h : ∀ j, j < a → F j = G j) : row a F = row a G := by
  unfold row
  apply List.map_congr_left
  intro j hj; exact h j (by simpa using hj)
theorem row_set (a : Nat) (F : Nat → Nat) (j v : Nat) : (row a F).set j v = row a (fun k => if k = j then v else F k) := by
  apply List.ext_getElem
  · simp [row]
  · intro k h1 h2
    rw [List.getElem_set, row_get, row_get]
    by_cases e : j = k
    · rw [if_pos e, if_pos e.symm]
    · rw [if_neg e, if_neg (fun g => e g.symm)]
theorem zero_row (a : Nat) : zeroRow [I 0] a = (nI (row a fun _ => 0)).map I := by
  induction a with
  | zero => rfl
  | succ a ih =>
    show appL [I 0] (zeroRow [I 0] a) = _
    rw [appL_eq, ih]
    unfold row nI
    rw [List.range_succ_eq_map]
    simp
theorem l11_in (pu : PureF) (ih0 : Nat → Nat → Sl → Int → Int → List Value → Option Value) (c a : Nat) (s : Sl) (z : Int) (i h : Nat) (ha : a ≤ 21) (hh : h ≤ a) (hi : i ≤ 100) (F : Nat → Nat) (hF : ∀ k, F k ≤ 100) : ∀ (f j : Nat), h - j < f → j ≤ h →
    l11_3 pu 1000000 ih0 f a c s z (Int.ofNat i) (Int.ofNat h) (Int.ofNat j) ((nI (row a fun k => F k + if k < j then 1 else 0)).map I) =
      ih0 a c s z (Int.ofNat (i + 1)) ((nI (row a fun k => F k + if k < h then 1 else 0)).map I) := by
  intro f
  induction f with
  | zero => intro j h; omega
  | succ f ih =>
    intro j hf hj
    show b11_3 pu 1000000 ih0 (l11_3 pu 1000000 ih0 f) _ _ _ _ _ _ _ _ = _
    unfold b11_3
    rw [clI, bb_true]
    by_cases hlt : j < h
    · have hja : j < a := by omega
      have hjr : j < (row a fun k => F k + if k < j then 1 else 0).length := by rw [row_len]; exact hja
      have hg := getN (row a fun k => F k + if k < j then 1 else 0) j hjr
      rw [row_get, if_neg (Nat.lt_irrefl j), Nat.add_zero] at hg
      have hs : setL ([I (Int.ofNat (F j + 1))] : List Value) j ((nI (row a fun k => F k + if k < j then 1 else 0)).map I) = (nI (row a fun k => F k + if k < j + 1 then 1 else 0)).map I := by
        rw [setL_one _ _ _ (by rw [List.length_map, nI_len]; exact hjr)]
        have : (nI (row a fun k => F k + if k < j + 1 then 1 else 0)) = (nI (row a fun k => F k + if k < j then 1 else 0)).set j (Int.ofNat (F j + 1)) := by
          unfold nI
          rw [← List.map_set, row_set]
          congr 1
          apply row_congr
          intro k _
          by_cases hk : k = j
          · subst hk; rw [if_pos rfl, if_pos (by omega)]
          · rw [if_neg hk]
            by_cases hk2 : k < j
            · rw [if_pos hk2, if_pos (by omega)]
            · rw [if_neg hk2, if_neg (by omega)]
        rw [this, List.map_set]
      have hF := hF j
      have hb : decide (j + 1 ≤ ((nI (row a fun k => F k + if k < j then 1 else 0)).map I).length) = true := by
        rw [List.length_map, nI_len, row_len]; exact decide_eq_true hja
      rw [lt_true hlt]
      simp only [bb_true, toN_mk, oo_some, blt_eq, hja, decide_true, an_eq, Bool.true_and, Bool.and_true, nthL_eq, Nat.zero_add, Nat.mul_one, hg, toI_mk, wrapS (F j) (by omega), ble_eq, len_eq, hb, hs, clI, wrapS j (by omega)]
      exact ih (j + 1) (by omega) (by omega)
    · have : j = h := by omega
      subst this
      rw [lt_false hlt, bb_false]
      unfold m11_2
      rw [clI, bb_true, wrapS i (by omega)]
theorem cj_take (l : List Nat) (i : Nat) (h : i < l.length) (k : Nat) : cj (l.take (i + 1)) k = cj (l.take i) k + if k < l[i] then 1 else 0 := by
  unfold cj
  rw [List.take_succ_eq_append_getElem h, List.countP_append]
  simp
theorem l11 (pu : PureF) (c fl a : Nat) (l : List Nat) (hl : l.length ≤ 21) (ha : a ≤ 21) (hle : ∀ x ∈ l, x ≤ a) : ∀ (f i : Nat), l.length - i < f → i ≤ l.length →
    l11_1 pu 1000000 f a c (sl fl (nI l)) (Int.ofNat l.length) (Int.ofNat i) ((nI (row a (cj (l.take i)))).map I) = some (.tuple ⟨[S 0 (nI (row a (cj l))), I 0]⟩) := by
  intro f
  induction f with
  | zero => intro i h; omega
  | succ f ih =>
    intro i hf hi
    show b11_1 pu 1000000 (l11_1 pu 1000000 f) _ _ _ _ _ _ = _
    unfold b11_1
    rw [clI, bb_true]
    by_cases hlt : i < l.length
    · have q := l11_in pu (l11_1 pu 1000000 f) c a (sl fl (nI l)) (Int.ofNat l.length) i l[i] ha (hle _ (List.getElem_mem hlt)) (by omega) (cj (l.take i)) (fun k => by have := cj_le (l.take i) k; rw [List.length_take] at this; omega) 1000000 0 (by have := hle _ (List.getElem_mem hlt); omega) (by omega)
      rw [show (row a fun k => cj (l.take i) k + if k < 0 then 1 else 0) = row a (cj (l.take i)) from row_congr fun j _ => by simp,
        show (row a fun k => cj (l.take i) k + if k < l[i] then 1 else 0) = row a (cj (l.take (i + 1))) from row_congr fun j _ => by rw [cj_take l i hlt]] at q
      rw [lt_true hlt]
      simp only [bb_true, toN_mk, oo_some, sl_n, sl_cs, nI_len, blt_eq, hlt, decide_true, an_eq, Bool.true_and, nthL_eq, Nat.mul_one, getN l i hlt, toI_mk]
      refine Eq.trans q ?_
      exact ih (i + 1) (by omega) (by omega)
    · have : i = l.length := by omega
      subst this
      rw [lt_false hlt, bb_false, List.take_length]
      unfold m11_0
      have w := wholeI (nI (row a (cj l)))
      have t := takeI (nI (row a (cj l)))
      rw [nI_len, row_len] at w t
      rw [clI, bb_true, w, bb_true, t]
      unfold S sl
      rw [nI_len, row_len]
theorem p11 (n fl : Nat) (l : List Nat) (hp : Hp l) : puN (n + 3) 11 [S fl (nI l)] = some (.tuple ⟨[S 0 (nI (conj l)), I 0]⟩) := by
  refine Eq.trans (b := m11_ (puN (n + 2)) 1000000 (sl fl (nI l))) (by kernel_rfl) ?_
  obtain ⟨a, t, e, h1, h2, h3⟩ := hp.head
  have e1 := p14 n fl l hp
  unfold S at e1
  have h0 : 0 < l.length := List.length_pos_iff.2 hp.ne
  have g0 := getN l 0 h0
  have ga : l[0] = a := by simp only [e, List.getElem_cons_zero]
  rw [ga] at g0
  have hc : conj l = row a (cj l) := by unfold conj row; rw [e]; rfl
  have hb : an (Nat.ble a a) (an (Nat.ble (a * 8) 1099511627776) (an (Nat.ble a 1099511627776) true)) = true := by simp; omega
  unfold m11_
  rw [e1, oo_some, toI_mk, oo_some, show nt (ieq (0 : Int) 0) = false from rfl, bb_false]
  simp only [sl_n, sl_cs, nI_len, blt_eq, h0, decide_true, an_eq, Bool.true_and, bb_true, nthL_eq, Nat.zero_mul, g0, oo_some, toI_mk, toN_mk]
  simp only [an_eq] at hb
  rw [hb, bb_true, zero_row, clI, bb_true, hc]
  have q := l11 (puN (n + 2)) (2 * a + bb true 1 0) fl a l hp.len h2 h3 1000000 0 (by have := hp.len; omega) (by omega)
  rw [List.take_zero, show row a (cj []) = row a (fun _ => 0) from row_congr fun j _ => rfl] at q
  exact q
end Go.HpTM
set_option maxRecDepth 100000
namespace Go.HpTM
open Go.Sp Go.HpT Go.HtM

theorem m4_4l (pu : PureF) (ih0 : Sl → Sl → Sl → Int → Int → Option Value) (i : Nat) (f1 : Nat) (l : List Nat) (A B C : Sl) (z1 z2 : Int) (jo : Nat) (hjo : jo ≤ 100) (hl : l.length ≤ 21) : ∀ (f j : Nat), l.length - j < f → j ≤ l.length →
    l4_6 pu 1000000 ih0 f A B (Int.ofNat i) z1 (Int.ofNat (cj (l.take j) i)) C z2 (Int.ofNat jo) (sl f1 (nI l)) (Int.ofNat l.length) (Int.ofNat j) = bb (nt (ieq z1 (Int.ofNat (cj l i)))) (some (.bool false)) (ih0 A B C z2 (Int.ofNat (jo + 1))) := by
  intro f
  induction f with
  | zero => intro j h; omega
  | succ f ih =>
    intro j hf hj
    show b4_6 pu 1000000 ih0 (l4_6 pu 1000000 ih0 f) _ _ _ _ _ _ _ _ _ _ _ = _
    unfold b4_6
    by_cases hlt : j < l.length
    · have ht := cj_take l j hlt i
      have hc := cj_le (l.take j) i
      rw [List.length_take] at hc
      rw [lt_true hlt]
      simp only [bb_true, toN_mk, oo_some, sl_n, sl_cs, nI_len, blt_eq, hlt, decide_true, an_eq, Bool.true_and, nthL_eq, Nat.mul_one, getN l j hlt, toI_mk, wrapS (cj (l.take j) i) (by omega), m4_7, wrapS j (by omega)]
      have := ih (j + 1) (by omega) (by omega)
      rw [ht] at this
      by_cases hi : i < l[j]
      · rw [lt_true hi, bb_true]
        rw [if_pos hi] at this
        exact this
      · rw [lt_false hi, bb_false]
        rw [if_neg hi, Nat.add_zero] at this
        exact this
    · have : j = l.length := by omega
      subst this
      rw [lt_false hlt, bb_false, List.take_length]
      unfold m4_5 m4_4
      rw [wrapS jo (by omega)]
theorem l4 (pu : PureF) (f1 f2 : Nat) (l : List Nat) (hp : Hp l) (hend : m4_1 pu 1000000 (sl f1 (nI l)) (sl f2 (nI (conj l))) = some (.bool true)) : ∀ (f i : Nat), (conj l).length - i < f → i ≤ (conj l).length →
    l4_3 pu 1000000 f (sl f1 (nI l)) (sl f2 (nI (conj l))) (sl f2 (nI (conj l))) (Int.ofNat (conj l).length) (Int.ofNat i) = some (.bool true) := by
  have hl := hp.len
  have hcl := (conj_hp hp).len
  intro f
  induction f with
  | zero => intro i h; omega
  | succ f ih =>
    intro i hf hi
    show b4_3 pu 1000000 (l4_3 pu 1000000 f) _ _ _ _ _ = _
    unfold b4_3
    by_cases hlt : i < (conj l).length
    · have q := m4_4l pu (l4_3 pu 1000000 f) i f1 l (sl f1 (nI l)) (sl f2 (nI (conj l))) (sl f2 (nI (conj l))) (Int.ofNat (cj l i)) (Int.ofNat (conj l).length) i (by omega) hl 1000000 0 (by omega) (by omega)
      rw [neqr, bb_false] at q
      rw [lt_true hlt]
      simp only [bb_true, toN_mk, oo_some, sl_n, sl_cs, nI_len, blt_eq, hlt, decide_true, an_eq, Bool.true_and, nthL_eq, Nat.mul_one, getN (conj l) i hlt, conj_get l i hlt, toI_mk]
      refine Eq.trans q ?_
      exact ih (i + 1) (by omega) (by omega)
    · have : i = (conj l).length := by omega
      subst this
      rw [lt_false hlt, bb_false, hend]
theorem m4_p (pu : PureF) (b : Sl) (l : List Nat) (hp : Hp l) (e16 : pu 16 [b.v 1, I 21] = some (S 0 (nI l))) (e11 : pu 11 [S 0 (nI l)] = some (.tuple ⟨[S 0 (nI (conj l)), I 0]⟩)) (e11' : pu 11 [S 0 (nI (conj l))] = some (.tuple ⟨[S 0 (nI l), I 0]⟩))
    (e17 : pu 17 [S 0 (nI l)] = some (I (Int.ofNat l.sum))) (e17' : pu 17 [S 0 (nI (conj l))] = some (I (Int.ofNat l.sum))) (e13 : pu 13 [S 0 (nI l), S 0 (nI l)] = some (.bool true)) (e6 : pu 6 [] = some (.bool true)) : m4_ pu 1000000 b = some (.bool true) := by
  obtain ⟨a, t, e, h1, h2, h3⟩ := hp.head
  have h0 : 0 < l.length := List.length_pos_iff.2 hp.ne
  have ga : l[0] = a := by simp only [e, List.getElem_cons_zero]
  have g0 := getN l 0 h0
  rw [ga] at g0
  have hcl : (conj l).length = a := by rw [conj_len, e]; rfl
  have hc0 : 0 < (conj l).length := by omega
  have gc := getN (conj l) 0 hc0
  have gc2 : (conj l)[0] = l.length := by rw [conj_get l 0 hc0]; exact cj_zero l hp.pos
  rw [gc2] at gc
  have hend : m4_1 pu 1000000 (sl 0 (nI l)) (sl 0 (nI (conj l))) = some (.bool true) := by
    unfold S at e11' e13
    unfold m4_1 m4_2
    rw [e11']
    simp only [oo_some, vTup_mk, ll_cons', ll_nil', toSl_mk, toI_mk, show ieq (0 : Int) 0 = true from rfl, bb_true]
    rw [e13, oo_some, vBool_mk, oo_some, bb_true, e6, oo_some, vBool_mk, oo_some]
  have hz : ieq (Int.ofNat (conj l).length) 0 = false := by rw [ieq_eq]; simp only [Int.ofNat_eq_natCast]; exact decide_eq_false (by omega)
  unfold S at e16 e11 e17 e17'
  unfold m4_
  rw [e16, oo_some, toSl_mk, oo_some, e11]
  simp only [oo_some, vTup_mk, ll_cons', ll_nil', toSl_mk, toI_mk, show nt (ieq (0 : Int) 0) = false from rfl, bb_false]
  rw [e17', oo_some, toI_mk, oo_some, e17, oo_some, toI_mk, oo_some, neqr, bb_false]
  simp only [sl_n, sl_cs, nI_len, blt_eq, h0, hc0, decide_true, an_eq, Bool.true_and, bb_true, nthL_eq, Nat.zero_mul, g0, gc, oo_some, toI_mk]
  rw [hcl, neqr, bb_false, ← hcl, hz, bb_false, neqr]
  unfold m4_0
  rw [bb_false, sl_n, nI_len]
  exact l4 pu 0 0 l hp hend 1000000 0 (by omega) (by omega)
noncomputable def puW : PureF := fun g args => bb (Nat.beq g 6) (ll args (some (.bool true)) fun _ _ => none) (puN 30 g args)
theorem puW_n (g : FuncId) (args : List Value) (h : Nat.beq g 6 = false) : puW g args = puN 30 g args := by
  unfold puW; rw [h, bb_false]
theorem puW_6 : puW 6 [] = some (.bool true) := rfl
theorem pTurned (fl : Nat) (b : List Int) (hb : ∀ x ∈ b, 0 ≤ x ∧ x < 256) : m4_ puW 1000000 ⟨b.length, fl, b.map (Value.int .u8)⟩ = some (.bool true) := by
  obtain ⟨l, hp, e16⟩ := p16 28 fl b hb
  have hl := hp.len
  have hs := hp.sum
  have hq := conj_hp hp
  have e1 := p11 27 0 l hp
  have e2 := p11 27 0 (conj l) hq
  rw [conj_conj hp] at e2
  have e3 := p17 29 0 l (by omega) (by omega)
  have e4 := p17 29 0 (conj l) (by have := hq.len; omega) (by have := hq.sum; omega)
  rw [conj_sum hp] at e4
  have e5 := p13 29 0 0 (nI l) (by rw [nI_len]; omega)
  rw [show (28 + 2 : Nat) = 30 from rfl, ← puW_n 16 _ rfl] at e16
  rw [show (27 + 3 : Nat) = 30 from rfl, ← puW_n 11 _ rfl] at e1 e2
  rw [show (29 + 1 : Nat) = 30 from rfl, ← puW_n 17 _ rfl] at e3 e4
  rw [show (29 + 1 : Nat) = 30 from rfl, ← puW_n 13 _ rfl] at e5
  exact m4_p puW _ l hp e16 e1 e2 e3 e4 e5 puW_6
noncomputable def mLaw (args : List Value) : Option Value := m4 puW 1000000 args
theorem mLaw_ok (b : List Int) (hb : ∀ x ∈ b, 0 ≤ x ∧ x < 256) : mLaw [Sl.v 1 ⟨b.length, 0, b.map (Value.int .u8)⟩] = some (Value.bool true) :=
  Eq.trans (b := m4_ puW 1000000 ⟨b.length, 0, b.map (Value.int .u8)⟩) (by kernel_rfl) (pTurned 0 b hb)
theorem puW_g (g : FuncId) (h : Nat.beq g 6 = false) : puW g = puN 30 g := by funext a; exact puW_n g a h
theorem puW_w : puW 6 = fun args => ll args (some (.bool true)) fun _ _ => none := rfl
end Go.HpTM
