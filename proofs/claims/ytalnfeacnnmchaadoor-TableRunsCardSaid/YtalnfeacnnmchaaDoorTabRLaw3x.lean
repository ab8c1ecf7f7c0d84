/- The plain law of TableRuns. -/
import Derived.Test.YtalnfeacnnmchaaDoorSpPlainx
import Derived.Test.YtalnfeacnnmchaaDoorTabRJoinx
import Derived.KernelRfl

set_option maxRecDepth 100000
namespace Go.TabRM
open Go.Sp Go.TabR

theorem p31 (n : Nat) (a b c : Int) : puN (n + 1) 31 [I a, I b, I c] = some (Value.bool (decide (a ≤ b) && decide (b ≤ c))) := by
  show bb (nt (ilt b a)) (some (Value.bool (nt (ilt c b)))) (some (Value.bool false)) = _
  by_cases h1 : a ≤ b <;> by_cases h2 : b ≤ c <;> simp [ilt_eq, h1, h2, show (b < a) ↔ ¬ a ≤ b from by omega, show (c < b) ↔ ¬ b ≤ c from by omega]
theorem p32 (n : Nat) (a b c : Int) : puN (n + 1) 32 [I a, I b, I c] = some (Value.bool (decide (b ≤ a) && decide (a ≤ c))) := by
  show bb (nt (ilt a b)) (some (Value.bool (nt (ilt c a)))) (some (Value.bool false)) = _
  by_cases h1 : b ≤ a <;> by_cases h2 : a ≤ c <;> simp [ilt_eq, h1, h2, show (a < b) ↔ ¬ b ≤ a from by omega, show (c < a) ↔ ¬ a ≤ c from by omega]

theorem lt_true {a b : Nat} (h : a < b) : ilt (Int.ofNat a) (Int.ofNat b) = true := by simp [ilt_eq, h]
theorem lt_false {a b : Nat} (h : ¬ a < b) : ilt (Int.ofNat a) (Int.ofNat b) = false := by simp [ilt_eq]; omega
theorem iltD {x y : Int} : (ilt x y = true ↔ x < y) := by rw [ilt_eq, decide_eq_true_iff]
theorem iltF {x y : Int} : (ilt x y = false ↔ ¬ x < y) := by rw [ilt_eq, decide_eq_false_iff_not]
theorem bbmin (a b : Int) : bb (ilt b a) b a = min a b := by
  by_cases h : b < a
  · rw [iltD.2 h, bb_true]; omega
  · rw [iltF.2 h, bb_false]; omega
theorem bbmax (a b : Int) : bb (ilt a b) b a = max a b := by
  by_cases h : a < b
  · rw [iltD.2 h, bb_true]; omega
  · rw [iltF.2 h, bb_false]; omega
theorem ieqr (x : Int) : ieq x x = true := by simp [ieq_eq]
theorem ne_t {x y : Int} (h : x ≠ y) : nt (ieq x y) = true := by simp [ieq_eq, h]
theorem ne_f (x : Int) : nt (ieq x x) = false := by simp [ieq_eq]
theorem ie_f {x y : Int} (h : x ≠ y) : ieq x y = false := by simp [ieq_eq, h]

/-- One of two, as a proposition says. -/
noncomputable def ifp (p : Prop) (a b : Int) : Int := @ite _ p (Classical.propDecidable p) a b
theorem ifp_t {p : Prop} {a b : Int} (h : p) : ifp p a b = a := if_pos h
theorem ifp_f {p : Prop} {a b : Int} (h : ¬ p) : ifp p a b = b := if_neg h
noncomputable def ifb (p : Prop) : Bool := @decide p (Classical.propDecidable p)
theorem ifb_t {p : Prop} (h : p) : ifb p = true := @decide_eq_true p (Classical.propDecidable p) h
theorem ifb_f {p : Prop} (h : ¬ p) : ifb p = false := @decide_eq_false p (Classical.propDecidable p) h
theorem ifb_congr {p q : Prop} (h : p ↔ q) : ifb p = ifb q := by rw [propext h]

/-- Comparators, as a slice. -/
def pc (C : List (Int × Int)) : List Value := C.flatMap fun p => [I p.1, I p.2]
def cl (fl : Nat) (C : List (Int × Int)) : Sl := ⟨C.length, fl, pc C⟩
@[simp] theorem cl_n (fl : Nat) (C : List (Int × Int)) : (cl fl C).n = C.length := rfl
@[simp] theorem cl_cs (fl : Nat) (C : List (Int × Int)) : (cl fl C).cs = pc C := rfl
theorem pc_len (C : List (Int × Int)) : (pc C).length = C.length * 2 := by
  induction C with
  | nil => rfl
  | cons p C ih => simp only [pc, List.flatMap_cons, List.length_append, List.length_cons, List.length_nil] at ih ⊢; omega
theorem pc_get : ∀ (C : List (Int × Int)) (i : Nat) (h : i < C.length), (pc C)[i * 2]? = some (I C[i].1) ∧ (pc C)[i * 2 + 1]? = some (I C[i].2)
  | [], i, h => by simp at h
  | p :: C, 0, _ => ⟨rfl, rfl⟩
  | p :: C, i + 1, h => by
    have ih := pc_get C i (by simpa using h)
    have e : pc (p :: C) = I p.1 :: I p.2 :: pc C := rfl
    have e2 : (i + 1) * 2 = i * 2 + 1 + 1 := by omega
    rw [e, e2]
    simp only [List.getElem?_cons_succ, List.getElem_cons_succ]
    exact ih
def tb (fl : Nat) (k : Int) (C : List (Int × Int)) : Value := .agg ⟨[I k, Sl.v 2 (cl fl C)]⟩

/-- Comparators, checked. -/
def good (k : Int) (p : Int × Int) : Prop := 0 ≤ p.1 ∧ p.1 < k ∧ 0 ≤ p.2 ∧ p.2 < k
noncomputable def go (k : Int) : List (Int × Int) → Int
  | [] => 0
  | p :: r => ifp (good k p) (ifp (p.1 < p.2) (go k r) 7) 2
noncomputable def chk (k : Int) (C : List (Int × Int)) : Int := ifp (1 ≤ k ∧ k ≤ 7) (ifp (24 < C.length) 3 (go k C)) 1

theorem l9 (pu : PureF) (n fl : Nat) (k : Int) (C : List (Int × Int)) (hC : C.length < 1000) : ∀ (f i : Nat), C.length - i < f → i ≤ C.length →
    l9_1 pu n f (cl fl C) (Int.ofNat C.length) (Int.ofNat i) k (cl fl C) = some (I (go k (C.drop i))) := by
  intro f
  induction f with
  | zero => intro i h; omega
  | succ f ih =>
    intro i h hi
    show b9_1 pu n (l9_1 pu n f) _ _ _ _ _ = _
    unfold b9_1
    by_cases hlt : i < C.length
    · obtain ⟨g1, g2⟩ := pc_get C i hlt
      have e : C.drop i = C[i] :: C.drop (i + 1) := List.drop_eq_getElem_cons hlt
      have hb : Nat.ble (i * 2 + 2) (len (pc C)) = true := by rw [ble_eq, len_eq, pc_len]; simp; omega
      rw [lt_true hlt]
      simp only [bb_true, toN_mk, oo_some, cl_n, cl_cs, blt_eq, hlt, decide_true, an_eq, Bool.true_and, hb, nthL_eq, g1, g2, toI_mk, bbmin, bbmax]
      rw [e]
      unfold go m9_2
      by_cases c : good k C[i]
      · have c' := c
        obtain ⟨c1, c2, c3, c4⟩ := c'
        rw [iltF.2 (show ¬ min C[i].1 C[i].2 < 0 by omega), iltD.2 (show max C[i].1 C[i].2 < k by omega), ifp_t c]
        simp only [bb_false, nt_eq, Bool.not_true, wrapS i (by omega : i < 1000000)]
        by_cases c5 : C[i].1 < C[i].2
        · rw [iltD.2 c5, ifp_t c5]
          exact ih (i + 1) (by omega) (by omega)
        · rw [iltF.2 c5, ifp_f c5]; rfl
      · rw [ifp_f c]
        by_cases c1 : min C[i].1 C[i].2 < 0
        · rw [iltD.2 c1]; rfl
        · rw [iltF.2 c1, iltF.2 (show ¬ max C[i].1 C[i].2 < k from fun h9 => c ⟨by omega, by omega, by omega, by omega⟩)]; rfl
    · have : i = C.length := by omega
      subst this
      rw [lt_false hlt, bb_false, List.drop_length]; rfl
theorem p9 (n fl : Nat) (k : Int) (C : List (Int × Int)) : puN (n + 2) 9 [tb fl k C] = some (I (chk k C)) := by
  show oo (puN (n + 1) 31 [I 1, I k, I 7]) none (fun v => oo (vBool v) none fun b => bb (nt b) (some (I 1)) (bb (ilt 24 (Int.ofNat C.length)) (some (I 3)) (l9_1 (puN (n + 1)) 100 100 (cl fl C) (Int.ofNat C.length) (Int.ofNat 0) k (cl fl C)))) = _
  rw [p31]
  simp only [oo_some, vBool_mk]
  unfold chk
  by_cases hk : 1 ≤ k ∧ k ≤ 7
  · have d : (decide ((1 : Int) ≤ k) && decide (k ≤ 7)) = true := by simp; omega
    rw [d, ifp_t hk]
    simp only [nt_eq, Bool.not_true, bb_false]
    by_cases h1 : 24 < C.length
    · rw [ifp_t h1, iltD.2 (show (24 : Int) < Int.ofNat C.length by show (24 : Int) < (C.length : Int); omega)]; rfl
    · rw [ifp_f h1, iltF.2 (show ¬ (24 : Int) < Int.ofNat C.length by show ¬ (24 : Int) < (C.length : Int); omega), bb_false]
      exact l9 (puN (n + 1)) 100 fl k C (by omega) 100 0 (by omega) (by omega)
  · have d : (decide ((1 : Int) ≤ k) && decide (k ≤ 7)) = false := by simp; omega
    rw [d, ifp_f hk]; rfl

theorem l10 (m n fl : Nat) (k : Int) (C : List (Int × Int)) (hk : 1 ≤ k ∧ k ≤ 7) (hC : C.length < 1000) : ∀ (f i : Nat), C.length - i < f → i ≤ C.length →
    l10_1 (puN (m + 1)) n f (Int.ofNat i) k (cl fl C) = some (I (go k (C.drop i))) := by
  intro f
  induction f with
  | zero => intro i h; omega
  | succ f ih =>
    intro i h hi
    show b10_1 (puN (m + 1)) n (l10_1 (puN (m + 1)) n f) _ _ _ = _
    unfold b10_1
    by_cases hlt : i < C.length
    · obtain ⟨g1, g2⟩ := pc_get C i hlt
      have e : C.drop i = C[i] :: C.drop (i + 1) := List.drop_eq_getElem_cons hlt
      have hb : Nat.ble (i * 2 + 2) (len (pc C)) = true := by rw [ble_eq, len_eq, pc_len]; simp; omega
      have hw : wrapF .i64 (Int.sub k 1) = k - 1 := wrapI _ (by show _ ≤ k - 1; omega) (by show k - 1 ≤ _; omega)
      have q1 := p32 m C[i].1 0 (k - 1)
      have q2 := p32 m C[i].2 0 (k - 1)
      rw [cl_n, lt_true hlt]
      simp only [bb_true, toN_mk, oo_some, cl_n, cl_cs, blt_eq, hlt, decide_true, an_eq, Bool.true_and, hb, nthL_eq, g1, g2, toI_mk, hw, q1, q2, vBool_mk]
      rw [e]
      unfold go m10_2
      by_cases c1 : 0 ≤ C[i].1 ∧ C[i].1 < k
      · have d1 : (decide (0 ≤ C[i].1) && decide (C[i].1 ≤ k - 1)) = true := by simp; omega
        rw [d1]
        by_cases c2 : 0 ≤ C[i].2 ∧ C[i].2 < k
        · have d2 : (decide (0 ≤ C[i].2) && decide (C[i].2 ≤ k - 1)) = true := by simp; omega
          rw [d2, ifp_t (show good k C[i] from ⟨c1.1, c1.2, c2.1, c2.2⟩)]
          simp only [nt_eq, Bool.not_true, bb_false, wrapS i (by omega : i < 1000000)]
          by_cases c5 : C[i].1 < C[i].2
          · rw [iltD.2 c5, ifp_t c5]
            exact ih (i + 1) (by omega) (by omega)
          · rw [iltF.2 c5, ifp_f c5]; rfl
        · have d2 : (decide (0 ≤ C[i].2) && decide (C[i].2 ≤ k - 1)) = false := by simp; omega
          rw [d2, ifp_f (fun g => c2 ⟨g.2.2.1, g.2.2.2⟩)]; rfl
      · have d1 : (decide (0 ≤ C[i].1) && decide (C[i].1 ≤ k - 1)) = false := by simp; omega
        rw [d1, ifp_f (fun g => c1 ⟨g.1, g.2.1⟩)]; rfl
    · have : i = C.length := by omega
      subst this
      rw [cl_n, lt_false hlt, bb_false, List.drop_length]; rfl
theorem p10 (n fl : Nat) (k : Int) (C : List (Int × Int)) : puN (n + 2) 10 [tb fl k C] = some (I (chk k C)) := by
  show oo (puN (n + 1) 32 [I k, I 1, I 7]) none (fun v => oo (vBool v) none fun b => bb (nt b) (some (I 1)) (bb (ilt 24 (Int.ofNat C.length)) (some (I 3)) (l10_1 (puN (n + 1)) 100 100 (Int.ofNat 0) k (cl fl C)))) = _
  rw [p32]
  simp only [oo_some, vBool_mk]
  unfold chk
  by_cases hk : 1 ≤ k ∧ k ≤ 7
  · have d : (decide ((1 : Int) ≤ k) && decide (k ≤ 7)) = true := by simp; omega
    rw [d, ifp_t hk]
    simp only [nt_eq, Bool.not_true, bb_false]
    by_cases h1 : 24 < C.length
    · rw [ifp_t h1, iltD.2 (show (24 : Int) < Int.ofNat C.length by show (24 : Int) < (C.length : Int); omega)]; rfl
    · rw [ifp_f h1, iltF.2 (show ¬ (24 : Int) < Int.ofNat C.length by show ¬ (24 : Int) < (C.length : Int); omega), bb_false]
      exact l10 n 100 fl k C hk (by omega) 100 0 (by omega) (by omega)
  · have d : (decide ((1 : Int) ≤ k) && decide (k ≤ 7)) = false := by simp; omega
    rw [d, ifp_f hk]; rfl
end Go.TabRM
/- The plain law of TableRuns, second part: rows are run. -/
set_option maxRecDepth 100000
namespace Go.TabRM
open Go.Sp Go.TabR

theorem setL_one {α : Type} (v : α) : ∀ (i : Nat) (xs : List α), i < xs.length → setL [v] i xs = xs.set i v
  | 0, x :: xs, _ => rfl
  | i + 1, x :: xs, h => by
    show x :: setL [v] i xs = x :: xs.set i v
    rw [setL_one v i xs (by simpa using h)]
  | _, [], h => by simp at h
theorem getD_I (l : List Int) (i : Nat) (h : i < l.length) : (l.map I)[i]? = some (I (l.getD i 0)) := by rw [getI l i h]; simp [h]
theorem takeM (l : List Int) : List.take l.length (l.map I) = l.map I := List.take_of_length_le (by simp)
theorem roomyS {n : Nat} (h : n ≤ 1000) : roomy n 8 = true := by
  unfold roomy; rw [ble_eq]; simp; omega

/-- A comparator's work. -/
def stp (r : List Int) (p : Int × Int) : List Int := (r.set p.1.toNat (min (r.getD p.1.toNat 0) (r.getD p.2.toNat 0))).set p.2.toNat (max (r.getD p.1.toNat 0) (r.getD p.2.toNat 0))
theorem stp_len (r : List Int) (p : Int × Int) : (stp r p).length = r.length := by simp [stp]
def runs (r : List Int) (C : List (Int × Int)) : List Int := C.foldl stp r
theorem runs_len : ∀ (C : List (Int × Int)) (r : List Int), (runs r C).length = r.length
  | [], r => rfl
  | p :: C, r => by show (runs (stp r p) C).length = _; rw [runs_len C, stp_len]
/-- All comparators are good, and their first lane is above. -/
def fine (k : Int) (C : List (Int × Int)) : Prop := ∀ p ∈ C, good k p ∧ p.1 < p.2
theorem go_fine (k : Int) : ∀ (C : List (Int × Int)), go k C = 0 → fine k C
  | [], _ => by intro p hp; simp at hp
  | p :: C, h => by
    unfold go at h
    by_cases c : good k p
    · rw [ifp_t c] at h
      by_cases c2 : p.1 < p.2
      · rw [ifp_t c2] at h
        intro q hq
        simp at hq
        rcases hq with rfl | hq
        · exact ⟨c, c2⟩
        · exact go_fine k C h q hq
      · rw [ifp_f c2] at h; omega
    · rw [ifp_f c] at h; omega
theorem chk_zero {k : Int} {C : List (Int × Int)} (h : chk k C = 0) : 1 ≤ k ∧ k ≤ 7 ∧ C.length ≤ 24 ∧ fine k C := by
  unfold chk at h
  by_cases h1 : 1 ≤ k ∧ k ≤ 7
  · rw [ifp_t h1] at h
    by_cases h2 : 24 < C.length
    · rw [ifp_t h2] at h; omega
    · rw [ifp_f h2] at h
      exact ⟨h1.1, h1.2, by omega, go_fine k C h⟩
  · rw [ifp_f h1] at h; omega
theorem fine_at {k : Int} {C : List (Int × Int)} (h : fine k C) {i : Nat} (hi : i < C.length) : ∃ A B : Nat, C[i].1 = Int.ofNat A ∧ C[i].2 = Int.ofNat B ∧ (A : Int) < k ∧ (B : Int) < k ∧ A < B ∧ C[i].1.toNat = A ∧ C[i].2.toNat = B := by
  obtain ⟨⟨h1, h2, h3, h4⟩, h5⟩ := h _ (List.getElem_mem hi)
  exact ⟨C[i].1.toNat, C[i].2.toNat, (Int.toNat_of_nonneg h1).symm, (Int.toNat_of_nonneg h3).symm, by omega, by omega, by omega, rfl, rfl⟩
theorem end6 (pu : PureF) (n c : Nat) (r : List Int) : m6_0 pu n r.length c (r.map I) = some (.tuple ⟨[S 0 r, I 0]⟩) := by
  unfold m6_0
  simp only [allL_eq, closedI, bb_true, ble_eq, len_eq, List.length_map, Nat.zero_add, Nat.mul_one, Nat.le_refl, decide_true, an_eq, Bool.true_and, takeL_eq, dropL_eq, List.drop_zero, takeM]
  rfl
theorem l6 (pu : PureF) (n fl c : Nat) (k : Int) (C : List (Int × Int)) (hf : fine k C) (hC : C.length < 1000) : ∀ (f i : Nat) (r : List Int), C.length - i < f → i ≤ C.length → (r.length : Int) = k →
    l6_1 pu n f r.length c (cl fl C) (Int.ofNat C.length) (Int.ofNat i) (r.map I) = some (.tuple ⟨[S 0 (runs r (C.drop i)), I 0]⟩) := by
  intro f
  induction f with
  | zero => intro i r h; omega
  | succ f ih =>
    intro i r h hi hr
    show b6_1 pu n (l6_1 pu n f) _ _ _ _ _ _ = _
    unfold b6_1
    rw [allL_eq, closedI, bb_true]
    by_cases hlt : i < C.length
    · obtain ⟨g1, g2⟩ := pc_get C i hlt
      have e : C.drop i = C[i] :: C.drop (i + 1) := List.drop_eq_getElem_cons hlt
      have hb : i * 2 + 2 ≤ (pc C).length := by rw [pc_len]; omega
      obtain ⟨A, B, hA, hB, a1, b1, hAB, tA, tB⟩ := fine_at hf hlt
      have a2 : A < r.length := by omega
      have b2 : B < r.length := by omega
      rw [hA] at g1
      rw [hB] at g2
      have s1 : setL ([I (min (r.getD A 0) (r.getD B 0))] : List Value) A (r.map I) = (r.set A (min (r.getD A 0) (r.getD B 0))).map I := by rw [setL_one _ _ _ (by simpa using a2), List.map_set]
      have s2 : setL ([I (max (r.getD A 0) (r.getD B 0))] : List Value) B ((r.set A (min (r.getD A 0) (r.getD B 0))).map I) = (stp r C[i]).map I := by
        rw [setL_one _ _ _ (by simpa using b2), ← List.map_set]
        unfold stp
        rw [tA, tB]
      rw [lt_true hlt]
      simp only [bb_true, toN_mk, oo_some, cl_n, cl_cs, blt_eq, hlt, decide_true, an_eq, Bool.true_and, hb, nthL_eq, g1, g2, toI_mk, a2, b2, Nat.zero_add, Nat.mul_one, getD_I r A a2, getD_I r B b2, bbmin, bbmax, s1, s2, ble_eq, len_eq, List.length_map, List.length_set, Nat.succ_le_of_lt a2, Nat.succ_le_of_lt b2, Bool.and_true, allL_eq, closedI, wrapS i (by omega : i < 1000000)]
      have := ih (i + 1) (stp r C[i]) (by omega) (by omega) (by rw [stp_len]; exact hr)
      rw [stp_len] at this
      rw [this, e]; rfl
    · have : i = C.length := by omega
      subst this
      rw [lt_false hlt, bb_false, List.drop_length, end6]; rfl

theorem p6a (n fl fl' : Nat) (k : Int) (C : List (Int × Int)) (r : List Int) (hc : chk k C ≠ 0) : puN (n + 3) 6 [tb fl k C, S fl' r] = some (.tuple ⟨[S 2 [], I (chk k C)]⟩) := by
  have e : puN (n + 3) 6 [tb fl k C, S fl' r] = m6_ (puN (n + 2)) 100 k (cl fl C) (sl fl' r) := by kernel_rfl
  rw [e]; unfold m6_
  have e1 := p9 n fl k C
  unfold tb at e1
  rw [e1]
  simp only [oo_some, toI_mk, ne_t hc, bb_true]
  rfl
theorem p6b (n fl fl' : Nat) (k : Int) (C : List (Int × Int)) (r : List Int) (hc : chk k C = 0) (hr : (r.length : Int) ≠ k) : puN (n + 3) 6 [tb fl k C, S fl' r] = some (.tuple ⟨[S 2 [], I 5]⟩) := by
  have e : puN (n + 3) 6 [tb fl k C, S fl' r] = m6_ (puN (n + 2)) 100 k (cl fl C) (sl fl' r) := by kernel_rfl
  rw [e]; unfold m6_
  have e1 := p9 n fl k C
  unfold tb at e1
  rw [hc] at e1
  rw [e1]
  simp only [oo_some, toI_mk, ne_f, bb_false, sl_n, ne_t (show Int.ofNat r.length ≠ k from hr), bb_true]
  rfl
theorem p6c (n fl fl' : Nat) (k : Int) (C : List (Int × Int)) (r : List Int) (hc : chk k C = 0) (hr : (r.length : Int) = k) : puN (n + 3) 6 [tb fl k C, S fl' r] = some (.tuple ⟨[S 0 (runs r C), I 0]⟩) := by
  have e : puN (n + 3) 6 [tb fl k C, S fl' r] = m6_ (puN (n + 2)) 100 k (cl fl C) (sl fl' r) := by kernel_rfl
  rw [e]; unfold m6_
  obtain ⟨h1, h2, h3, h4⟩ := chk_zero hc
  have e1 := p9 n fl k C
  unfold tb at e1
  rw [hc] at e1
  have hr2 : nt (ieq (Int.ofNat r.length) k) = false := by rw [show Int.ofNat r.length = k from hr]; exact ne_f k
  have rm : roomy r.length 8 = true := roomyS (by omega)
  have := l6 (puN (n + 2)) 100 fl (2 * r.length + bb false 1 0) k C h4 (by omega) 100 0 r (by omega) (by omega) hr
  rw [List.drop_zero] at this
  rw [e1]
  simp only [oo_some, toI_mk, ne_f, bb_false, sl_n, sl_cs, hr2, Nat.zero_add, rm, bb_true, Nat.mul_one, allL_eq, takeL_eq, takeM, closedI, cl_n]
  exact this

/-- A comparator's work, as the reference does it. -/
theorem stp_swap {r : List Int} {p : Int × Int} {A B : Nat} (tA : p.1.toNat = A) (tB : p.2.toNat = B) (hAB : A < B) (h : r.getD B 0 < r.getD A 0) : (r.set A (r.getD B 0)).set B (r.getD A 0) = stp r p := by
  unfold stp
  rw [tA, tB, Int.min_eq_right (by omega), Int.max_eq_left (by omega)]
theorem set_same (r : List Int) (A : Nat) (hA : A < r.length) : r.set A (r.getD A 0) = r := by
  have : r.getD A 0 = r[A] := by simp [hA]
  rw [this]; simp
theorem stp_keep {r : List Int} {p : Int × Int} {A B : Nat} (tA : p.1.toNat = A) (tB : p.2.toNat = B) (hA : A < r.length) (hB : B < r.length) (h : ¬ r.getD B 0 < r.getD A 0) : r = stp r p := by
  unfold stp
  rw [tA, tB, Int.min_eq_left (by omega), Int.max_eq_right (by omega), set_same r A hA, set_same r B hB]

theorem end30 (pu : PureF) (n c : Nat) (r : List Int) : m30_4 pu n r.length c (r.map I) = some (S 0 r) := by
  unfold m30_4
  simp only [allL_eq, closedI, bb_true, ble_eq, len_eq, List.length_map, Nat.zero_add, Nat.mul_one, Nat.le_refl, decide_true, an_eq, Bool.true_and, takeL_eq, dropL_eq, List.drop_zero, takeM]
  rfl
theorem l30 (pu : PureF) (n fl c : Nat) (k : Int) (C : List (Int × Int)) (hf : fine k C) (hC : C.length < 1000) : ∀ (f i : Nat) (r : List Int), C.length - i < f → i ≤ C.length → (r.length : Int) = k →
    l30_5 pu n f (-1) r.length c (Int.ofNat i) k (cl fl C) (r.map I) = some (S 0 (runs r (C.drop i))) := by
  intro f
  induction f with
  | zero => intro i r h; omega
  | succ f ih =>
    intro i r h hi hr
    show b30_5 pu n (l30_5 pu n f) _ _ _ _ _ _ _ = _
    unfold b30_5
    rw [allL_eq, closedI, bb_true]
    by_cases hlt : i < C.length
    · obtain ⟨g1, g2⟩ := pc_get C i hlt
      have e : C.drop i = C[i] :: C.drop (i + 1) := List.drop_eq_getElem_cons hlt
      obtain ⟨A, B, hA, hB, a1, b1, hAB, tA, tB⟩ := fine_at hf hlt
      have a2 : A < r.length := by omega
      have b2 : B < r.length := by omega
      rw [hA] at g1
      rw [hB] at g2
      have hne : nt (ieq (Int.ofNat i) (-1)) = true := ne_t (by show (i : Int) ≠ -1; omega)
      have next := ih (i + 1) (stp r C[i]) (by omega) (by omega) (by rw [stp_len]; exact hr)
      rw [stp_len] at next
      rw [cl_n, lt_true hlt]
      simp only [bb_true, toN_mk, oo_some, cl_n, cl_cs, blt_eq, hlt, decide_true, an_eq, Bool.true_and, nthL_eq, Nat.add_zero, g1, g2, toI_mk, hne, a2, b2, Nat.zero_add, Nat.mul_one, getD_I r A a2, getD_I r B b2]
      unfold m30_7 m30_6
      by_cases c1 : r.getD B 0 < r.getD A 0
      · have s1 : setL ([I (r.getD B 0)] : List Value) A (r.map I) = (r.set A (r.getD B 0)).map I := by rw [setL_one _ _ _ (by simpa using a2), List.map_set]
        have s2 : setL ([I (r.getD A 0)] : List Value) B ((r.set A (r.getD B 0)).map I) = (stp r C[i]).map I := by
          rw [setL_one _ _ _ (by simpa using b2), ← List.map_set, stp_swap tA tB hAB c1]
        rw [iltD.2 c1]
        simp only [bb_true, toN_mk, oo_some, blt_eq, a2, b2, decide_true, an_eq, Bool.true_and, nthL_eq, Nat.zero_add, Nat.mul_one, getD_I r A a2, getD_I r B b2, toI_mk, s1, s2, ble_eq, len_eq, List.length_map, List.length_set, Nat.succ_le_of_lt a2, Nat.succ_le_of_lt b2, Bool.and_true, allL_eq, closedI, wrapS i (by omega : i < 1000000)]
        rw [next, e]; rfl
      · rw [iltF.2 c1]
        simp only [bb_false, bb_true, allL_eq, closedI, wrapS i (by omega : i < 1000000)]
        rw [← stp_keep tA tB a2 b2 c1] at next
        rw [next, e]
        show _ = some (S 0 (runs (stp r C[i]) (C.drop (i + 1))))
        rw [← stp_keep tA tB a2 b2 c1]
    · have : i = C.length := by omega
      subst this
      rw [cl_n, lt_false hlt, bb_false, List.drop_length, end30]; rfl
theorem p30 (n fl fl' : Nat) (k : Int) (C : List (Int × Int)) (r : List Int) (hc : chk k C = 0) (hr : (r.length : Int) = k) : puN (n + 1) 30 [tb fl k C, S fl' r, I (-1)] = some (S 0 (runs r C)) := by
  have e : puN (n + 1) 30 [tb fl k C, S fl' r, I (-1)] = m30_ (puN n) 100 k (cl fl C) (sl fl' r) (-1) := by kernel_rfl
  rw [e]; unfold m30_
  obtain ⟨h1, h2, h3, h4⟩ := chk_zero hc
  have z1 : Nat.beq r.length 0 = false := by cases hz : r.length with
    | zero => omega
    | succ m => rfl
  have rm : roomy r.length 8 = true := roomyS (by omega)
  have := l30 (puN n) 100 fl (2 * r.length + bb false 1 0) k C h4 (by omega) 100 0 r (by omega) (by omega) hr
  rw [List.drop_zero] at this
  simp only [sl_n, sl_cs, z1, bb_false, Nat.zero_add, rm, bb_true, Nat.mul_one, allL_eq, takeL_eq, takeM, closedI]
  exact this
theorem p7a (n fl fl' : Nat) (k : Int) (C : List (Int × Int)) (r : List Int) (hc : chk k C ≠ 0) : puN (n + 3) 7 [tb fl k C, S fl' r] = some (.tuple ⟨[S 2 [], I (chk k C)]⟩) := by
  have e : puN (n + 3) 7 [tb fl k C, S fl' r] = m7_ (puN (n + 2)) 100 k (cl fl C) (sl fl' r) := by kernel_rfl
  rw [e]; unfold m7_
  have e1 := p10 n fl k C
  unfold tb at e1
  rw [e1]
  simp only [oo_some, toI_mk, ie_f hc, bb_false, m7_1, m7_0, ne_t hc, bb_true]
  rfl
theorem p7b (n fl fl' : Nat) (k : Int) (C : List (Int × Int)) (r : List Int) (hc : chk k C = 0) (hr : (r.length : Int) ≠ k) : puN (n + 3) 7 [tb fl k C, S fl' r] = some (.tuple ⟨[S 2 [], I 5]⟩) := by
  have e : puN (n + 3) 7 [tb fl k C, S fl' r] = m7_ (puN (n + 2)) 100 k (cl fl C) (sl fl' r) := by kernel_rfl
  rw [e]; unfold m7_
  have e1 := p10 n fl k C
  unfold tb at e1
  rw [hc] at e1
  rw [e1]
  simp only [oo_some, toI_mk, ieqr, bb_true, sl_n, ne_t (show Int.ofNat r.length ≠ k from hr), m7_1, m7_0, ne_t (show (5 : Int) ≠ 0 by omega)]
  rfl
theorem p7c (n fl fl' : Nat) (k : Int) (C : List (Int × Int)) (r : List Int) (hc : chk k C = 0) (hr : (r.length : Int) = k) : puN (n + 3) 7 [tb fl k C, S fl' r] = some (.tuple ⟨[S 0 (runs r C), I 0]⟩) := by
  have e : puN (n + 3) 7 [tb fl k C, S fl' r] = m7_ (puN (n + 2)) 100 k (cl fl C) (sl fl' r) := by kernel_rfl
  rw [e]; unfold m7_
  have e1 := p10 n fl k C
  have e2 := p30 (n + 1) fl fl' k C r hc hr
  unfold tb S at e2
  unfold tb at e1
  rw [hc] at e1
  have hr2 : nt (ieq (Int.ofNat r.length) k) = false := by rw [show Int.ofNat r.length = k from hr]; exact ne_f k
  rw [e1]
  simp only [oo_some, toI_mk, ieqr, bb_true, sl_n, hr2, m7_1, m7_0, ne_f, bb_false, e2, toSl_mk]
  rfl
end Go.TabRM
/- The plain law of TableRuns, last part. -/
set_option maxRecDepth 100000
namespace Go.TabRM
open Go.Sp Go.TabR

theorem p52 (n : Nat) (a : Int) : puN (n + 1) 52 [I a] = some (Value.bool false) := by
  show some (Value.bool (nt (ieq a a))) = _
  rw [ne_f]
theorem p46 (n : Nat) (a b : Int) : puN (n + 2) 46 [I a, I b] = some (Value.bool (ilt a b)) := by
  show oo (puN (n + 1) 52 [I a]) none (fun v => oo (vBool v) none fun c => bb c (oo (puN (n + 1) 52 [I b]) none fun v => oo (vBool v) none fun c => bb (nt c) (some (Value.bool true)) (some (Value.bool (ilt a b)))) (some (Value.bool (ilt a b)))) = _
  rw [p52]; rfl
theorem predW (i : Nat) (h1 : 1 ≤ i) (h : i < 1000000) : wrapF .i64 (Int.sub (Int.ofNat i) 1) = Int.ofNat (i - 1) := by
  show wrapF .i64 (Int.ofNat i - 1) = _
  rw [wrapI _ (by simp; omega) (by simp; omega)]; simp; omega
/-- Is a row sorted? -/
def srt (r : List Int) (from_ to_ : Nat) : Prop := ∀ j, from_ ≤ j → j < to_ → ¬ r.getD j 0 < r.getD (j - 1) 0
theorem l33 (m n fl : Nat) (r : List Int) (hr : r.length < 1000) : ∀ (f i : Nat), i < f → i < r.length →
    l33_1 (puN (m + 2)) n f (sl fl r) (Int.ofNat i) = some (Value.bool (ifb (srt r 1 (i + 1)))) := by
  intro f
  induction f with
  | zero => intro i h; omega
  | succ f ih =>
    intro i h hi
    show b33_1 (puN (m + 2)) n (l33_1 (puN (m + 2)) n f) _ _ = _
    unfold b33_1
    by_cases h0 : 0 < i
    · have hi1 : i - 1 < r.length := by omega
      have q := p46 m (r.getD i 0) (r.getD (i - 1) 0)
      rw [iltD.2 (show (0 : Int) < Int.ofNat i by show (0 : Int) < (i : Int); omega)]
      simp only [bb_true, toN_mk, oo_some, sl_n, sl_cs, blt_eq, hi, hi1, decide_true, an_eq, Bool.true_and, nthL_eq, Nat.mul_one, getD_I r i hi, getD_I r (i - 1) hi1, toI_mk, predW i (by omega) (by omega), q, vBool_mk]
      by_cases c : r.getD i 0 < r.getD (i - 1) 0
      · rw [iltD.2 c, bb_true, ifb_f (fun g => g i (by omega) (by omega) c)]
      · rw [iltF.2 c, bb_false, ih (i - 1) (by omega) (by omega)]
        congr 2
        refine ifb_congr ⟨fun g j h1 h2 => ?_, fun g j h1 h2 => g j h1 (by omega)⟩
        by_cases hj : j = i
        · subst hj; exact c
        · exact g j h1 (by omega)
    · have : i = 0 := by omega
      subst this
      rw [ifb_t (show srt r 1 (0 + 1) from fun j h1 h2 => by omega)]; rfl
theorem l34 (pu : PureF) (n fl : Nat) (r : List Int) (hr : r.length < 1000) : ∀ (f i : Nat), r.length - i < f → 1 ≤ i → i ≤ r.length →
    l34_1 pu n f (sl fl r) (Int.ofNat i) = some (Value.bool (ifb (srt r i r.length))) := by
  intro f
  induction f with
  | zero => intro i h; omega
  | succ f ih =>
    intro i h h1 hi
    show b34_1 pu n (l34_1 pu n f) _ _ = _
    unfold b34_1
    by_cases hlt : i < r.length
    · have hi1 : i - 1 < r.length := by omega
      rw [sl_n, lt_true hlt]
      simp only [bb_true, toN_mk, oo_some, sl_n, sl_cs, blt_eq, hlt, hi1, decide_true, an_eq, Bool.true_and, nthL_eq, Nat.mul_one, getD_I r i hlt, getD_I r (i - 1) hi1, toI_mk, predW i h1 (by omega), wrapS i (by omega : i < 1000000)]
      by_cases c : r.getD i 0 < r.getD (i - 1) 0
      · rw [iltD.2 c, bb_true, ifb_f (fun g => g i (by omega) (by omega) c)]
      · rw [iltF.2 c, bb_false, ih (i + 1) (by omega) (by omega) (by omega)]
        congr 2
        refine ifb_congr ⟨fun g j h1 h2 => ?_, fun g j h1 h2 => g j (by omega) h2⟩
        by_cases hj : j = i
        · subst hj; exact c
        · exact g j (by omega) h2
    · have : i = r.length := by omega
      subst this
      rw [sl_n, lt_false hlt, bb_false, ifb_t (show srt r r.length r.length from fun j h1 h2 => by omega)]; rfl
theorem p33 (n fl : Nat) (r : List Int) (h1 : 1 ≤ r.length) (h2 : r.length < 50) : puN (n + 3) 33 [S fl r] = some (Value.bool (ifb (srt r 1 r.length))) := by
  show l33_1 (puN (n + 2)) 100 100 (sl fl r) (wrapF .i64 (Int.sub (Int.ofNat r.length) 1)) = _
  rw [predW _ h1 (by omega), l33 n 100 fl r (by omega) 100 (r.length - 1) (by omega) (by omega), show r.length - 1 + 1 = r.length by omega]
theorem p34 (n fl : Nat) (r : List Int) (h1 : 1 ≤ r.length) (h2 : r.length < 50) : puN (n + 1) 34 [S fl r] = some (Value.bool (ifb (srt r 1 r.length))) := by
  show l34_1 (puN n) 100 100 (sl fl r) (Int.ofNat 1) = _
  rw [l34 (puN n) 100 fl r (by omega) 100 1 (by omega) (by omega) h1]

theorem p11a (n fl fl' : Nat) (k e : Int) (C : List (Int × Int)) (r : List Int) (he : e ≠ 0) (h : puN (n + 3) 6 [tb fl k C, S fl' r] = some (.tuple ⟨[S 2 [], I e]⟩)) : puN (n + 4) 11 [tb fl k C, S fl' r] = some (I e) := by
  have e0 : puN (n + 4) 11 [tb fl k C, S fl' r] = m11_ (puN (n + 3)) 100 k (cl fl C) (sl fl' r) := by kernel_rfl
  rw [e0]; unfold m11_
  unfold tb S at h
  rw [h]
  simp only [oo_some, vTup_mk, ll_cons', ll_nil', toI_mk, toSl_mk, ie_f he, bb_false, m11_0]
theorem p12a (n fl fl' : Nat) (k e : Int) (C : List (Int × Int)) (r : List Int) (he : e ≠ 0) (h : puN (n + 3) 7 [tb fl k C, S fl' r] = some (.tuple ⟨[S 2 [], I e]⟩)) : puN (n + 4) 12 [tb fl k C, S fl' r] = some (I e) := by
  have e0 : puN (n + 4) 12 [tb fl k C, S fl' r] = m12_ (puN (n + 3)) 100 k (cl fl C) (sl fl' r) := by kernel_rfl
  rw [e0]; unfold m12_
  unfold tb S at h
  rw [h]
  simp only [oo_some, vTup_mk, ll_cons', ll_nil', toI_mk, toSl_mk, ie_f he, bb_false, m12_1, m12_0]
theorem p11b (n fl fl' : Nat) (k : Int) (C : List (Int × Int)) (r l : List Int) (h1 : 1 ≤ l.length) (h2 : l.length < 50) (h : puN (n + 3) 6 [tb fl k C, S fl' r] = some (.tuple ⟨[S 0 l, I 0]⟩)) :
    puN (n + 4) 11 [tb fl k C, S fl' r] = some (I (bb (ifb (srt l 1 l.length)) 14 0)) := by
  have e0 : puN (n + 4) 11 [tb fl k C, S fl' r] = m11_ (puN (n + 3)) 100 k (cl fl C) (sl fl' r) := by kernel_rfl
  rw [e0]; unfold m11_
  have q := p33 n 0 l h1 h2
  unfold tb S at h
  unfold S at q
  rw [h]
  simp only [oo_some, vTup_mk, ll_cons', ll_nil', toI_mk, toSl_mk, ieqr, bb_true, q, vBool_mk, m11_0]
  cases ifb (srt l 1 l.length) <;> rfl
theorem p12b (n fl fl' : Nat) (k : Int) (C : List (Int × Int)) (r l : List Int) (h1 : 1 ≤ l.length) (h2 : l.length < 50) (h : puN (n + 3) 7 [tb fl k C, S fl' r] = some (.tuple ⟨[S 0 l, I 0]⟩)) :
    puN (n + 4) 12 [tb fl k C, S fl' r] = some (I (bb (ifb (srt l 1 l.length)) 14 0)) := by
  have e0 : puN (n + 4) 12 [tb fl k C, S fl' r] = m12_ (puN (n + 3)) 100 k (cl fl C) (sl fl' r) := by kernel_rfl
  rw [e0]; unfold m12_
  have q := p34 (n + 2) 0 l h1 h2
  unfold tb S at h
  unfold S at q
  rw [h]
  simp only [oo_some, vTup_mk, ll_cons', ll_nil', toI_mk, toSl_mk, ieqr, bb_true, q, vBool_mk, m12_1, m12_0]
  cases ifb (srt l 1 l.length) <;> rfl

theorem l8 (pu : PureF) (n fl fl' : Nat) (l : List Int) (hl : l.length < 1000) : ∀ (f i : Nat), l.length - i < f → i ≤ l.length → l8_1 pu n f (sl fl l) (sl fl' l) (Int.ofNat i) = some (Value.bool true) := by
  intro f
  induction f with
  | zero => intro i h; omega
  | succ f ih =>
    intro i h hi
    show b8_1 pu n (l8_1 pu n f) _ _ _ = _
    unfold b8_1
    by_cases hlt : i < l.length
    · rw [sl_n, lt_true hlt]
      simp only [bb_true, toN_mk, oo_some, sl_n, sl_cs, blt_eq, hlt, decide_true, an_eq, Bool.true_and, nthL_eq, Nat.mul_one, getI l i hlt, toI_mk, wrapS i (by omega), ne_f, bb_false]
      exact ih (i + 1) (by omega) (by omega)
    · rw [sl_n, lt_false hlt]; rfl
theorem p8 (n fl fl' : Nat) (l : List Int) (hl : l.length < 50) : puN (n + 1) 8 [S fl l, S fl' l] = some (Value.bool true) := by
  show bb (nt (ieq (Int.ofNat l.length) (Int.ofNat l.length))) (some (Value.bool false)) (l8_1 (puN n) 100 100 (sl fl l) (sl fl' l) (Int.ofNat 0)) = _
  rw [ne_f, bb_false]
  exact l8 (puN n) 100 fl fl' l (by omega) 100 0 (by omega) (by omega)

section
variable (pu : PureF) (n : Nat) (k : Int) (s t : Sl) (e5 : pu 5 [] = some (Value.bool true))
include e5
theorem m3_big (e4 : pu 4 [.agg ⟨[.int .i64 k, s.v 2]⟩, t.v 1] = some (Value.bool true)) : m3_ pu n k s t = some (Value.bool true) := by
  unfold m3_
  simp only [e4, e5, oo_some, vBool_mk, bb_true]
theorem m3_gen (e4 : pu 4 [.agg ⟨[.int .i64 k, s.v 2]⟩, t.v 1] = some (Value.bool false)) {e c d : Int} {u : Sl}
    (e6 : pu 6 [.agg ⟨[.int .i64 k, s.v 2]⟩, t.v 1] = some (.tuple ⟨[u.v 1, .int .i64 e]⟩)) (e7 : pu 7 [.agg ⟨[.int .i64 k, s.v 2]⟩, t.v 1] = some (.tuple ⟨[u.v 1, .int .i64 e]⟩))
    (q : pu 8 [u.v 1, u.v 1] = some (Value.bool true)) (e9 : pu 9 [.agg ⟨[.int .i64 k, s.v 2]⟩] = some (.int .i64 c)) (e10 : pu 10 [.agg ⟨[.int .i64 k, s.v 2]⟩] = some (.int .i64 c))
    (e11 : pu 11 [.agg ⟨[.int .i64 k, s.v 2]⟩, t.v 1] = some (.int .i64 d)) (e12 : pu 12 [.agg ⟨[.int .i64 k, s.v 2]⟩, t.v 1] = some (.int .i64 d)) : m3_ pu n k s t = some (Value.bool true) := by
  unfold m3_
  simp only [e4, e5, e6, e7, q, e9, e10, e11, e12, oo_some, vBool_mk, bb_false, bb_true, vTup_mk, ll_cons', ll_nil', toSl_mk, toI_mk, ieqr, m3_0]
end
theorem p4 (n fl fl' : Nat) (k : Int) (C : List (Int × Int)) (r : List Int) : puN (n + 1) 4 [tb fl k C, S fl' r] = some (Value.bool (decide (60 < C.length) || decide (40 < r.length))) := by
  show bb (ilt 60 (Int.ofNat C.length)) (some (Value.bool true)) (some (Value.bool (ilt 40 (Int.ofNat r.length)))) = _
  have e1 : ilt 60 (Int.ofNat C.length) = decide (60 < C.length) := by
    rw [ilt_eq, Bool.eq_iff_iff, decide_eq_true_iff, decide_eq_true_iff]; simp; omega
  have e2 : ilt 40 (Int.ofNat r.length) = decide (40 < r.length) := by
    rw [ilt_eq, Bool.eq_iff_iff, decide_eq_true_iff, decide_eq_true_iff]; simp; omega
  rw [e1, e2]
  cases decide (60 < C.length) <;> rfl
theorem e3 (n fl fl' : Nat) (k : Int) (C : List (Int × Int)) (r : List Int) : puN (n + 5) 3 [tb fl k C, S fl' r] = m3_ (puN (n + 4)) 100 k (cl fl C) (sl fl' r) := by kernel_rfl
theorem e5 (n : Nat) : puN (n + 4) 5 [] = some (Value.bool true) := by kernel_rfl
theorem p3 (n fl fl' : Nat) (k : Int) (C : List (Int × Int)) (r : List Int) : puN (n + 5) 3 [tb fl k C, S fl' r] = some (Value.bool true) := by
  rw [e3]
  have q4 := p4 (n + 3) fl fl' k C r
  by_cases hb : (decide (60 < C.length) || decide (40 < r.length)) = true
  · rw [hb] at q4
    exact m3_big _ _ _ _ _ (e5 n) q4
  · rw [Bool.not_eq_true] at hb
    rw [hb] at q4
    have q9 := p9 (n + 2) fl k C
    have q10 := p10 (n + 2) fl k C
    by_cases hc : chk k C = 0
    · obtain ⟨h1, h2, _, _⟩ := chk_zero hc
      by_cases hr : (r.length : Int) = k
      · have hl := runs_len C r
        exact m3_gen _ _ _ _ _ (e5 n) q4 (p6c (n + 1) fl fl' k C r hc hr) (p7c (n + 1) fl fl' k C r hc hr) (p8 (n + 3) 0 0 (runs r C) (by omega)) q9 q10
          (p11b n fl fl' k C r _ (by omega) (by omega) (p6c n fl fl' k C r hc hr)) (p12b n fl fl' k C r _ (by omega) (by omega) (p7c n fl fl' k C r hc hr))
      · exact m3_gen _ _ _ _ _ (e5 n) q4 (p6b (n + 1) fl fl' k C r hc hr) (p7b (n + 1) fl fl' k C r hc hr) (p8 (n + 3) 2 2 [] (by simp)) q9 q10
          (p11a n fl fl' k 5 C r (by omega) (p6b n fl fl' k C r hc hr)) (p12a n fl fl' k 5 C r (by omega) (p7b n fl fl' k C r hc hr))
    · exact m3_gen _ _ _ _ _ (e5 n) q4 (p6a (n + 1) fl fl' k C r hc) (p7a (n + 1) fl fl' k C r hc) (p8 (n + 3) 2 2 [] (by simp)) q9 q10
        (p11a n fl fl' k _ C r hc (p6a n fl fl' k C r hc)) (p12a n fl fl' k _ C r hc (p7a n fl fl' k C r hc))
end Go.TabRM
