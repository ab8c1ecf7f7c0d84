/- The plain law of MendHelps: exchanges that help, and the law. -/
import Derived.Test.YtlgmapibifphaaaDoorMdHLaw12x

set_option maxRecDepth 100000
namespace Go.MdHM
open Go.Sp Go.MdH Go.MdM

theorem swp_count (h : List Int) (A B : Nat) (hA : A < h.length) (hB : B < h.length) (x : Int) : (swp h A B).count x = h.count x := by
  unfold swp
  have gA : h.getD A 0 = h[A] := by rw [List.getD_eq_getElem?_getD, List.getElem?_eq_getElem hA, Option.getD_some]
  have gB : h.getD B 0 = h[B] := by rw [List.getD_eq_getElem?_getD, List.getElem?_eq_getElem hB, Option.getD_some]
  rw [gA, gB, List.count_set (by simpa using hB), List.count_set hA]
  have hg : (h.set A h[B])[B]'(by simpa using hB) = h[B] := by
    rw [List.getElem_set]; split <;> rfl
  rw [hg]
  have p1 : (if h[A] == x then 1 else 0) ≤ h.count x := by
    split
    · rename_i e; rw [← eq_of_beq e]; exact List.count_pos_iff.2 (List.getElem_mem hA)
    · exact Nat.zero_le _
  have p2 : (if h[B] == x then 1 else 0) ≤ h.count x := by
    split
    · rename_i e; rw [← eq_of_beq e]; exact List.count_pos_iff.2 (List.getElem_mem hB)
    · exact Nat.zero_le _
  omega
theorem inK_count {k : Int} {a b : List Int} (h : ∀ x, a.count x = b.count x) (hb : inK k b) : inK k a := by
  intro x hx
  have h1 := List.count_pos_iff.2 hx
  rw [h x] at h1
  exact hb x (List.count_pos_iff.1 h1)
theorem chk_swp {k : Int} {h w : List Int} {A B : Nat} (hA : A < h.length) (hB : B < h.length) (ho : Ok k h w) : chk k (swp h A B) w = 0 := by
  have hc := swp_count h A B hA hB
  have hl := swp_len h A B
  have h1 := ho.n1
  have h10 := ho.n10
  have h2 := ho.len
  unfold chk
  rw [ifp_t ho.k1, ifp_f (by omega), ifp_f (by omega), ifp_t (by omega), ifp_t ⟨inK_count hc ho.kk.1, ho.kk.2⟩, ifp_t]
  intro x hx
  rw [hc]; exact ho.ev x hx

noncomputable def hb (h w : List Int) (a b : Nat) : Bool := ilt (FW (swp h a b) w) (FW h w)
noncomputable def hin (h w : List Int) (a : Nat) : Nat → Nat → List (Nat × Nat)
  | 0, _ => []
  | f + 1, b => (bif hb h w a b then [(a, b)] else []) ++ hin h w a f (b + 1)
noncomputable def hout (h w : List Int) : Nat → Nat → List (Nat × Nat)
  | 0, _ => []
  | f + 1, a => hin h w a (h.length - (a + 1)) (a + 1) ++ hout h w f (a + 1)
def pq (P : List (Nat × Nat)) : List Value := P.flatMap fun p => [I (Int.ofNat p.1), I (Int.ofNat p.2)]
theorem pq_len (P : List (Nat × Nat)) : (pq P).length = P.length * 2 := by
  induction P with
  | nil => rfl
  | cons p C ih => simp only [pq, List.flatMap_cons, List.length_append, List.length_cons, List.length_nil] at ih ⊢; omega
theorem pq_app (C D : List (Nat × Nat)) : pq (C ++ D) = pq C ++ pq D := by simp [pq]
theorem clPq (C : List (Nat × Nat)) : allL closed1 (pq C) = true := by
  rw [allL_eq, List.all_eq_true]; intro x hx
  simp [pq] at hx
  obtain ⟨a, b, _, h | h⟩ := hx <;> subst h <;> rfl
theorem snocPq (C : List (Nat × Nat)) (a b : Nat) : appL (dropL 0 (pq C)) [I (Int.ofNat a), I (Int.ofNat b)] = pq (C ++ [(a, b)]) := by
  rw [appL_eq, dropL_eq, List.drop_zero, pq_app]; rfl
theorem pq_get : ∀ (C : List (Nat × Nat)) (i : Nat) (h : i < C.length), (pq C)[i * 2]? = some (I (Int.ofNat C[i].1)) ∧ (pq C)[i * 2 + 1]? = some (I (Int.ofNat C[i].2))
  | [], i, h => by simp at h
  | p :: C, 0, _ => ⟨rfl, rfl⟩
  | p :: C, i + 1, h => by
    have ih := pq_get C i (by simpa using h)
    have e : pq (p :: C) = I (Int.ofNat p.1) :: I (Int.ofNat p.2) :: pq C := rfl
    have e2 : (i + 1) * 2 = i * 2 + 1 + 1 := by omega
    rw [e, e2]
    simp only [List.getElem?_cons_succ, List.getElem_cons_succ]
    exact ih
def ps (P : List (Nat × Nat)) : Sl := ⟨P.length, 0, pq P⟩
theorem wholeP (P : List (Nat × Nat)) : an (Nat.ble (0 + P.length * 2) (len (pq P))) (allL closed1 (takeL (P.length * 2) (dropL 0 (pq P)))) = true := by
  rw [Nat.zero_add, ← pq_len, dropL_eq, List.drop_zero, takeL_eq, List.take_length, clPq, len_eq, ble_eq]
  simp
theorem takeP (P : List (Nat × Nat)) : takeL (P.length * 2) (dropL 0 (pq P)) = pq P := by
  rw [← pq_len, dropL_eq, List.drop_zero, takeL_eq, List.take_length]
theorem hin_len (h w : List Int) (a : Nat) : ∀ (f b : Nat), (hin h w a f b).length ≤ f
  | 0, _ => by simp [hin]
  | f + 1, b => by
    have := hin_len h w a f (b + 1)
    unfold hin
    rw [List.length_append]
    cases hb h w a b <;> simp <;> omega

section
variable (n f1 f2 : Nat) (k : Int) (h w : List Int) (ho : Ok k h w)
theorem end13 (pu : PureF) (P : List (Nat × Nat)) : m13_0 pu n P.length (2 * P.length) (pq P) = some (.tuple ⟨[Sl.v 2 (ps P), I 0]⟩) := by
  unfold m13_0; rw [clPq, bb_true, wholeP, bb_true, takeP]; rfl
theorem end14 (pu : PureF) (P : List (Nat × Nat)) : m14_0 pu n P.length (2 * P.length) (pq P) = some (.tuple ⟨[Sl.v 2 (ps P), I 0]⟩) := by
  unfold m14_0; rw [clPq, bb_true, wholeP, bb_true, takeP]; rfl
include ho
theorem l13_in (a N' : Nat) (ih0 : Int → Nat → Nat → Int → Int → Int → Sl → Sl → List Value → Option Value) (ha : a < h.length) : ∀ (f b : Nat) (P : List (Nat × Nat)), h.length - b < f → a < b → b ≤ h.length → P.length ≤ N' → N' + (h.length - b) ≤ 900 →
    l13_3 (puN (n + 16)) 1000000 ih0 f (FW h w) P.length (2 * P.length) (Int.ofNat a) (Int.ofNat b) (Int.ofNat h.length) (Int.ofNat a) k (sl f1 h) (sl f2 w) (pq P) =
      ih0 (FW h w) (P ++ hin h w a (h.length - b) b).length (2 * (P ++ hin h w a (h.length - b) b).length) (Int.ofNat h.length) (Int.ofNat (a + 1)) k (sl f1 h) (sl f2 w) (pq (P ++ hin h w a (h.length - b) b)) := by
  have h10 := ho.n10
  intro f
  induction f generalizing N' with
  | zero => intro b P hi; omega
  | succ f ih =>
    intro b P hi hab hbl hP hN
    show b13_3 (puN (n + 16)) 1000000 ih0 (l13_3 (puN (n + 16)) 1000000 ih0 f) _ _ _ _ _ _ _ _ _ _ _ = _
    unfold b13_3
    rw [clPq, bb_true]
    by_cases hlt : b < h.length
    · have e1 := p43 (n + 15) f1 f2 a b k h w (by omega) (by have := ho.len; omega) ha hlt
      have o2 := ok_of (chk_swp ha hlt ho)
      have e2 := p44 (n + 2) 0 0 k (swp h a b) w o2.n10 o2.len o2.kh o2.kw
      have hs : h.length - b = (h.length - (b + 1)) + 1 := by omega
      unfold tr S at e1 e2
      rw [sl_n, lt_true hlt, bb_true, e1]
      simp only [oo_some, vAgg_mk, ll_cons', ll_nil', toI_mk, toSl_mk]
      rw [e2]
      simp only [oo_some, toI_mk]
      rw [hs]
      unfold hin hb
      have g1 := growG 2 16 P.length 1 (pq P) (roomyB (by omega) (by omega)) (by omega) (pq_len P)
      cases hc : ilt (FW (swp h a b) w) (FW h w) with
      | true =>
        rw [bb_true, g1, bb_true, snocPq, clPq, bb_true]
        unfold m13_4
        rw [clPq, bb_true, wrapS b (by omega)]
        have := ih (N' + 1) (b + 1) (P ++ [(a, b)]) (by omega) (by omega) (by omega) (by simp; omega) (by omega)
        rw [List.length_append, List.length_singleton] at this
        simp only [bb_false, Nat.add_zero, cond_true]
        rw [this, List.append_assoc]
      | false =>
        rw [bb_false]
        unfold m13_4
        rw [clPq, bb_true, wrapS b (by omega), cond_false, List.nil_append]
        exact ih N' (b + 1) P (by omega) (by omega) (by omega) (by omega) (by omega)
    · have : b = h.length := by omega
      subst this
      rw [sl_n, lt_false hlt, bb_false]
      unfold m13_2
      rw [clPq, bb_true, wrapS a (by omega), Nat.sub_self]
      unfold hin
      rw [List.append_nil]
theorem l13 : ∀ (f a : Nat) (P : List (Nat × Nat)), h.length - a < f → a ≤ h.length → P.length ≤ 10 * a →
    l13_1 (puN (n + 16)) 1000000 f (FW h w) P.length (2 * P.length) (Int.ofNat h.length) (Int.ofNat a) k (sl f1 h) (sl f2 w) (pq P) = some (.tuple ⟨[Sl.v 2 (ps (P ++ hout h w (h.length - a) a)), I 0]⟩) := by
  have h10 := ho.n10
  intro f
  induction f with
  | zero => intro a P hi; omega
  | succ f ih =>
    intro a P hi ha hP
    show b13_1 (puN (n + 16)) 1000000 (l13_1 (puN (n + 16)) 1000000 f) _ _ _ _ _ _ _ _ _ = _
    unfold b13_1
    rw [clPq, bb_true]
    by_cases hlt : a < h.length
    · rw [lt_true hlt, bb_true, wrapS a (by omega)]
      rw [l13_in n f1 f2 k h w ho a (10 * a) (l13_1 (puN (n + 16)) 1000000 f) hlt 1000000 (a + 1) P (by omega) (by omega) (by omega) hP (by omega)]
      have hl := hin_len h w a (h.length - (a + 1)) (a + 1)
      rw [ih (a + 1) _ (by omega) (by omega) (by rw [List.length_append]; omega), show h.length - a = h.length - (a + 1) + 1 by omega]
      conv => rhs; unfold hout
      rw [List.append_assoc]
    · have : a = h.length := by omega
      subst this
      rw [lt_false hlt, bb_false, end13, Nat.sub_self]
      unfold hout
      rw [List.append_nil]
theorem l14_in (a N' : Nat) (ih0 : Int → Nat → Nat → Int → Int → Sl → Sl → List Value → Option Value) (ha : a < h.length) : ∀ (f b : Nat) (P : List (Nat × Nat)), h.length - b < f → a < b → b ≤ h.length → P.length ≤ N' → N' + (h.length - b) ≤ 900 →
    l14_3 (puN (n + 16)) 1000000 ih0 f (FW h w) P.length (2 * P.length) (Int.ofNat a) (Int.ofNat b) k (sl f1 h) (sl f2 w) (pq P) =
      ih0 (FW h w) (P ++ hin h w a (h.length - b) b).length (2 * (P ++ hin h w a (h.length - b) b).length) (Int.ofNat (a + 1)) k (sl f1 h) (sl f2 w) (pq (P ++ hin h w a (h.length - b) b)) := by
  have h10 := ho.n10
  intro f
  induction f generalizing N' with
  | zero => intro b P hi; omega
  | succ f ih =>
    intro b P hi hab hbl hP hN
    show b14_3 (puN (n + 16)) 1000000 ih0 (l14_3 (puN (n + 16)) 1000000 ih0 f) _ _ _ _ _ _ _ _ _ = _
    unfold b14_3
    rw [clPq, bb_true]
    by_cases hlt : b < h.length
    · have e1 := p46 (n + 15) f1 f2 a b k h w (by omega) ho.len ha hlt
      have o2 := ok_of (chk_swp ha hlt ho)
      have e2 := p45 n 0 0 k (swp h a b) w o2
      have hs : h.length - b = (h.length - (b + 1)) + 1 := by omega
      unfold tr S at e1 e2
      rw [sl_n, lt_true hlt, bb_true, e1]
      simp only [oo_some, vAgg_mk, ll_cons', ll_nil', toI_mk, toSl_mk]
      rw [e2]
      simp only [oo_some, toI_mk]
      rw [hs]
      unfold hin hb
      have g1 := growG 2 16 P.length 1 (pq P) (roomyB (by omega) (by omega)) (by omega) (pq_len P)
      cases hc : ilt (FW (swp h a b) w) (FW h w) with
      | true =>
        rw [bb_true, g1, bb_true, snocPq, clPq, bb_true]
        unfold m14_4
        rw [clPq, bb_true, wrapS b (by omega)]
        have := ih (N' + 1) (b + 1) (P ++ [(a, b)]) (by omega) (by omega) (by omega) (by simp; omega) (by omega)
        rw [List.length_append, List.length_singleton] at this
        simp only [bb_false, Nat.add_zero, cond_true]
        rw [this, List.append_assoc]
      | false =>
        rw [bb_false]
        unfold m14_4
        rw [clPq, bb_true, wrapS b (by omega), cond_false, List.nil_append]
        exact ih N' (b + 1) P (by omega) (by omega) (by omega) (by omega) (by omega)
    · have : b = h.length := by omega
      subst this
      rw [sl_n, lt_false hlt, bb_false]
      unfold m14_2
      rw [clPq, bb_true, wrapS a (by omega), Nat.sub_self]
      unfold hin
      rw [List.append_nil]
theorem l14 : ∀ (f a : Nat) (P : List (Nat × Nat)), h.length - a < f → a ≤ h.length → P.length ≤ 10 * a →
    l14_1 (puN (n + 16)) 1000000 f (FW h w) P.length (2 * P.length) (Int.ofNat a) k (sl f1 h) (sl f2 w) (pq P) = some (.tuple ⟨[Sl.v 2 (ps (P ++ hout h w (h.length - a) a)), I 0]⟩) := by
  have h10 := ho.n10
  intro f
  induction f with
  | zero => intro a P hi; omega
  | succ f ih =>
    intro a P hi ha hP
    show b14_1 (puN (n + 16)) 1000000 (l14_1 (puN (n + 16)) 1000000 f) _ _ _ _ _ _ _ _ = _
    unfold b14_1
    rw [clPq, bb_true, sl_n]
    by_cases hlt : a < h.length
    · rw [lt_true hlt, bb_true, wrapS a (by omega)]
      rw [l14_in n f1 f2 k h w ho a (10 * a) (l14_1 (puN (n + 16)) 1000000 f) hlt 1000000 (a + 1) P (by omega) (by omega) (by omega) hP (by omega)]
      have hl := hin_len h w a (h.length - (a + 1)) (a + 1)
      rw [ih (a + 1) _ (by omega) (by omega) (by rw [List.length_append]; omega), show h.length - a = h.length - (a + 1) + 1 by omega]
      conv => rhs; unfold hout
      rw [List.append_assoc]
    · have : a = h.length := by omega
      subst this
      rw [lt_false hlt, bb_false, end14, Nat.sub_self]
      unfold hout
      rw [List.append_nil]
end
theorem ne_t {x : Int} (h : x ≠ 0) : nt (ieq x 0) = true := by simp [ieq_eq, h]
theorem ne_f : nt (ieq (0 : Int) 0) = false := rfl
theorem ieqr (x : Int) : ieq x x = true := by simp [ieq_eq]
theorem p29 (n f1 f2 : Nat) (k : Int) (h w : List Int) (ho : Ok k h w) (hc : chk k h w = 0) : puN (n + 17) 29 [tr f1 f2 k h w] = some (.tuple ⟨[I (FW h w), I 0]⟩) := by
  refine Eq.trans (b := m29_ (puN (n + 16)) 1000000 k (sl f1 h) (sl f2 w)) (by kernel_rfl) ?_
  unfold m29_
  have e1 := p47 (n + 14) f1 f2 k h w
  have e2 := p44 (n + 2) f1 f2 k h w ho.n10 ho.len ho.kh ho.kw
  unfold tr S at e1 e2
  rw [e1, oo_some, toI_mk, oo_some, hc, ne_f, bb_false, e2]; rfl
theorem p29e (n f1 f2 : Nat) (k : Int) (h w : List Int) (hc : chk k h w ≠ 0) : puN (n + 17) 29 [tr f1 f2 k h w] = some (.tuple ⟨[I 0, I (chk k h w)]⟩) := by
  refine Eq.trans (b := m29_ (puN (n + 16)) 1000000 k (sl f1 h) (sl f2 w)) (by kernel_rfl) ?_
  unfold m29_
  have e1 := p47 (n + 14) f1 f2 k h w
  unfold tr S at e1
  rw [e1, oo_some, toI_mk, oo_some, ne_t hc, bb_true]
theorem p32 (n f1 f2 : Nat) (k : Int) (h w : List Int) (ho : Ok k h w) (hc : chk k h w = 0) : puN (n + 17) 32 [tr f1 f2 k h w] = some (.tuple ⟨[I (FW h w), I 0]⟩) := by
  refine Eq.trans (b := m32_ (puN (n + 16)) 1000000 k (sl f1 h) (sl f2 w)) (by kernel_rfl) ?_
  unfold m32_
  have e1 := p49 (n + 14) f1 f2 k h w
  have e2 := p45 n f1 f2 k h w ho
  unfold tr S at e1 e2
  rw [e1, oo_some, toI_mk, oo_some, hc, ne_f, bb_false, e2]; rfl
theorem p32e (n f1 f2 : Nat) (k : Int) (h w : List Int) (hc : chk k h w ≠ 0) : puN (n + 17) 32 [tr f1 f2 k h w] = some (.tuple ⟨[I 0, I (chk k h w)]⟩) := by
  refine Eq.trans (b := m32_ (puN (n + 16)) 1000000 k (sl f1 h) (sl f2 w)) (by kernel_rfl) ?_
  unfold m32_
  have e1 := p49 (n + 14) f1 f2 k h w
  unfold tr S at e1
  rw [e1, oo_some, toI_mk, oo_some, ne_t hc, bb_true]
theorem p13 (n f1 f2 : Nat) (k : Int) (h w : List Int) : ∃ P fl, puN (n + 18) 13 [tr f1 f2 k h w] = some (.tuple ⟨[Sl.v 2 (Sl.mk P.length fl (pq P)), I (chk k h w)]⟩) ∧ puN (n + 18) 14 [tr f1 f2 k h w] = some (.tuple ⟨[Sl.v 2 (Sl.mk P.length fl (pq P)), I (chk k h w)]⟩) ∧ P.length ≤ 100 := by
  have e13 : puN (n + 18) 13 [tr f1 f2 k h w] = m13_ (puN (n + 17)) 1000000 k (sl f1 h) (sl f2 w) := by kernel_rfl
  have e14 : puN (n + 18) 14 [tr f1 f2 k h w] = m14_ (puN (n + 17)) 1000000 k (sl f1 h) (sl f2 w) := by kernel_rfl
  by_cases hc : chk k h w = 0
  · have ho := ok_of hc
    have q1 := p29 n f1 f2 k h w ho hc
    have q2 := p32 n f1 f2 k h w ho hc
    have h10 := ho.n10
    have r1 := l13 (n + 1) f1 f2 k h w ho 1000000 0 [] (by omega) (by omega) (by simp)
    have r2 := l14 (n + 1) f1 f2 k h w ho 1000000 0 [] (by omega) (by omega) (by simp)
    refine ⟨hout h w h.length 0, 0, ?_, ?_, ?_⟩
    · rw [e13]; unfold m13_
      unfold tr S at q1
      rw [q1]
      simp only [oo_some, vTup_mk, ll_cons', ll_nil', toI_mk, ne_f, bb_false, hc]
      exact r1
    · rw [e14]; unfold m14_
      unfold tr S at q2
      rw [q2]
      simp only [oo_some, vTup_mk, ll_cons', ll_nil', toI_mk, ne_f, bb_false, hc]
      exact r2
    · have : ∀ f a, (hout h w f a).length ≤ f * h.length := by
        intro f
        induction f with
        | zero => intro a; simp [hout]
        | succ f ih =>
          intro a
          have h1 := hin_len h w a (h.length - (a + 1)) (a + 1)
          have h2 := ih (a + 1)
          unfold hout
          rw [List.length_append, Nat.succ_mul]
          omega
      exact Nat.le_trans (this h.length 0) (Nat.mul_le_mul h10 h10)
  · have q1 := p29e n f1 f2 k h w hc
    have q2 := p32e n f1 f2 k h w hc
    refine ⟨[], 2, ?_, ?_, by simp⟩
    · rw [e13]; unfold m13_
      unfold tr S at q1
      rw [q1]
      simp only [oo_some, vTup_mk, ll_cons', ll_nil', toI_mk, ne_t hc, bb_true]; rfl
    · rw [e14]; unfold m14_
      unfold tr S at q2
      rw [q2]
      simp only [oo_some, vTup_mk, ll_cons', ll_nil', toI_mk, ne_t hc, bb_true]; rfl
theorem l15 (pu : PureF) (m f1 f2 : Nat) (P : List (Nat × Nat)) (hl : P.length < 1000) : ∀ (f i : Nat), P.length - i < f → i ≤ P.length → l15_1 pu m f (Sl.mk P.length f1 (pq P)) (Sl.mk P.length f2 (pq P)) (Int.ofNat i) = some (.bool true) := by
  intro f
  induction f with
  | zero => intro i h; omega
  | succ f ih =>
    intro i h hi
    show b15_1 pu m (l15_1 pu m f) _ _ _ = _
    unfold b15_1
    by_cases hlt : i < P.length
    · obtain ⟨g1, g2⟩ := pq_get P i hlt
      have hb : decide (i * 2 + 2 ≤ (pq P).length) = true := by rw [pq_len]; simp; omega
      rw [lt_true hlt]
      have : bq false (an (ieq (Int.ofNat P[i].1) (Int.ofNat P[i].1)) (an (ieq (Int.ofNat P[i].2) (Int.ofNat P[i].2)) true)) = false := by rw [ieqr, ieqr]; rfl
      simp only [bb_true, toN_mk, oo_some, blt_eq, hlt, decide_true, an_eq, Bool.true_and, ble_eq, len_eq, hb, nthL_eq, g1, g2, toI_mk]
      simp only [an_eq] at this
      rw [this, bb_false, wrapS i (by omega)]
      exact ih (i + 1) (by omega) (by omega)
    · rw [lt_false hlt]; rfl
theorem p15 (n f1 f2 : Nat) (P : List (Nat × Nat)) (hl : P.length < 1000) : puN (n + 1) 15 [Sl.v 2 (Sl.mk P.length f1 (pq P)), Sl.v 2 (Sl.mk P.length f2 (pq P))] = some (.bool true) := by
  refine Eq.trans (b := m15_ (puN n) 1000000 (Sl.mk P.length f1 (pq P)) (Sl.mk P.length f2 (pq P))) (by kernel_rfl) ?_
  unfold m15_
  have : nt (ieq (Int.ofNat P.length) (Int.ofNat P.length)) = false := by rw [ieqr]; rfl
  rw [this, bb_false]
  exact l15 (puN n) 1000000 f1 f2 P hl 1000000 0 (by omega) (by omega)
section
variable (pu : PureF) (n : Nat) (k : Int) (s t : Sl) (e12 : pu 12 [] = some (Value.bool true))
include e12
theorem m3_big : m3_0 pu n true k s t = some (Value.bool true) := by
  unfold m3_0
  simp only [e12, oo_some, vBool_mk, bb_true]
theorem m3_gen {c : Int} {u v : Sl} (e13 : pu 13 [.agg ⟨[.int .i64 k, s.v 1, t.v 1]⟩] = some (.tuple ⟨[u.v 2, .int .i64 c]⟩)) (e14 : pu 14 [.agg ⟨[.int .i64 k, s.v 1, t.v 1]⟩] = some (.tuple ⟨[v.v 2, .int .i64 c]⟩))
    (e15 : pu 15 [u.v 2, v.v 2] = some (Value.bool true)) (b : Bool) : m3_0 pu n b k s t = some (Value.bool true) := by
  have t2 : ∀ s : Sl, toSl 2 (s.v 2) = some s := fun _ => rfl
  cases b with
  | true => exact m3_big pu n k s t e12
  | false =>
    unfold m3_0
    simp -implicitDefEqProofs only [e12, e13, e14, e15, oo_some, vBool_mk, bb_false, bb_true, vTup_mk, ll_cons', ll_nil', t2, toI_mk, ieqr, m3_1]
theorem m3_all {c : Int} {u v : Sl} {b : Bool} (e11 : pu 11 [.agg ⟨[.int .i64 k, s.v 1, t.v 1]⟩] = some (.bool b)) (e13 : pu 13 [.agg ⟨[.int .i64 k, s.v 1, t.v 1]⟩] = some (.tuple ⟨[u.v 2, .int .i64 c]⟩)) (e14 : pu 14 [.agg ⟨[.int .i64 k, s.v 1, t.v 1]⟩] = some (.tuple ⟨[v.v 2, .int .i64 c]⟩))
    (e15 : pu 15 [u.v 2, v.v 2] = some (Value.bool true)) : m3_ pu n k s t = some (Value.bool true) := by
  have g := m3_gen pu n k s t e12 e13 e14 e15
  unfold m3_
  rw [e11, oo_some, vBool_mk, oo_some]
  cases b with
  | true => exact g true
  | false =>
    rw [bb_false]
    cases ilt 7 (Int.ofNat s.n) with
    | true => exact g _
    | false => exact g false
end
theorem e12 (n : Nat) : puN (n + 1) 12 [] = some (Value.bool true) := by kernel_rfl
theorem pHelps (n f1 f2 : Nat) (k : Int) (h w : List Int) : puN (n + 19) 3 [tr f1 f2 k h w] = some (Value.bool true) := by
  refine Eq.trans (b := m3_ (puN (n + 18)) 1000000 k (sl f1 h) (sl f2 w)) (by kernel_rfl) ?_
  obtain ⟨P, fl, e13, e14, hP⟩ := p13 n f1 f2 k h w
  exact m3_all _ _ _ _ _ (e12 (n + 17)) (p11 (n + 17) f1 f2 k h w) e13 e14 (p15 (n + 17) fl fl P (by omega))
end Go.MdHM
