/- The plain law of MendNear, first part: checks. -/
import Derived.Test.YtgplhblofefkjaaDoorSpArgsx
import Derived.Test.YtgplhblofefkjaaDoorMendNJoinx
import Derived.KernelRfl

set_option maxRecDepth 100000
namespace Go.MendNM
open Go.Sp Go.MendN

theorem p60 (n : Nat) (a b c : Int) : puN (n + 1) 60 [I a, I b, I c] = some (Value.bool (decide (a ≤ b) && decide (b ≤ c))) := by
  show bb (nt (ilt b a)) (some (Value.bool (nt (ilt c b)))) (some (Value.bool false)) = _
  by_cases h1 : a ≤ b <;> by_cases h2 : b ≤ c <;> simp [ilt_eq, h1, h2, show (b < a) ↔ ¬ a ≤ b from by omega, show (c < b) ↔ ¬ b ≤ c from by omega]
theorem p61 (n : Nat) (a b c : Int) : puN (n + 1) 61 [I a, I b, I c] = some (Value.bool (decide (b ≤ a) && decide (a ≤ c))) := by
  show bb (nt (ilt a b)) (some (Value.bool (nt (ilt c a)))) (some (Value.bool false)) = _
  by_cases h1 : b ≤ a <;> by_cases h2 : a ≤ c <;> simp [ilt_eq, h1, h2, show (a < b) ↔ ¬ b ≤ a from by omega, show (c < a) ↔ ¬ a ≤ c from by omega]

theorem lt_true {a b : Nat} (h : a < b) : ilt (Int.ofNat a) (Int.ofNat b) = true := by simp [ilt_eq, h]
theorem lt_false {a b : Nat} (h : ¬ a < b) : ilt (Int.ofNat a) (Int.ofNat b) = false := by simp [ilt_eq]; omega

theorem l62 (pu : PureF) (n fl : Nat) (l : List Int) (x : Int) (hl : l.length < 1000) : ∀ (w i : Nat) (z : Nat), l.length - i < w → i ≤ l.length → z ≤ i →
    l62_1 pu n w (sl fl l) x (Int.ofNat z) (Int.ofNat i) = some (I (Int.ofNat (z + (l.drop i).count x))) := by
  intro w
  induction w with
  | zero => intro i z h; omega
  | succ w ih =>
    intro i z h hi hz
    show b62_1 pu n (l62_1 pu n w) _ _ _ _ = _
    unfold b62_1
    by_cases hlt : i < l.length
    · have e : l.drop i = l[i] :: l.drop (i + 1) := List.drop_eq_getElem_cons hlt
      rw [sl_n, lt_true hlt]
      simp only [bb_true, toN_mk, oo_some, sl_cs, blt_eq, hlt, decide_true, an_eq, Bool.true_and, nthL_eq, Nat.mul_one, getI l i hlt, toI_mk, m62_2, wrapS i (by omega), wrapS z (by omega)]
      by_cases hx : l[i] = x
      · have : ieq l[i] x = true := by simp [ieq_eq, hx]
        rw [this, bb_true, ih (i + 1) (z + 1) (by omega) (by omega) (by omega), e, hx, List.count_cons_self]
        congr 3; omega
      · have : ieq l[i] x = false := by simp [ieq_eq, hx]
        rw [this, bb_false, ih (i + 1) z (by omega) (by omega) (by omega), e, List.count_cons_of_ne hx]
    · have hi : i = l.length := by omega
      rw [sl_n, lt_false hlt]
      simp [hi, m62_0]
theorem p62 (n fl : Nat) (l : List Int) (x : Int) (hl : l.length < 50) : puN (n + 1) 62 [S fl l, I x] = some (I (Int.ofNat (l.count x))) := by
  show l62_1 (puN n) 100 100 (sl fl l) x (Int.ofNat 0) (Int.ofNat 0) = _
  rw [l62 (puN n) 100 fl l x (by omega) 100 0 0 (by omega) (by omega) (by omega)]
  simp

/-- One of two, as a proposition says. -/
noncomputable def ifp (p : Prop) (a b : Int) : Int := @ite _ p (Classical.propDecidable p) a b
theorem ifp_t {p : Prop} {a b : Int} (h : p) : ifp p a b = a := if_pos h
theorem ifp_f {p : Prop} {a b : Int} (h : ¬ p) : ifp p a b = b := if_neg h
theorem ifp_congr {p q : Prop} (h : p ↔ q) (a b : Int) : ifp p a b = ifp q a b := by rw [propext h]

/-- Are all numbers kinds? -/
def inK (k : Int) (l : List Int) : Prop := ∀ x ∈ l, 0 ≤ x ∧ x < k
/-- Does each kind occur as often in both? -/
def evn (K : Nat) (h w : List Int) : Prop := ∀ x : Nat, x < K → h.count (x : Int) = w.count (x : Int)
noncomputable def chk (k : Int) (h w : List Int) : Int :=
  ifp (1 ≤ k ∧ k ≤ 5) (ifp (h.length = 0) 4 (ifp (10 < h.length) 3 (ifp (w.length = h.length) (ifp (inK k h ∧ inK k w) (ifp (evn k.toNat h w) 0 17) 2) 5))) 1
def tr (fl fl' : Nat) (k : Int) (h w : List Int) : Value := .agg ⟨[I k, S fl h, S fl' w]⟩

theorem l22b (n m fl fl' K : Nat) (h w : List Int) (hh : h.length < 50) (hw : w.length < 50) (hK : K ≤ 5) : ∀ (f j : Nat), K - j < f → j ≤ K →
    l22_2 (puN (n + 1)) m f (Int.ofNat j) (Int.ofNat K) (sl fl h) (sl fl' w) = some (I (ifp (∀ x : Nat, j ≤ x → x < K → h.count (x : Int) = w.count (x : Int)) 0 17)) := by
  intro f
  induction f with
  | zero => intro j hj; omega
  | succ f ih =>
    intro j hj hjK
    show b22_2 (puN (n + 1)) m (l22_2 (puN (n + 1)) m f) _ _ _ _ = _
    unfold b22_2
    by_cases hlt : j < K
    · rw [lt_true hlt]
      have e1 := p62 n fl h (Int.ofNat j) hh
      have e2 := p62 n fl' w (Int.ofNat j) hw
      unfold S at e1 e2
      simp only [bb_true, e1, e2, oo_some, toI_mk, wrapS j (by omega)]
      by_cases hc : h.count (j : Int) = w.count (j : Int)
      · have : nt (ieq (Int.ofNat (h.count (Int.ofNat j))) (Int.ofNat (w.count (Int.ofNat j)))) = false := by simp [ieq_eq, hc]
        rw [this, bb_false, ih (j + 1) (by omega) (by omega)]
        congr 2
        refine ifp_congr ⟨?_, ?_⟩ _ _
        · intro g x h1 h2
          by_cases hx : x = j
          · subst hx; exact hc
          · exact g x (by omega) h2
        · intro g x h1 h2; exact g x (by omega) h2
      · have : nt (ieq (Int.ofNat (h.count (Int.ofNat j))) (Int.ofNat (w.count (Int.ofNat j)))) = true := by
          simp [ieq_eq]; omega
        rw [this, bb_true, ifp_f (fun g => hc (g j (Nat.le_refl _) hlt))]
    · rw [lt_false hlt]
      have : j = K := by omega
      subst this
      rw [ifp_t (fun x h1 h2 => by omega)]
      rfl

theorem inK_cons {k x : Int} {l : List Int} : inK k (x :: l) ↔ (0 ≤ x ∧ x < k) ∧ inK k l := by simp [inK]
theorem l22c (n m fl fl' K : Nat) (h w : List Int) (hh : h.length ≤ 10) (hw : w.length = h.length) (hK1 : 1 ≤ K) (hK : K ≤ 5) (hm : 20 ≤ m) : ∀ (f i : Nat), h.length - i < f → i ≤ h.length →
    l22_3 (puN (n + 1)) m f (Int.ofNat i) (Int.ofNat K) (sl fl h) (sl fl' w) = some (I (ifp (inK K (h.drop i) ∧ inK K (w.drop i)) (ifp (evn K h w) 0 17) 2)) := by
  intro f
  induction f with
  | zero => intro i hi; omega
  | succ f ih =>
    intro i hi hil
    show b22_3 (puN (n + 1)) m (l22_3 (puN (n + 1)) m f) _ _ _ _ = _
    unfold b22_3
    by_cases hlt : i < h.length
    · have hlw : i < w.length := by omega
      have e1 : h.drop i = h[i] :: h.drop (i + 1) := List.drop_eq_getElem_cons hlt
      have e2 : w.drop i = w[i] :: w.drop (i + 1) := List.drop_eq_getElem_cons hlw
      have hk : wrapF .i64 (Int.sub (Int.ofNat K) 1) = (K : Int) - 1 := wrapI _ (by show _ ≤ (K : Int) - 1; omega) (by show (K : Int) - 1 ≤ _; omega)
      have q1 := p61 n h[i] 0 ((K : Int) - 1)
      have q2 := p61 n w[i] 0 ((K : Int) - 1)
      rw [sl_n, lt_true hlt]
      simp only [bb_true, toN_mk, oo_some, sl_n, sl_cs, blt_eq, hlt, hlw, decide_true, an_eq, Bool.true_and, nthL_eq, Nat.mul_one, getI h i hlt, getI w i hlw, toI_mk, hk, q1, q2, vBool_mk, m22_4, wrapS i (by omega)]
      rw [e1, e2]
      by_cases c1 : 0 ≤ h[i] ∧ h[i] < K
      · have d1 : (decide (0 ≤ h[i]) && decide (h[i] ≤ (K : Int) - 1)) = true := by simp; omega
        by_cases c2 : 0 ≤ w[i] ∧ w[i] < K
        · have d2 : (decide (0 ≤ w[i]) && decide (w[i] ≤ (K : Int) - 1)) = true := by simp; omega
          simp only [d1, d2, nt_eq, Bool.not_true, bb_false]
          rw [ih (i + 1) (by omega) (by omega)]
          congr 2
          refine ifp_congr ?_ _ _
          rw [inK_cons, inK_cons]
          exact ⟨fun g => ⟨⟨c1, g.1⟩, c2, g.2⟩, fun g => ⟨g.1.2, g.2.2⟩⟩
        · have d2 : (decide (0 ≤ w[i]) && decide (w[i] ≤ (K : Int) - 1)) = false := by simp; omega
          simp only [d1, d2, nt_eq, Bool.not_true, Bool.not_false, bb_false, bb_true]
          rw [ifp_f (by rw [inK_cons, inK_cons]; exact fun g => c2 g.2.1)]
      · have d1 : (decide (0 ≤ h[i]) && decide (h[i] ≤ (K : Int) - 1)) = false := by simp; omega
        simp only [d1, nt_eq, Bool.not_false, bb_true]
        rw [ifp_f (by rw [inK_cons, inK_cons]; exact fun g => c1 g.1.1)]
    · have : i = h.length := by omega
      subst this
      rw [sl_n, lt_false hlt]
      simp only [bb_false, m22_0]
      have := l22b n m fl fl' K h w (by omega) (by omega) hK m 0 (by omega) (by omega)
      rw [show (0 : Int) = Int.ofNat 0 from rfl, this]
      rw [ifp_t (p := inK _ _ ∧ inK _ _) (by rw [List.drop_of_length_le (Nat.le_refl _), List.drop_of_length_le (by omega)]; simp [inK])]
      congr 2
      exact ifp_congr ⟨fun g x hx => g x (Nat.zero_le _) hx, fun g x _ hx => g x hx⟩ _ _

theorem p22 (n fl fl' : Nat) (k : Int) (h w : List Int) : puN (n + 2) 22 [tr fl fl' k h w] = some (I (chk k h w)) := by
  show oo (puN (n + 1) 61 [I k, I 1, I 5]) none (fun v => oo (vBool v) none fun b => bb (nt b) (some (I 1)) (bb (ieq (Int.ofNat h.length) 0) (some (I 4)) (bb (ilt 10 (Int.ofNat h.length)) (some (I 3)) (bb (nt (ieq (Int.ofNat w.length) (Int.ofNat h.length))) (some (I 5))
    (l22_3 (puN (n + 1)) 100 100 (Int.ofNat 0) k (sl fl h) (sl fl' w)))))) = _
  rw [p61]
  simp only [oo_some, vBool_mk]
  unfold chk
  by_cases hk : 1 ≤ k ∧ k ≤ 5
  · obtain ⟨K, rfl⟩ : ∃ K : Nat, k = K := ⟨k.toNat, by omega⟩
    have d : (decide ((1 : Int) ≤ K) && decide ((K : Int) ≤ 5)) = true := by simp; omega
    rw [d, ifp_t hk]
    simp only [nt_eq, Bool.not_true, bb_false, ieq_eq, ilt_eq]
    by_cases h0 : h.length = 0
    · rw [ifp_t h0]; simp [h0]
    · rw [ifp_f h0]
      have d3 : (Int.ofNat h.length == 0) = false := by simp; exact fun e => h0 (by rw [e]; rfl)
      by_cases h1 : 10 < h.length
      · have d2 : decide ((10 : Int) < Int.ofNat h.length) = true := by simp; omega
        rw [ifp_t h1, d2, d3]; rfl
      · have d2 : decide ((10 : Int) < Int.ofNat h.length) = false := by simp; omega
        rw [ifp_f h1, d2, d3]
        simp only [bb_false]
        by_cases h2 : w.length = h.length
        · have d4 : (Int.ofNat w.length == Int.ofNat h.length) = true := by simp [h2]
          rw [ifp_t h2, d4]
          simp only [Bool.not_true, bb_false]
          have := l22c n 100 fl fl' K h w (by omega) h2 (by omega) (by omega) (by omega) 100 0 (by omega) (by omega)
          rw [show ((K : Nat) : Int) = Int.ofNat K from rfl, this]
          rfl
        · have d4 : (Int.ofNat w.length == Int.ofNat h.length) = false := by simp; omega
          rw [ifp_f h2, d4]; rfl
  · have d : (decide ((1 : Int) ≤ k) && decide (k ≤ 5)) = false := by simp; omega
    rw [d, ifp_f hk]; rfl
end Go.MendNM
/- The plain law of MendNear, second part: the program's check. -/
set_option maxRecDepth 100000
namespace Go.MendNM
open Go.Sp Go.MendN

theorem setL_one {α : Type} (v : α) : ∀ (i : Nat) (xs : List α), i < xs.length → setL [v] i xs = xs.set i v
  | 0, x :: xs, _ => rfl
  | i + 1, x :: xs, h => by
    show x :: setL [v] i xs = x :: xs.set i v
    rw [setL_one v i xs (by simpa using h)]
  | _, [], h => by simp at h

theorem m21_end (pu : PureF) (n : Nat) (q : List Int) (hq : q.length = 5) : m21_0 pu n (q.map I) = some (I (ifp (∀ j, (h : j < q.length) → q[j] = 0) 0 17)) := by
  match q, hq with
  | [a, b, c, d, e], _ =>
    show bb (bq false (an (ieq a 0) (an (ieq b 0) (an (ieq c 0) (an (ieq d 0) (an (ieq e 0) true)))))) (some (I 17)) (some (I 0)) = _
    by_cases h : a = 0 ∧ b = 0 ∧ c = 0 ∧ d = 0 ∧ e = 0
    · obtain ⟨rfl, rfl, rfl, rfl, rfl⟩ := h
      rw [ifp_t (by intro j hj; match j, hj with | 0, _ => rfl | 1, _ => rfl | 2, _ => rfl | 3, _ => rfl | 4, _ => rfl | j + 5, hj => simp at hj; omega)]
      rfl
    · rw [ifp_f (fun g => h ⟨g 0 (by simp), g 1 (by simp), g 2 (by simp), g 3 (by simp), g 4 (by simp)⟩)]
      have : (bq false (an (ieq a 0) (an (ieq b 0) (an (ieq c 0) (an (ieq d 0) (an (ieq e 0) true)))))) = true := by
        simp [ieq_eq]; omega
      rw [this]; rfl

/-- One more here, one less there. -/
def upd (q : List Int) (X Y : Nat) : List Int := (q.set X (q.getD X 0 + 1)).set Y ((q.set X (q.getD X 0 + 1)).getD Y 0 - 1)
theorem upd_len (q : List Int) (X Y : Nat) : (upd q X Y).length = q.length := by simp [upd]
theorem upd_get (q : List Int) (X Y j : Nat) (hX : X < q.length) (hY : Y < q.length) (hj : j < q.length) :
    (upd q X Y).getD j 0 = q.getD j 0 + (if j = X then 1 else 0) - (if j = Y then 1 else 0) := by
  unfold upd
  simp only [List.getD_eq_getElem?_getD, List.getElem?_set, List.length_set]
  by_cases h1 : j = X <;> by_cases h2 : j = Y <;> simp [h1, h2, hX, hY, hj, eq_comm] <;> (try subst h1) <;> (try subst h2) <;> simp_all [eq_comm] <;> omega

theorem set_getD (q : List Int) (X Y : Nat) (v : Int) (hX : X < q.length) : (q.set X v).getD Y 0 = if Y = X then v else q.getD Y 0 := by
  simp only [List.getD_eq_getElem?_getD, List.getElem?_set]
  by_cases h : X = Y
  · subst h; simp [hX]
  · rw [if_neg h, if_neg (fun e => h e.symm)]
theorem m21_step (pu : PureF) (n : Nat) (ih0 : Sl → Int → Int → Int → Sl → Sl → List Value → Option Value) (X Y i : Nat) (s t u : Sl) (z k : Int) (q : List Int) (hq : q.length = 5) (hX : X < 5) (hY : Y < 5) (hi : i < 1000)
    (hb : ∀ j, j < 5 → -1000 ≤ q.getD j 0 ∧ q.getD j 0 ≤ 1000) :
    m21_2 pu n ih0 (Int.ofNat X) (Int.ofNat Y) s z (Int.ofNat i) false k t u (q.map I) = ih0 s z (Int.ofNat (i + 1)) k t u ((upd q X Y).map I) := by
  unfold m21_2
  have gX : q[X]'(by omega) = q.getD X 0 := by simp [List.getD_eq_getElem?_getD, hq, hX]
  have w1 : wrapF .i64 (Int.add (q.getD X 0) 1) = q.getD X 0 + 1 := wrapI _ (by have := hb X hX; show _ ≤ q.getD X 0 + 1; omega) (by have := hb X hX; show q.getD X 0 + 1 ≤ _; omega)
  have s1 : setL ([I (q.getD X 0 + 1)] : List Value) X (q.map I) = (q.set X (q.getD X 0 + 1)).map I := by
    rw [setL_one _ _ _ (by simp [hq, hX]), List.map_set]
  have hl1 : (q.set X (q.getD X 0 + 1)).length = 5 := by simp [hq]
  have gY : (q.set X (q.getD X 0 + 1))[Y]'(by omega) = (q.set X (q.getD X 0 + 1)).getD Y 0 := by simp [List.getD_eq_getElem?_getD, hq, hY]
  have hbY : -1001 ≤ (q.set X (q.getD X 0 + 1)).getD Y 0 ∧ (q.set X (q.getD X 0 + 1)).getD Y 0 ≤ 1001 := by
    have h1 := hb X hX
    have h2 := hb Y hY
    rw [set_getD _ _ _ _ (by omega)]
    split <;> omega
  have w2 : wrapF .i64 (Int.sub ((q.set X (q.getD X 0 + 1)).getD Y 0) 1) = (q.set X (q.getD X 0 + 1)).getD Y 0 - 1 := wrapI _ (by show _ ≤ (q.set X (q.getD X 0 + 1)).getD Y 0 - 1; omega) (by show (q.set X (q.getD X 0 + 1)).getD Y 0 - 1 ≤ _; omega)
  have s2 : setL ([I ((q.set X (q.getD X 0 + 1)).getD Y 0 - 1)] : List Value) Y ((q.set X (q.getD X 0 + 1)).map I) = (upd q X Y).map I := by
    rw [setL_one _ _ _ (by simp [hq, hY]), ← List.map_set]; rfl
  have e1 : (q.map I)[X]? = some (I (q.getD X 0)) := by rw [getI q X (by omega), gX]
  have e2 : ((q.set X (q.getD X 0 + 1)).map I)[Y]? = some (I ((q.set X (q.getD X 0 + 1)).getD Y 0)) := by rw [getI _ Y (by omega), gY]
  simp only [bb_false, allL_eq, closedI, bb_true, toN_mk, oo_some, blt_eq, hX, hY, decide_true, nthL_eq, Nat.zero_add, Nat.mul_one, e1, toI_mk, w1, s1, ble_eq, len_eq, List.length_map, hq, hl1, an_eq, Bool.and_true, Nat.succ_le_of_lt hX, Nat.succ_le_of_lt hY, e2, w2, s2, wrapS i (by omega : i < 1000000)]

theorem count_take {l : List Int} {i : Nat} (h : i < l.length) (x : Int) : (l.take (i + 1)).count x = (l.take i).count x + (if l[i] = x then 1 else 0) := by
  rw [List.take_add_one, List.getElem?_eq_getElem h, Option.toList_some, List.count_append, List.count_singleton]
  simp only [beq_iff_eq]
theorem inK_take {k : Int} {l : List Int} {i : Nat} (h : i < l.length) (h1 : inK k (l.take i)) (h2 : 0 ≤ l[i] ∧ l[i] < k) : inK k (l.take (i + 1)) := by
  rw [List.take_add_one, List.getElem?_eq_getElem h]
  intro x hx
  simp only [Option.toList_some, List.mem_append, List.mem_singleton] at hx
  rcases hx with hx | rfl
  · exact h1 x hx
  · exact h2
theorem count_out {k : Int} {l : List Int} (h : inK k l) {x : Int} (hx : k ≤ x) : l.count x = 0 := by
  rw [List.count_eq_zero]
  intro hm
  have := (h x hm).2
  omega

theorem l21 (n m fl fl' K : Nat) (h w : List Int) (hh : h.length ≤ 10) (hw : w.length = h.length) (hK1 : 1 ≤ K) (hK : K ≤ 5) : ∀ (f i : Nat) (q : List Int), h.length - i < f → i ≤ h.length → q.length = 5 →
    (∀ j, j < 5 → q.getD j 0 = (h.take i).count (j : Int) - (w.take i).count (j : Int)) → inK K (h.take i) → inK K (w.take i) →
    l21_1 (puN (n + 1)) m f (sl fl h) (Int.ofNat h.length) (Int.ofNat i) (Int.ofNat K) (sl fl h) (sl fl' w) (q.map I) = some (I (ifp (inK K (h.drop i) ∧ inK K (w.drop i)) (ifp (evn K h w) 0 17) 2)) := by
  intro f
  induction f with
  | zero => intro i q hi; omega
  | succ f ih =>
    intro i q hi hil hq hinv hih hiw
    show b21_1 (puN (n + 1)) m (l21_1 (puN (n + 1)) m f) _ _ _ _ _ _ _ = _
    unfold b21_1
    rw [allL_eq, closedI, bb_true]
    by_cases hlt : i < h.length
    · have hlw : i < w.length := by omega
      have e1 : h.drop i = h[i] :: h.drop (i + 1) := List.drop_eq_getElem_cons hlt
      have e2 : w.drop i = w[i] :: w.drop (i + 1) := List.drop_eq_getElem_cons hlw
      have hk : wrapF .i64 (Int.sub (Int.ofNat K) 1) = (K : Int) - 1 := wrapI _ (by show _ ≤ (K : Int) - 1; omega) (by show (K : Int) - 1 ≤ _; omega)
      rw [lt_true hlt]
      simp only [bb_true, toN_mk, oo_some, sl_n, sl_cs, blt_eq, hlt, hlw, decide_true, an_eq, Bool.true_and, nthL_eq, Nat.mul_one, getI h i hlt, getI w i hlw, toI_mk, hk]
      rw [show (0 : Int) = Int.ofNat 0 from rfl, show (Value.int IntKind.i64 (Int.ofNat 0)) = I 0 from rfl, p60 n 0 (bb (ilt w[i] h[i]) w[i] h[i]) ((K : Int) - 1)]
      simp only [oo_some, vBool_mk]
      rw [e1, e2]
      by_cases c : (0 ≤ h[i] ∧ h[i] < K) ∧ (0 ≤ w[i] ∧ w[i] < K)
      · have d1 : (decide (0 ≤ bb (ilt w[i] h[i]) w[i] h[i]) && decide (bb (ilt w[i] h[i]) w[i] h[i] ≤ (K : Int) - 1)) = true := by
          cases hc : ilt w[i] h[i] <;> rw [bb_eq] <;> simp only [Bool.and_eq_true, decide_eq_true_iff, if_true, Bool.false_eq_true, if_false] <;> exact ⟨by omega, by omega⟩
        have d2 : nt (ilt (bb (ilt h[i] w[i]) w[i] h[i]) (Int.ofNat K)) = false := by
          cases hc : ilt h[i] w[i] <;> simp [ilt_eq]
          all_goals omega
        rw [d1, d2]
        simp only [nt_eq, Bool.not_true, bb_false]
        obtain ⟨X, hX⟩ : ∃ X : Nat, h[i] = Int.ofNat X := ⟨h[i].toNat, (Int.toNat_of_nonneg c.1.1).symm⟩
        obtain ⟨Y, hY⟩ : ∃ Y : Nat, w[i] = Int.ofNat Y := ⟨w[i].toNat, (Int.toNat_of_nonneg c.2.1).symm⟩
        rw [hX, hY] at c
        simp only [Int.ofNat_eq_natCast] at c
        have hbq : ∀ j, j < 5 → -1000 ≤ q.getD j 0 ∧ q.getD j 0 ≤ 1000 := fun j hj => by
          have := hinv j hj
          have c1 := List.count_le_length (a := (j : Int)) (l := h.take i)
          have c2 := List.count_le_length (a := (j : Int)) (l := w.take i)
          simp only [List.length_take] at c1 c2
          omega
        rw [hX, hY, m21_step _ _ _ X Y i _ _ _ _ _ q hq (by omega) (by omega) (by omega) hbq, ih (i + 1) (upd q X Y) (by omega) (by omega) (by rw [upd_len, hq]) ?_ (inK_take hlt hih (by rw [hX]; simp; omega)) (inK_take hlw hiw (by rw [hY]; simp; omega))]
        · congr 2
          refine ifp_congr ?_ _ _
          rw [inK_cons, inK_cons]
          refine ⟨fun g => ⟨⟨?_, g.1⟩, ?_, g.2⟩, fun g => ⟨g.1.2, g.2.2⟩⟩
          · simp; omega
          · simp; omega
        · intro j hj
          rw [upd_get q X Y j (by omega) (by omega) (by omega), hinv j hj, count_take hlt, count_take hlw, hX, hY]
          have t1 : (Int.ofNat X = (j : Int)) ↔ j = X := by simp; omega
          have t2 : (Int.ofNat Y = (j : Int)) ↔ j = Y := by simp; omega
          simp only [t1, t2]
          split <;> split <;> simp <;> omega
      · rw [ifp_f (by rw [inK_cons, inK_cons]; exact fun g => c ⟨g.1.1, g.2.1⟩)]
        by_cases d1 : (decide (0 ≤ bb (ilt w[i] h[i]) w[i] h[i]) && decide (bb (ilt w[i] h[i]) w[i] h[i] ≤ (K : Int) - 1)) = true
        · have d2 : nt (ilt (bb (ilt h[i] w[i]) w[i] h[i]) (Int.ofNat K)) = true := by
            cases hc : ilt w[i] h[i] <;> rw [hc] at d1 <;> cases hc2 : ilt h[i] w[i] <;> rw [ilt_eq] at hc hc2 <;> simp only [bb_true, bb_false, Bool.and_eq_true, decide_eq_true_iff, decide_eq_false_iff_not] at d1 hc hc2 <;> obtain ⟨d1, d3⟩ := d1 <;> have d1 := of_decide_eq_true d1 <;> have d3 := of_decide_eq_true d3 <;> simp [ilt_eq] <;> omega
          rw [d1, d2]; rfl
        · rw [Bool.not_eq_true] at d1
          rw [d1]; rfl
    · have : i = h.length := by omega
      subst this
      rw [lt_false hlt, bb_false, m21_end _ _ _ hq]
      rw [ifp_t (p := inK _ _ ∧ inK _ _) (by rw [List.drop_of_length_le (Nat.le_refl _), List.drop_of_length_le (by omega)]; simp [inK])]
      rw [List.take_length] at hih hinv
      rw [← hw, List.take_length] at hiw hinv
      congr 2
      refine ifp_congr ⟨fun g x hx => ?_, fun g j hj => ?_⟩ _ _
      · have h1 := hinv x (by omega)
        have h2 := g x (by omega)
        rw [List.getD_eq_getElem?_getD, List.getElem?_eq_getElem (by omega), Option.getD_some, h2] at h1
        omega
      · have h1 := hinv j (by omega)
        rw [List.getD_eq_getElem?_getD, List.getElem?_eq_getElem hj, Option.getD_some] at h1
        rw [h1]
        by_cases hx : j < K
        · rw [g j hx]; omega
        · rw [count_out hih (by omega : (K : Int) ≤ (j : Int)), count_out hiw (by omega : (K : Int) ≤ (j : Int))]; rfl

theorem p21 (n fl fl' : Nat) (k : Int) (h w : List Int) : puN (n + 2) 21 [tr fl fl' k h w] = some (I (chk k h w)) := by
  show oo (puN (n + 1) 60 [I 1, I k, I 5]) none (fun v => oo (vBool v) none fun b => bb (nt b) (some (I 1)) (bb (ieq (Int.ofNat h.length) 0) (some (I 4)) (bb (ilt 10 (Int.ofNat h.length)) (some (I 3)) (bb (nt (ieq (Int.ofNat w.length) (Int.ofNat h.length))) (some (I 5))
    (l21_1 (puN (n + 1)) 100 100 (sl fl h) (Int.ofNat h.length) (Int.ofNat 0) k (sl fl h) (sl fl' w) (([0, 0, 0, 0, 0] : List Int).map I)))))) = _
  rw [p60]
  simp only [oo_some, vBool_mk]
  unfold chk
  by_cases hk : 1 ≤ k ∧ k ≤ 5
  · obtain ⟨K, rfl⟩ : ∃ K : Nat, k = K := ⟨k.toNat, by omega⟩
    have d : (decide ((1 : Int) ≤ K) && decide ((K : Int) ≤ 5)) = true := by simp; omega
    rw [d, ifp_t hk]
    simp only [nt_eq, Bool.not_true, bb_false, ieq_eq, ilt_eq]
    by_cases h0 : h.length = 0
    · rw [ifp_t h0]; simp [h0]
    · rw [ifp_f h0]
      have d3 : (Int.ofNat h.length == 0) = false := by simp; exact fun e => h0 (by rw [e]; rfl)
      by_cases h1 : 10 < h.length
      · have d2 : decide ((10 : Int) < Int.ofNat h.length) = true := by simp; omega
        rw [ifp_t h1, d2, d3]; rfl
      · have d2 : decide ((10 : Int) < Int.ofNat h.length) = false := by simp; omega
        rw [ifp_f h1, d2, d3]
        simp only [bb_false]
        by_cases h2 : w.length = h.length
        · have d4 : (Int.ofNat w.length == Int.ofNat h.length) = true := by simp [h2]
          rw [ifp_t h2, d4]
          simp only [Bool.not_true, bb_false]
          have := l21 n 100 fl fl' K h w (by omega) h2 (by omega) (by omega) 100 0 [0, 0, 0, 0, 0] (by omega) (by omega) rfl (by intro j hj; match j, hj with | 0, _ => rfl | 1, _ => rfl | 2, _ => rfl | 3, _ => rfl | 4, _ => rfl | j + 5, hj => omega) (by simp [inK]) (by simp [inK])
          rw [show ((K : Nat) : Int) = Int.ofNat K from rfl, this]
          rfl
        · have d4 : (Int.ofNat w.length == Int.ofNat h.length) = false := by simp; omega
          rw [ifp_f h2, d4]; rfl
  · have d : (decide ((1 : Int) ≤ k) && decide (k ≤ 5)) = false := by simp; omega
    rw [d, ifp_f hk]; rfl
end Go.MendNM
/- The plain law of MendNear: how bad a tray can be; sources. -/
set_option maxRecDepth 100000
namespace Go.MendNM
open Go.Sp Go.MendN

/-- Two integers behind a result. -/
noncomputable def decode (o : Option Value) : Option (Int × Int) := oo o none fun v => oo (vTup v) none fun l => ll l none fun x l => ll l none fun y l => ll l (oo (toI .i64 x) none fun c => oo (toI .i64 y) none fun e => some (c, e)) fun _ _ => none
theorem decode_ok {o : Option Value} {c e : Int} (h : decode o = some (c, e)) : o = some (.tuple ⟨[I c, I e]⟩) := by
  obtain ⟨v, hv, h⟩ := oo_inv h
  obtain ⟨l, hl, h⟩ := oo_inv h
  have hq := ll_uncons h; clear h; obtain ⟨x, l1, rfl, h⟩ := hq
  have hq := ll_uncons h; clear h; obtain ⟨y, l2, rfl, h⟩ := hq
  have hq := ll_end h; clear h; obtain ⟨rfl, h⟩ := hq
  obtain ⟨c', hc, h⟩ := oo_inv h
  obtain ⟨e', he, h⟩ := oo_inv h
  injection h with h; injection h with h1 h2; subst h1; subst h2
  rw [hv, vTup_some hl, toI_some hc, toI_some he]
noncomputable def eq2 (a b : Option Value) : Bool := oo (decode a) false fun p => oo (decode b) false fun q => pp p fun c e => pp q fun c' e' => an (ieq c c') (ieq e e')
theorem eq2_ok {a b : Option Value} (h : eq2 a b = true) : ∃ c e, a = some (.tuple ⟨[I c, I e]⟩) ∧ b = some (.tuple ⟨[I c, I e]⟩) := by
  unfold eq2 at h
  cases ha : decode a with
  | none => rw [ha] at h; cases h
  | some p =>
    cases hb : decode b with
    | none => rw [ha, hb] at h; cases h
    | some q =>
      obtain ⟨c, e⟩ := p
      obtain ⟨c', e'⟩ := q
      rw [ha, hb] at h
      have h : an (ieq c c') (ieq e e') = true := h
      simp [ieq_eq] at h
      obtain ⟨rfl, rfl⟩ := h
      exact ⟨c, e, decode_ok ha, decode_ok hb⟩
theorem allMost (n : Nat) : belowAll (fun i => belowAll (fun j => eq2 (puN (n + 2) 31 [I (Int.ofNat (i + 1)), I (Int.ofNat (j + 1))]) (puN (n + 2) 32 [I (Int.ofNat (i + 1)), I (Int.ofNat (j + 1))])) 5) 10 = true := by kernel_rfl
theorem pMost (n : Nat) (a b : Int) : ∃ c e, puN (n + 2) 31 [I a, I b] = some (.tuple ⟨[I c, I e]⟩) ∧ puN (n + 2) 32 [I a, I b] = some (.tuple ⟨[I c, I e]⟩) := by
  by_cases h : (1 ≤ a ∧ a ≤ 10) ∧ (1 ≤ b ∧ b ≤ 5)
  · have := belowAll_iff (belowAll_iff (allMost n) (a.toNat - 1) (by omega)) (b.toNat - 1) (by omega)
    rw [show Int.ofNat (a.toNat - 1 + 1) = a by simp; omega, show Int.ofNat (b.toNat - 1 + 1) = b by simp; omega] at this
    exact eq2_ok this
  · refine ⟨0, 1, ?_, ?_⟩
    · show oo (puN (n + 1) 60 [I 1, I a, I 10]) none (fun v => oo (vBool v) none fun c => bb (nt c) (m31_0 (puN (n + 1)) 100 a b true) (oo (puN (n + 1) 60 [I 1, I b, I 5]) none fun v => oo (vBool v) none fun c => m31_0 (puN (n + 1)) 100 a b (nt c))) = _
      rw [p60, p60]
      simp only [oo_some, vBool_mk]
      by_cases h1 : 1 ≤ a ∧ a ≤ 10
      · have d1 : (decide ((1 : Int) ≤ a) && decide (a ≤ 10)) = true := by simp; omega
        have d2 : (decide ((1 : Int) ≤ b) && decide (b ≤ 5)) = false := by simp; omega
        rw [d1, d2]; rfl
      · have d1 : (decide ((1 : Int) ≤ a) && decide (a ≤ 10)) = false := by simp; omega
        rw [d1]; rfl
    · show oo (puN (n + 1) 61 [I a, I 1, I 10]) none (fun v => oo (vBool v) none fun c => bb (nt c) (m32_0 (puN (n + 1)) 100 a b true) (oo (puN (n + 1) 61 [I b, I 1, I 5]) none fun v => oo (vBool v) none fun c => m32_0 (puN (n + 1)) 100 a b (nt c))) = _
      rw [p61, p61]
      simp only [oo_some, vBool_mk]
      by_cases h1 : 1 ≤ a ∧ a ≤ 10
      · have d1 : (decide ((1 : Int) ≤ a) && decide (a ≤ 10)) = true := by simp; omega
        have d2 : (decide ((1 : Int) ≤ b) && decide (b ≤ 5)) = false := by simp; omega
        rw [d1, d2]; rfl
      · have d1 : (decide ((1 : Int) ≤ a) && decide (a ≤ 10)) = false := by simp; omega
        rw [d1]; rfl

theorem chk_zero {k : Int} {h w : List Int} (hc : chk k h w = 0) : 1 ≤ k ∧ k ≤ 5 ∧ h.length ≤ 10 ∧ w.length = h.length ∧ inK k h ∧ inK k w ∧ evn k.toNat h w := by
  unfold chk at hc
  by_cases h1 : 1 ≤ k ∧ k ≤ 5
  · rw [ifp_t h1] at hc
    by_cases h2 : h.length = 0
    · rw [ifp_t h2] at hc; omega
    · rw [ifp_f h2] at hc
      by_cases h3 : 10 < h.length
      · rw [ifp_t h3] at hc; omega
      · rw [ifp_f h3] at hc
        by_cases h4 : w.length = h.length
        · rw [ifp_t h4] at hc
          by_cases h5 : inK k h ∧ inK k w
          · rw [ifp_t h5] at hc
            by_cases h6 : evn k.toNat h w
            · exact ⟨h1.1, h1.2, by omega, h4, h5.1, h5.2, h6⟩
            · rw [ifp_f h6] at hc; omega
          · rw [ifp_f h5] at hc; omega
        · rw [ifp_f h4] at hc; omega
  · rw [ifp_f h1] at hc; omega
theorem ne_t {x : Int} (h : x ≠ 0) : nt (ieq x 0) = true := by simp [ieq_eq, h]
theorem ne_f (x : Int) : nt (ieq x x) = false := by simp [ieq_eq]
theorem ieqr (x : Int) : ieq x x = true := by simp [ieq_eq]
theorem roomyS {n : Nat} (h : n ≤ 1000) : roomy n 8 = true := by
  unfold roomy; rw [ble_eq]; simp; omega
theorem growI (l : List Int) (h : l.length < 1000) : growC 1 8 l.length (2 * l.length) 1 (l.map I) = true := by
  unfold growC
  have e : (2 * l.length) / 2 = l.length := by omega
  have e2 : (2 * l.length) % 2 = 0 := by omega
  rw [e, e2, roomyS (by omega)]
  have b1 : Nat.ble (l.length + 1) l.length = false := by rw [ble_eq]; simp
  have b2 : Nat.ble (0 + l.length * 1) (len (l.map I)) = true := by rw [ble_eq]; simp
  have b3 : Nat.beq (0 + l.length * 1) (len (l.map I)) = true := by simp
  rw [b1, b2, b3]; rfl
theorem takeM (l : List Int) : List.take l.length (l.map I) = l.map I := List.take_of_length_le (by simp)

/-- Where a number stands. -/
def idxF (v : Int) : List Int → Nat → List Int
  | [], _ => []
  | x :: h, i => if x = v then (i : Int) :: idxF v h (i + 1) else idxF v h (i + 1)
theorem idxF_cons (v x : Int) (h : List Int) (i : Nat) : idxF v (x :: h) i = if x = v then (i : Int) :: idxF v h (i + 1) else idxF v h (i + 1) := rfl
theorem idxF_len (v : Int) : ∀ (h : List Int) (i : Nat), (idxF v h i).length = h.count v
  | [], i => rfl
  | x :: h, i => by
    unfold idxF
    by_cases hx : x = v
    · rw [if_pos hx, hx, List.count_cons_self, List.length_cons, idxF_len v h]
    · rw [if_neg hx, List.count_cons_of_ne hx, idxF_len v h]
/-- The place of the nth one. -/
def occ (v : Int) : List Int → Nat → Nat → Nat
  | [], _, i => i
  | x :: h, c, i => if x = v then (match c with | 0 => i | c + 1 => occ v h c (i + 1)) else occ v h c (i + 1)
theorem idxF_occ (v : Int) : ∀ (h : List Int) (i c : Nat), c < h.count v → (idxF v h i).getD c 0 = (occ v h c i : Int)
  | [], i, c, hc => by simp at hc
  | x :: h, i, c, hc => by
    unfold idxF occ
    by_cases hx : x = v
    · rw [if_pos hx, if_pos hx]
      rw [hx, List.count_cons_self] at hc
      cases c with
      | zero => rfl
      | succ c => exact idxF_occ v h (i + 1) c (by omega)
    · rw [if_neg hx, if_neg hx]
      rw [List.count_cons_of_ne hx] at hc
      exact idxF_occ v h (i + 1) c hc

/-- All sources: 'pre' are the wants before. -/
def srcs (h : List Int) : List Int → List Int → List Int
  | [], _ => []
  | v :: w, pre => (occ v h (pre.count v) 0 : Int) :: srcs h w (pre ++ [v])

theorem srcs_cons (h : List Int) (v : Int) (w pre : List Int) : srcs h (v :: w) pre = (occ v h (pre.count v) 0 : Int) :: srcs h w (pre ++ [v]) := rfl
theorem occ_hit0 (v : Int) (h : List Int) (i : Nat) : occ v (v :: h) 0 i = i := by unfold occ; rw [if_pos rfl]
theorem occ_hit (v : Int) (h : List Int) (c i : Nat) : occ v (v :: h) (c + 1) i = occ v h c (i + 1) := by
  show (if v = v then _ else _) = _
  rw [if_pos rfl]
theorem occ_miss {x v : Int} (hx : x ≠ v) (h : List Int) (c i : Nat) : occ v (x :: h) c i = occ v h c (i + 1) := by
  show (if x = v then _ else _) = _
  rw [if_neg hx]

section
variable (pu : PureF) (n : Nat)
/-- The first loop: places, kind by kind. -/
noncomputable def Lp3 (k : Int) (s t : Sl) (h : List Int) (f i : Nat) (A : Nat → List Int) : Option Value :=
  l69_3 pu n f s (Int.ofNat h.length) (Int.ofNat i) k s t (A 0).length (2 * (A 0).length) (A 1).length (2 * (A 1).length) (A 2).length (2 * (A 2).length) (A 3).length (2 * (A 3).length) (A 4).length (2 * (A 4).length)
    ((A 0).map I) ((A 1).map I) ((A 2).map I) ((A 3).map I) ((A 4).map I)
noncomputable def M0 (k : Int) (s t : Sl) (A : Nat → List Int) : Option Value :=
  m69_0 pu n k s t (A 0).length (2 * (A 0).length) (A 1).length (2 * (A 1).length) (A 2).length (2 * (A 2).length) (A 3).length (2 * (A 3).length) (A 4).length (2 * (A 4).length)
    ((A 0).map I) ((A 1).map I) ((A 2).map I) ((A 3).map I) ((A 4).map I)
def put (A : Nat → List Int) (K : Nat) (i : Nat) : Nat → List Int := fun j => if j = K then A j ++ [(i : Int)] else A j
theorem step3 (k : Int) (s t : Sl) (h : List Int) (fl : Nat) (hs : s = sl fl h) (f i : Nat) (A : Nat → List Int) (hA : ∀ j, (A j).length < 1000) (hi : i < h.length) (hh : h.length < 1000) (K : Nat) (hK : h[i] = Int.ofNat K) (hK5 : K < 5) :
    Lp3 pu n k s t h (f + 1) i A = Lp3 pu n k s t h f (i + 1) (put A K i) := by
  subst hs
  show b69_3 pu n (l69_3 pu n f) _ _ _ _ _ _ _ _ _ _ _ _ _ _ _ _ _ _ _ _ _ = _
  unfold b69_3 Lp3
  have ea : ∀ r : List Int, appL (dropL 0 (r.map I)) [I (Int.ofNat i)] = (r ++ [(i : Int)]).map I := fun r => by simp
  have e1 : (h.map I)[i]? = some (I (Int.ofNat K)) := by rw [getI h i hi, hK]
  rw [lt_true hi]
  simp only [allL_eq, closedI, bb_true, toN_mk, oo_some, sl_n, sl_cs, blt_eq, hi, decide_true, an_eq, Bool.true_and, nthL_eq, Nat.mul_one, e1, toI_mk, wrapS i (by omega : i < 1000000)]
  match K, hK5 with
  | 0, _ => simp only [show Nat.beq 0 0 = true from rfl, bb_true, growI _ (hA 0), ea, allL_eq, closedI, put, if_true, show (1 : Nat) ≠ 0 from by omega, show (2 : Nat) ≠ 0 from by omega, show (3 : Nat) ≠ 0 from by omega, show (4 : Nat) ≠ 0 from by omega, if_false, List.length_append, List.length_cons, List.length_nil, bb_false, Nat.add_zero, Nat.zero_add]
  | 1, _ => simp only [show Nat.beq 1 0 = false from rfl, show Nat.beq 1 1 = true from rfl, bb_true, growI _ (hA 1), ea, allL_eq, closedI, put, if_true, show (0 : Nat) ≠ 1 from by omega, show (2 : Nat) ≠ 1 from by omega, show (3 : Nat) ≠ 1 from by omega, show (4 : Nat) ≠ 1 from by omega, if_false, List.length_append, List.length_cons, List.length_nil, bb_false, Nat.add_zero, Nat.zero_add]
  | 2, _ => simp only [show Nat.beq 2 0 = false from rfl, show Nat.beq 2 1 = false from rfl, show Nat.beq 2 2 = true from rfl, bb_true, growI _ (hA 2), ea, allL_eq, closedI, put, if_true, show (0 : Nat) ≠ 2 from by omega, show (1 : Nat) ≠ 2 from by omega, show (3 : Nat) ≠ 2 from by omega, show (4 : Nat) ≠ 2 from by omega, if_false, List.length_append, List.length_cons, List.length_nil, bb_false, Nat.add_zero, Nat.zero_add]
  | 3, _ => simp only [show Nat.beq 3 0 = false from rfl, show Nat.beq 3 1 = false from rfl, show Nat.beq 3 2 = false from rfl, show Nat.beq 3 3 = true from rfl, bb_true, growI _ (hA 3), ea, allL_eq, closedI, put, if_true, show (0 : Nat) ≠ 3 from by omega, show (1 : Nat) ≠ 3 from by omega, show (2 : Nat) ≠ 3 from by omega, show (4 : Nat) ≠ 3 from by omega, if_false, List.length_append, List.length_cons, List.length_nil, bb_false, Nat.add_zero, Nat.zero_add]
  | 4, _ => simp only [show Nat.beq 4 0 = false from rfl, show Nat.beq 4 1 = false from rfl, show Nat.beq 4 2 = false from rfl, show Nat.beq 4 3 = false from rfl, show Nat.beq 4 4 = true from rfl, bb_true, growI _ (hA 4), ea, allL_eq, closedI, put, if_true, show (0 : Nat) ≠ 4 from by omega, show (1 : Nat) ≠ 4 from by omega, show (2 : Nat) ≠ 4 from by omega, show (3 : Nat) ≠ 4 from by omega, if_false, List.length_append, List.length_cons, List.length_nil, bb_false, Nat.add_zero, Nat.zero_add]
theorem loop3 (k : Int) (s t : Sl) (h : List Int) (fl : Nat) (hs : s = sl fl h) (hin : inK k h) (hk : k ≤ 5) (hh : h.length < 100) : ∀ (f i : Nat) (A : Nat → List Int), h.length - i < f → i ≤ h.length → (∀ j, (A j).length ≤ i) →
    Lp3 pu n k s t h f i A = M0 pu n k s t (fun j => A j ++ idxF (j : Int) (h.drop i) i) := by
  intro f
  induction f with
  | zero => intro i A hf; omega
  | succ f ih =>
    intro i A hf hi hA
    by_cases hlt : i < h.length
    · have hm := hin _ (List.getElem_mem hlt)
      obtain ⟨K, hK⟩ : ∃ K : Nat, h[i] = Int.ofNat K := ⟨h[i].toNat, (Int.toNat_of_nonneg hm.1).symm⟩
      have hK5 : K < 5 := by rw [hK] at hm; simp at hm; omega
      rw [step3 pu n k s t h fl hs f i A (fun j => by have := hA j; omega) hlt (by omega) K hK hK5, ih (i + 1) (put A K i) (by omega) (by omega) (fun j => by have := hA j; unfold put; split <;> simp <;> omega)]
      congr 1
      funext j
      have e : h.drop i = h[i] :: h.drop (i + 1) := List.drop_eq_getElem_cons hlt
      rw [e, hK, idxF_cons]
      unfold put
      by_cases hj : j = K
      · subst hj
        rw [if_pos rfl, if_pos (show Int.ofNat j = (j : Int) from rfl)]; simp
      · rw [if_neg hj, if_neg (by simp; omega)]
    · have : i = h.length := by omega
      subst this
      subst hs
      show b69_3 pu n (l69_3 pu n f) _ _ _ _ _ _ _ _ _ _ _ _ _ _ _ _ _ _ _ _ _ = _
      unfold b69_3
      rw [lt_false hlt]
      simp only [allL_eq, closedI, bb_true, bb_false, List.drop_length, idxF, List.append_nil]
      rfl
end
end Go.MendNM
/- The plain law of MendNear: sources, second part. -/
set_option maxRecDepth 100000
namespace Go.MendNM
open Go.Sp Go.MendN

theorem getD_I (l : List Int) (i : Nat) (h : i < l.length) : (l.map I)[i]? = some (I (l.getD i 0)) := by rw [getI l i h]; simp [h]
theorem endS (pu : PureF) (n c : Nat) (r : List Int) : m69_1 pu n r.length c (r.map I) = some (S 0 r) := by
  unfold m69_1
  simp only [allL_eq, closedI, bb_true, ble_eq, len_eq, List.length_map, Nat.zero_add, Nat.mul_one, Nat.le_refl, decide_true, an_eq, Bool.true_and, takeL_eq, dropL_eq, List.drop_zero, takeM]
  rfl
section
variable (pu : PureF) (n : Nat)
/-- The second loop: 'U' are used, 'B' the places. -/
noncomputable def Lp2 (t : Sl) (w : List Int) (f i : Nat) (r : List Int) (U : Nat → Nat) (c : Nat → Nat) (B : Nat → List Int) : Option Value :=
  l69_2 pu n f r.length (2 * r.length) t (Int.ofNat w.length) (Int.ofNat i) (U 0) ((B 0).length - U 0) (c 0) (U 1) ((B 1).length - U 1) (c 1) (U 2) ((B 2).length - U 2) (c 2) (U 3) ((B 3).length - U 3) (c 3) (U 4) ((B 4).length - U 4) (c 4)
    (r.map I) ((B 0).map I) ((B 1).map I) ((B 2).map I) ((B 3).map I) ((B 4).map I)
def one (U : Nat → Nat) (K : Nat) : Nat → Nat := fun j => if j = K then U j + 1 else U j
theorem step2 (t : Sl) (w : List Int) (fl : Nat) (ht : t = sl fl w) (f i : Nat) (r : List Int) (U c : Nat → Nat) (B : Nat → List Int) (hi : i < w.length) (hw : w.length < 1000) (hr : r.length < 1000) (K : Nat) (hK : w[i] = Int.ofNat K) (hK5 : K < 5) (hU : U K < (B K).length) :
    ∃ c', Lp2 pu n t w (f + 1) i r U c B = Lp2 pu n t w f (i + 1) (r ++ [(B K).getD (U K) 0]) (one U K) c' B := by
  subst ht
  have ea : ∀ x : Int, appL (dropL 0 (r.map I)) [I x] = (r ++ [x]).map I := fun x => by simp
  have e1 : (w.map I)[i]? = some (I (Int.ofNat K)) := by rw [getI w i hi, hK]
  have e2 : ((B K).map I)[U K]? = some (I ((B K).getD (U K) 0)) := getD_I _ _ hU
  have e3 : Nat.blt 0 ((B K).length - U K) = true := by rw [blt_eq]; simp; omega
  have e4 : Nat.ble 1 ((B K).length - U K) = true := by rw [ble_eq]; simp; omega
  have e5 : (B K).length - U K - 1 = (B K).length - (U K + 1) := by omega
  have g := growI r hr
  show ∃ c', b69_2 pu n (l69_2 pu n f) _ _ _ _ _ _ _ _ _ _ _ _ _ _ _ _ _ _ _ _ _ _ _ _ _ _ = _
  unfold b69_2 Lp2
  match K, hK5 with
  | 0, _ =>
    refine ⟨fun j => if j = 0 then 2 * (c 0 / 2 - 1) + bb (orr false (Nat.beq (c 0 % 2) 1)) 1 0 else c j, ?_⟩
    rw [lt_true hi]
    simp only [allL_eq, closedI, bb_true, toN_mk, oo_some, sl_n, sl_cs, blt_eq, hi, decide_true, an_eq, Bool.true_and, nthL_eq, Nat.mul_one, e1, toI_mk, wrapS i (by omega : i < 1000000), show Nat.beq 0 0 = true from rfl]
    rw [blt_eq, decide_eq_true_iff] at e3
    simp only [e3, e4, decide_true, Bool.true_and, bb_true, Nat.zero_mul, Nat.add_zero, e2, oo_some, toI_mk, g, ea, allL_eq, closedI, one, if_true, show (1 : Nat) ≠ 0 from by omega, show (2 : Nat) ≠ 0 from by omega, show (3 : Nat) ≠ 0 from by omega, show (4 : Nat) ≠ 0 from by omega, if_false, List.length_append, List.length_cons, List.length_nil, bb_false, Nat.add_zero, Nat.zero_add, e5]
  | 1, _ =>
    refine ⟨fun j => if j = 1 then 2 * (c 1 / 2 - 1) + bb (orr false (Nat.beq (c 1 % 2) 1)) 1 0 else c j, ?_⟩
    rw [lt_true hi]
    simp only [allL_eq, closedI, bb_true, toN_mk, oo_some, sl_n, sl_cs, blt_eq, hi, decide_true, an_eq, Bool.true_and, nthL_eq, Nat.mul_one, e1, toI_mk, wrapS i (by omega : i < 1000000), show Nat.beq 1 0 = false from rfl, show Nat.beq 1 1 = true from rfl, bb_false]
    rw [blt_eq, decide_eq_true_iff] at e3
    simp only [e3, e4, decide_true, Bool.true_and, bb_true, Nat.zero_mul, Nat.add_zero, e2, oo_some, toI_mk, g, ea, allL_eq, closedI, one, if_true, show (0 : Nat) ≠ 1 from by omega, show (2 : Nat) ≠ 1 from by omega, show (3 : Nat) ≠ 1 from by omega, show (4 : Nat) ≠ 1 from by omega, if_false, List.length_append, List.length_cons, List.length_nil, bb_false, Nat.add_zero, Nat.zero_add, e5]
  | 2, _ =>
    refine ⟨fun j => if j = 2 then 2 * (c 2 / 2 - 1) + bb (orr false (Nat.beq (c 2 % 2) 1)) 1 0 else c j, ?_⟩
    rw [lt_true hi]
    simp only [allL_eq, closedI, bb_true, toN_mk, oo_some, sl_n, sl_cs, blt_eq, hi, decide_true, an_eq, Bool.true_and, nthL_eq, Nat.mul_one, e1, toI_mk, wrapS i (by omega : i < 1000000), show Nat.beq 2 0 = false from rfl, show Nat.beq 2 1 = false from rfl, show Nat.beq 2 2 = true from rfl, bb_false]
    rw [blt_eq, decide_eq_true_iff] at e3
    simp only [e3, e4, decide_true, Bool.true_and, bb_true, Nat.zero_mul, Nat.add_zero, e2, oo_some, toI_mk, g, ea, allL_eq, closedI, one, if_true, show (0 : Nat) ≠ 2 from by omega, show (1 : Nat) ≠ 2 from by omega, show (3 : Nat) ≠ 2 from by omega, show (4 : Nat) ≠ 2 from by omega, if_false, List.length_append, List.length_cons, List.length_nil, bb_false, Nat.add_zero, Nat.zero_add, e5]
  | 3, _ =>
    refine ⟨fun j => if j = 3 then 2 * (c 3 / 2 - 1) + bb (orr false (Nat.beq (c 3 % 2) 1)) 1 0 else c j, ?_⟩
    rw [lt_true hi]
    simp only [allL_eq, closedI, bb_true, toN_mk, oo_some, sl_n, sl_cs, blt_eq, hi, decide_true, an_eq, Bool.true_and, nthL_eq, Nat.mul_one, e1, toI_mk, wrapS i (by omega : i < 1000000), show Nat.beq 3 0 = false from rfl, show Nat.beq 3 1 = false from rfl, show Nat.beq 3 2 = false from rfl, show Nat.beq 3 3 = true from rfl, bb_false]
    rw [blt_eq, decide_eq_true_iff] at e3
    simp only [e3, e4, decide_true, Bool.true_and, bb_true, Nat.zero_mul, Nat.add_zero, e2, oo_some, toI_mk, g, ea, allL_eq, closedI, one, if_true, show (0 : Nat) ≠ 3 from by omega, show (1 : Nat) ≠ 3 from by omega, show (2 : Nat) ≠ 3 from by omega, show (4 : Nat) ≠ 3 from by omega, if_false, List.length_append, List.length_cons, List.length_nil, bb_false, Nat.add_zero, Nat.zero_add, e5]
  | 4, _ =>
    refine ⟨fun j => if j = 4 then 2 * (c 4 / 2 - 1) + bb (orr false (Nat.beq (c 4 % 2) 1)) 1 0 else c j, ?_⟩
    rw [lt_true hi]
    simp only [allL_eq, closedI, bb_true, toN_mk, oo_some, sl_n, sl_cs, blt_eq, hi, decide_true, an_eq, Bool.true_and, nthL_eq, Nat.mul_one, e1, toI_mk, wrapS i (by omega : i < 1000000), show Nat.beq 4 0 = false from rfl, show Nat.beq 4 1 = false from rfl, show Nat.beq 4 2 = false from rfl, show Nat.beq 4 3 = false from rfl, show Nat.beq 4 4 = true from rfl, bb_false]
    rw [blt_eq, decide_eq_true_iff] at e3
    simp only [e3, e4, decide_true, Bool.true_and, bb_true, Nat.zero_mul, Nat.add_zero, e2, oo_some, toI_mk, g, ea, allL_eq, closedI, one, if_true, show (0 : Nat) ≠ 4 from by omega, show (1 : Nat) ≠ 4 from by omega, show (2 : Nat) ≠ 4 from by omega, show (3 : Nat) ≠ 4 from by omega, if_false, List.length_append, List.length_cons, List.length_nil, bb_false, Nat.add_zero, Nat.zero_add, e5]

theorem loop2 (t : Sl) (h w : List Int) (fl : Nat) (ht : t = sl fl w) (k : Int) (hin : inK k w) (hk : k ≤ 5) (hw : w.length < 100) (hcnt : ∀ j : Nat, j < 5 → w.count (j : Int) ≤ h.count (j : Int)) : ∀ (f i : Nat) (r : List Int) (c : Nat → Nat), w.length - i < f → i ≤ w.length → r.length ≤ i →
    Lp2 pu n t w f i r (fun j => (w.take i).count (j : Int)) c (fun j => idxF (j : Int) h 0) = some (S 0 (r ++ srcs h (w.drop i) (w.take i))) := by
  intro f
  induction f with
  | zero => intro i r c hf; omega
  | succ f ih =>
    intro i r c hf hi hr
    by_cases hlt : i < w.length
    · have hm := hin _ (List.getElem_mem hlt)
      obtain ⟨K, hK⟩ : ∃ K : Nat, w[i] = Int.ofNat K := ⟨w[i].toNat, (Int.toNat_of_nonneg hm.1).symm⟩
      have hK5 : K < 5 := by rw [hK] at hm; simp at hm; omega
      have hs : (w.take (i + 1)) = w.take i ++ [w[i]] := by rw [List.take_add_one, List.getElem?_eq_getElem hlt]; rfl
      have hlt2 : (w.take i).count (K : Int) < h.count (K : Int) := by
        have h1 : (w.take (i + 1)).count (K : Int) ≤ w.count (K : Int) := List.Sublist.count_le _ (List.take_sublist _ _)
        rw [hs, List.count_append, hK] at h1
        have := hcnt K hK5
        simp at h1
        omega
      obtain ⟨c', hc'⟩ := step2 pu n t w fl ht f i r (fun j => (w.take i).count (j : Int)) c (fun j => idxF (j : Int) h 0) hlt (by omega) (by omega) K hK hK5 (by rw [idxF_len]; exact hlt2)
      rw [hc']
      have eU : one (fun j : Nat => (w.take i).count (j : Int)) K = fun j : Nat => (w.take (i + 1)).count (j : Int) := by
        funext j
        unfold one
        rw [hs, List.count_append, hK, List.count_singleton]
        by_cases hj : j = K
        · subst hj; simp
        · rw [if_neg hj]
          have : ((Int.ofNat K) == (j : Int)) = false := by simp; omega
          rw [this]; simp
      rw [eU, ih (i + 1) _ c' (by omega) (by omega) (by simp; omega)]
      have e : w.drop i = w[i] :: w.drop (i + 1) := List.drop_eq_getElem_cons hlt
      rw [e, srcs_cons, ← hs, hK, idxF_occ _ _ _ _ hlt2]
      simp
    · have : i = w.length := by omega
      subst this
      subst ht
      show b69_2 pu n (l69_2 pu n f) _ _ _ _ _ _ _ _ _ _ _ _ _ _ _ _ _ _ _ _ _ _ _ _ _ _ = _
      unfold b69_2
      rw [lt_false hlt]
      simp only [allL_eq, closedI, bb_true, bb_false, List.drop_length, srcs, List.append_nil, endS]
end

theorem p69 (n fl fl' : Nat) (k : Int) (h w : List Int) (hc : chk k h w = 0) : puN (n + 1) 69 [tr fl fl' k h w] = some (S 0 (srcs h w [])) := by
  obtain ⟨h1, h2, h3, h4, h5, h6, h7⟩ := chk_zero hc
  have e : puN (n + 1) 69 [tr fl fl' k h w] = Lp3 (puN n) 100 k (sl fl h) (sl fl' w) h 100 0 (fun _ => []) := by kernel_rfl
  rw [e, loop3 (puN n) 100 k (sl fl h) (sl fl' w) h fl rfl h5 h2 (by omega) 100 0 (fun _ => []) (by omega) (by omega) (fun j => by simp)]
  simp only [List.nil_append, List.drop_zero]
  have hcnt : ∀ j : Nat, j < 5 → w.count (j : Int) ≤ h.count (j : Int) := fun j hj => by
    by_cases hjk : j < k.toNat
    · rw [h7 j hjk]; exact Nat.le_refl _
    · rw [count_out h6 (by omega : k ≤ (j : Int))]; exact Nat.zero_le _
  have := loop2 (puN n) 100 (sl fl' w) h w fl' rfl k h6 h2 (by omega) hcnt 100 0 [] (fun j => 2 * (idxF (j : Int) h 0).length) (by omega) (by omega) (by simp)
  simp only [List.nil_append, List.drop_zero, List.take_zero] at this
  rw [← this]
  unfold M0 m69_0 Lp2
  simp only [allL_eq, closedI, bb_true, sl_n, List.count_nil, Nat.sub_zero, List.length_nil, List.map_nil, Nat.mul_zero]
  rfl
end Go.MendNM
/- The plain law of MendNear: the reference's sources; exchanges of neighbours; the law. -/
set_option maxRecDepth 100000
namespace Go.MendNM
open Go.Sp Go.MendN

theorem ne_t2 {x y : Int} (h : x ≠ y) : nt (ieq x y) = true := by simp [ieq_eq, h]
/-- A part from the beginning. -/
theorem part0 (l : List Int) (i : Nat) (h : i ≤ l.length) (b : Nat) : (⟨i - 0, b, takeL ((i - 0) * 1) (dropL (0 * 1) (l.map I))⟩ : Sl) = sl b (l.take i) := by
  unfold sl
  simp only [takeL_eq, dropL_eq, Nat.zero_mul, List.drop_zero, Nat.sub_zero, Nat.mul_one, List.length_take, ← List.map_take, Nat.min_eq_left h]
theorem p62' (m b : Nat) (l : List Int) (x : Int) (hl : l.length < 50) : puN (m + 1) 62 [Sl.v 1 (sl b l), I x] = some (I (Int.ofNat (l.count x))) := p62 m b l x hl

theorem l70 (m n : Nat) (k : Int) (h w : List Int) (fl' p cnt : Nat) (hp : p < w.length) (hh : h.length < 50) : ∀ (f i : Nat), h.length - i < f → i < h.length → (h.take i).count (w.getD p 0) ≤ cnt → cnt < h.count (w.getD p 0) →
    l70_1 (puN (m + 1)) n f (Int.ofNat p) (Int.ofNat cnt) (Int.ofNat i) k (sl 0 h) (sl fl' w) = some (I (Int.ofNat (occ (w.getD p 0) (h.drop i) (cnt - (h.take i).count (w.getD p 0)) i))) := by
  intro f
  induction f with
  | zero => intro i hf; omega
  | succ f ih =>
    intro i hf hi h1 h2
    show b70_1 (puN (m + 1)) n (l70_1 (puN (m + 1)) n f) _ _ _ _ _ _ = _
    unfold b70_1
    have e : h.drop i = h[i] :: h.drop (i + 1) := List.drop_eq_getElem_cons hi
    have hs := count_take hi (w.getD p 0)
    have hg : h.getD i 0 = h[i] := by simp [hi]
    -- there is one behind
    have hmore : (h.take i).count (w.getD p 0) + (h.drop i).count (w.getD p 0) = h.count (w.getD p 0) := by rw [← List.count_append, List.take_append_drop]
    have hnext : ∀ (q : (h.take (i + 1)).count (w.getD p 0) ≤ cnt), i + 1 < h.length := fun q => by
      by_cases hlt : i + 1 < h.length
      · exact hlt
      · have : i + 1 = h.length := by omega
        rw [this, List.take_length] at q
        omega
    simp only [toN_mk, oo_some, sl_n, sl_cs, blt_eq, hi, hp, decide_true, an_eq, Bool.true_and, bb_true, nthL_eq, Nat.mul_one, getD_I h i hi, getD_I w p hp, toI_mk]
    rw [e]
    by_cases hx : h[i] = w.getD p 0
    · rw [hg, hx, ne_f, bb_false]
      rw [if_pos hx] at hs
      have hle : Nat.ble i h.length = true := by rw [ble_eq]; simp; omega
      have q := p62' m (bb (an (Nat.beq i h.length) (orr false (Nat.beq 0 1))) 1 0) (h.take i) (w.getD p 0) (by simp; omega)
      rw [← part0 h i (by omega)] at q
      simp only [show (sl 0 h).fl = 0 from rfl, show nt (Nat.beq 0 2) = true from rfl, bb_true, hle, Nat.mul_one, Nat.zero_mul]
      simp only [Nat.mul_one, Nat.zero_mul, an_eq] at q
      rw [q]
      simp only [oo_some, toI_mk, m70_2]
      by_cases hc : (h.take i).count (w.getD p 0) = cnt
      · have : nt (ieq (Int.ofNat ((h.take i).count (w.getD p 0))) (Int.ofNat cnt)) = false := by rw [hc]; exact ne_f _
        rw [this, bb_false, hc, Nat.sub_self, occ_hit0]; rfl
      · have : nt (ieq (Int.ofNat ((h.take i).count (w.getD p 0))) (Int.ofNat cnt)) = true := ne_t2 fun e => hc (Int.ofNat.inj e)
        have hle2 : (h.take (i + 1)).count (w.getD p 0) ≤ cnt := by rw [hs]; exact Nat.lt_of_le_of_ne h1 hc
        have hlt2 := hnext hle2
        rw [this, bb_true, wrapS i (by omega), ih (i + 1) (by omega) hlt2 hle2 h2]
        have e3 : cnt - (h.take i).count (w.getD p 0) = (cnt - (h.take (i + 1)).count (w.getD p 0)) + 1 := by omega
        rw [e3, occ_hit]
    · have : nt (ieq (h.getD i 0) (w.getD p 0)) = true := by rw [hg]; exact ne_t2 hx
      rw [this, bb_true, occ_miss hx]
      rw [if_neg hx, Nat.add_zero] at hs
      simp only [m70_2, bb_true, wrapS i (by omega : i < 1000000)]
      rw [ih (i + 1) (by omega) (hnext (by omega)) (by omega) h2, show (h.take (i + 1)).count (w.getD p 0) = (h.take i).count (w.getD p 0) by omega]
theorem p70 (n p : Nat) (k : Int) (h w : List Int) (hc : chk k h w = 0) (hp : p < w.length) : puN (n + 2) 70 [tr 0 0 k h w, I (Int.ofNat p)] = some (I (Int.ofNat (occ (w.getD p 0) h ((w.take p).count (w.getD p 0)) 0))) := by
  obtain ⟨h1, h2, h3, h4, h5, h6, h7⟩ := chk_zero hc
  have e : puN (n + 2) 70 [tr 0 0 k h w, I (Int.ofNat p)] = m70_ (puN (n + 1)) 100 k (sl 0 h) (sl 0 w) (Int.ofNat p) := by kernel_rfl
  rw [e]; unfold m70_
  have hle : Nat.ble p w.length = true := by rw [ble_eq]; simp; omega
  have q := p62' n (bb (an (Nat.beq p w.length) (orr false (Nat.beq 0 1))) 1 0) (w.take p) (w.getD p 0) (by simp; omega)
  rw [← part0 w p (by omega)] at q
  simp only [show (sl 0 w).fl = 0 from rfl, show nt (Nat.beq 0 2) = true from rfl, bb_true, toN_mk, oo_some, sl_n, sl_cs, hle, blt_eq, hp, decide_true, an_eq, Bool.true_and, nthL_eq, Nat.mul_one, getD_I w p hp, toI_mk, Nat.zero_mul]
  simp only [Nat.mul_one, Nat.zero_mul, an_eq] at q
  rw [q]
  simp only [oo_some, toI_mk]
  have hg : w.getD p 0 = w[p] := by simp [hp]
  have hm := h6 _ (List.getElem_mem hp)
  have hcount : (w.take p).count (w.getD p 0) < h.count (w.getD p 0) := by
    have a1 := count_take hp (w.getD p 0)
    rw [if_pos hg.symm] at a1
    have a2 : (w.take (p + 1)).count (w.getD p 0) ≤ w.count (w.getD p 0) := List.Sublist.count_le _ (List.take_sublist _ _)
    have a3 := h7 (w.getD p 0).toNat (by rw [hg]; omega)
    rw [show (((w.getD p 0).toNat : Nat) : Int) = w.getD p 0 by rw [hg]; omega] at a3
    omega
  have hlen : 0 < h.length := by omega
  have := l70 n 100 k h w 0 p ((w.take p).count (w.getD p 0)) hp (by omega) 100 0 (by omega) hlen (by simp) hcount
  simpa using this

theorem end34 (pu : PureF) (n c : Nat) (r : List Int) : m34_0 pu n r.length c (r.map I) = some (.tuple ⟨[S 0 r, I 0]⟩) := by
  unfold m34_0
  simp only [allL_eq, closedI, bb_true, ble_eq, len_eq, List.length_map, Nat.zero_add, Nat.mul_one, Nat.le_refl, decide_true, an_eq, Bool.true_and, takeL_eq, dropL_eq, List.drop_zero, takeM]
  rfl
theorem l34 (m n : Nat) (k : Int) (h w : List Int) (hc : chk k h w = 0) : ∀ (f i : Nat) (r : List Int), h.length - i < f → i ≤ h.length → r.length ≤ i →
    l34_1 (puN (m + 2)) n f r.length (2 * r.length) (Int.ofNat i) k (sl 0 h) (sl 0 w) (r.map I) = some (.tuple ⟨[S 0 (r ++ srcs h (w.drop i) (w.take i)), I 0]⟩) := by
  obtain ⟨h1, h2, h3, h4, h5, h6, h7⟩ := chk_zero hc
  intro f
  induction f with
  | zero => intro i r hf; omega
  | succ f ih =>
    intro i r hf hi hr
    show b34_1 (puN (m + 2)) n (l34_1 (puN (m + 2)) n f) _ _ _ _ _ _ _ = _
    unfold b34_1
    rw [allL_eq, closedI, bb_true]
    by_cases hlt : i < h.length
    · have hlw : i < w.length := by omega
      have q := p70 m i k h w hc hlw
      unfold tr S at q
      have ea : ∀ x : Int, appL (dropL 0 (r.map I)) [I x] = (r ++ [x]).map I := fun x => by simp
      have e : w.drop i = w[i] :: w.drop (i + 1) := List.drop_eq_getElem_cons hlw
      have hg : w.getD i 0 = w[i] := by simp [hlw]
      rw [sl_n, lt_true hlt, bb_true, q]
      simp only [oo_some, toI_mk, growI r (by omega), bb_true, ea, allL_eq, closedI, wrapS i (by omega : i < 1000000), bb_false, Nat.add_zero]
      have := ih (i + 1) (r ++ [Int.ofNat (occ (w.getD i 0) h ((w.take i).count (w.getD i 0)) 0)]) (by omega) (by omega) (by simp; omega)
      rw [List.length_append, List.length_cons, List.length_nil] at this
      simp only [Nat.zero_add] at this
      rw [this, e, srcs_cons]
      have hs : (w.take (i + 1)) = w.take i ++ [w[i]] := by rw [List.take_add_one, List.getElem?_eq_getElem hlw]; rfl
      rw [← hs, hg]
      simp
    · have : i = h.length := by omega
      subst this
      rw [sl_n, lt_false hlt, bb_false, ← h4, List.drop_length, end34]
      simp [srcs]

theorem p33a (n : Nat) (k : Int) (h w : List Int) (hc : chk k h w ≠ 0) : puN (n + 3) 33 [tr 0 0 k h w] = some (.tuple ⟨[S 2 [], I (chk k h w)]⟩) := by
  have e : puN (n + 3) 33 [tr 0 0 k h w] = m33_ (puN (n + 2)) 100 k (sl 0 h) (sl 0 w) := by kernel_rfl
  rw [e]; unfold m33_
  have e1 := p21 n 0 0 k h w
  unfold tr S at e1
  rw [e1]
  simp only [oo_some, toI_mk, ne_t hc, bb_true]
  rfl
theorem p33b (n : Nat) (k : Int) (h w : List Int) (hc : chk k h w = 0) : puN (n + 3) 33 [tr 0 0 k h w] = some (.tuple ⟨[S 0 (srcs h w []), I 0]⟩) := by
  have e : puN (n + 3) 33 [tr 0 0 k h w] = m33_ (puN (n + 2)) 100 k (sl 0 h) (sl 0 w) := by kernel_rfl
  rw [e]; unfold m33_
  have e1 := p21 n 0 0 k h w
  have e2 := p69 (n + 1) 0 0 k h w hc
  unfold tr S at e1 e2
  rw [hc] at e1
  rw [e1]
  simp only [oo_some, toI_mk, ne_f, bb_false, e2, toSl_mk]
  rfl
theorem p34a (n : Nat) (k : Int) (h w : List Int) (hc : chk k h w ≠ 0) : puN (n + 3) 34 [tr 0 0 k h w] = some (.tuple ⟨[S 2 [], I (chk k h w)]⟩) := by
  have e : puN (n + 3) 34 [tr 0 0 k h w] = m34_ (puN (n + 2)) 100 k (sl 0 h) (sl 0 w) := by kernel_rfl
  rw [e]; unfold m34_
  have e1 := p22 n 0 0 k h w
  unfold tr S at e1
  rw [e1]
  simp only [oo_some, toI_mk, ne_t hc, bb_true]
  rfl
theorem p34b (n : Nat) (k : Int) (h w : List Int) (hc : chk k h w = 0) : puN (n + 3) 34 [tr 0 0 k h w] = some (.tuple ⟨[S 0 (srcs h w []), I 0]⟩) := by
  have e : puN (n + 3) 34 [tr 0 0 k h w] = m34_ (puN (n + 2)) 100 k (sl 0 h) (sl 0 w) := by kernel_rfl
  rw [e]; unfold m34_
  obtain ⟨h1, h2, h3, h4, h5, h6, h7⟩ := chk_zero hc
  have e1 := p22 n 0 0 k h w
  have e2 := l34 n 100 k h w hc 100 0 [] (by omega) (by omega) (by simp)
  unfold tr S at e1
  rw [hc] at e1
  rw [e1]
  simp only [oo_some, toI_mk, ne_f, bb_false]
  simp only [List.length_nil, Nat.mul_zero, List.map_nil, List.nil_append, List.drop_zero, List.take_zero] at e2
  exact e2
end Go.MendNM
/- The plain law of MendNear: exchanges of neighbours; the law. -/
set_option maxRecDepth 100000
namespace Go.MendNM
open Go.Sp Go.MendN

theorem iltD {x y : Int} : (ilt x y = true ↔ x < y) := by rw [ilt_eq, decide_eq_true_iff]
theorem iltF {x y : Int} : (ilt x y = false ↔ ¬ x < y) := by rw [ilt_eq, decide_eq_false_iff_not]
/-- How many are less. -/
def less (a : Int) : List Int → Nat
  | [] => 0
  | b :: l => (if b < a then 1 else 0) + less a l
theorem less_le (a : Int) : ∀ l, less a l ≤ l.length
  | [] => Nat.le_refl _
  | b :: l => by
    have := less_le a l
    show (if b < a then 1 else 0) + less a l ≤ l.length + 1
    split <;> omega
/-- Pairs in the wrong order. -/
def inv : List Int → Nat
  | [] => 0
  | a :: l => less a l + inv l
theorem partD (l : List Int) (i : Nat) (b : Nat) : (⟨l.length - i, b, takeL ((l.length - i) * 1) (dropL (i * 1) (l.map I))⟩ : Sl) = sl b (l.drop i) := by
  unfold sl
  simp only [takeL_eq, dropL_eq, Nat.mul_one, List.length_drop, ← List.map_drop]
  congr 1
  exact List.take_of_length_le (by simp)

theorem in35 (pu : PureF) (n : Nat) (ih0 : Sl → Int → Sl → Int → Int → Option Value) (s s2 : Sl) (N a : Int) (i : Nat) (hi : i < 1000) (b : Nat) (m : List Int) (hm : m.length < 1000) : ∀ (f j z : Nat), m.length - j < f → j ≤ m.length → z + m.length < 100000 + j →
    l35_3 pu n ih0 f s (Int.ofNat z) a s2 N (Int.ofNat i) (sl b m) (Int.ofNat m.length) (Int.ofNat j) = ih0 s (Int.ofNat (z + less a (m.drop j))) s2 N (Int.ofNat (i + 1)) := by
  intro f
  induction f with
  | zero => intro j z h; omega
  | succ f ih =>
    intro j z h hj hz
    show b35_3 pu n ih0 (l35_3 pu n ih0 f) _ _ _ _ _ _ _ _ _ = _
    unfold b35_3
    by_cases hlt : j < m.length
    · have e : m.drop j = m[j] :: m.drop (j + 1) := List.drop_eq_getElem_cons hlt
      rw [lt_true hlt]
      simp only [bb_true, toN_mk, oo_some, sl_n, sl_cs, blt_eq, hlt, decide_true, an_eq, Bool.true_and, nthL_eq, Nat.mul_one, getI m j hlt, toI_mk, m35_4, wrapS j (by omega : j < 1000000), wrapS z (by omega : z < 1000000)]
      rw [e]
      by_cases c : m[j] < a
      · rw [iltD.2 c, bb_true, ih (j + 1) (z + 1) (by omega) (by omega) (by omega)]
        show _ = ih0 s (Int.ofNat (z + ((if m[j] < a then 1 else 0) + less a (m.drop (j + 1))))) s2 N (Int.ofNat (i + 1))
        rw [if_pos c, Nat.add_assoc]
      · rw [iltF.2 c, bb_false, ih (j + 1) z (by omega) (by omega) (by omega)]
        show _ = ih0 s (Int.ofNat (z + ((if m[j] < a then 1 else 0) + less a (m.drop (j + 1))))) s2 N (Int.ofNat (i + 1))
        rw [if_neg c, Nat.zero_add]
    · have : j = m.length := by omega
      subst this
      rw [lt_false hlt, bb_false, List.drop_length]
      simp only [m35_2, wrapS i (by omega : i < 1000000), less, Nat.add_zero]
theorem l35 (pu : PureF) (n : Nat) (hn : 100 ≤ n) (l : List Int) (hl : l.length < 50) : ∀ (f i z : Nat), l.length - i < f → i ≤ l.length → z ≤ i * 50 →
    l35_1 pu n f (sl 0 l) (Int.ofNat z) (sl 0 l) (Int.ofNat l.length) (Int.ofNat i) = some (.tuple ⟨[I (Int.ofNat (z + inv (l.drop i))), I 0]⟩) := by
  intro f
  induction f with
  | zero => intro i z h; omega
  | succ f ih =>
    intro i z h hi hz
    show b35_1 pu n (l35_1 pu n f) _ _ _ _ _ = _
    unfold b35_1
    by_cases hlt : i < l.length
    · have e : l.drop i = l[i] :: l.drop (i + 1) := List.drop_eq_getElem_cons hlt
      have hle : Nat.ble (i + 1) l.length = true := by rw [ble_eq]; simp; omega
      rw [lt_true hlt]
      simp only [bb_true, toN_mk, oo_some, sl_n, sl_cs, blt_eq, hlt, decide_true, an_eq, Bool.true_and, nthL_eq, Nat.mul_one, getI l i hlt, toI_mk, wrapS i (by omega : i < 1000000), show (sl 0 l).fl = 0 from rfl, show nt (Nat.beq 0 2) = true from rfl, hle]
      have pd := partD l (i + 1) (bb (an (Nat.beq l.length l.length) (orr false (Nat.beq 0 1))) 1 0)
      simp only [Nat.mul_one, an_eq] at pd
      rw [pd]
      have ln : l.length - (i + 1) = (l.drop (i + 1)).length := by simp
      rw [ln, show (0 : Int) = Int.ofNat 0 from rfl, in35 pu n (l35_1 pu n f) (sl 0 l) (sl 0 l) (Int.ofNat l.length) l[i] i (by omega) _ (l.drop (i + 1)) (by simp; omega) n 0 z (by simp; omega) (by omega) (by simp; omega), List.drop_zero]
      have lb := less_le l[i] (l.drop (i + 1))
      rw [List.length_drop] at lb
      rw [ih (i + 1) (z + less l[i] (l.drop (i + 1))) (by omega) (by omega) (by omega), e]
      show _ = some (Value.tuple ⟨[I (Int.ofNat (z + (less l[i] (l.drop (i + 1)) + inv (l.drop (i + 1))))), I 0]⟩)
      rw [Nat.add_assoc]
    · have : i = l.length := by omega
      subst this
      rw [lt_false hlt, bb_false, List.drop_length]; rfl

theorem in36 (pu : PureF) (n : Nat) (ih0 : Sl → Int → Int → Option Value) (l : List Int) (i : Nat) (hi : i < l.length) (hl : l.length < 50) : ∀ (f j z : Nat), l.length - j < f → j ≤ l.length → z + l.length < 100000 + j →
    l36_3 pu n ih0 f (sl 0 l) (Int.ofNat z) (Int.ofNat i) (Int.ofNat j) = ih0 (sl 0 l) (Int.ofNat (z + less l[i] (l.drop j))) (Int.ofNat (i + 1)) := by
  intro f
  induction f with
  | zero => intro j z h; omega
  | succ f ih =>
    intro j z h hj hz
    show b36_3 pu n ih0 (l36_3 pu n ih0 f) _ _ _ _ = _
    unfold b36_3
    by_cases hlt : j < l.length
    · have e : l.drop j = l[j] :: l.drop (j + 1) := List.drop_eq_getElem_cons hlt
      rw [sl_n, lt_true hlt]
      simp only [bb_true, toN_mk, oo_some, sl_n, sl_cs, blt_eq, hlt, hi, decide_true, an_eq, Bool.true_and, nthL_eq, Nat.mul_one, getI l j hlt, getI l i hi, toI_mk, m36_4, wrapS j (by omega : j < 1000000), wrapS z (by omega : z < 1000000)]
      rw [e]
      by_cases c : l[j] < l[i]
      · rw [iltD.2 c, bb_true, ih (j + 1) (z + 1) (by omega) (by omega) (by omega)]
        show _ = ih0 (sl 0 l) (Int.ofNat (z + ((if l[j] < l[i] then 1 else 0) + less l[i] (l.drop (j + 1))))) (Int.ofNat (i + 1))
        rw [if_pos c, Nat.add_assoc]
      · rw [iltF.2 c, bb_false, ih (j + 1) z (by omega) (by omega) (by omega)]
        show _ = ih0 (sl 0 l) (Int.ofNat (z + ((if l[j] < l[i] then 1 else 0) + less l[i] (l.drop (j + 1))))) (Int.ofNat (i + 1))
        rw [if_neg c, Nat.zero_add]
    · have : j = l.length := by omega
      subst this
      rw [sl_n, lt_false hlt, bb_false, List.drop_length]
      simp only [m36_2, wrapS i (by omega : i < 1000000), less, Nat.add_zero]
theorem l36 (pu : PureF) (n : Nat) (hn : 100 ≤ n) (l : List Int) (hl : l.length < 50) : ∀ (f i z : Nat), l.length - i < f → i ≤ l.length → z ≤ i * 50 →
    l36_1 pu n f (sl 0 l) (Int.ofNat z) (Int.ofNat i) = some (.tuple ⟨[I (Int.ofNat (z + inv (l.drop i))), I 0]⟩) := by
  intro f
  induction f with
  | zero => intro i z h; omega
  | succ f ih =>
    intro i z h hi hz
    show b36_1 pu n (l36_1 pu n f) _ _ _ = _
    unfold b36_1
    by_cases hlt : i < l.length
    · have e : l.drop i = l[i] :: l.drop (i + 1) := List.drop_eq_getElem_cons hlt
      rw [sl_n, lt_true hlt, bb_true, wrapS i (by omega), in36 pu n (l36_1 pu n f) l i hlt hl n (i + 1) z (by omega) (by omega) (by omega)]
      have lb := less_le l[i] (l.drop (i + 1))
      rw [List.length_drop] at lb
      rw [ih (i + 1) (z + less l[i] (l.drop (i + 1))) (by omega) (by omega) (by omega), e]
      show _ = some (Value.tuple ⟨[I (Int.ofNat (z + (less l[i] (l.drop (i + 1)) + inv (l.drop (i + 1))))), I 0]⟩)
      rw [Nat.add_assoc]
    · have : i = l.length := by omega
      subst this
      rw [sl_n, lt_false hlt, bb_false, List.drop_length]; rfl

theorem srcs_len (h : List Int) : ∀ (w pre : List Int), (srcs h w pre).length = w.length
  | [], _ => rfl
  | v :: w, pre => by rw [srcs_cons, List.length_cons, srcs_len h w, List.length_cons]
theorem p35a (n : Nat) (k : Int) (h w : List Int) (hc : chk k h w ≠ 0) : puN (n + 4) 35 [tr 0 0 k h w] = some (.tuple ⟨[I 0, I (chk k h w)]⟩) := by
  have e : puN (n + 4) 35 [tr 0 0 k h w] = m35_ (puN (n + 3)) 100 k (sl 0 h) (sl 0 w) := by kernel_rfl
  rw [e]; unfold m35_
  have e1 := p21 (n + 1) 0 0 k h w
  unfold tr S at e1
  rw [e1]
  simp only [oo_some, toI_mk, ne_t hc, bb_true]
theorem p35b (n : Nat) (k : Int) (h w : List Int) (hc : chk k h w = 0) : puN (n + 4) 35 [tr 0 0 k h w] = some (.tuple ⟨[I (Int.ofNat (inv (srcs h w []))), I 0]⟩) := by
  have e : puN (n + 4) 35 [tr 0 0 k h w] = m35_ (puN (n + 3)) 100 k (sl 0 h) (sl 0 w) := by kernel_rfl
  rw [e]; unfold m35_
  obtain ⟨h1, h2, h3, h4, h5, h6, h7⟩ := chk_zero hc
  have e1 := p21 (n + 1) 0 0 k h w
  have e2 := p69 (n + 2) 0 0 k h w hc
  have hl : (srcs h w []).length < 50 := by rw [srcs_len]; omega
  have e3 := l35 (puN (n + 3)) 100 (Nat.le_refl _) (srcs h w []) hl 100 0 0 (by omega) (by omega) (by omega)
  unfold tr S at e1 e2
  rw [hc] at e1
  rw [e1]
  simp only [oo_some, toI_mk, ne_f, bb_false, e2, toSl_mk]
  rw [List.drop_zero, Nat.zero_add] at e3
  exact e3
theorem p36a (n : Nat) (k : Int) (h w : List Int) (hc : chk k h w ≠ 0) : puN (n + 4) 36 [tr 0 0 k h w] = some (.tuple ⟨[I 0, I (chk k h w)]⟩) := by
  have e : puN (n + 4) 36 [tr 0 0 k h w] = m36_ (puN (n + 3)) 100 k (sl 0 h) (sl 0 w) := by kernel_rfl
  rw [e]; unfold m36_
  have e1 := p34a n k h w hc
  unfold tr S at e1
  rw [e1]
  simp only [oo_some, vTup_mk, ll_cons', ll_nil', toI_mk, toSl_mk, ne_t hc, bb_true]
theorem p36b (n : Nat) (k : Int) (h w : List Int) (hc : chk k h w = 0) : puN (n + 4) 36 [tr 0 0 k h w] = some (.tuple ⟨[I (Int.ofNat (inv (srcs h w []))), I 0]⟩) := by
  have e : puN (n + 4) 36 [tr 0 0 k h w] = m36_ (puN (n + 3)) 100 k (sl 0 h) (sl 0 w) := by kernel_rfl
  rw [e]; unfold m36_
  obtain ⟨h1, h2, h3, h4, h5, h6, h7⟩ := chk_zero hc
  have e1 := p34b n k h w hc
  have hl : (srcs h w []).length < 50 := by rw [srcs_len]; omega
  have e3 := l36 (puN (n + 3)) 100 (Nat.le_refl _) (srcs h w []) hl 100 0 0 (by omega) (by omega) (by omega)
  unfold tr S at e1
  rw [e1]
  simp only [oo_some, vTup_mk, ll_cons', ll_nil', toI_mk, toSl_mk, ne_f, bb_false]
  rw [List.drop_zero, Nat.zero_add] at e3
  exact e3

theorem p14 (n fl fl' : Nat) (k : Int) (h w : List Int) : puN (n + 1) 14 [tr fl fl' k h w] = some (Value.bool (decide (40 < h.length) || decide (40 < w.length))) := by
  show bb (ilt 40 (Int.ofNat h.length)) (some (Value.bool true)) (some (Value.bool (ilt 40 (Int.ofNat w.length)))) = _
  have e : ∀ m : Nat, ilt 40 (Int.ofNat m) = decide (40 < m) := fun m => by
    rw [ilt_eq, Bool.eq_iff_iff, decide_eq_true_iff, decide_eq_true_iff]; simp; omega
  rw [e, e]
  cases decide (40 < h.length) <;> rfl
theorem l20 (pu : PureF) (n fl fl' : Nat) (l : List Int) (hl : l.length < 1000) : ∀ (f i : Nat), l.length - i < f → i ≤ l.length → l20_1 pu n f (sl fl l) (sl fl' l) (Int.ofNat i) = some (Value.bool true) := by
  intro f
  induction f with
  | zero => intro i h; omega
  | succ f ih =>
    intro i h hi
    show b20_1 pu n (l20_1 pu n f) _ _ _ = _
    unfold b20_1
    by_cases hlt : i < l.length
    · rw [sl_n, lt_true hlt]
      simp only [bb_true, toN_mk, oo_some, sl_n, sl_cs, blt_eq, hlt, decide_true, an_eq, Bool.true_and, nthL_eq, Nat.mul_one, getI l i hlt, toI_mk, wrapS i (by omega), ne_f, bb_false]
      exact ih (i + 1) (by omega) (by omega)
    · rw [sl_n, lt_false hlt]; rfl
theorem p20 (n fl fl' : Nat) (l : List Int) (hl : l.length < 50) : puN (n + 1) 20 [S fl l, S fl' l] = some (Value.bool true) := by
  show bb (nt (ieq (Int.ofNat l.length) (Int.ofNat l.length))) (some (Value.bool false)) (l20_1 (puN n) 100 100 (sl fl l) (sl fl' l) (Int.ofNat 0)) = _
  rw [ne_f, bb_false]
  exact l20 (puN n) 100 fl fl' l (by omega) 100 0 (by omega) (by omega)

section
variable (pu : PureF) (n : Nat) (k a b : Int) (s t : Sl) (e15 : pu 15 [] = some (Value.bool true))
include e15
theorem m6_big (e14 : pu 14 [.agg ⟨[.int .i64 k, s.v 1, t.v 1]⟩] = some (Value.bool true)) : m6_ pu n k s t a b = some (Value.bool true) := by
  unfold m6_
  simp only [e14, e15, oo_some, vBool_mk, bb_true]
theorem m6_gen (e14 : pu 14 [.agg ⟨[.int .i64 k, s.v 1, t.v 1]⟩] = some (Value.bool false)) {c1 c2 d e z : Int} {u : Sl}
    (e31 : pu 31 [.int .i64 a, .int .i64 b] = some (.tuple ⟨[.int .i64 c1, .int .i64 c2]⟩)) (e32 : pu 32 [.int .i64 a, .int .i64 b] = some (.tuple ⟨[.int .i64 c1, .int .i64 c2]⟩))
    (e33 : pu 33 [.agg ⟨[.int .i64 k, s.v 1, t.v 1]⟩] = some (.tuple ⟨[u.v 1, .int .i64 d]⟩)) (e34 : pu 34 [.agg ⟨[.int .i64 k, s.v 1, t.v 1]⟩] = some (.tuple ⟨[u.v 1, .int .i64 d]⟩)) (q : pu 20 [u.v 1, u.v 1] = some (Value.bool true))
    (e35 : pu 35 [.agg ⟨[.int .i64 k, s.v 1, t.v 1]⟩] = some (.tuple ⟨[.int .i64 z, .int .i64 e]⟩)) (e36 : pu 36 [.agg ⟨[.int .i64 k, s.v 1, t.v 1]⟩] = some (.tuple ⟨[.int .i64 z, .int .i64 e]⟩)) : m6_ pu n k s t a b = some (Value.bool true) := by
  unfold m6_
  simp only [e14, e15, e31, e32, e33, e34, e35, e36, q, oo_some, vBool_mk, bb_false, bb_true, vTup_mk, ll_cons', ll_nil', toSl_mk, toI_mk, ieqr, m6_0]
end
theorem e6 (n : Nat) (k a b : Int) (h w : List Int) : puN (n + 5) 6 [tr 0 0 k h w, I a, I b] = m6_ (puN (n + 4)) 100 k (sl 0 h) (sl 0 w) a b := by kernel_rfl
theorem e15 (n : Nat) : puN (n + 4) 15 [] = some (Value.bool true) := by kernel_rfl
theorem p6 (n : Nat) (k a b : Int) (h w : List Int) : puN (n + 5) 6 [tr 0 0 k h w, I a, I b] = some (Value.bool true) := by
  rw [e6]
  have e14 := p14 (n + 3) 0 0 k h w
  by_cases hb : (decide (40 < h.length) || decide (40 < w.length)) = true
  · rw [hb] at e14
    exact m6_big _ _ _ _ _ _ _ (e15 n) e14
  · rw [Bool.not_eq_true] at hb
    rw [hb] at e14
    obtain ⟨c1, c2, q1, q2⟩ := pMost (n + 2) a b
    by_cases hc : chk k h w = 0
    · obtain ⟨h1, h2, h3, h4, h5, h6, h7⟩ := chk_zero hc
      exact m6_gen _ _ _ _ _ _ _ (e15 n) e14 q1 q2 (p33b (n + 1) k h w hc) (p34b (n + 1) k h w hc) (p20 (n + 3) 0 0 _ (by rw [srcs_len]; omega)) (p35b n k h w hc) (p36b n k h w hc)
    · exact m6_gen _ _ _ _ _ _ _ (e15 n) e14 q1 q2 (p33a (n + 1) k h w hc) (p34a (n + 1) k h w hc) (p20 (n + 3) 2 2 [] (by simp)) (p35a n k h w hc) (p36a n k h w hc)
end Go.MendNM
