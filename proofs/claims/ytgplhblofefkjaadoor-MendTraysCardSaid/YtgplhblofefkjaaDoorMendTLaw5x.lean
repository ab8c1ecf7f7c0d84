/- The plain law of MendTrays, first part: checks. -/
import Derived.Test.YtgplhblofefkjaaDoorSpPlainx
import Derived.Test.YtgplhblofefkjaaDoorMendTJoinx
import Derived.KernelRfl

set_option maxRecDepth 100000
namespace Go.MendM
open Go.Sp Go.MendT

theorem p60 (n : Nat) (a b c : Int) : puN (n + 1) 60 [I a, I b, I c] = some (Value.bool (decide (a ≤ b) && decide (b ≤ c))) := by
  show bb (nt (ilt b a)) (some (Value.bool (nt (ilt c b)))) (some (Value.bool false)) = _
  by_cases h1 : a ≤ b <;> by_cases h2 : b ≤ c <;> simp [ilt_eq, h1, h2, show (b < a) ↔ ¬ a ≤ b from by omega, show (c < b) ↔ ¬ b ≤ c from by omega]
theorem p61 (n : Nat) (a b c : Int) : puN (n + 1) 61 [I a, I b, I c] = some (Value.bool (decide (b ≤ a) && decide (a ≤ c))) := by
  show bb (nt (ilt a b)) (some (Value.bool (nt (ilt c a)))) (some (Value.bool false)) = _
  by_cases h1 : b ≤ a <;> by_cases h2 : a ≤ c <;> simp [ilt_eq, h1, h2, show (a < b) ↔ ¬ b ≤ a from by omega, show (c < a) ↔ ¬ a ≤ c from by omega]

theorem lt_true {a b : Nat} (h : a < b) : ilt (Int.ofNat a) (Int.ofNat b) = true := by simp [ilt_eq, h]
theorem lt_false {a b : Nat} (h : ¬ a < b) : ilt (Int.ofNat a) (Int.ofNat b) = false := by simp [ilt_eq]; omega

theorem l62 (pu : PureF) (n fl : Nat) (l : List Int) (x : Int) (hl : l.length < 1000) : ∀ (w i : Nat) (z : Nat), l.length - i < w → i ≤ l.length → z ≤ i →
    l62_1 pu n w (sl fl l) x (Int.ofNat z) (Int.ofNat i) = some (I (Int.ofNat (z + (l.drop i).count x))) := by
  intro w
  induction w with
  | zero => intro i z h; omega
  | succ w ih =>
    intro i z h hi hz
    show b62_1 pu n (l62_1 pu n w) _ _ _ _ = _
    unfold b62_1
    by_cases hlt : i < l.length
    · have e : l.drop i = l[i] :: l.drop (i + 1) := List.drop_eq_getElem_cons hlt
      rw [sl_n, lt_true hlt]
      simp only [bb_true, toN_mk, oo_some, sl_cs, blt_eq, hlt, decide_true, an_eq, Bool.true_and, nthL_eq, Nat.mul_one, getI l i hlt, toI_mk, m62_2, wrapS i (by omega), wrapS z (by omega)]
      by_cases hx : l[i] = x
      · have : ieq l[i] x = true := by simp [ieq_eq, hx]
        rw [this, bb_true, ih (i + 1) (z + 1) (by omega) (by omega) (by omega), e, hx, List.count_cons_self]
        congr 3; omega
      · have : ieq l[i] x = false := by simp [ieq_eq, hx]
        rw [this, bb_false, ih (i + 1) z (by omega) (by omega) (by omega), e, List.count_cons_of_ne hx]
    · have hi : i = l.length := by omega
      rw [sl_n, lt_false hlt]
      simp [hi, m62_0]
theorem p62 (n fl : Nat) (l : List Int) (x : Int) (hl : l.length < 50) : puN (n + 1) 62 [S fl l, I x] = some (I (Int.ofNat (l.count x))) := by
  show l62_1 (puN n) 100 100 (sl fl l) x (Int.ofNat 0) (Int.ofNat 0) = _
  rw [l62 (puN n) 100 fl l x (by omega) 100 0 0 (by omega) (by omega) (by omega)]
  simp

/-- One of two, as a proposition says. -/
noncomputable def ifp (p : Prop) (a b : Int) : Int := @ite _ p (Classical.propDecidable p) a b
theorem ifp_t {p : Prop} {a b : Int} (h : p) : ifp p a b = a := if_pos h
theorem ifp_f {p : Prop} {a b : Int} (h : ¬ p) : ifp p a b = b := if_neg h
theorem ifp_congr {p q : Prop} (h : p ↔ q) (a b : Int) : ifp p a b = ifp q a b := by rw [propext h]

/-- Are all numbers kinds? -/
def inK (k : Int) (l : List Int) : Prop := ∀ x ∈ l, 0 ≤ x ∧ x < k
/-- Does each kind occur as often in both? -/
def evn (K : Nat) (h w : List Int) : Prop := ∀ x : Nat, x < K → h.count (x : Int) = w.count (x : Int)
noncomputable def chk (k : Int) (h w : List Int) : Int :=
  ifp (1 ≤ k ∧ k ≤ 5) (ifp (h.length = 0) 4 (ifp (10 < h.length) 3 (ifp (w.length = h.length) (ifp (inK k h ∧ inK k w) (ifp (evn k.toNat h w) 0 17) 2) 5))) 1
def tr (fl fl' : Nat) (k : Int) (h w : List Int) : Value := .agg ⟨[I k, S fl h, S fl' w]⟩

theorem l22b (n m fl fl' K : Nat) (h w : List Int) (hh : h.length < 50) (hw : w.length < 50) (hK : K ≤ 5) : ∀ (f j : Nat), K - j < f → j ≤ K →
    l22_2 (puN (n + 1)) m f (Int.ofNat j) (Int.ofNat K) (sl fl h) (sl fl' w) = some (I (ifp (∀ x : Nat, j ≤ x → x < K → h.count (x : Int) = w.count (x : Int)) 0 17)) := by
  intro f
  induction f with
  | zero => intro j hj; omega
  | succ f ih =>
    intro j hj hjK
    show b22_2 (puN (n + 1)) m (l22_2 (puN (n + 1)) m f) _ _ _ _ = _
    unfold b22_2
    by_cases hlt : j < K
    · rw [lt_true hlt]
      have e1 := p62 n fl h (Int.ofNat j) hh
      have e2 := p62 n fl' w (Int.ofNat j) hw
      unfold S at e1 e2
      simp only [bb_true, e1, e2, oo_some, toI_mk, wrapS j (by omega)]
      by_cases hc : h.count (j : Int) = w.count (j : Int)
      · have : nt (ieq (Int.ofNat (h.count (Int.ofNat j))) (Int.ofNat (w.count (Int.ofNat j)))) = false := by simp [ieq_eq, hc]
        rw [this, bb_false, ih (j + 1) (by omega) (by omega)]
        congr 2
        refine ifp_congr ⟨?_, ?_⟩ _ _
        · intro g x h1 h2
          by_cases hx : x = j
          · subst hx; exact hc
          · exact g x (by omega) h2
        · intro g x h1 h2; exact g x (by omega) h2
      · have : nt (ieq (Int.ofNat (h.count (Int.ofNat j))) (Int.ofNat (w.count (Int.ofNat j)))) = true := by
          simp [ieq_eq]; omega
        rw [this, bb_true, ifp_f (fun g => hc (g j (Nat.le_refl _) hlt))]
    · rw [lt_false hlt]
      have : j = K := by omega
      subst this
      rw [ifp_t (fun x h1 h2 => by omega)]
      rfl

theorem inK_cons {k x : Int} {l : List Int} : inK k (x :: l) ↔ (0 ≤ x ∧ x < k) ∧ inK k l := by simp [inK]
theorem l22c (n m fl fl' K : Nat) (h w : List Int) (hh : h.length ≤ 10) (hw : w.length = h.length) (hK1 : 1 ≤ K) (hK : K ≤ 5) (hm : 20 ≤ m) : ∀ (f i : Nat), h.length - i < f → i ≤ h.length →
    l22_3 (puN (n + 1)) m f (Int.ofNat i) (Int.ofNat K) (sl fl h) (sl fl' w) = some (I (ifp (inK K (h.drop i) ∧ inK K (w.drop i)) (ifp (evn K h w) 0 17) 2)) := by
  intro f
  induction f with
  | zero => intro i hi; omega
  | succ f ih =>
    intro i hi hil
    show b22_3 (puN (n + 1)) m (l22_3 (puN (n + 1)) m f) _ _ _ _ = _
    unfold b22_3
    by_cases hlt : i < h.length
    · have hlw : i < w.length := by omega
      have e1 : h.drop i = h[i] :: h.drop (i + 1) := List.drop_eq_getElem_cons hlt
      have e2 : w.drop i = w[i] :: w.drop (i + 1) := List.drop_eq_getElem_cons hlw
      have hk : wrapF .i64 (Int.sub (Int.ofNat K) 1) = (K : Int) - 1 := wrapI _ (by show _ ≤ (K : Int) - 1; omega) (by show (K : Int) - 1 ≤ _; omega)
      have q1 := p61 n h[i] 0 ((K : Int) - 1)
      have q2 := p61 n w[i] 0 ((K : Int) - 1)
      rw [sl_n, lt_true hlt]
      simp only [bb_true, toN_mk, oo_some, sl_n, sl_cs, blt_eq, hlt, hlw, decide_true, an_eq, Bool.true_and, nthL_eq, Nat.mul_one, getI h i hlt, getI w i hlw, toI_mk, hk, q1, q2, vBool_mk, m22_4, wrapS i (by omega)]
      rw [e1, e2]
      by_cases c1 : 0 ≤ h[i] ∧ h[i] < K
      · have d1 : (decide (0 ≤ h[i]) && decide (h[i] ≤ (K : Int) - 1)) = true := by simp; omega
        by_cases c2 : 0 ≤ w[i] ∧ w[i] < K
        · have d2 : (decide (0 ≤ w[i]) && decide (w[i] ≤ (K : Int) - 1)) = true := by simp; omega
          simp only [d1, d2, nt_eq, Bool.not_true, bb_false]
          rw [ih (i + 1) (by omega) (by omega)]
          congr 2
          refine ifp_congr ?_ _ _
          rw [inK_cons, inK_cons]
          exact ⟨fun g => ⟨⟨c1, g.1⟩, c2, g.2⟩, fun g => ⟨g.1.2, g.2.2⟩⟩
        · have d2 : (decide (0 ≤ w[i]) && decide (w[i] ≤ (K : Int) - 1)) = false := by simp; omega
          simp only [d1, d2, nt_eq, Bool.not_true, Bool.not_false, bb_false, bb_true]
          rw [ifp_f (by rw [inK_cons, inK_cons]; exact fun g => c2 g.2.1)]
      · have d1 : (decide (0 ≤ h[i]) && decide (h[i] ≤ (K : Int) - 1)) = false := by simp; omega
        simp only [d1, nt_eq, Bool.not_false, bb_true]
        rw [ifp_f (by rw [inK_cons, inK_cons]; exact fun g => c1 g.1.1)]
    · have : i = h.length := by omega
      subst this
      rw [sl_n, lt_false hlt]
      simp only [bb_false, m22_0]
      have := l22b n m fl fl' K h w (by omega) (by omega) hK m 0 (by omega) (by omega)
      rw [show (0 : Int) = Int.ofNat 0 from rfl, this]
      rw [ifp_t (p := inK _ _ ∧ inK _ _) (by rw [List.drop_of_length_le (Nat.le_refl _), List.drop_of_length_le (by omega)]; simp [inK])]
      congr 2
      exact ifp_congr ⟨fun g x hx => g x (Nat.zero_le _) hx, fun g x _ hx => g x hx⟩ _ _

theorem p22 (n fl fl' : Nat) (k : Int) (h w : List Int) : puN (n + 2) 22 [tr fl fl' k h w] = some (I (chk k h w)) := by
  show oo (puN (n + 1) 61 [I k, I 1, I 5]) none (fun v => oo (vBool v) none fun b => bb (nt b) (some (I 1)) (bb (ieq (Int.ofNat h.length) 0) (some (I 4)) (bb (ilt 10 (Int.ofNat h.length)) (some (I 3)) (bb (nt (ieq (Int.ofNat w.length) (Int.ofNat h.length))) (some (I 5))
    (l22_3 (puN (n + 1)) 100 100 (Int.ofNat 0) k (sl fl h) (sl fl' w)))))) = _
  rw [p61]
  simp only [oo_some, vBool_mk]
  unfold chk
  by_cases hk : 1 ≤ k ∧ k ≤ 5
  · obtain ⟨K, rfl⟩ : ∃ K : Nat, k = K := ⟨k.toNat, by omega⟩
    have d : (decide ((1 : Int) ≤ K) && decide ((K : Int) ≤ 5)) = true := by simp; omega
    rw [d, ifp_t hk]
    simp only [nt_eq, Bool.not_true, bb_false, ieq_eq, ilt_eq]
    by_cases h0 : h.length = 0
    · rw [ifp_t h0]; simp [h0]
    · rw [ifp_f h0]
      have d3 : (Int.ofNat h.length == 0) = false := by simp; exact fun e => h0 (by rw [e]; rfl)
      by_cases h1 : 10 < h.length
      · have d2 : decide ((10 : Int) < Int.ofNat h.length) = true := by simp; omega
        rw [ifp_t h1, d2, d3]; rfl
      · have d2 : decide ((10 : Int) < Int.ofNat h.length) = false := by simp; omega
        rw [ifp_f h1, d2, d3]
        simp only [bb_false]
        by_cases h2 : w.length = h.length
        · have d4 : (Int.ofNat w.length == Int.ofNat h.length) = true := by simp [h2]
          rw [ifp_t h2, d4]
          simp only [Bool.not_true, bb_false]
          have := l22c n 100 fl fl' K h w (by omega) h2 (by omega) (by omega) (by omega) 100 0 (by omega) (by omega)
          rw [show ((K : Nat) : Int) = Int.ofNat K from rfl, this]
          rfl
        · have d4 : (Int.ofNat w.length == Int.ofNat h.length) = false := by simp; omega
          rw [ifp_f h2, d4]; rfl
  · have d : (decide ((1 : Int) ≤ k) && decide (k ≤ 5)) = false := by simp; omega
    rw [d, ifp_f hk]; rfl
end Go.MendM
/- The plain law of MendTrays, second part: the program's check. -/
set_option maxRecDepth 100000
namespace Go.MendM
open Go.Sp Go.MendT

theorem setL_one {α : Type} (v : α) : ∀ (i : Nat) (xs : List α), i < xs.length → setL [v] i xs = xs.set i v
  | 0, x :: xs, _ => rfl
  | i + 1, x :: xs, h => by
    show x :: setL [v] i xs = x :: xs.set i v
    rw [setL_one v i xs (by simpa using h)]
  | _, [], h => by simp at h

theorem m21_end (pu : PureF) (n : Nat) (q : List Int) (hq : q.length = 5) : m21_0 pu n (q.map I) = some (I (ifp (∀ j, (h : j < q.length) → q[j] = 0) 0 17)) := by
  match q, hq with
  | [a, b, c, d, e], _ =>
    show bb (bq false (an (ieq a 0) (an (ieq b 0) (an (ieq c 0) (an (ieq d 0) (an (ieq e 0) true)))))) (some (I 17)) (some (I 0)) = _
    by_cases h : a = 0 ∧ b = 0 ∧ c = 0 ∧ d = 0 ∧ e = 0
    · obtain ⟨rfl, rfl, rfl, rfl, rfl⟩ := h
      rw [ifp_t (by intro j hj; match j, hj with | 0, _ => rfl | 1, _ => rfl | 2, _ => rfl | 3, _ => rfl | 4, _ => rfl | j + 5, hj => simp at hj; omega)]
      rfl
    · rw [ifp_f (fun g => h ⟨g 0 (by simp), g 1 (by simp), g 2 (by simp), g 3 (by simp), g 4 (by simp)⟩)]
      have : (bq false (an (ieq a 0) (an (ieq b 0) (an (ieq c 0) (an (ieq d 0) (an (ieq e 0) true)))))) = true := by
        simp [ieq_eq]; omega
      rw [this]; rfl

/-- One more here, one less there. -/
def upd (q : List Int) (X Y : Nat) : List Int := (q.set X (q.getD X 0 + 1)).set Y ((q.set X (q.getD X 0 + 1)).getD Y 0 - 1)
theorem upd_len (q : List Int) (X Y : Nat) : (upd q X Y).length = q.length := by simp [upd]
theorem upd_get (q : List Int) (X Y j : Nat) (hX : X < q.length) (hY : Y < q.length) (hj : j < q.length) :
    (upd q X Y).getD j 0 = q.getD j 0 + (if j = X then 1 else 0) - (if j = Y then 1 else 0) := by
  unfold upd
  simp only [List.getD_eq_getElem?_getD, List.getElem?_set, List.length_set]
  by_cases h1 : j = X <;> by_cases h2 : j = Y <;> simp [h1, h2, hX, hY, hj, eq_comm] <;> (try subst h1) <;> (try subst h2) <;> simp_all [eq_comm] <;> omega

theorem set_getD (q : List Int) (X Y : Nat) (v : Int) (hX : X < q.length) : (q.set X v).getD Y 0 = if Y = X then v else q.getD Y 0 := by
  simp only [List.getD_eq_getElem?_getD, List.getElem?_set]
  by_cases h : X = Y
  · subst h; simp [hX]
  · rw [if_neg h, if_neg (fun e => h e.symm)]
theorem m21_step (pu : PureF) (n : Nat) (ih0 : Sl → Int → Int → Int → Sl → Sl → List Value → Option Value) (X Y i : Nat) (s t u : Sl) (z k : Int) (q : List Int) (hq : q.length = 5) (hX : X < 5) (hY : Y < 5) (hi : i < 1000)
    (hb : ∀ j, j < 5 → -1000 ≤ q.getD j 0 ∧ q.getD j 0 ≤ 1000) :
    m21_2 pu n ih0 (Int.ofNat X) (Int.ofNat Y) s z (Int.ofNat i) false k t u (q.map I) = ih0 s z (Int.ofNat (i + 1)) k t u ((upd q X Y).map I) := by
  unfold m21_2
  have gX : q[X]'(by omega) = q.getD X 0 := by simp [List.getD_eq_getElem?_getD, hq, hX]
  have w1 : wrapF .i64 (Int.add (q.getD X 0) 1) = q.getD X 0 + 1 := wrapI _ (by have := hb X hX; show _ ≤ q.getD X 0 + 1; omega) (by have := hb X hX; show q.getD X 0 + 1 ≤ _; omega)
  have s1 : setL ([I (q.getD X 0 + 1)] : List Value) X (q.map I) = (q.set X (q.getD X 0 + 1)).map I := by
    rw [setL_one _ _ _ (by simp [hq, hX]), List.map_set]
  have hl1 : (q.set X (q.getD X 0 + 1)).length = 5 := by simp [hq]
  have gY : (q.set X (q.getD X 0 + 1))[Y]'(by omega) = (q.set X (q.getD X 0 + 1)).getD Y 0 := by simp [List.getD_eq_getElem?_getD, hq, hY]
  have hbY : -1001 ≤ (q.set X (q.getD X 0 + 1)).getD Y 0 ∧ (q.set X (q.getD X 0 + 1)).getD Y 0 ≤ 1001 := by
    have h1 := hb X hX
    have h2 := hb Y hY
    rw [set_getD _ _ _ _ (by omega)]
    split <;> omega
  have w2 : wrapF .i64 (Int.sub ((q.set X (q.getD X 0 + 1)).getD Y 0) 1) = (q.set X (q.getD X 0 + 1)).getD Y 0 - 1 := wrapI _ (by show _ ≤ (q.set X (q.getD X 0 + 1)).getD Y 0 - 1; omega) (by show (q.set X (q.getD X 0 + 1)).getD Y 0 - 1 ≤ _; omega)
  have s2 : setL ([I ((q.set X (q.getD X 0 + 1)).getD Y 0 - 1)] : List Value) Y ((q.set X (q.getD X 0 + 1)).map I) = (upd q X Y).map I := by
    rw [setL_one _ _ _ (by simp [hq, hY]), ← List.map_set]; rfl
  have e1 : (q.map I)[X]? = some (I (q.getD X 0)) := by rw [getI q X (by omega), gX]
  have e2 : ((q.set X (q.getD X 0 + 1)).map I)[Y]? = some (I ((q.set X (q.getD X 0 + 1)).getD Y 0)) := by rw [getI _ Y (by omega), gY]
  simp only [bb_false, allL_eq, closedI, bb_true, toN_mk, oo_some, blt_eq, hX, hY, decide_true, nthL_eq, Nat.zero_add, Nat.mul_one, e1, toI_mk, w1, s1, ble_eq, len_eq, List.length_map, hq, hl1, an_eq, Bool.and_true, Nat.succ_le_of_lt hX, Nat.succ_le_of_lt hY, e2, w2, s2, wrapS i (by omega : i < 1000000)]

theorem count_take {l : List Int} {i : Nat} (h : i < l.length) (x : Int) : (l.take (i + 1)).count x = (l.take i).count x + (if l[i] = x then 1 else 0) := by
  rw [List.take_add_one, List.getElem?_eq_getElem h, Option.toList_some, List.count_append, List.count_singleton]
  simp only [beq_iff_eq]
theorem inK_take {k : Int} {l : List Int} {i : Nat} (h : i < l.length) (h1 : inK k (l.take i)) (h2 : 0 ≤ l[i] ∧ l[i] < k) : inK k (l.take (i + 1)) := by
  rw [List.take_add_one, List.getElem?_eq_getElem h]
  intro x hx
  simp only [Option.toList_some, List.mem_append, List.mem_singleton] at hx
  rcases hx with hx | rfl
  · exact h1 x hx
  · exact h2
theorem count_out {k : Int} {l : List Int} (h : inK k l) {x : Int} (hx : k ≤ x) : l.count x = 0 := by
  rw [List.count_eq_zero]
  intro hm
  have := (h x hm).2
  omega

theorem l21 (n m fl fl' K : Nat) (h w : List Int) (hh : h.length ≤ 10) (hw : w.length = h.length) (hK1 : 1 ≤ K) (hK : K ≤ 5) : ∀ (f i : Nat) (q : List Int), h.length - i < f → i ≤ h.length → q.length = 5 →
    (∀ j, j < 5 → q.getD j 0 = (h.take i).count (j : Int) - (w.take i).count (j : Int)) → inK K (h.take i) → inK K (w.take i) →
    l21_1 (puN (n + 1)) m f (sl fl h) (Int.ofNat h.length) (Int.ofNat i) (Int.ofNat K) (sl fl h) (sl fl' w) (q.map I) = some (I (ifp (inK K (h.drop i) ∧ inK K (w.drop i)) (ifp (evn K h w) 0 17) 2)) := by
  intro f
  induction f with
  | zero => intro i q hi; omega
  | succ f ih =>
    intro i q hi hil hq hinv hih hiw
    show b21_1 (puN (n + 1)) m (l21_1 (puN (n + 1)) m f) _ _ _ _ _ _ _ = _
    unfold b21_1
    rw [allL_eq, closedI, bb_true]
    by_cases hlt : i < h.length
    · have hlw : i < w.length := by omega
      have e1 : h.drop i = h[i] :: h.drop (i + 1) := List.drop_eq_getElem_cons hlt
      have e2 : w.drop i = w[i] :: w.drop (i + 1) := List.drop_eq_getElem_cons hlw
      have hk : wrapF .i64 (Int.sub (Int.ofNat K) 1) = (K : Int) - 1 := wrapI _ (by show _ ≤ (K : Int) - 1; omega) (by show (K : Int) - 1 ≤ _; omega)
      rw [lt_true hlt]
      simp only [bb_true, toN_mk, oo_some, sl_n, sl_cs, blt_eq, hlt, hlw, decide_true, an_eq, Bool.true_and, nthL_eq, Nat.mul_one, getI h i hlt, getI w i hlw, toI_mk, hk]
      rw [show (0 : Int) = Int.ofNat 0 from rfl, show (Value.int IntKind.i64 (Int.ofNat 0)) = I 0 from rfl, p60 n 0 (bb (ilt w[i] h[i]) w[i] h[i]) ((K : Int) - 1)]
      simp only [oo_some, vBool_mk]
      rw [e1, e2]
      by_cases c : (0 ≤ h[i] ∧ h[i] < K) ∧ (0 ≤ w[i] ∧ w[i] < K)
      · have d1 : (decide (0 ≤ bb (ilt w[i] h[i]) w[i] h[i]) && decide (bb (ilt w[i] h[i]) w[i] h[i] ≤ (K : Int) - 1)) = true := by
          cases hc : ilt w[i] h[i] <;> rw [bb_eq] <;> simp only [Bool.and_eq_true, decide_eq_true_iff, if_true, Bool.false_eq_true, if_false] <;> exact ⟨by omega, by omega⟩
        have d2 : nt (ilt (bb (ilt h[i] w[i]) w[i] h[i]) (Int.ofNat K)) = false := by
          cases hc : ilt h[i] w[i] <;> simp [ilt_eq]
          all_goals omega
        rw [d1, d2]
        simp only [nt_eq, Bool.not_true, bb_false]
        obtain ⟨X, hX⟩ : ∃ X : Nat, h[i] = Int.ofNat X := ⟨h[i].toNat, (Int.toNat_of_nonneg c.1.1).symm⟩
        obtain ⟨Y, hY⟩ : ∃ Y : Nat, w[i] = Int.ofNat Y := ⟨w[i].toNat, (Int.toNat_of_nonneg c.2.1).symm⟩
        rw [hX, hY] at c
        simp only [Int.ofNat_eq_natCast] at c
        have hbq : ∀ j, j < 5 → -1000 ≤ q.getD j 0 ∧ q.getD j 0 ≤ 1000 := fun j hj => by
          have := hinv j hj
          have c1 := List.count_le_length (a := (j : Int)) (l := h.take i)
          have c2 := List.count_le_length (a := (j : Int)) (l := w.take i)
          simp only [List.length_take] at c1 c2
          omega
        rw [hX, hY, m21_step _ _ _ X Y i _ _ _ _ _ q hq (by omega) (by omega) (by omega) hbq, ih (i + 1) (upd q X Y) (by omega) (by omega) (by rw [upd_len, hq]) ?_ (inK_take hlt hih (by rw [hX]; simp; omega)) (inK_take hlw hiw (by rw [hY]; simp; omega))]
        · congr 2
          refine ifp_congr ?_ _ _
          rw [inK_cons, inK_cons]
          refine ⟨fun g => ⟨⟨?_, g.1⟩, ?_, g.2⟩, fun g => ⟨g.1.2, g.2.2⟩⟩
          · simp; omega
          · simp; omega
        · intro j hj
          rw [upd_get q X Y j (by omega) (by omega) (by omega), hinv j hj, count_take hlt, count_take hlw, hX, hY]
          have t1 : (Int.ofNat X = (j : Int)) ↔ j = X := by simp; omega
          have t2 : (Int.ofNat Y = (j : Int)) ↔ j = Y := by simp; omega
          simp only [t1, t2]
          split <;> split <;> simp <;> omega
      · rw [ifp_f (by rw [inK_cons, inK_cons]; exact fun g => c ⟨g.1.1, g.2.1⟩)]
        by_cases d1 : (decide (0 ≤ bb (ilt w[i] h[i]) w[i] h[i]) && decide (bb (ilt w[i] h[i]) w[i] h[i] ≤ (K : Int) - 1)) = true
        · have d2 : nt (ilt (bb (ilt h[i] w[i]) w[i] h[i]) (Int.ofNat K)) = true := by
            cases hc : ilt w[i] h[i] <;> rw [hc] at d1 <;> cases hc2 : ilt h[i] w[i] <;> rw [ilt_eq] at hc hc2 <;> simp only [bb_true, bb_false, Bool.and_eq_true, decide_eq_true_iff, decide_eq_false_iff_not] at d1 hc hc2 <;> obtain ⟨d1, d3⟩ := d1 <;> have d1 := of_decide_eq_true d1 <;> have d3 := of_decide_eq_true d3 <;> simp [ilt_eq] <;> omega
          rw [d1, d2]; rfl
        · rw [Bool.not_eq_true] at d1
          rw [d1]; rfl
    · have : i = h.length := by omega
      subst this
      rw [lt_false hlt, bb_false, m21_end _ _ _ hq]
      rw [ifp_t (p := inK _ _ ∧ inK _ _) (by rw [List.drop_of_length_le (Nat.le_refl _), List.drop_of_length_le (by omega)]; simp [inK])]
      rw [List.take_length] at hih hinv
      rw [← hw, List.take_length] at hiw hinv
      congr 2
      refine ifp_congr ⟨fun g x hx => ?_, fun g j hj => ?_⟩ _ _
      · have h1 := hinv x (by omega)
        have h2 := g x (by omega)
        rw [List.getD_eq_getElem?_getD, List.getElem?_eq_getElem (by omega), Option.getD_some, h2] at h1
        omega
      · have h1 := hinv j (by omega)
        rw [List.getD_eq_getElem?_getD, List.getElem?_eq_getElem hj, Option.getD_some] at h1
        rw [h1]
        by_cases hx : j < K
        · rw [g j hx]; omega
        · rw [count_out hih (by omega : (K : Int) ≤ (j : Int)), count_out hiw (by omega : (K : Int) ≤ (j : Int))]; rfl

theorem p21 (n fl fl' : Nat) (k : Int) (h w : List Int) : puN (n + 2) 21 [tr fl fl' k h w] = some (I (chk k h w)) := by
  show oo (puN (n + 1) 60 [I 1, I k, I 5]) none (fun v => oo (vBool v) none fun b => bb (nt b) (some (I 1)) (bb (ieq (Int.ofNat h.length) 0) (some (I 4)) (bb (ilt 10 (Int.ofNat h.length)) (some (I 3)) (bb (nt (ieq (Int.ofNat w.length) (Int.ofNat h.length))) (some (I 5))
    (l21_1 (puN (n + 1)) 100 100 (sl fl h) (Int.ofNat h.length) (Int.ofNat 0) k (sl fl h) (sl fl' w) (([0, 0, 0, 0, 0] : List Int).map I)))))) = _
  rw [p60]
  simp only [oo_some, vBool_mk]
  unfold chk
  by_cases hk : 1 ≤ k ∧ k ≤ 5
  · obtain ⟨K, rfl⟩ : ∃ K : Nat, k = K := ⟨k.toNat, by omega⟩
    have d : (decide ((1 : Int) ≤ K) && decide ((K : Int) ≤ 5)) = true := by simp; omega
    rw [d, ifp_t hk]
    simp only [nt_eq, Bool.not_true, bb_false, ieq_eq, ilt_eq]
    by_cases h0 : h.length = 0
    · rw [ifp_t h0]; simp [h0]
    · rw [ifp_f h0]
      have d3 : (Int.ofNat h.length == 0) = false := by simp; exact fun e => h0 (by rw [e]; rfl)
      by_cases h1 : 10 < h.length
      · have d2 : decide ((10 : Int) < Int.ofNat h.length) = true := by simp; omega
        rw [ifp_t h1, d2, d3]; rfl
      · have d2 : decide ((10 : Int) < Int.ofNat h.length) = false := by simp; omega
        rw [ifp_f h1, d2, d3]
        simp only [bb_false]
        by_cases h2 : w.length = h.length
        · have d4 : (Int.ofNat w.length == Int.ofNat h.length) = true := by simp [h2]
          rw [ifp_t h2, d4]
          simp only [Bool.not_true, bb_false]
          have := l21 n 100 fl fl' K h w (by omega) h2 (by omega) (by omega) 100 0 [0, 0, 0, 0, 0] (by omega) (by omega) rfl (by intro j hj; match j, hj with | 0, _ => rfl | 1, _ => rfl | 2, _ => rfl | 3, _ => rfl | 4, _ => rfl | j + 5, hj => omega) (by simp [inK]) (by simp [inK])
          rw [show ((K : Nat) : Int) = Int.ofNat K from rfl, this]
          rfl
        · have d4 : (Int.ofNat w.length == Int.ofNat h.length) = false := by simp; omega
          rw [ifp_f h2, d4]; rfl
  · have d : (decide ((1 : Int) ≤ k) && decide (k ≤ 5)) = false := by simp; omega
    rw [d, ifp_f hk]; rfl
end Go.MendM
/- The plain law of MendTrays, third part: wrong places and exchanges. -/
set_option maxRecDepth 100000
namespace Go.MendM
open Go.Sp Go.MendT

theorem p14 (n fl fl' : Nat) (k : Int) (h w : List Int) : puN (n + 1) 14 [tr fl fl' k h w] = some (Value.bool (decide (40 < h.length) || decide (40 < w.length))) := by
  show bb (ilt 40 (Int.ofNat h.length)) (some (Value.bool true)) (some (Value.bool (ilt 40 (Int.ofNat w.length)))) = _
  have e : ∀ m : Nat, ilt 40 (Int.ofNat m) = decide (40 < m) := fun m => by
    rw [ilt_eq, Bool.eq_iff_iff, decide_eq_true_iff, decide_eq_true_iff]; simp; omega
  rw [e, e]
  cases decide (40 < h.length) <;> rfl

theorem l20 (pu : PureF) (n fl fl' : Nat) (l : List Int) (hl : l.length < 1000) : ∀ (f i : Nat), l.length - i < f → i ≤ l.length → l20_1 pu n f (sl fl l) (sl fl' l) (Int.ofNat i) = some (Value.bool true) := by
  intro f
  induction f with
  | zero => intro i h; omega
  | succ f ih =>
    intro i h hi
    show b20_1 pu n (l20_1 pu n f) _ _ _ = _
    unfold b20_1
    by_cases hlt : i < l.length
    · rw [sl_n, lt_true hlt]
      have : nt (ieq l[i] l[i]) = false := by simp [ieq_eq]
      simp only [bb_true, toN_mk, oo_some, sl_n, sl_cs, blt_eq, hlt, decide_true, an_eq, Bool.true_and, nthL_eq, Nat.mul_one, getI l i hlt, toI_mk, wrapS i (by omega), this, bb_false]
      exact ih (i + 1) (by omega) (by omega)
    · rw [sl_n, lt_false hlt]; rfl
theorem p20 (n fl fl' : Nat) (l : List Int) (hl : l.length < 50) : puN (n + 1) 20 [S fl l, S fl' l] = some (Value.bool true) := by
  show bb (nt (ieq (Int.ofNat l.length) (Int.ofNat l.length))) (some (Value.bool false)) (l20_1 (puN n) 100 100 (sl fl l) (sl fl' l) (Int.ofNat 0)) = _
  have : nt (ieq (Int.ofNat l.length) (Int.ofNat l.length)) = false := by simp [ieq_eq]
  rw [this, bb_false]
  exact l20 (puN n) 100 fl fl' l (by omega) 100 0 (by omega) (by omega)

/-- The error of an exchange. -/
noncomputable def exg (a b : Int) (N : Nat) : Int := ifp (0 ≤ a ∧ a < N ∧ 0 ≤ b ∧ b < N) (ifp (a < b) 0 7) 2
theorem ex_last (pu : PureF) (n : Nat) (a b : Int) (c : Bool) : m56_0 pu n a b c = some (I (bb c 2 (ifp (a < b) 0 7))) := by
  unfold m56_0
  cases c with
  | true => rfl
  | false =>
    by_cases h : a < b
    · have : nt (ilt a b) = false := by simp [ilt_eq, h]
      rw [this, ifp_t h]; rfl
    · have : nt (ilt a b) = true := by simp [ilt_eq]; omega
      rw [this, ifp_f h]; rfl
theorem ex_last2 (pu : PureF) (n : Nat) (a b : Int) (c : Bool) : m58_0 pu n a b c = some (I (bb c 2 (ifp (a < b) 0 7))) := ex_last pu n a b c
theorem bbmin (a b : Int) : bb (ilt b a) b a = min a b := by
  by_cases h : b < a
  · have : ilt b a = true := by simp [ilt_eq, h]
    rw [this, bb_true]; omega
  · have : ilt b a = false := by simp [ilt_eq]; omega
    rw [this, bb_false]; omega
theorem bbmax (a b : Int) : bb (ilt a b) b a = max a b := by
  by_cases h : a < b
  · have : ilt a b = true := by simp [ilt_eq, h]
    rw [this, bb_true]; omega
  · have : ilt a b = false := by simp [ilt_eq]; omega
    rw [this, bb_false]; omega
theorem iltD {x y : Int} : (ilt x y = true ↔ x < y) := by rw [ilt_eq, decide_eq_true_iff]
theorem iltF {x y : Int} : (ilt x y = false ↔ ¬ x < y) := by rw [ilt_eq, decide_eq_false_iff_not]
theorem p56 (n fl fl' : Nat) (k a b : Int) (h w : List Int) : puN (n + 1) 56 [tr fl fl' k h w, I a, I b] = some (I (exg a b h.length)) := by
  show bb (ilt (bb (ilt b a) b a) 0) (m56_0 (puN n) 100 a b true) (m56_0 (puN n) 100 a b (nt (ilt (bb (ilt a b) b a) (Int.ofNat h.length)))) = _
  rw [ex_last, ex_last, bbmin, bbmax]
  unfold exg
  by_cases c : 0 ≤ a ∧ a < h.length ∧ 0 ≤ b ∧ b < h.length
  · have d1 : ilt (min a b) 0 = false := iltF.2 (by omega)
    have d2 : ilt (max a b) (Int.ofNat h.length) = true := iltD.2 (by show max a b < (h.length : Int); omega)
    rw [ifp_t c, d1, d2]; rfl
  · rw [ifp_f c]
    by_cases d1 : min a b < 0
    · rw [iltD.2 d1]; rfl
    · have d2 : ilt (max a b) (Int.ofNat h.length) = false := iltF.2 (by show ¬ max a b < (h.length : Int); omega)
      rw [iltF.2 d1, d2]; rfl
theorem p58 (n fl fl' : Nat) (k a b : Int) (h w : List Int) (hl : h.length < 1000) : puN (n + 2) 58 [tr fl fl' k h w, I a, I b] = some (I (exg a b h.length)) := by
  show oo (puN (n + 1) 61 [I a, I 0, I (wrapF .i64 (Int.sub (Int.ofNat h.length) 1))]) none (fun v => oo (vBool v) none fun c => bb (nt c) (m58_0 (puN (n + 1)) 100 a b true)
    (oo (puN (n + 1) 61 [I b, I 0, I (wrapF .i64 (Int.sub (Int.ofNat h.length) 1))]) none fun v => oo (vBool v) none fun c => m58_0 (puN (n + 1)) 100 a b (nt c))) = _
  have hk : wrapF .i64 (Int.sub (Int.ofNat h.length) 1) = (h.length : Int) - 1 := wrapI _ (by show _ ≤ (h.length : Int) - 1; omega) (by show (h.length : Int) - 1 ≤ _; omega)
  rw [hk, p61, p61]
  simp only [oo_some, vBool_mk, ex_last2]
  unfold exg
  by_cases c : 0 ≤ a ∧ a < h.length ∧ 0 ≤ b ∧ b < h.length
  · have d1 : (decide (0 ≤ a) && decide (a ≤ (h.length : Int) - 1)) = true := by simp; omega
    have d2 : (decide (0 ≤ b) && decide (b ≤ (h.length : Int) - 1)) = true := by simp; omega
    rw [ifp_t c, d1, d2]; rfl
  · rw [ifp_f c]
    by_cases d1 : 0 ≤ a ∧ a < h.length
    · have e1 : (decide (0 ≤ a) && decide (a ≤ (h.length : Int) - 1)) = true := by simp; omega
      have e2 : (decide (0 ≤ b) && decide (b ≤ (h.length : Int) - 1)) = false := by simp; omega
      rw [e1, e2]; rfl
    · have e1 : (decide (0 ≤ a) && decide (a ≤ (h.length : Int) - 1)) = false := by simp; omega
      rw [e1]; rfl

/-- Two elements exchanged. -/
def swp (h : List Int) (A B : Nat) : List Int := (h.set A (h.getD B 0)).set B (h.getD A 0)
theorem swp_len (h : List Int) (A B : Nat) : (swp h A B).length = h.length := by simp [swp]
theorem roomyS {n : Nat} (h : n ≤ 1000) : roomy n 8 = true := by
  unfold roomy; rw [ble_eq]; simp; omega
theorem takeI (l : List Int) : takeL (l.length * 1) (l.map I) = l.map I := by rw [takeL_eq, Nat.mul_one, List.take_of_length_le (by simp)]
theorem takeI' (l : List Int) (n : Nat) (h : n = l.length) : takeL (n * 1) (dropL 0 (l.map I)) = l.map I := by rw [h, dropL_eq, List.drop_zero, takeI]
theorem takeM (l : List Int) : List.take l.length (l.map I) = l.map I := List.take_of_length_le (by simp)
theorem getD_I (l : List Int) (i : Nat) (h : i < l.length) : (l.map I)[i]? = some (I (l.getD i 0)) := by rw [getI l i h]; simp [h]

theorem p57 (n fl fl' A B : Nat) (k : Int) (h w : List Int) (hh : h.length ≤ 1000) (hw : w.length ≤ 1000) (hA : A < h.length) (hB : B < h.length) :
    puN (n + 1) 57 [tr fl fl' k h w, I (Int.ofNat A), I (Int.ofNat B)] = some (tr 0 0 k (swp h A B) w) := by
  have e : puN (n + 1) 57 [tr fl fl' k h w, I (Int.ofNat A), I (Int.ofNat B)] = m57_ (puN n) 100 k (sl fl h) (sl fl' w) (Int.ofNat A) (Int.ofNat B) := by kernel_rfl
  rw [e]
  unfold m57_
  have r1 : roomy (0 + h.length) 8 = true := roomyS (by omega)
  have r2 : roomy (0 + w.length) 8 = true := roomyS (by omega)
  have s1 : setL ([I (h.getD B 0)] : List Value) A (h.map I) = (h.set A (h.getD B 0)).map I := by rw [setL_one _ _ _ (by simpa using hA), List.map_set]
  have s2 : setL ([I (h.getD A 0)] : List Value) B ((h.set A (h.getD B 0)).map I) = (swp h A B).map I := by rw [setL_one _ _ _ (by simpa using hB), ← List.map_set]; rfl
  simp only [sl_n, sl_cs, r1, r2, bb_true, allL_eq, takeM, takeL_eq, Nat.mul_one, closedI, toN_mk, oo_some, blt_eq, hA, hB, decide_true, an_eq, Bool.true_and, Bool.and_true, nthL_eq, Nat.zero_add, Nat.mul_one, getD_I h A hA, getD_I h B hB, toI_mk, s1, s2, ble_eq, len_eq, List.length_map, List.length_set, swp_len, Nat.succ_le_of_lt hA, Nat.succ_le_of_lt hB, dropL_eq, List.drop_zero, takeL_eq, Nat.le_refl]
  have t1 : List.take h.length ((swp h A B).map I) = (swp h A B).map I := List.take_of_length_le (by simp [swp_len])
  have t2 : List.take w.length (w.map I) = w.map I := List.take_of_length_le (by simp)
  have r3 : roomy h.length 8 = true := roomyS (by omega)
  have r4 : roomy w.length 8 = true := roomyS (by omega)
  simp only [r3, r4, t1, t2, closedI, bb_true]
  unfold tr S sl
  rw [swp_len]

theorem p59 (n fl fl' A B : Nat) (k : Int) (h w : List Int) (hh : h.length ≤ 1000) (hw : w.length = h.length) (hA : A < h.length) (hB : B < h.length) :
    puN (n + 1) 59 [tr fl fl' k h w, I (Int.ofNat A), I (Int.ofNat B)] = some (tr 0 0 k (swp h A B) w) := by
  have e : puN (n + 1) 59 [tr fl fl' k h w, I (Int.ofNat A), I (Int.ofNat B)] = m59_ (puN n) 100 k (sl fl h) (sl fl' w) (Int.ofNat A) (Int.ofNat B) := by kernel_rfl
  rw [e]
  unfold m59_
  have z1 : Nat.beq h.length 0 = false := by cases hz : h.length with
    | zero => omega
    | succ m => rfl
  have z2 : Nat.beq w.length 0 = false := by rw [hw]; exact z1
  have r1 : roomy (0 + h.length) 8 = true := roomyS (by omega)
  have r2 : roomy (0 + w.length) 8 = true := roomyS (by omega)
  have s1 : setL ([I (h.getD B 0)] : List Value) A (h.map I) = (h.set A (h.getD B 0)).map I := by rw [setL_one _ _ _ (by simpa using hA), List.map_set]
  have s2 : setL ([I (h.getD A 0)] : List Value) B ((h.set A (h.getD B 0)).map I) = (swp h A B).map I := by rw [setL_one _ _ _ (by simpa using hB), ← List.map_set]; rfl
  simp only [sl_n, sl_cs, z1, z2, bb_false, r1, r2, bb_true, allL_eq, takeM, takeL_eq, Nat.mul_one, closedI, toN_mk, oo_some, blt_eq, Nat.zero_add, hA, hB, decide_true, an_eq, Bool.true_and, Bool.and_true, nthL_eq, Nat.mul_one, getD_I h A hA, getD_I h B hB, toI_mk, s1, s2, ble_eq, len_eq, List.length_map, List.length_set, swp_len, Nat.succ_le_of_lt hA, Nat.succ_le_of_lt hB, dropL_eq, List.drop_zero, takeL_eq, Nat.le_refl]
  have r3 : roomy h.length 8 = true := roomyS (by omega)
  have r4 : roomy w.length 8 = true := roomyS (by omega)
  have t1 : List.take h.length ((swp h A B).map I) = (swp h A B).map I := List.take_of_length_le (by simp [swp_len])
  have t2 : List.take w.length (w.map I) = w.map I := List.take_of_length_le (by simp)
  simp only [r3, r4, t1, t2, closedI, bb_true]
  unfold tr S sl
  rw [swp_len]
end Go.MendM
/- The plain law of MendTrays, fourth part: wrong places, and the law. -/
set_option maxRecDepth 100000
namespace Go.MendM
open Go.Sp Go.MendT

/-- The wrong places. -/
def wr : List Int → List Int → Nat → List Int
  | x :: h, y :: w, i => if x = y then wr h w (i + 1) else (i : Int) :: wr h w (i + 1)
  | _, _, _ => []
/-- As a set. -/
def bv : List Int → List Int → Nat
  | x :: h, y :: w => (if x = y then 0 else 1) + 2 * bv h w
  | _, _ => 0
theorem bv_lt : ∀ (h w : List Int), bv h w < 2 ^ h.length
  | [], w => by simp [bv]
  | x :: h, [] => by simp [bv]; exact Nat.two_pow_pos _
  | x :: h, y :: w => by
    have := bv_lt h w
    simp only [bv, List.length_cons, Nat.pow_succ]
    split <;> omega
/-- The places of a set. -/
def bl : Nat → Nat → Nat → List Int
  | 0, _, _ => []
  | f + 1, i, s => if s % 2 = 1 then (i : Int) :: bl f (i + 1) (s / 2) else bl f (i + 1) (s / 2)
theorem bl_zero : ∀ (f i : Nat), bl f i 0 = []
  | 0, _ => rfl
  | f + 1, i => by simp [bl, bl_zero f (i + 1)]
theorem bl_bv : ∀ (f i : Nat) (h w : List Int), h.length ≤ f → bl f i (bv h w) = wr h w i
  | f, i, [], w, _ => by simp [bv, wr, bl_zero]
  | f, i, x :: h, [], _ => by simp [bv, wr, bl_zero]
  | 0, i, x :: h, y :: w, hl => by simp at hl
  | f + 1, i, x :: h, y :: w, hl => by
    have ih := bl_bv f (i + 1) h w (by simpa using hl)
    have hb : bv (x :: h) (y :: w) = (if x = y then 0 else 1) + 2 * bv h w := rfl
    by_cases hxy : x = y
    · rw [if_pos hxy] at hb
      have e2 : bv (x :: h) (y :: w) / 2 = bv h w := by omega
      rw [bl, if_neg (by omega), e2, ih, wr, if_pos hxy]
    · rw [if_neg hxy] at hb
      have e2 : bv (x :: h) (y :: w) / 2 = bv h w := by omega
      rw [bl, if_pos (by omega), e2, ih, wr, if_neg hxy]

noncomputable def eqS (o : Option Value) (l : List Int) : Bool := oo o false fun v => oo (toSl 1 v) false fun s => an (Nat.beq s.n (len l)) (an (Nat.beq s.fl 0) (valsEq s.cs (mapL I l)))
theorem eqS_ok {o : Option Value} {l : List Int} (h : eqS o l = true) : o = some (S 0 l) := by
  unfold eqS at h
  cases o with
  | none => cases h
  | some v =>
    rw [oo_some] at h
    cases hs : toSl 1 v with
    | none => rw [hs] at h; cases h
    | some s =>
      rw [hs, oo_some] at h
      obtain ⟨h1, h2⟩ := an_inv h
      obtain ⟨h3, h4⟩ := an_inv h2
      have g1 : s.n = len l := Nat.eq_of_beq_eq_true h1
      have g2 : s.fl = 0 := Nat.eq_of_beq_eq_true h3
      have g3 : s.cs = mapL I l := valsEq_eq h4
      rw [toSl_some hs]
      have : s = sl 0 l := by
        cases s
        rw [len_eq] at g1
        rw [mapL_map] at g3
        simp only at g1 g2 g3
        rw [g1, g2, g3]; rfl
      rw [this]; rfl
theorem all54 (n : Nat) : belowAll (fun s => eqS (puN (n + 2) 54 [.int .u16 (Int.ofNat s)]) (bl 10 0 s)) 1024 = true := by kernel_rfl
theorem p54 (n s : Nat) (hs : s < 1024) : puN (n + 2) 54 [.int .u16 (Int.ofNat s)] = some (S 0 (bl 10 0 s)) := eqS_ok (belowAll_iff (all54 n) s hs)

theorem addBit (Z i : Nat) (hZ : Z < 2 ^ i) (hi : i < 10) : aor .u16 (Int.ofNat Z) (shlI .u16 1 i) = Int.ofNat (Z + 2 ^ i) := by
  have e1 : shlI .u16 1 i = Int.ofNat (2 ^ i) := by
    match i, hi with
    | 0, _ => rfl | 1, _ => rfl | 2, _ => rfl | 3, _ => rfl | 4, _ => rfl | 5, _ => rfl | 6, _ => rfl | 7, _ => rfl | 8, _ => rfl | 9, _ => rfl
    | i + 10, h => omega
  rw [e1]
  have h2 : 2 ^ i ≤ 2 ^ 9 := Nat.pow_le_pow_right (by omega) (by omega)
  have e2 : bothIn .u16 Z (2 ^ i) = true := by
    unfold bothIn
    have : bitsMax .u16 = 65535 := rfl
    rw [this, ble_eq, ble_eq]; simp; omega
  show bb (bothIn .u16 Z (2 ^ i)) (Int.ofNat (Nat.lor Z (2 ^ i))) _ = _
  rw [e2, bb_true]
  have := Nat.two_pow_add_eq_or_of_lt hZ 1
  rw [Nat.mul_one] at this
  have h3 : Nat.lor Z (2 ^ i) = 2 ^ i ||| Z := Nat.or_comm Z (2 ^ i)
  rw [h3, ← this]; congr 1; omega

theorem l53 (pu : PureF) (n fl fl' : Nat) (k : Int) (h w : List Int) (hh : h.length ≤ 10) (hw : w.length = h.length) : ∀ (f i Z : Nat), h.length - i < f → i ≤ h.length → Z < 2 ^ i →
    l53_1 pu n f (Int.ofNat Z) (sl fl h) (Int.ofNat h.length) (Int.ofNat i) k (sl fl h) (sl fl' w) = some (.int .u16 (Int.ofNat (Z + 2 ^ i * bv (h.drop i) (w.drop i)))) := by
  intro f
  induction f with
  | zero => intro i Z hi; omega
  | succ f ih =>
    intro i Z hi hil hZ
    show b53_1 pu n (l53_1 pu n f) _ _ _ _ _ _ _ = _
    unfold b53_1
    by_cases hlt : i < h.length
    · have hlw : i < w.length := by omega
      have e1 : h.drop i = h[i] :: h.drop (i + 1) := List.drop_eq_getElem_cons hlt
      have e2 : w.drop i = w[i] :: w.drop (i + 1) := List.drop_eq_getElem_cons hlw
      rw [lt_true hlt]
      simp only [bb_true, toN_mk, oo_some, sl_n, sl_cs, blt_eq, hlt, hlw, decide_true, an_eq, Bool.true_and, nthL_eq, Nat.mul_one, getI h i hlt, getI w i hlw, toI_mk, m53_2, wrapS i (by omega : i < 1000000), addBit Z i hZ (by omega)]
      rw [e1, e2]
      have hp : 2 ^ (i + 1) = 2 * 2 ^ i := by rw [Nat.pow_succ]; omega
      by_cases hx : h[i] = w[i]
      · have : nt (ieq h[i] w[i]) = false := by simp [ieq_eq, hx]
        rw [this, bb_false, ih (i + 1) Z (by omega) (by omega) (by omega)]
        simp only [bv, if_pos hx]
        congr 3
        rw [hp, Nat.zero_add, Nat.mul_comm 2 (2 ^ i), Nat.mul_assoc]
      · have : nt (ieq h[i] w[i]) = true := by simp [ieq_eq, hx]
        rw [this, bb_true, ih (i + 1) (Z + 2 ^ i) (by omega) (by omega) (by omega)]
        simp only [bv, if_neg hx]
        congr 3
        rw [hp, Nat.mul_add, Nat.mul_one, Nat.mul_comm 2 (2 ^ i), Nat.mul_assoc]; omega
    · have : i = h.length := by omega
      subst this
      rw [lt_false hlt, bb_false, List.drop_of_length_le (Nat.le_refl _)]
      simp [bv, m53_0]
theorem p53 (n fl fl' : Nat) (k : Int) (h w : List Int) (hh : h.length ≤ 10) (hw : w.length = h.length) : puN (n + 1) 53 [tr fl fl' k h w] = some (.int .u16 (Int.ofNat (bv h w))) := by
  show l53_1 (puN n) 100 100 (Int.ofNat 0) (sl fl h) (Int.ofNat h.length) (Int.ofNat 0) k (sl fl h) (sl fl' w) = _
  rw [l53 (puN n) 100 fl fl' k h w hh hw 100 0 0 (by omega) (by omega) (by simp)]
  simp

theorem growI (l : List Int) (h : l.length < 1000) : growC 1 8 l.length (2 * l.length) 1 (l.map I) = true := by
  unfold growC
  have e : (2 * l.length) / 2 = l.length := by omega
  have e2 : (2 * l.length) % 2 = 0 := by omega
  rw [e, e2, roomyS (by omega)]
  have b1 : Nat.ble (l.length + 1) l.length = false := by rw [ble_eq]; simp
  have b2 : Nat.ble (0 + l.length * 1) (len (l.map I)) = true := by rw [ble_eq]; simp
  have b3 : Nat.beq (0 + l.length * 1) (len (l.map I)) = true := by simp
  rw [b1, b2, b3]; rfl
theorem end55 (pu : PureF) (n c : Nat) (r : List Int) : m55_0 pu n r.length c (r.map I) = some (S 0 r) := by
  unfold m55_0
  have t := takeI' r r.length rfl
  rw [t]
  simp only [allL_eq, closedI, bb_true, ble_eq, len_eq, List.length_map, Nat.zero_add, Nat.mul_one, Nat.le_refl, decide_true, an_eq, Bool.true_and]
  rfl
theorem l55 (pu : PureF) (n fl fl' : Nat) (k : Int) (h w : List Int) (hh : h.length ≤ 10) (hw : w.length = h.length) : ∀ (f i : Nat) (r : List Int), h.length - i < f → i ≤ h.length → r.length ≤ i →
    l55_1 pu n f r.length (2 * r.length) (Int.ofNat i) k (sl fl h) (sl fl' w) (r.map I) = some (S 0 (r ++ wr (h.drop i) (w.drop i) i)) := by
  intro f
  induction f with
  | zero => intro i r hi; omega
  | succ f ih =>
    intro i r hi hil hr
    show b55_1 pu n (l55_1 pu n f) _ _ _ _ _ _ _ = _
    unfold b55_1
    rw [allL_eq, closedI, bb_true]
    by_cases hlt : i < h.length
    · have hlw : i < w.length := by omega
      have e1 : h.drop i = h[i] :: h.drop (i + 1) := List.drop_eq_getElem_cons hlt
      have e2 : w.drop i = w[i] :: w.drop (i + 1) := List.drop_eq_getElem_cons hlw
      have ea : appL (dropL 0 (r.map I)) [I (Int.ofNat i)] = (r ++ [(i : Int)]).map I := by simp
      rw [sl_n, lt_true hlt]
      simp only [bb_true, toN_mk, oo_some, sl_n, sl_cs, blt_eq, hlt, hlw, decide_true, an_eq, Bool.true_and, nthL_eq, Nat.mul_one, getI h i hlt, getI w i hlw, toI_mk, m55_2, wrapS i (by omega : i < 1000000), growI r (by omega), ea, allL_eq, closedI]
      rw [e1, e2]
      by_cases hx : h[i] = w[i]
      · have : nt (ieq h[i] w[i]) = false := by simp [ieq_eq, hx]
        rw [this, bb_false, ih (i + 1) r (by omega) (by omega) (by omega)]
        simp only [wr, if_pos hx]
      · have : nt (ieq h[i] w[i]) = true := by simp [ieq_eq, hx]
        have hl : (r ++ [(i : Int)]).length = r.length + 1 := by simp
        have := ih (i + 1) (r ++ [(i : Int)]) (by omega) (by omega) (by omega)
        rw [hl] at this
        simp only [*, bb_true, bb_false, Nat.add_zero]
        simp only [wr, if_neg hx, List.append_assoc, List.singleton_append]
    · have : i = h.length := by omega
      subst this
      rw [sl_n, lt_false hlt, bb_false, List.drop_of_length_le (Nat.le_refl _), end55]
      simp [wr]
theorem p55 (n fl fl' : Nat) (k : Int) (h w : List Int) (hh : h.length ≤ 10) (hw : w.length = h.length) : puN (n + 1) 55 [tr fl fl' k h w] = some (S 0 (wr h w 0)) := by
  show l55_1 (puN n) 100 100 0 0 (Int.ofNat 0) k (sl fl h) (sl fl' w) (([] : List Int).map I) = _
  have := l55 (puN n) 100 fl fl' k h w hh hw 100 0 [] (by omega) (by omega) (by simp)
  simpa using this
end Go.MendM
/- The plain law of MendTrays, last part. -/
set_option maxRecDepth 100000
namespace Go.MendM
open Go.Sp Go.MendT

theorem chk_zero {k : Int} {h w : List Int} (hc : chk k h w = 0) : 1 ≤ h.length ∧ h.length ≤ 10 ∧ w.length = h.length := by
  unfold chk at hc
  by_cases h1 : 1 ≤ k ∧ k ≤ 5
  · rw [ifp_t h1] at hc
    by_cases h2 : h.length = 0
    · rw [ifp_t h2] at hc; omega
    · rw [ifp_f h2] at hc
      by_cases h3 : 10 < h.length
      · rw [ifp_t h3] at hc; omega
      · rw [ifp_f h3] at hc
        by_cases h4 : w.length = h.length
        · exact ⟨by omega, by omega, h4⟩
        · rw [ifp_f h4] at hc; omega
  · rw [ifp_f h1] at hc; omega
theorem exg_zero {a b : Int} {N : Nat} (h : exg a b N = 0) : ∃ A B : Nat, a = Int.ofNat A ∧ b = Int.ofNat B ∧ A < N ∧ B < N := by
  unfold exg at h
  by_cases h1 : 0 ≤ a ∧ a < N ∧ 0 ≤ b ∧ b < N
  · exact ⟨a.toNat, b.toNat, by simp; omega, by simp; omega, by omega, by omega⟩
  · rw [ifp_f h1] at h; omega
theorem ne_t {x : Int} (h : x ≠ 0) : nt (ieq x 0) = true := by simp [ieq_eq, h]
theorem ne_f : nt (ieq (0 : Int) 0) = false := rfl

def none2 : Value := .agg ⟨[I 0, S 2 [], S 2 []]⟩
theorem p16a (n fl fl' : Nat) (k : Int) (h w : List Int) (hc : chk k h w ≠ 0) : puN (n + 3) 16 [tr fl fl' k h w] = some (.tuple ⟨[S 2 [], I (chk k h w)]⟩) := by
  have e : puN (n + 3) 16 [tr fl fl' k h w] = m16_ (puN (n + 2)) 100 k (sl fl h) (sl fl' w) := by kernel_rfl
  rw [e]; unfold m16_
  have e1 := p21 n fl fl' k h w
  unfold tr S at e1
  rw [e1]
  simp only [oo_some, toI_mk, ne_t hc, bb_true]
  rfl
theorem p17a (n fl fl' : Nat) (k : Int) (h w : List Int) (hc : chk k h w ≠ 0) : puN (n + 3) 17 [tr fl fl' k h w] = some (.tuple ⟨[S 2 [], I (chk k h w)]⟩) := by
  have e : puN (n + 3) 17 [tr fl fl' k h w] = m17_ (puN (n + 2)) 100 k (sl fl h) (sl fl' w) := by kernel_rfl
  rw [e]; unfold m17_
  have e1 := p22 n fl fl' k h w
  unfold tr S at e1
  rw [e1]
  simp only [oo_some, toI_mk, ne_t hc, bb_true]
  rfl
theorem p16b (n fl fl' : Nat) (k : Int) (h w : List Int) (hc : chk k h w = 0) : puN (n + 3) 16 [tr fl fl' k h w] = some (.tuple ⟨[S 0 (wr h w 0), I 0]⟩) := by
  have e : puN (n + 3) 16 [tr fl fl' k h w] = m16_ (puN (n + 2)) 100 k (sl fl h) (sl fl' w) := by kernel_rfl
  rw [e]; unfold m16_
  obtain ⟨h1, h2, h3⟩ := chk_zero hc
  have e1 := p21 n fl fl' k h w
  have e2 := p53 (n + 1) fl fl' k h w h2 h3
  have hlt : bv h w < 1024 := Nat.lt_of_lt_of_le (bv_lt h w) (by have : 2 ^ h.length ≤ 2 ^ 10 := Nat.pow_le_pow_right (by omega) h2; omega)
  have e3 := p54 n (bv h w) hlt
  rw [bl_bv 10 0 h w h2] at e3
  unfold tr S at e1 e2
  unfold S at e3
  rw [hc] at e1
  rw [e1]
  simp only [oo_some, toI_mk, toI_mk16, ne_f, bb_false, e2, e3, toSl_mk]
  rfl
theorem p17b (n fl fl' : Nat) (k : Int) (h w : List Int) (hc : chk k h w = 0) : puN (n + 3) 17 [tr fl fl' k h w] = some (.tuple ⟨[S 0 (wr h w 0), I 0]⟩) := by
  have e : puN (n + 3) 17 [tr fl fl' k h w] = m17_ (puN (n + 2)) 100 k (sl fl h) (sl fl' w) := by kernel_rfl
  rw [e]; unfold m17_
  obtain ⟨h1, h2, h3⟩ := chk_zero hc
  have e1 := p22 n fl fl' k h w
  have e2 := p55 (n + 1) fl fl' k h w h2 h3
  unfold tr S at e1 e2
  rw [hc] at e1
  rw [e1]
  simp only [oo_some, toI_mk, ne_f, bb_false, e2, toSl_mk]
  rfl

theorem q18 (n fl fl' : Nat) (a b e k : Int) (h w : List Int) (he : e ≠ 0) : m18_0 (puN (n + 2)) 100 a b e k (sl fl h) (sl fl' w) 0 = some (.tuple ⟨[none2, I e]⟩) := by
  unfold m18_0
  rw [ne_t he, bb_true]; rfl
theorem q19 (n fl fl' : Nat) (a b e k : Int) (h w : List Int) (he : e ≠ 0) : m19_0 (puN (n + 2)) 100 a b e k (sl fl h) (sl fl' w) 0 = some (.tuple ⟨[none2, I e]⟩) := by
  unfold m19_0
  rw [ne_t he, bb_true]; rfl
theorem q18b (n fl fl' A B : Nat) (k : Int) (h w : List Int) (hh : h.length ≤ 10) (hw : w.length = h.length) (hA : A < h.length) (hB : B < h.length) :
    m18_0 (puN (n + 2)) 100 (Int.ofNat A) (Int.ofNat B) 0 k (sl fl h) (sl fl' w) 0 = some (.tuple ⟨[tr 0 0 k (swp h A B) w, I 0]⟩) := by
  unfold m18_0
  have e1 := p57 (n + 1) fl fl' A B k h w (by omega) (by omega) hA hB
  unfold tr S at e1
  rw [ne_f, bb_false, e1]
  simp only [oo_some, vAgg_mk, ll_cons', ll_nil', toI_mk, toSl_mk]
  rfl
theorem q19b (n fl fl' A B : Nat) (k : Int) (h w : List Int) (hh : h.length ≤ 10) (hw : w.length = h.length) (hA : A < h.length) (hB : B < h.length) :
    m19_0 (puN (n + 2)) 100 (Int.ofNat A) (Int.ofNat B) 0 k (sl fl h) (sl fl' w) 0 = some (.tuple ⟨[tr 0 0 k (swp h A B) w, I 0]⟩) := by
  unfold m19_0
  have e1 := p59 (n + 1) fl fl' A B k h w (by omega) hw hA hB
  unfold tr S at e1
  rw [ne_f, bb_false, e1]
  simp only [oo_some, vAgg_mk, ll_cons', ll_nil', toI_mk, toSl_mk]
  rfl
theorem ie_t : ieq (0 : Int) 0 = true := rfl
theorem ie_f {x : Int} (h : x ≠ 0) : ieq x 0 = false := by simp [ieq_eq, h]
/-- The error of an exchange of a tray. -/
noncomputable def erA (k a b : Int) (h w : List Int) : Int := ifp (chk k h w = 0) (exg a b h.length) (chk k h w)
theorem p18 (n fl fl' : Nat) (k a b : Int) (h w : List Int) : puN (n + 3) 18 [tr fl fl' k h w, I a, I b] = m18_0 (puN (n + 2)) 100 a b (erA k a b h w) k (sl fl h) (sl fl' w) 0 := by
  have e : puN (n + 3) 18 [tr fl fl' k h w, I a, I b] = m18_ (puN (n + 2)) 100 k (sl fl h) (sl fl' w) a b := by kernel_rfl
  rw [e]; unfold m18_ erA
  have e1 := p21 n fl fl' k h w
  have e2 := p56 (n + 1) fl fl' k a b h w
  unfold tr S at e1 e2
  by_cases hc : chk k h w = 0
  · rw [hc] at e1
    rw [e1, ifp_t hc]
    simp only [oo_some, toI_mk, ie_t, bb_true, e2]
  · rw [e1, ifp_f hc]
    simp only [oo_some, toI_mk, ie_f hc, bb_false]
theorem p19 (n fl fl' : Nat) (k a b : Int) (h w : List Int) : puN (n + 3) 19 [tr fl fl' k h w, I a, I b] = m19_0 (puN (n + 2)) 100 a b (erA k a b h w) k (sl fl h) (sl fl' w) 0 := by
  have e : puN (n + 3) 19 [tr fl fl' k h w, I a, I b] = m19_ (puN (n + 2)) 100 k (sl fl h) (sl fl' w) a b := by kernel_rfl
  rw [e]; unfold m19_ erA
  have e1 := p22 n fl fl' k h w
  unfold tr S at e1
  by_cases hc : chk k h w = 0
  · have e2 := p58 n fl fl' k a b h w (by have := (chk_zero hc).2.1; omega)
    unfold tr S at e2
    rw [hc] at e1
    rw [e1, ifp_t hc]
    simp only [oo_some, toI_mk, ie_t, bb_true, e2]
  · rw [e1, ifp_f hc]
    simp only [oo_some, toI_mk, ie_f hc, bb_false]

theorem wr_len : ∀ (h w : List Int) (i : Nat), (wr h w i).length ≤ h.length
  | [], w, i => by simp [wr]
  | x :: h, [], i => by simp [wr]
  | x :: h, y :: w, i => by
    have := wr_len h w (i + 1)
    simp only [wr]
    split <;> simp <;> omega

theorem ieqr (x : Int) : ieq x x = true := by simp [ieq_eq]
section
variable (pu : PureF) (n : Nat) (k a b : Int) (s t : Sl) (e15 : pu 15 [] = some (Value.bool true))
include e15
theorem m3_big (e14 : pu 14 [.agg ⟨[.int .i64 k, s.v 1, t.v 1]⟩] = some (Value.bool true)) : m3_ pu n k s t a b = some (Value.bool true) := by
  unfold m3_
  simp only [e14, e15, oo_some, vBool_mk, bb_true]
theorem m3_gen (e14 : pu 14 [.agg ⟨[.int .i64 k, s.v 1, t.v 1]⟩] = some (Value.bool false)) {c e k2 : Int} {f1 f2 : Nat} {l : List Int} {u v : Sl} {u' v' : Sl}
    (e16 : pu 16 [.agg ⟨[.int .i64 k, s.v 1, t.v 1]⟩] = some (.tuple ⟨[S f1 l, .int .i64 c]⟩)) (e17 : pu 17 [.agg ⟨[.int .i64 k, s.v 1, t.v 1]⟩] = some (.tuple ⟨[S f2 l, .int .i64 c]⟩))
    (e18 : pu 18 [.agg ⟨[.int .i64 k, s.v 1, t.v 1]⟩, .int .i64 a, .int .i64 b] = some (.tuple ⟨[.agg ⟨[.int .i64 k2, u.v 1, v.v 1]⟩, .int .i64 e]⟩))
    (e19 : pu 19 [.agg ⟨[.int .i64 k, s.v 1, t.v 1]⟩, .int .i64 a, .int .i64 b] = some (.tuple ⟨[.agg ⟨[.int .i64 k2, u'.v 1, v'.v 1]⟩, .int .i64 e]⟩))
    (q1 : pu 20 [S f1 l, S f2 l] = some (Value.bool true)) (q2 : pu 20 [u.v 1, u'.v 1] = some (Value.bool true)) (q3 : pu 20 [v.v 1, v'.v 1] = some (Value.bool true))
    {d : Int} (e21 : pu 21 [.agg ⟨[.int .i64 k, s.v 1, t.v 1]⟩] = some (.int .i64 d)) (e22 : pu 22 [.agg ⟨[.int .i64 k, s.v 1, t.v 1]⟩] = some (.int .i64 d)) : m3_ pu n k s t a b = some (Value.bool true) := by
  unfold S at e16 e17 q1
  unfold m3_
  simp only [e14, e16, e17, e18, e19, e21, e22, e15, oo_some, vBool_mk, bb_false, bb_true, vTup_mk, vAgg_mk, ll_cons', ll_nil', toSl_mk, toI_mk, ieqr, q1, q2, q3, m3_0]
end

theorem e3 (n fl fl' : Nat) (k a b : Int) (h w : List Int) : puN (n + 4) 3 [tr fl fl' k h w, I a, I b] = m3_ (puN (n + 3)) 100 k (sl fl h) (sl fl' w) a b := by kernel_rfl
theorem e15 (n : Nat) : puN (n + 3) 15 [] = some (Value.bool true) := by kernel_rfl
theorem p3 (n fl fl' : Nat) (k a b : Int) (h w : List Int) : puN (n + 4) 3 [tr fl fl' k h w, I a, I b] = some (Value.bool true) := by
  rw [e3]
  have e14 := p14 (n + 2) fl fl' k h w
  by_cases hb : (decide (40 < h.length) || decide (40 < w.length)) = true
  · rw [hb] at e14
    exact m3_big _ _ _ _ _ _ _ (e15 n) e14
  · rw [Bool.not_eq_true] at hb
    rw [hb] at e14
    have hlen : h.length < 50 ∧ w.length < 50 := by simp at hb; omega
    have e21 := p21 (n + 1) fl fl' k h w
    have e22 := p22 (n + 1) fl fl' k h w
    have e18 := p18 n fl fl' k a b h w
    have e19 := p19 n fl fl' k a b h w
    by_cases hc : chk k h w = 0
    · obtain ⟨h1, h2, h3⟩ := chk_zero hc
      have e16 := p16b n fl fl' k h w hc
      have e17 := p17b n fl fl' k h w hc
      have hwl := wr_len h w 0
      by_cases hx : exg a b h.length = 0
      · have he : erA k a b h w = 0 := by unfold erA; rw [ifp_t hc, hx]
        obtain ⟨A, B, rfl, rfl, hA, hB⟩ := exg_zero hx
        rw [he, q18b n fl fl' A B k h w h2 h3 hA hB] at e18
        rw [he, q19b n fl fl' A B k h w h2 h3 hA hB] at e19
        exact m3_gen _ _ _ _ _ _ _ (e15 n) e14 e16 e17 e18 e19 (p20 (n + 2) 0 0 _ (by omega)) (p20 (n + 2) 0 0 _ (by rw [swp_len]; omega)) (p20 (n + 2) 0 0 w (by omega)) e21 e22
      · have he : erA k a b h w ≠ 0 := by unfold erA; rw [ifp_t hc]; exact hx
        rw [q18 n fl fl' a b _ k h w he] at e18
        rw [q19 n fl fl' a b _ k h w he] at e19
        exact m3_gen _ _ _ _ _ _ _ (e15 n) e14 e16 e17 e18 e19 (p20 (n + 2) 0 0 _ (by omega)) (p20 (n + 2) 2 2 [] (by simp)) (p20 (n + 2) 2 2 [] (by simp)) e21 e22
    · have e16 := p16a n fl fl' k h w hc
      have e17 := p17a n fl fl' k h w hc
      have he : erA k a b h w ≠ 0 := by unfold erA; rw [ifp_f hc]; exact hc
      rw [q18 n fl fl' a b _ k h w he] at e18
      rw [q19 n fl fl' a b _ k h w he] at e19
      exact m3_gen _ _ _ _ _ _ _ (e15 n) e14 e16 e17 e18 e19 (p20 (n + 2) 2 2 [] (by simp)) (p20 (n + 2) 2 2 [] (by simp)) (p20 (n + 2) 2 2 [] (by simp)) e21 e22
end Go.MendM
