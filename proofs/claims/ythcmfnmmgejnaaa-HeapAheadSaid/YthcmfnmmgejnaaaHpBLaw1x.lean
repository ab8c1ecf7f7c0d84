/- Heaps of at most 14 cards: all of them, listed; rounds, and what comes back: plain Lean. -/
import Derived.Test.YthcmfnmmgejnaaaSpFramex
import Derived.Test.YthcmfnmmgejnaaaHpBPux
import Derived.Test.YthcmfnmmgejnaaaSpObjx
import Derived.KernelRfl

namespace Go.HpT
open Go Go.Sp
noncomputable section
def heads (ih : Nat → Nat → List (List Nat)) (left : Nat) (m : Nat) : List (List Nat) :=
  Nat.rec (motive := fun _ => List (List Nat)) [] (fun k r => appL r (mapL (fun p => (k + 1) :: p) (ih (left - (k + 1)) (k + 1)))) m
def pts (f : Nat) : Nat → Nat → List (List Nat) :=
  Nat.rec (motive := fun _ => Nat → Nat → List (List Nat)) (fun left _ => bb (Nat.beq left 0) [[]] []) (fun _ ih left most => bb (Nat.beq left 0) [[]] (heads ih left (Nat.min left most))) f
def isPt (p : List Nat) : Nat → Nat → Bool :=
  List.rec (motive := fun _ => Nat → Nat → Bool) (fun left _ => Nat.beq left 0) (fun h _ ih left most => an (Nat.ble 1 h) (an (Nat.ble h most) (an (Nat.ble h left) (ih (left - h) h)))) p
theorem mem_heads {ih : Nat → Nat → List (List Nat)} {left h : Nat} {r : List Nat} (hr : r ∈ ih (left - h) h) : ∀ m, 1 ≤ h → h ≤ m → h :: r ∈ heads ih left m
  | 0, h1, h2 => by omega
  | m + 1, h1, h2 => by
    show h :: r ∈ appL (heads ih left m) (mapL (fun p => (m + 1) :: p) (ih (left - (m + 1)) (m + 1)))
    rw [appL_eq, List.mem_append, mapL_eq, List.mem_map]
    by_cases e : h = m + 1
    · subst e; exact .inr ⟨r, hr, rfl⟩
    · exact .inl (mem_heads hr m h1 (by omega))
theorem mem_pts : ∀ (p : List Nat) (f left most : Nat), left ≤ f → isPt p left most = true → p ∈ pts f left most
  | [], f, left, most, hf, h => by
    have h : Nat.beq left 0 = true := h
    cases f with
    | zero => show [] ∈ bb (Nat.beq left 0) [[]] []; rw [h]; simp [bb_true]
    | succ f => show [] ∈ bb (Nat.beq left 0) [[]] _; rw [h]; simp [bb_true]
  | a :: p, f, left, most, hf, h => by
    have h : an (Nat.ble 1 a) (an (Nat.ble a most) (an (Nat.ble a left) (isPt p (left - a) a))) = true := h
    obtain ⟨h1, h⟩ := an_inv h
    obtain ⟨h2, h⟩ := an_inv h
    obtain ⟨h3, h⟩ := an_inv h
    have h1 := Nat.le_of_ble_eq_true h1
    have h2 := Nat.le_of_ble_eq_true h2
    have h3 := Nat.le_of_ble_eq_true h3
    cases f with
    | zero => omega
    | succ f =>
      have hz : Nat.beq left 0 = false := by cases left with
        | zero => omega
        | succ l => rfl
      show a :: p ∈ bb (Nat.beq left 0) [[]] (heads (pts f) left (Nat.min left most))
      rw [hz, bb_false]
      exact mem_heads (mem_pts p f (left - a) a (by omega) h) _ h1 (Nat.le_min.2 ⟨h3, h2⟩)
def sumL (p : List Nat) : Nat := List.rec (motive := fun _ => Nat) 0 (fun h _ r => h + r) p
def okP (n : Nat) (p : List Nat) : Bool := an (Nat.ble 1 (sumL p)) (an (Nat.ble (sumL p) n) (isPt p (sumL p) (sumL p)))
def ins (m : Nat) (p : List Nat) : List Nat := List.rec (motive := fun _ => List Nat) [m] (fun h r ih => bb (Nat.ble h m) (m :: h :: r) (h :: ih)) p
def decs (p : List Nat) : List Nat := List.rec (motive := fun _ => List Nat) [] (fun h _ ih => bb (Nat.ble h 1) ih ((h - 1) :: ih)) p
def rnd (p : List Nat) : List Nat := ins (len p) (decs p)
def stair (n : Nat) : Nat := Nat.rec (motive := fun _ => Nat → Nat → Nat) (fun k _ => k) (fun _ ih k left => bb (Nat.blt k left) (ih (k + 1) (left - (k + 1))) k) n 0 n
def okS (k : Nat) (p : List Nat) : Bool :=
  Nat.rec (motive := fun _ => List Nat → Bool) (fun p => ll p true fun h r => an (Nat.beq h 1) (ll r true fun _ _ => false)) (fun k ih p => ll p false fun h r => an (orr (Nat.beq h (k + 1)) (Nat.beq h (k + 2))) (ih r)) k p
def ret (p : List Nat) : Bool := okS (stair (sumL p)) p
def iL (p : List Nat) : List Value := mapL (fun h => .int .i64 (.ofNat h)) p
end
end Go.HpT
set_option maxRecDepth 100000
namespace Go.HpBM
open Go Go.Sp Go.HpB Go.HpT
noncomputable section
def sv (p : List Nat) : Value := Sl.v 1 ⟨len p, 0, iL p⟩
def cnt (h : Nat) (p : List Nat) : Nat := List.rec (motive := fun _ => Nat) 0 (fun a _ ih => bb (Nat.beq a h) (Nat.succ ih) ih) p
def cvl (p : List Nat) : List Value := mapL (fun h => .int .i64 (.ofNat (cnt h p))) [0, 1, 2, 3, 4, 5, 6, 7, 8, 9, 10, 11, 12, 13, 14, 15, 16, 17, 18, 19, 20, 21]
def cv (p : List Nat) : Value := .agg ⟨cvl p⟩
def comes (f : Nat) : List Nat → Bool :=
  Nat.rec (motive := fun _ => List Nat → Bool) (fun p => ret p) (fun _ ih p => bb (ret p) true (ih (rnd p))) f
def iter (n : Nat) : List Nat → List Nat := Nat.rec (motive := fun _ => List Nat → List Nat) (fun p => p) (fun _ ih p => ih (rnd p)) n
def eqP (a : List Nat) : List Nat → Bool := List.rec (motive := fun _ => List Nat → Bool) (fun b => nilL b) (fun x _ ih b => ll b false fun y r => an (Nat.beq x y) (ih r)) a
def seen (p : List Nat) : Bool := an (okP 21 (rnd p)) (an (Nat.beq (sumL (rnd p)) (sumL p)) (an (comes 60 p) (bb (ret p) (an (ret (rnd p)) (eqP (iter (stair (sumL p) + 1) p) p)) true)))
def rngT (n : Nat) : List Nat := Nat.rec (motive := fun _ => List Nat) [] (fun k ih => appL ih [k]) n
def ltL (a : List Nat) : List Nat → Bool := List.rec (motive := fun _ => List Nat → Bool) (fun b => nt (nilL b)) (fun x _ ih b => ll b false fun y r => bb (Nat.blt x y) true (bb (Nat.beq x y) (ih r) false)) a
def remT (h : Nat) (p : List Nat) : List Nat := List.rec (motive := fun _ => List Nat) [] (fun x r ih => bb (Nat.beq x h) r (x :: ih)) p
def onesT (n : Nat) : List Nat := Nat.rec (motive := fun _ => List Nat) [] (fun _ ih => 1 :: ih) n
def insT (a : List Nat) (L : List (List Nat)) : List (List Nat) := List.rec (motive := fun _ => List (List Nat)) [a] (fun x r ih => bb (ltL a x) (a :: x :: r) (x :: ih)) L
def aheadT (p : List Nat) : List (List Nat) :=
  List.rec (motive := fun _ => List (List Nat)) [] (fun h r ih => bb (ll r false fun y _ => Nat.beq y h) ih (bb (Nat.ble (len p) (h + 1)) (insT (appL (mapL Nat.succ (remT h p)) (onesT (h + 1 - len p))) ih) ih)) p
def llV (L : List (List Nat)) : Value := Sl.v 1 ⟨len L, 0, mapL sv L⟩
def ascT (L : List (List Nat)) : Bool := List.rec (motive := fun _ => Bool) true (fun x r ih => an (ll r true fun y _ => ltL x y) ih) L
def memT (p : List Nat) (L : List (List Nat)) : Bool := List.rec (motive := fun _ => Bool) false (fun x _ ih => bb (eqP x p) true ih) L
def seenB (p : List Nat) : Bool := an (ascT (aheadT p)) (an (allL (fun l => an (okP 21 l) (an (eqP (rnd l) p) (Nat.beq (sumL l) (sumL p)))) (aheadT p)) (memT p (aheadT (rnd p))))
end
end Go.HpBM
set_option maxRecDepth 100000
namespace Go.HpBM
open Go.Sp Go.HpB Go.HpT

theorem lt_true {a b : Nat} (h : a < b) : ilt (Int.ofNat a) (Int.ofNat b) = true := by simp [ilt_eq, h]
theorem lt_false {a b : Nat} (h : ¬ a < b) : ilt (Int.ofNat a) (Int.ofNat b) = false := by simp [ilt_eq]; omega
theorem ieqr (x : Int) : ieq x x = true := by simp [ieq_eq]
theorem neqr (x : Int) : nt (ieq x x) = false := by rw [ieqr]; rfl
theorem ne_t {x : Int} (h : x ≠ 0) : nt (ieq x 0) = true := by simp [ieq_eq, h]
def nI (l : List Nat) : List Int := l.map Int.ofNat
theorem nI_len (l : List Nat) : (nI l).length = l.length := by simp [nI]
theorem nI_get (l : List Nat) (i : Nat) (h : i < l.length) : (nI l)[i]'(by rw [nI_len]; exact h) = Int.ofNat l[i] := by simp [nI]
theorem getN (l : List Nat) (i : Nat) (h : i < l.length) : ((nI l).map I)[i]? = some (I (Int.ofNat l[i])) := by rw [getI _ i (by rw [nI_len]; exact h), nI_get l i h]
theorem clI (l : List Int) : allL closed1 (l.map I) = true := by rw [allL_eq, closedI]
theorem iL_eq (p : List Nat) : iL p = (nI p).map I := by
  unfold iL nI; rw [mapL_eq, List.map_map]; rfl
theorem sv_eq (p : List Nat) : sv p = Sl.v 1 (sl 0 (nI p)) := by
  unfold sv sl; rw [iL_eq, len_eq, nI_len]
theorem wrapN {z : Int} (h1 : -2000000000 ≤ z) (h2 : z ≤ 2000000000) : wrapF .i64 z = z := wrapI _ (by omega) (by omega)
noncomputable def ifp (p : Prop) (a b : Int) : Int := @ite _ p (Classical.propDecidable p) a b
theorem ifp_t {p : Prop} {a b : Int} (h : p) : ifp p a b = a := if_pos h
theorem ifp_f {p : Prop} {a b : Int} (h : ¬ p) : ifp p a b = b := if_neg h
theorem p42 (n : Nat) (a b c : Int) : puN (n + 1) 42 [I a, I b, I c] = some (Value.bool (decide (a ≤ b) && decide (b ≤ c))) := by
  show bb (nt (ilt b a)) (some (Value.bool (nt (ilt c b)))) (some (Value.bool false)) = _
  by_cases h1 : a ≤ b <;> by_cases h2 : b ≤ c <;> simp [ilt_eq, h1, h2, show (b < a) ↔ ¬ a ≤ b from by omega, show (c < b) ↔ ¬ b ≤ c from by omega]
theorem p59 (n : Nat) (a b c : Int) : puN (n + 1) 59 [I a, I b, I c] = some (Value.bool (decide (b ≤ a) && decide (a ≤ c))) := by
  show bb (nt (ilt a b)) (some (Value.bool (nt (ilt c a)))) (some (Value.bool false)) = _
  by_cases h1 : b ≤ a <;> by_cases h2 : a ≤ c <;> simp [ilt_eq, h1, h2, show (a < b) ↔ ¬ b ≤ a from by omega, show (c < a) ↔ ¬ a ≤ c from by omega]
theorem p5 (n : Nat) (fl : Nat) (l : List Int) : puN (n + 1) 5 [Sl.v 1 (sl fl l)] = some (Value.bool (decide (60 < l.length))) := by
  show some (Value.bool (ilt 60 (Int.ofNat l.length))) = _
  rw [ilt_eq]
  by_cases h : 60 < l.length
  · rw [decide_eq_true h, decide_eq_true]; simp only [Int.ofNat_eq_natCast]; omega
  · rw [decide_eq_false h, decide_eq_false]; simp only [Int.ofNat_eq_natCast]; omega

noncomputable def sc : Int → List Int → Int
  | _, [] => 0
  | last, h :: t => ifp (1 ≤ h ∧ h ≤ 21) (ifp (last < h) 7 (sc h t)) 1
noncomputable def chk (l : List Int) : Int := ifp (l.length = 0) 4 (ifp (sc 21 l = 0) (ifp (21 < l.sum) 3 0) (sc 21 l))
theorem sc_pos : ∀ (l : List Int) (last : Int), sc last l = 0 → ∀ h ∈ l, 1 ≤ h ∧ h ≤ 21
  | [], _, _, h, hh => by cases hh
  | a :: t, last, e, h, hh => by
    unfold sc at e
    by_cases c : 1 ≤ a ∧ a ≤ 21
    · rw [ifp_t c] at e
      by_cases d : last < a
      · rw [ifp_t d] at e; cases e
      · rw [ifp_f d] at e
        rcases List.mem_cons.1 hh with rfl | hh
        · exact c
        · exact sc_pos t a e h hh
    · rw [ifp_f c] at e; cases e
theorem sum_ge : ∀ (l : List Int), (∀ h ∈ l, 1 ≤ h ∧ h ≤ 21) → 0 ≤ l.sum ∧ l.sum ≤ 21 * l.length
  | [], _ => by simp
  | a :: l, h => by
    have h1 := h a (by simp)
    have h2 := sum_ge l (fun b hb => h b (by simp [hb]))
    rw [List.sum_cons, List.length_cons]; omega
theorem l26 (n fl : Nat) (l : List Int) (hl : l.length ≤ 60) : ∀ (f i : Nat) (s last : Int), l.length - i < f → i ≤ l.length → 0 ≤ s → s ≤ 22 →
    l26_1 (puN (n + 1)) 1000000 f s last (sl fl l) (Int.ofNat l.length) (Int.ofNat i) = some (I (ifp (sc last (l.drop i) = 0) (ifp (21 < s + (l.drop i).sum) 3 0) (sc last (l.drop i)))) := by
  intro f
  induction f with
  | zero => intro i s last h; omega
  | succ f ih =>
    intro i s last hf hi h0 h22
    show b26_1 (puN (n + 1)) 1000000 (l26_1 (puN (n + 1)) 1000000 f) _ _ _ _ _ = _
    unfold b26_1
    by_cases hlt : i < l.length
    · have q := p42 n 1 l[i] 21
      rw [lt_true hlt, List.drop_eq_getElem_cons hlt]
      simp only [bb_true, toN_mk, oo_some, sl_n, sl_cs, blt_eq, hlt, decide_true, an_eq, Bool.true_and, nthL_eq, Nat.mul_one, getI l i hlt, toI_mk]
      rw [q, oo_some, vBool_mk, oo_some]
      unfold sc
      by_cases c : 1 ≤ l[i] ∧ l[i] ≤ 21
      · have d : (decide ((1 : Int) ≤ l[i]) && decide (l[i] ≤ 21)) = true := by simp [c]
        rw [d, show nt true = false from rfl, bb_false, ifp_t c]
        by_cases e : last < l[i]
        · have : ilt last l[i] = true := by rw [ilt_eq]; exact decide_eq_true e
          rw [this, bb_true, ifp_t e, ifp_f (by decide)]
        · have : ilt last l[i] = false := by rw [ilt_eq]; exact decide_eq_false e
          rw [this, bb_false, ifp_f e, wrapS i (by omega)]
          have ea : wrapF .i64 (Int.add s l[i]) = s + l[i] := wrapN (by show _ ≤ s + l[i]; omega) (by show s + l[i] ≤ _; omega)
          rw [ea]
          have hs : ∀ h ∈ l.drop (i + 1), sc l[i] (l.drop (i + 1)) = 0 → 1 ≤ h ∧ h ≤ 21 := fun h hh g => sc_pos _ _ g h hh
          by_cases g : 22 < s + l[i]
          · have : ilt 22 (s + l[i]) = true := by rw [ilt_eq]; exact decide_eq_true g
            rw [this, bb_true, ih (i + 1) 22 l[i] (by omega) (by omega) (by omega) (by omega)]
            by_cases z : sc l[i] (l.drop (i + 1)) = 0
            · have := sum_ge (l.drop (i + 1)) (fun h hh => hs h hh z)
              rw [ifp_t z, ifp_t z, ifp_t (by omega), List.sum_cons, ifp_t (by omega)]
            · rw [ifp_f z, ifp_f z]
          · have : ilt 22 (s + l[i]) = false := by rw [ilt_eq]; exact decide_eq_false g
            rw [this, bb_false, ih (i + 1) (s + l[i]) l[i] (by omega) (by omega) (by omega) (by omega), List.sum_cons, Int.add_assoc]
      · have d : (decide ((1 : Int) ≤ l[i]) && decide (l[i] ≤ 21)) = false := by
          rw [← Bool.not_eq_true]; simp only [Bool.and_eq_true, decide_eq_true_eq]; exact c
        rw [d, show nt false = true from rfl, bb_true, ifp_f c, ifp_f (by decide)]
    · have : i = l.length := by omega
      subst this
      rw [lt_false hlt, bb_false, List.drop_length]
      unfold m26_0 sc
      rw [ifp_t rfl, List.sum_nil, Int.add_zero]
      by_cases g : 21 < s
      · have : ilt 21 s = true := by rw [ilt_eq]; exact decide_eq_true g
        rw [this, ifp_t g]; rfl
      · have : ilt 21 s = false := by rw [ilt_eq]; exact decide_eq_false g
        rw [this, ifp_f g]; rfl
theorem p26 (n fl : Nat) (l : List Int) (hl : l.length ≤ 60) : puN (n + 2) 26 [Sl.v 1 (sl fl l)] = some (I (chk l)) := by
  refine Eq.trans (b := m26_ (puN (n + 1)) 1000000 (sl fl l)) (by kernel_rfl) ?_
  unfold m26_ chk
  rw [sl_n]
  by_cases h0 : l.length = 0
  · rw [ifp_t h0, h0]; rfl
  · have : ieq (Int.ofNat l.length) 0 = false := by rw [ieq_eq]; simp only [Int.ofNat_eq_natCast]; exact decide_eq_false (by omega)
    rw [ifp_f h0, this, bb_false]
    have := l26 n fl l hl 1000000 0 0 21 (by omega) (by omega) (by omega) (by omega)
    rw [List.drop_zero, Int.zero_add] at this
    exact this
theorem l29b (pu : PureF) (fl : Nat) (l : List Int) (hl : l.length ≤ 60) (hp : ∀ h ∈ l, 1 ≤ h ∧ h ≤ 21) : ∀ (f i : Nat) (s : Int), l.length - i < f → i ≤ l.length → 0 ≤ s → s ≤ 21 →
    l29_2 pu 1000000 f (sl fl l) s (Int.ofNat i) = some (I (ifp (21 < s + (l.drop i).sum) 3 0)) := by
  intro f
  induction f with
  | zero => intro i s h; omega
  | succ f ih =>
    intro i s hf hi h0 h21
    show b29_2 pu 1000000 (l29_2 pu 1000000 f) _ _ _ = _
    unfold b29_2
    rw [sl_n]
    by_cases hlt : i < l.length
    · have hx := hp _ (List.getElem_mem hlt)
      have ea : wrapF .i64 (Int.add s l[i]) = s + l[i] := wrapN (by show _ ≤ s + l[i]; omega) (by show s + l[i] ≤ _; omega)
      have hs := sum_ge (l.drop (i + 1)) (fun h hh => hp h (List.mem_of_mem_drop hh))
      rw [lt_true hlt, List.drop_eq_getElem_cons hlt, List.sum_cons]
      simp only [bb_true, toN_mk, oo_some, sl_n, sl_cs, blt_eq, hlt, decide_true, an_eq, Bool.true_and, nthL_eq, Nat.mul_one, getI l i hlt, toI_mk, ea]
      by_cases g : 21 < s + l[i]
      · have : ilt 21 (s + l[i]) = true := by rw [ilt_eq]; exact decide_eq_true g
        rw [this, bb_true, ifp_t (by omega)]
      · have : ilt 21 (s + l[i]) = false := by rw [ilt_eq]; exact decide_eq_false g
        rw [this, bb_false, wrapS i (by omega), ih (i + 1) (s + l[i]) (by omega) (by omega) (by omega) (by omega), Int.add_assoc]
    · have : i = l.length := by omega
      subst this
      rw [lt_false hlt, bb_false, List.drop_length, List.sum_nil, Int.add_zero, ifp_f (by omega)]; rfl
theorem l29a (n fl : Nat) (l : List Int) (hl : l.length ≤ 60) : ∀ (f i : Nat), l.length - i < f → i ≤ l.length → (∀ h ∈ l.take i, 1 ≤ h ∧ h ≤ 21) →
    l29_3 (puN (n + 1)) 1000000 f (sl fl l) (Int.ofNat i) = some (I (ifp (sc (if i = 0 then 21 else l.getD (i - 1) 0) (l.drop i) = 0) (ifp (21 < l.sum) 3 0) (sc (if i = 0 then 21 else l.getD (i - 1) 0) (l.drop i)))) := by
  intro f
  induction f with
  | zero => intro i h; omega
  | succ f ih =>
    intro i hf hi ht
    show b29_3 (puN (n + 1)) 1000000 (l29_3 (puN (n + 1)) 1000000 f) _ _ = _
    unfold b29_3
    rw [sl_n]
    by_cases hlt : i < l.length
    · have q := p59 n l[i] 1 21
      rw [lt_true hlt, List.drop_eq_getElem_cons hlt]
      simp only [bb_true, toN_mk, oo_some, sl_n, sl_cs, blt_eq, hlt, decide_true, an_eq, Bool.true_and, nthL_eq, Nat.mul_one, getI l i hlt, toI_mk]
      rw [q, oo_some, vBool_mk, oo_some]
      unfold sc
      by_cases c : 1 ≤ l[i] ∧ l[i] ≤ 21
      · have d : (decide ((1 : Int) ≤ l[i]) && decide (l[i] ≤ 21)) = true := by simp [c]
        rw [d, show nt true = false from rfl, bb_false, ifp_t c]
        have ih' := ih (i + 1) (by omega) (by omega) (fun h hh => by
          rw [List.take_succ_eq_append_getElem hlt] at hh
          rcases List.mem_append.1 hh with hh | hh
          · exact ht h hh
          · rw [List.mem_singleton.1 hh]; exact c)
        have eg : l.getD (i + 1 - 1) 0 = l[i] := by rw [Nat.add_sub_cancel, List.getD_eq_getElem?_getD, List.getElem?_eq_getElem hlt, Option.getD_some]
        rw [if_neg (by omega), eg] at ih'
        by_cases i0 : i = 0
        · subst i0
          have : ilt 0 (Int.ofNat 0) = false := rfl
          have hn : ¬ (21 : Int) < l[0] := by omega
          rw [this, bb_false, if_pos rfl, ifp_f hn]
          unfold m29_4
          rw [bb_false, wrapS 0 (by omega)]
          exact ih'
        · obtain ⟨m, rfl⟩ : ∃ m, i = m + 1 := ⟨i - 1, by omega⟩
          have hm : m < l.length := by omega
          have hsub : wrapF .i64 (Int.sub (Int.ofNat (m + 1)) 1) = Int.ofNat m := by
            have e : Int.sub (Int.ofNat (m + 1)) 1 = Int.ofNat m := by show ((m + 1 : Nat) : Int) - 1 = ((m : Nat) : Int); omega
            rw [e]
            exact wrapN (by simp only [Int.ofNat_eq_natCast]; omega) (by simp only [Int.ofNat_eq_natCast]; omega)
          have em : l.getD (m + 1 - 1) 0 = l[m] := by rw [Nat.add_sub_cancel, List.getD_eq_getElem?_getD, List.getElem?_eq_getElem hm, Option.getD_some]
          rw [show ilt 0 (Int.ofNat (m + 1)) = true from lt_true (Nat.succ_pos m), bb_true, if_neg i0, em]
          simp only [blt_eq, hlt, hm, decide_true, Bool.true_and, bb_true, nthL_eq, Nat.mul_one, getI l _ hlt, getI l _ hm, oo_some, toI_mk, hsub, toN_mk]
          unfold m29_4
          by_cases e : l[m] < l[m + 1]
          · have : ilt l[m] l[m + 1] = true := by rw [ilt_eq]; exact decide_eq_true e
            rw [this, bb_true, ifp_t e, ifp_f (by decide)]
          · have : ilt l[m] l[m + 1] = false := by rw [ilt_eq]; exact decide_eq_false e
            rw [this, bb_false, ifp_f e, wrapS (m + 1) (by omega)]
            exact ih'
      · have d : (decide ((1 : Int) ≤ l[i]) && decide (l[i] ≤ 21)) = false := by
          rw [← Bool.not_eq_true]; simp only [Bool.and_eq_true, decide_eq_true_eq]; exact c
        rw [d, show nt false = true from rfl, bb_true, ifp_f c, ifp_f (by decide)]
    · have : i = l.length := by omega
      subst this
      rw [List.take_length] at ht
      rw [lt_false hlt, bb_false, List.drop_length]
      unfold m29_0 sc
      rw [ifp_t rfl]
      have := l29b (puN (n + 1)) fl l hl ht 1000000 0 0 (by omega) (by omega) (by omega) (by omega)
      rw [List.drop_zero, Int.zero_add] at this
      exact this
theorem p29 (n fl : Nat) (l : List Int) (hl : l.length ≤ 60) : puN (n + 2) 29 [Sl.v 1 (sl fl l)] = some (I (chk l)) := by
  refine Eq.trans (b := m29_ (puN (n + 1)) 1000000 (sl fl l)) (by kernel_rfl) ?_
  unfold m29_ chk
  rw [sl_n]
  by_cases h0 : l.length = 0
  · rw [ifp_t h0, h0]; rfl
  · have : ieq (Int.ofNat l.length) 0 = false := by rw [ieq_eq]; simp only [Int.ofNat_eq_natCast]; exact decide_eq_false (by omega)
    rw [ifp_f h0, this, bb_false]
    have := l29a n fl l hl 1000000 0 (by omega) (by omega) (by simp)
    rw [List.drop_zero, if_pos rfl] at this
    exact this
theorem sum_nI (p : List Nat) : (nI p).sum = Int.ofNat (sumL p) := by
  induction p with
  | nil => rfl
  | cons a p ih =>
    show Int.ofNat a + (nI p).sum = Int.ofNat (a + sumL p)
    rw [ih]; simp
theorem isPt_of : ∀ (p : List Nat) (last left : Nat), sc (Int.ofNat last) (nI p) = 0 → sumL p = left → isPt p left last = true
  | [], _, left, _, hs => by
    have hs : 0 = left := hs
    subst hs; rfl
  | a :: p, last, left, h, hs => by
    have h : ifp (1 ≤ Int.ofNat a ∧ Int.ofNat a ≤ 21) (ifp (Int.ofNat last < Int.ofNat a) 7 (sc (Int.ofNat a) (nI p))) 1 = 0 := h
    have hs : a + sumL p = left := hs
    by_cases c : 1 ≤ Int.ofNat a ∧ Int.ofNat a ≤ 21
    · rw [ifp_t c] at h
      by_cases d : Int.ofNat last < Int.ofNat a
      · rw [ifp_t d] at h; cases h
      · rw [ifp_f d] at h
        simp only [Int.ofNat_eq_natCast] at c d
        have := isPt_of p a (left - a) h (by omega)
        show an (Nat.ble 1 a) (an (Nat.ble a last) (an (Nat.ble a left) (isPt p (left - a) a))) = true
        rw [this, Nat.ble_eq_true_of_le (show 1 ≤ a by omega), Nat.ble_eq_true_of_le (show a ≤ last by omega), Nat.ble_eq_true_of_le (show a ≤ left by omega)]; rfl
    · rw [ifp_f c] at h; cases h
theorem natL : ∀ (l : List Int), (∀ a ∈ l, 1 ≤ a ∧ a ≤ 21) → ∃ r : List Nat, l = nI r
  | [], _ => ⟨[], rfl⟩
  | a :: l, h => by
    obtain ⟨r, e⟩ := natL l (fun b hb => h b (by simp [hb]))
    have a1 := h a (by simp)
    refine ⟨a.toNat :: r, ?_⟩
    rw [e]; show a :: nI r = Int.ofNat a.toNat :: nI r
    rw [show Int.ofNat a.toNat = a from by simp only [Int.ofNat_eq_natCast]; omega]
theorem sc_mono : ∀ (p : List Nat) (last last' : Int), sc last (nI p) = 0 → (∀ a t, p = a :: t → Int.ofNat a ≤ last') → sc last' (nI p) = 0
  | [], _, _, _, _ => rfl
  | a :: p, last, last', h, hl => by
    have h : ifp (1 ≤ Int.ofNat a ∧ Int.ofNat a ≤ 21) (ifp (last < Int.ofNat a) 7 (sc (Int.ofNat a) (nI p))) 1 = 0 := h
    show ifp (1 ≤ Int.ofNat a ∧ Int.ofNat a ≤ 21) (ifp (last' < Int.ofNat a) 7 (sc (Int.ofNat a) (nI p))) 1 = 0
    have := hl a p rfl
    by_cases c : 1 ≤ Int.ofNat a ∧ Int.ofNat a ≤ 21
    · rw [ifp_t c] at h ⊢
      rw [ifp_f (by omega)]
      by_cases d : last < Int.ofNat a
      · rw [ifp_t d] at h; cases h
      · rw [ifp_f d] at h; exact h
    · rw [ifp_f c] at h; cases h
theorem ok_of {l : List Int} (h : chk l = 0) : ∃ p : List Nat, l = nI p ∧ okP 21 p = true := by
  unfold chk at h
  by_cases h0 : l.length = 0
  · rw [ifp_t h0] at h; cases h
  · rw [ifp_f h0] at h
    by_cases h1 : sc 21 l = 0
    · rw [ifp_t h1] at h
      by_cases h2 : 21 < l.sum
      · rw [ifp_t h2] at h; cases h
      · obtain ⟨p, rfl⟩ := natL l (sc_pos l 21 h1)
        rw [sum_nI] at h2
        simp only [Int.ofNat_eq_natCast] at h2
        have hs1 : 1 ≤ sumL p := by
          cases p with
          | nil => exact absurd rfl h0
          | cons a t =>
            have := (sc_pos _ _ h1 (Int.ofNat a) (by simp [nI])).1
            simp only [Int.ofNat_eq_natCast] at this
            show 1 ≤ a + sumL t
            omega
        have hp := isPt_of p (sumL p) (sumL p) (sc_mono p 21 _ h1 (fun a t e => by
          subst e
          show Int.ofNat a ≤ Int.ofNat (a + sumL t)
          simp only [Int.ofNat_eq_natCast]; omega)) rfl
        refine ⟨p, rfl, ?_⟩
        show an (Nat.ble 1 (sumL p)) (an (Nat.ble (sumL p) 21) (isPt p (sumL p) (sumL p))) = true
        rw [hp, Nat.ble_eq_true_of_le hs1, Nat.ble_eq_true_of_le (show sumL p ≤ 21 by omega)]; rfl
    · rw [ifp_f h1] at h; exact absurd h h1
end Go.HpBM
