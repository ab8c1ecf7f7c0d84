/- Tables of comparators, in plain Lean: rows, comparators, plain rows, and that a table sorts all rows just if it sorts all plain rows. -/
import Derived.Test.YtchpnknhdgplgaaDoorSpObjx
import Derived.Test.YtchpnknhdgplgaaDoorTabUJoinx
import Derived.KernelRfl

set_option maxRecDepth 100000
namespace Go.TM

def stp (r : List Int) (p : Int × Int) : List Int := (r.set p.1.toNat (min (r.getD p.1.toNat 0) (r.getD p.2.toNat 0))).set p.2.toNat (max (r.getD p.1.toNat 0) (r.getD p.2.toNat 0))
theorem stp_len (r : List Int) (p : Int × Int) : (stp r p).length = r.length := by simp [stp]
def runs (r : List Int) (C : List (Int × Int)) : List Int := C.foldl stp r
theorem runs_len : ∀ (C : List (Int × Int)) (r : List Int), (runs r C).length = r.length
  | [], r => rfl
  | p :: C, r => by show (runs (stp r p) C).length = _; rw [runs_len C, stp_len]
theorem runs_app (r : List Int) (C D : List (Int × Int)) : runs r (C ++ D) = runs (runs r C) D := by simp [runs]
theorem runs_cons (r : List Int) (p : Int × Int) (D : List (Int × Int)) : runs r (p :: D) = runs (stp r p) D := rfl

def ok1 (n : Nat) (p : Int × Int) : Prop := 0 ≤ p.1 ∧ p.1 < p.2 ∧ p.2 < (n : Int)
def okC (n : Nat) (C : List (Int × Int)) : Prop := ∀ p ∈ C, ok1 n p

theorem getD_set (r : List Int) (i j : Nat) (v : Int) (hi : i < r.length) : (r.set i v).getD j 0 = if j = i then v else r.getD j 0 := by
  simp only [List.getD_eq_getElem?_getD, List.getElem?_set]
  by_cases h : i = j
  · subst h; simp [hi]
  · have h' : ¬ j = i := fun e => h e.symm
    simp [h, h']
theorem stp_at {n : Nat} {r : List Int} {p : Int × Int} (hp : ok1 n p) (hr : r.length = n) (j : Nat) :
    (stp r p).getD j 0 = if j = p.2.toNat then max (r.getD p.1.toNat 0) (r.getD p.2.toNat 0) else if j = p.1.toNat then min (r.getD p.1.toNat 0) (r.getD p.2.toNat 0) else r.getD j 0 := by
  obtain ⟨h1, h2, h3⟩ := hp
  unfold stp
  rw [getD_set _ _ _ _ (by simp; omega), getD_set _ _ _ _ (by omega)]
theorem ext_getD {a b : List Int} (h : a.length = b.length) (e : ∀ j, j < a.length → a.getD j 0 = b.getD j 0) : a = b := by
  apply List.ext_getElem h
  intro j h1 h2
  have := e j h1
  simp only [List.getD_eq_getElem?_getD, List.getElem?_eq_getElem h1, List.getElem?_eq_getElem h2, Option.getD_some] at this
  exact this
theorem getD_map (f : Int → Int) (r : List Int) (j : Nat) (hj : j < r.length) : (r.map f).getD j 0 = f (r.getD j 0) := by
  simp [List.getD_eq_getElem?_getD, hj]

def mono (f : Int → Int) : Prop := ∀ a b, a ≤ b → f a ≤ f b
theorem mono_min {f : Int → Int} (h : mono f) (a b : Int) : min (f a) (f b) = f (min a b) := by
  rcases Int.le_total a b with c | c
  · rw [Int.min_eq_left c, Int.min_eq_left (h _ _ c)]
  · rw [Int.min_eq_right c, Int.min_eq_right (h _ _ c)]
theorem mono_max {f : Int → Int} (h : mono f) (a b : Int) : max (f a) (f b) = f (max a b) := by
  rcases Int.le_total a b with c | c
  · rw [Int.max_eq_right c, Int.max_eq_right (h _ _ c)]
  · rw [Int.max_eq_left c, Int.max_eq_left (h _ _ c)]
theorem stp_map {f : Int → Int} (h : mono f) {n : Nat} {r : List Int} {p : Int × Int} (hp : ok1 n p) (hr : r.length = n) : stp (r.map f) p = (stp r p).map f := by
  obtain ⟨h1, h2, h3⟩ := hp
  unfold stp
  rw [getD_map f r _ (by omega), getD_map f r _ (by omega), mono_min h, mono_max h, List.map_set, List.map_set]
theorem runs_map {f : Int → Int} (h : mono f) {n : Nat} : ∀ (C : List (Int × Int)) (r : List Int), okC n C → r.length = n → runs (r.map f) C = (runs r C).map f
  | [], r, _, _ => rfl
  | p :: C, r, hC, hr => by
    rw [runs_cons, runs_cons, stp_map h (hC p (by simp)) hr]
    exact runs_map h C (stp r p) (fun q hq => hC q (by simp [hq])) (by rw [stp_len]; exact hr)

def turn (r : List Int) : List Int := (r.map fun x => -x).reverse
theorem turn_len (r : List Int) : (turn r).length = r.length := by simp [turn]
theorem turn_at (r : List Int) (j : Nat) (hj : j < r.length) : (turn r).getD j 0 = - r.getD (r.length - 1 - j) 0 := by
  have h2 : r.length - 1 - j < r.length := by omega
  simp [turn, List.getD_eq_getElem?_getD, hj, h2]
theorem turn_turn (r : List Int) : turn (turn r) = r := by
  simp only [turn, List.map_reverse, List.reverse_reverse, List.map_map]
  rw [show ((fun x : Int => -x) ∘ fun x => -x) = id from by funext x; simp]
  simp
def mir (n : Nat) (p : Int × Int) : Int × Int := ((n : Int) - 1 - p.2, (n : Int) - 1 - p.1)
theorem mir_ok {n : Nat} {p : Int × Int} (h : ok1 n p) : ok1 n (mir n p) := by
  obtain ⟨h1, h2, h3⟩ := h
  refine ⟨?_, ?_, ?_⟩ <;> simp only [mir] <;> omega
theorem okC_mir {n : Nat} {C : List (Int × Int)} (h : okC n C) : okC n (C.map (mir n)) := by
  intro p hp
  obtain ⟨q, hq, rfl⟩ := List.mem_map.1 hp
  exact mir_ok (h q hq)
theorem stp_turn {n : Nat} {r : List Int} {p : Int × Int} (hp : ok1 n p) (hr : r.length = n) : stp (turn r) (mir n p) = turn (stp r p) := by
  have hp2 := mir_ok hp
  obtain ⟨h1, h2, h3⟩ := hp
  apply ext_getD (by rw [stp_len, turn_len, turn_len, stp_len])
  intro j hj
  rw [stp_len, turn_len] at hj
  rw [stp_at hp2 (by rw [turn_len]; exact hr), turn_at (stp r p) j (by rw [stp_len]; exact hj), stp_len, stp_at ⟨h1, h2, h3⟩ hr]
  have a1 : (mir n p).1.toNat = n - 1 - p.2.toNat := by simp only [mir]; omega
  have a2 : (mir n p).2.toNat = n - 1 - p.1.toNat := by simp only [mir]; omega
  rw [a1, a2, turn_at r _ (by omega), turn_at r _ (by omega), turn_at r _ hj, hr]
  rw [show n - 1 - (n - 1 - p.2.toNat) = p.2.toNat by omega, show n - 1 - (n - 1 - p.1.toNat) = p.1.toNat by omega]
  by_cases c1 : j = n - 1 - p.1.toNat
  · rw [if_pos c1, if_neg (show ¬ n - 1 - j = p.2.toNat by omega), if_pos (show n - 1 - j = p.1.toNat by omega)]; omega
  · rw [if_neg c1]
    by_cases c2 : j = n - 1 - p.2.toNat
    · rw [if_pos c2, if_pos (show n - 1 - j = p.2.toNat by omega)]; omega
    · rw [if_neg c2, if_neg (show ¬ n - 1 - j = p.2.toNat by omega), if_neg (show ¬ n - 1 - j = p.1.toNat by omega)]
theorem runs_turn {n : Nat} : ∀ (C : List (Int × Int)) (r : List Int), okC n C → r.length = n → runs (turn r) (C.map (mir n)) = turn (runs r C)
  | [], r, _, _ => rfl
  | p :: C, r, hC, hr => by
    rw [List.map_cons, runs_cons, runs_cons, stp_turn (hC p (by simp)) hr]
    exact runs_turn C (stp r p) (fun q hq => hC q (by simp [hq])) (by rw [stp_len]; exact hr)

def srt (r : List Int) : Prop := ∀ j, 1 ≤ j → j < r.length → ¬ r.getD j 0 < r.getD (j - 1) 0
theorem srt_turn {r : List Int} (h : srt r) : srt (turn r) := by
  intro j h1 h2 h3
  rw [turn_len] at h2
  rw [turn_at r _ h2, turn_at r _ (by omega)] at h3
  have := h (r.length - 1 - (j - 1)) (by omega) (by omega)
  rw [show r.length - 1 - (j - 1) - 1 = r.length - 1 - j by omega] at this
  omega
theorem srt_le {r : List Int} (h : srt r) : ∀ (d i : Nat), i + d < r.length → r.getD i 0 ≤ r.getD (i + d) 0
  | 0, i, _ => Int.le_refl _
  | d + 1, i, hi => by
    have h1 := srt_le h d i (by omega)
    have h2 := h (i + (d + 1)) (by omega) hi
    rw [show i + (d + 1) - 1 = i + d by omega] at h2
    omega
theorem srt_stp {n : Nat} {r : List Int} {p : Int × Int} (hp : ok1 n p) (hr : r.length = n) (h : srt r) : stp r p = r := by
  have hp2 := hp
  obtain ⟨h1, h2, h3⟩ := hp2
  apply ext_getD (stp_len r p)
  intro j hj
  have := srt_le h (p.2.toNat - p.1.toNat) p.1.toNat (by omega)
  rw [show p.1.toNat + (p.2.toNat - p.1.toNat) = p.2.toNat by omega] at this
  rw [stp_at hp hr]
  by_cases c1 : j = p.2.toNat
  · rw [if_pos c1, c1]; omega
  · rw [if_neg c1]
    by_cases c2 : j = p.1.toNat
    · rw [if_pos c2, c2]; omega
    · rw [if_neg c2]

def plain (n m : Nat) : List Int := (List.range n).map fun lane => if m.testBit (n - 1 - lane) then 1 else 0
theorem plain_len (n m : Nat) : (plain n m).length = n := by simp [plain]
theorem plain_at (n m j : Nat) (hj : j < n) : (plain n m).getD j 0 = if m.testBit (n - 1 - j) then 1 else 0 := by
  simp [plain, List.getD_eq_getElem?_getD, hj]
def num : List Int → Nat
  | [] => 0
  | x :: l => (if x = 1 then 2 ^ l.length else 0) + num l
theorem num_lt : ∀ l : List Int, num l < 2 ^ l.length
  | [] => by simp [num]
  | x :: l => by
    have := num_lt l
    simp only [num, List.length_cons, Nat.pow_succ]
    split <;> omega
theorem num_bit : ∀ (l : List Int) (j : Nat), j < l.length → (num l).testBit (l.length - 1 - j) = decide (l.getD j 0 = 1)
  | [], j, h => by simp at h
  | x :: l, 0, _ => by
    have := num_lt l
    simp only [num, List.length_cons, Nat.add_sub_cancel, Nat.sub_zero]
    by_cases hx : x = 1
    · simp only [hx, if_true]
      rw [Nat.testBit_two_pow_add_eq, Nat.testBit_lt_two_pow this]; simp
    · simp only [hx, if_false, Nat.zero_add]
      rw [Nat.testBit_lt_two_pow this]; simp [hx]
  | x :: l, j + 1, h => by
    have h' : j < l.length := by simpa using h
    have ih := num_bit l j h'
    simp only [num, List.length_cons, Nat.add_sub_cancel]
    have e : l.length - (j + 1) = l.length - 1 - j := by omega
    rw [e]
    by_cases hx : x = 1
    · simp only [hx, if_true]
      rw [Nat.testBit_two_pow_add_gt (by omega), ih]; simp
    · simp only [hx, if_false, Nat.zero_add]
      rw [ih]; simp
theorem plain_num (l : List Int) (h : ∀ j, j < l.length → l.getD j 0 = 0 ∨ l.getD j 0 = 1) : plain l.length (num l) = l := by
  apply ext_getD (plain_len _ _)
  intro j hj
  rw [plain_len] at hj
  rw [plain_at _ _ _ hj, num_bit l j hj]
  rcases h j hj with c | c <;> rw [c] <;> simp

def sorts (n : Nat) (C : List (Int × Int)) : Prop := ∀ r : List Int, r.length = n → srt (runs r C)
theorem zero_one {n : Nat} {C : List (Int × Int)} (hC : okC n C) : (∀ m, m < 2 ^ n → srt (runs (plain n m) C)) ↔ sorts n C := by
  refine ⟨fun h r hr j h1 h2 h3 => ?_, fun h m _ => h _ (plain_len n m)⟩
  rw [runs_len] at h2
  let f : Int → Int := fun x => if (runs r C).getD (j - 1) 0 ≤ x then 1 else 0
  have hf : mono f := by
    intro a b hab
    simp only [f]
    by_cases c1 : (runs r C).getD (j - 1) 0 ≤ a
    · rw [if_pos c1, if_pos (Int.le_trans c1 hab)]; exact Int.le_refl _
    · rw [if_neg c1]; split <;> omega
  have hm := runs_map hf C r hC hr
  have hp : plain n (num (r.map f)) = r.map f := by
    have hh := plain_num (r.map f) (fun j hj => by
      rw [getD_map f r j (by simpa using hj)]
      simp only [f]
      split
      · exact .inr rfl
      · exact .inl rfl)
    rw [List.length_map, hr] at hh
    exact hh
  have hl := num_lt (r.map f)
  rw [List.length_map, hr] at hl
  have := h _ hl j h1 (by rw [runs_len, plain_len]; omega)
  rw [hp, hm, getD_map f _ j (by rw [runs_len]; omega), getD_map f _ (j - 1) (by rw [runs_len]; omega)] at this
  apply this
  simp only [f]
  rw [if_pos (Int.le_refl _), if_neg (by omega)]
  decide

theorem sorts_mir {n : Nat} {C : List (Int × Int)} (hC : okC n C) (h : sorts n C) : sorts n (C.map (mir n)) := by
  intro r hr
  have e := runs_turn C (turn r) hC (by rw [turn_len]; exact hr)
  rw [turn_turn] at e
  rw [e]
  exact srt_turn (h _ (by rw [turn_len]; exact hr))
theorem mir_mir (n : Nat) (C : List (Int × Int)) : (C.map (mir n)).map (mir n) = C := by
  rw [List.map_map]
  have : (mir n ∘ mir n) = id := by
    funext p
    show (_, _) = p
    obtain ⟨a, b⟩ := p
    simp only [mir]
    rw [Prod.mk.injEq]
    exact ⟨by omega, by omega⟩
  rw [this]; simp
theorem sorts_mir_iff {n : Nat} {C : List (Int × Int)} (hC : okC n C) : sorts n C ↔ sorts n (C.map (mir n)) := by
  refine ⟨sorts_mir hC, fun h => ?_⟩
  have := sorts_mir (okC_mir hC) h
  rwa [mir_mir] at this
theorem sorts_end {n : Nat} {C : List (Int × Int)} {c : Int × Int} (hc : ok1 n c) (h : sorts n C) : sorts n (C ++ [c]) := by
  intro r hr
  have h1 := h r hr
  rw [runs_app]
  show srt (stp (runs r C) c)
  rw [srt_stp hc (by rw [runs_len]; exact hr) h1]
  exact h1
theorem sorts_begin {n : Nat} {C : List (Int × Int)} {c : Int × Int} (h : sorts n C) : sorts n (c :: C) := by
  intro r hr
  rw [runs_cons]
  exact h _ (by rw [stp_len]; exact hr)

theorem swap_perm (r : List Int) (a b : Nat) (hab : a < b) (hb : b < r.length) : ((r.set a (r.getD b 0)).set b (r.getD a 0)).Perm r := by
  have ha : a < r.length := by omega
  have e1 : r.getD a 0 = r[a] := by simp [List.getD_eq_getElem?_getD, ha]
  have e2 : r.getD b 0 = r[b] := by simp [List.getD_eq_getElem?_getD, hb]
  rw [e1, e2]
  exact List.set_set_perm ha hb
theorem set_same (r : List Int) (A : Nat) (hA : A < r.length) : r.set A (r.getD A 0) = r := by
  have : r.getD A 0 = r[A] := by simp [hA]
  rw [this]; simp
theorem stp_perm {n : Nat} {r : List Int} {p : Int × Int} (hp : ok1 n p) (hr : r.length = n) : (stp r p).Perm r := by
  obtain ⟨h1, h2, h3⟩ := hp
  unfold stp
  by_cases c : r.getD p.1.toNat 0 ≤ r.getD p.2.toNat 0
  · rw [Int.min_eq_left c, Int.max_eq_right c, set_same r _ (by omega), set_same r _ (by omega)]
  · rw [Int.min_eq_right (by omega), Int.max_eq_left (by omega)]
    exact swap_perm r _ _ (by omega) (by omega)
theorem runs_perm {n : Nat} : ∀ (C : List (Int × Int)) (r : List Int), okC n C → r.length = n → (runs r C).Perm r
  | [], r, _, _ => .refl _
  | p :: C, r, hC, hr => by
    rw [runs_cons]
    exact (runs_perm C (stp r p) (fun q hq => hC q (by simp [hq])) (by rw [stp_len]; exact hr)).trans (stp_perm (hC p (by simp)) hr)
end Go.TM
set_option maxRecDepth 100000
namespace Go.TM

def bit (b : List Nat) (lane m : Nat) : Bool := (b.getD (lane * 2 + m / 64) 0).testBit (m % 64)
def rowB (b : List Nat) (n m : Nat) : List Int := (List.range n).map fun lane => if bit b lane m then 1 else 0
theorem rowB_len (b : List Nat) (n m : Nat) : (rowB b n m).length = n := by simp [rowB]
theorem rowB_at (b : List Nat) (n m j : Nat) (hj : j < n) : (rowB b n m).getD j 0 = if bit b j m then 1 else 0 := by
  simp [rowB, List.getD_eq_getElem?_getD, hj]
def pass1 (b : List Nat) (A B k : Nat) : List Nat := (b.set (A * 2 + k) (Nat.land (b.getD (A * 2 + k) 0) (b.getD (B * 2 + k) 0))).set (B * 2 + k) (Nat.lor (b.getD (A * 2 + k) 0) (b.getD (B * 2 + k) 0))
def pass (b : List Nat) (p : Int × Int) : List Nat := pass1 (pass1 b p.1.toNat p.2.toNat 0) p.1.toNat p.2.toNat 1
def thru (b : List Nat) (C : List (Int × Int)) : List Nat := C.foldl pass b
def wd (b : List Nat) : Prop := b.length = 14 ∧ ∀ x ∈ b, x < 2 ^ 64
theorem wd_get {b : List Nat} (h : wd b) (i : Nat) : b.getD i 0 < 2 ^ 64 := by
  rw [List.getD_eq_getElem?_getD]
  by_cases hi : i < b.length
  · rw [List.getElem?_eq_getElem hi]; exact h.2 _ (List.getElem_mem hi)
  · rw [List.getElem?_eq_none (by omega)]; decide
theorem wd_set {b : List Nat} (h : wd b) (i v : Nat) (hv : v < 2 ^ 64) : wd (b.set i v) := by
  refine ⟨by rw [List.length_set]; exact h.1, fun x hx => ?_⟩
  rcases List.mem_or_eq_of_mem_set hx with c | c
  · exact h.2 x c
  · rw [c]; exact hv
theorem land_lt {a b n : Nat} (ha : a < 2 ^ n) : Nat.land a b < 2 ^ n := Nat.lt_of_le_of_lt Nat.and_le_left ha
theorem lor_lt {a b n : Nat} (ha : a < 2 ^ n) (hb : b < 2 ^ n) : Nat.lor a b < 2 ^ n := Nat.or_lt_two_pow ha hb
theorem wd_pass1 {b : List Nat} (h : wd b) (A B k : Nat) : wd (pass1 b A B k) :=
  wd_set (wd_set h _ _ (land_lt (wd_get h _))) _ _ (lor_lt (wd_get h _) (wd_get h _))
theorem wd_pass {b : List Nat} (h : wd b) (p : Int × Int) : wd (pass b p) := wd_pass1 (wd_pass1 h _ _ _) _ _ _
theorem wd_thru : ∀ (C : List (Int × Int)) (b : List Nat), wd b → wd (thru b C)
  | [], b, h => h
  | p :: C, b, h => wd_thru C (pass b p) (wd_pass h p)
theorem getN_set (r : List Nat) (i j : Nat) (v : Nat) (hi : i < r.length) : (r.set i v).getD j 0 = if j = i then v else r.getD j 0 := by
  simp only [List.getD_eq_getElem?_getD, List.getElem?_set]
  by_cases h : i = j
  · subst h; simp [hi]
  · have h' : ¬ j = i := fun e => h e.symm
    simp [h, h']
theorem pass1_at {b : List Nat} (h : wd b) {A B k : Nat} (hAB : A < B) (hB : B < 7) (hk : k < 2) (j : Nat) :
    (pass1 b A B k).getD j 0 = if j = B * 2 + k then Nat.lor (b.getD (A * 2 + k) 0) (b.getD (B * 2 + k) 0) else if j = A * 2 + k then Nat.land (b.getD (A * 2 + k) 0) (b.getD (B * 2 + k) 0) else b.getD j 0 := by
  have := h.1
  unfold pass1
  rw [getN_set _ _ _ _ (by simp; omega), getN_set _ _ _ _ (by omega)]
theorem bit_pass {b : List Nat} (h : wd b) {p : Int × Int} {n : Nat} (hp : ok1 n p) (hn : n ≤ 7) (lane m : Nat) (hm : m < 128) :
    bit (pass b p) lane m = if lane = p.2.toNat then (bit b p.1.toNat m || bit b p.2.toNat m) else if lane = p.1.toNat then (bit b p.1.toNat m && bit b p.2.toNat m) else bit b lane m := by
  obtain ⟨h1, h2, h3⟩ := hp
  have hAB : p.1.toNat < p.2.toNat := by omega
  have hB : p.2.toNat < 7 := by omega
  unfold pass
  generalize p.1.toNat = A at *
  generalize p.2.toNat = B at *
  have hq : m / 64 = 0 ∨ m / 64 = 1 := by omega
  have e : ∀ k, k < 2 → m / 64 = k → bit (pass1 b A B k) lane m = if lane = B then (bit b A m || bit b B m) else if lane = A then (bit b A m && bit b B m) else bit b lane m := by
    intro k hk e
    unfold bit
    rw [pass1_at h hAB hB hk, e]
    by_cases c1 : lane = B
    · rw [if_pos c1, if_pos (by omega)]; exact Nat.testBit_or ..
    · rw [if_neg c1, if_neg (by omega)]
      by_cases c2 : lane = A
      · rw [if_pos c2, if_pos (by omega)]; exact Nat.testBit_and ..
      · rw [if_neg c2, if_neg (by omega)]
  have o : ∀ b', wd b' → ∀ k, k < 2 → m / 64 ≠ k → ∀ l, bit (pass1 b' A B k) l m = bit b' l m := by
    intro b' h' k hk e l
    unfold bit
    rw [pass1_at h' hAB hB hk, if_neg (by omega), if_neg (by omega)]
  show bit (pass1 (pass1 b A B 0) A B 1) lane m = _
  rcases hq with c | c
  · rw [o _ (wd_pass1 h _ _ _) 1 (by omega) (by omega)]
    exact e 0 (by omega) c
  · have e1 := o b h 0 (by omega) (by omega)
    have w1 := wd_pass1 h A B 0
    unfold bit
    rw [pass1_at w1 hAB hB (by omega), c]
    have f : ∀ l, (pass1 b A B 0).getD (l * 2 + 1) 0 = b.getD (l * 2 + 1) 0 := by
      intro l
      rw [pass1_at h hAB hB (by omega), if_neg (by omega), if_neg (by omega)]
    rw [f A, f B, f lane]
    by_cases c1 : lane = B
    · rw [if_pos c1, if_pos (by omega)]; exact Nat.testBit_or ..
    · rw [if_neg c1, if_neg (by omega)]
      by_cases c2 : lane = A
      · rw [if_pos c2, if_pos (by omega)]; exact Nat.testBit_and ..
      · rw [if_neg c2, if_neg (by omega)]
theorem rowB_pass {b : List Nat} (h : wd b) {p : Int × Int} {n : Nat} (hp : ok1 n p) (hn : n ≤ 7) (m : Nat) (hm : m < 128) : rowB (pass b p) n m = stp (rowB b n m) p := by
  have hp2 := hp
  obtain ⟨h1, h2, h3⟩ := hp2
  apply ext_getD (by rw [stp_len, rowB_len, rowB_len])
  intro j hj
  rw [rowB_len] at hj
  rw [rowB_at _ _ _ _ hj, stp_at hp (rowB_len b n m), bit_pass h hp hn j m hm, rowB_at _ _ _ p.1.toNat (by omega), rowB_at _ _ _ p.2.toNat (by omega), rowB_at _ _ _ j hj]
  by_cases c1 : j = p.2.toNat
  · rw [if_pos c1, if_pos c1]
    cases bit b p.1.toNat m <;> cases bit b p.2.toNat m <;> decide
  · rw [if_neg c1, if_neg c1]
    by_cases c2 : j = p.1.toNat
    · rw [if_pos c2, if_pos c2]
      cases bit b p.1.toNat m <;> cases bit b p.2.toNat m <;> decide
    · rw [if_neg c2, if_neg c2]
theorem rowB_thru {n : Nat} (hn : n ≤ 7) (m : Nat) (hm : m < 128) : ∀ (C : List (Int × Int)) (b : List Nat), wd b → okC n C → rowB (thru b C) n m = runs (rowB b n m) C
  | [], b, _, _ => rfl
  | p :: C, b, h, hC => by
    show rowB (thru (pass b p) C) n m = _
    rw [rowB_thru hn m hm C (pass b p) (wd_pass h p) (fun q hq => hC q (by simp [hq])), rowB_pass h (hC p (by simp)) hn m hm]; rfl

def wrongs (b : List Nat) (k : Nat) : Nat → Nat → Nat
  | 0, _ => 0
  | d + 1, l => Nat.lor (Nat.xor (b.getD ((l - 1) * 2 + k) 0) (Nat.land (b.getD ((l - 1) * 2 + k) 0) (b.getD (l * 2 + k) 0))) (wrongs b k d (l + 1))
theorem wrongs_bit (b : List Nat) (k i : Nat) : ∀ (d l : Nat), (wrongs b k d l).testBit i = true ↔ ∃ j, l ≤ j ∧ j < l + d ∧ (b.getD ((j - 1) * 2 + k) 0).testBit i = true ∧ (b.getD (j * 2 + k) 0).testBit i = false
  | 0, l => by
    rw [wrongs, Nat.zero_testBit]
    simp only [Bool.false_eq_true, false_iff]
    rintro ⟨j, h1, h2, _⟩; omega
  | d + 1, l => by
    have e : (wrongs b k (d + 1) l).testBit i = (((b.getD ((l - 1) * 2 + k) 0).testBit i ^^ ((b.getD ((l - 1) * 2 + k) 0).testBit i && (b.getD (l * 2 + k) 0).testBit i)) || (wrongs b k d (l + 1)).testBit i) := by
      rw [wrongs]
      rw [show ∀ x y, (Nat.lor x y).testBit i = (x.testBit i || y.testBit i) from fun x y => Nat.testBit_or ..]
      rw [show ∀ x y, (Nat.xor x y).testBit i = (x.testBit i ^^ y.testBit i) from fun x y => Nat.testBit_xor ..]
      rw [show ∀ x y, (Nat.land x y).testBit i = (x.testBit i && y.testBit i) from fun x y => Nat.testBit_and ..]
    rw [e, Bool.or_eq_true, wrongs_bit b k i d (l + 1)]
    constructor
    · rintro (h | ⟨j, h1, h2, h3⟩)
      · refine ⟨l, Nat.le_refl _, by omega, ?_⟩
        revert h
        cases (b.getD ((l - 1) * 2 + k) 0).testBit i <;> cases (b.getD (l * 2 + k) 0).testBit i <;> simp
      · exact ⟨j, by omega, by omega, h3⟩
    · rintro ⟨j, h1, h2, h3, h4⟩
      by_cases c : j = l
      · subst c; left; rw [h3, h4]; rfl
      · exact .inr ⟨j, by omega, by omega, h3, h4⟩
theorem srt_wrongs {b : List Nat} {n m : Nat} (hn : 1 ≤ n) : srt (rowB b n m) ↔ (wrongs b (m / 64) (n - 1) 1).testBit (m % 64) = false := by
  constructor
  · intro h
    rw [← Bool.not_eq_true]
    intro hb
    obtain ⟨j, h1, h2, h3, h4⟩ := (wrongs_bit b _ _ _ _).1 hb
    have := h j h1 (by rw [rowB_len]; omega)
    rw [rowB_at _ _ _ _ (by omega), rowB_at _ _ _ _ (by omega)] at this
    unfold bit at this
    rw [h3, h4] at this
    simp at this
  · intro h j h1 h2 h3
    rw [rowB_len] at h2
    rw [rowB_at _ _ _ _ h2, rowB_at _ _ _ _ (by omega)] at h3
    rw [← Bool.not_eq_true] at h
    apply h
    refine (wrongs_bit b _ _ _ _).2 ⟨j, h1, by omega, ?_⟩
    unfold bit at h3
    revert h3
    cases (b.getD ((j - 1) * 2 + m / 64) 0).testBit (m % 64) <;> cases (b.getD (j * 2 + m / 64) 0).testBit (m % 64) <;> simp
theorem none_wrong {b : List Nat} {n : Nat} (hb : wd b) (hn : 1 ≤ n) : (∀ m, m < 128 → srt (rowB b n m)) ↔ wrongs b 0 (n - 1) 1 = 0 ∧ wrongs b 1 (n - 1) 1 = 0 := by
  constructor
  · intro h
    have key : ∀ k, k < 2 → wrongs b k (n - 1) 1 = 0 := by
      intro k hk
      apply Nat.eq_of_testBit_eq
      intro i
      rw [Nat.zero_testBit]
      by_cases hi : i < 64
      · have := (srt_wrongs hn).1 (h (64 * k + i) (by omega))
        rw [show (64 * k + i) / 64 = k by omega, show (64 * k + i) % 64 = i by omega] at this
        exact this
      · rw [← Bool.not_eq_true]
        intro hh
        obtain ⟨j, _, _, h3, _⟩ := (wrongs_bit b _ _ _ _).1 hh
        rw [Nat.testBit_lt_two_pow (Nat.lt_of_lt_of_le (wd_get hb _) (Nat.pow_le_pow_right (by omega) (by omega)))] at h3
        exact Bool.noConfusion h3
    exact ⟨key 0 (by omega), key 1 (by omega)⟩
  · rintro ⟨h0, h1⟩ m hm
    rw [srt_wrongs hn]
    rcases (show m / 64 = 0 ∨ m / 64 = 1 by omega) with c | c <;> rw [c] <;> simp [h0, h1]
def isAll (n : Nat) (b : List Nat) : Prop := wd b ∧ (∀ m, m < 2 ^ n → rowB b n m = plain n m) ∧ ∀ m, 2 ^ n ≤ m → m < 128 → rowB b n m = plain n 0
theorem all_sorts {n : Nat} {b : List Nat} (h1 : 1 ≤ n) (h7 : n ≤ 7) (hb : isAll n b) {C : List (Int × Int)} (hC : okC n C) : (wrongs (thru b C) 0 (n - 1) 1 = 0 ∧ wrongs (thru b C) 1 (n - 1) 1 = 0) ↔ sorts n C := by
  rw [← none_wrong (wd_thru C b hb.1) h1, ← zero_one hC]
  have hp : 2 ^ n ≤ 128 := (Nat.pow_le_pow_right (by omega) h7 : 2 ^ n ≤ 2 ^ 7)
  constructor
  · intro h m hm
    have := h m (by omega)
    rwa [rowB_thru h7 m (by omega) C b hb.1 hC, hb.2.1 m hm] at this
  · intro h m hm
    rw [rowB_thru h7 m hm C b hb.1 hC]
    by_cases c : m < 2 ^ n
    · rw [hb.2.1 m c]; exact h m c
    · rw [hb.2.2 m (by omega) hm]; exact h 0 (Nat.two_pow_pos n)
end Go.TM
set_option maxRecDepth 100000
namespace Go.TabUM
open Go.Sp Go.TabU Go.TM

theorem p56 (n : Nat) (a b c : Int) : puN (n + 1) 56 [I a, I b, I c] = some (Value.bool (decide (a ≤ b) && decide (b ≤ c))) := by
  show bb (nt (ilt b a)) (some (Value.bool (nt (ilt c b)))) (some (Value.bool false)) = _
  by_cases h1 : a ≤ b <;> by_cases h2 : b ≤ c <;> simp [ilt_eq, h1, h2, show (b < a) ↔ ¬ a ≤ b from by omega, show (c < b) ↔ ¬ b ≤ c from by omega]
theorem lt_true {a b : Nat} (h : a < b) : ilt (Int.ofNat a) (Int.ofNat b) = true := by simp [ilt_eq, h]
theorem lt_false {a b : Nat} (h : ¬ a < b) : ilt (Int.ofNat a) (Int.ofNat b) = false := by simp [ilt_eq]; omega
theorem iltD {x y : Int} : (ilt x y = true ↔ x < y) := by rw [ilt_eq, decide_eq_true_iff]
theorem iltF {x y : Int} : (ilt x y = false ↔ ¬ x < y) := by rw [ilt_eq, decide_eq_false_iff_not]
theorem bbmin (a b : Int) : bb (ilt b a) b a = min a b := by
  by_cases h : b < a
  · rw [iltD.2 h, bb_true]; omega
  · rw [iltF.2 h, bb_false]; omega
theorem bbmax (a b : Int) : bb (ilt a b) b a = max a b := by
  by_cases h : a < b
  · rw [iltD.2 h, bb_true]; omega
  · rw [iltF.2 h, bb_false]; omega
theorem ieqr (x : Int) : ieq x x = true := by simp [ieq_eq]
theorem ne_t {x y : Int} (h : x ≠ y) : nt (ieq x y) = true := by simp [ieq_eq, h]
theorem ne_f (x : Int) : nt (ieq x x) = false := by simp [ieq_eq]
theorem ie_f {x y : Int} (h : x ≠ y) : ieq x y = false := by simp [ieq_eq, h]

noncomputable def ifp (p : Prop) (a b : Int) : Int := @ite _ p (Classical.propDecidable p) a b
theorem ifp_t {p : Prop} {a b : Int} (h : p) : ifp p a b = a := if_pos h
theorem ifp_f {p : Prop} {a b : Int} (h : ¬ p) : ifp p a b = b := if_neg h
noncomputable def ifb (p : Prop) : Bool := @decide p (Classical.propDecidable p)
theorem ifb_t {p : Prop} (h : p) : ifb p = true := @decide_eq_true p (Classical.propDecidable p) h
theorem ifb_f {p : Prop} (h : ¬ p) : ifb p = false := @decide_eq_false p (Classical.propDecidable p) h
theorem ifb_congr {p q : Prop} (h : p ↔ q) : ifb p = ifb q := by rw [propext h]

def pc (C : List (Int × Int)) : List Value := C.flatMap fun p => [I p.1, I p.2]
def cl (fl : Nat) (C : List (Int × Int)) : Sl := ⟨C.length, fl, pc C⟩
@[simp] theorem cl_n (fl : Nat) (C : List (Int × Int)) : (cl fl C).n = C.length := rfl
@[simp] theorem cl_cs (fl : Nat) (C : List (Int × Int)) : (cl fl C).cs = pc C := rfl
theorem pc_len (C : List (Int × Int)) : (pc C).length = C.length * 2 := by
  induction C with
  | nil => rfl
  | cons p C ih => simp only [pc, List.flatMap_cons, List.length_append, List.length_cons, List.length_nil] at ih ⊢; omega
theorem pc_get : ∀ (C : List (Int × Int)) (i : Nat) (h : i < C.length), (pc C)[i * 2]? = some (I C[i].1) ∧ (pc C)[i * 2 + 1]? = some (I C[i].2)
  | [], i, h => by simp at h
  | p :: C, 0, _ => ⟨rfl, rfl⟩
  | p :: C, i + 1, h => by
    have ih := pc_get C i (by simpa using h)
    have e : pc (p :: C) = I p.1 :: I p.2 :: pc C := rfl
    have e2 : (i + 1) * 2 = i * 2 + 1 + 1 := by omega
    rw [e, e2]
    simp only [List.getElem?_cons_succ, List.getElem_cons_succ]
    exact ih
def tb (fl : Nat) (k : Int) (C : List (Int × Int)) : Value := .agg ⟨[I k, Sl.v 2 (cl fl C)]⟩

def good (k : Int) (p : Int × Int) : Prop := 0 ≤ p.1 ∧ p.1 < k ∧ 0 ≤ p.2 ∧ p.2 < k
noncomputable def go (k : Int) : List (Int × Int) → Int
  | [] => 0
  | p :: r => ifp (good k p) (ifp (p.1 < p.2) (go k r) 7) 2
noncomputable def chk (k : Int) (C : List (Int × Int)) : Int := ifp (1 ≤ k ∧ k ≤ 7) (ifp (24 < C.length) 3 (go k C)) 1

theorem l50 (pu : PureF) (n fl : Nat) (k : Int) (C : List (Int × Int)) (hC : C.length < 1000) : ∀ (f i : Nat), C.length - i < f → i ≤ C.length →
    l50_1 pu n f (cl fl C) (Int.ofNat C.length) (Int.ofNat i) k (cl fl C) = some (I (go k (C.drop i))) := by
  intro f
  induction f with
  | zero => intro i h; omega
  | succ f ih =>
    intro i h hi
    show b50_1 pu n (l50_1 pu n f) _ _ _ _ _ = _
    unfold b50_1
    by_cases hlt : i < C.length
    · obtain ⟨g1, g2⟩ := pc_get C i hlt
      have e : C.drop i = C[i] :: C.drop (i + 1) := List.drop_eq_getElem_cons hlt
      have hb : Nat.ble (i * 2 + 2) (len (pc C)) = true := by rw [ble_eq, len_eq, pc_len]; simp; omega
      rw [lt_true hlt]
      simp only [bb_true, toN_mk, oo_some, cl_n, cl_cs, blt_eq, hlt, decide_true, an_eq, Bool.true_and, hb, nthL_eq, g1, g2, toI_mk, bbmin, bbmax]
      rw [e]
      unfold go m50_2
      by_cases c : good k C[i]
      · have c' := c
        obtain ⟨c1, c2, c3, c4⟩ := c'
        rw [iltF.2 (show ¬ min C[i].1 C[i].2 < 0 by omega), iltD.2 (show max C[i].1 C[i].2 < k by omega), ifp_t c]
        simp only [bb_false, nt_eq, Bool.not_true, wrapS i (by omega : i < 1000000)]
        by_cases c5 : C[i].1 < C[i].2
        · rw [iltD.2 c5, ifp_t c5]
          exact ih (i + 1) (by omega) (by omega)
        · rw [iltF.2 c5, ifp_f c5]; rfl
      · rw [ifp_f c]
        by_cases c1 : min C[i].1 C[i].2 < 0
        · rw [iltD.2 c1]; rfl
        · rw [iltF.2 c1, iltF.2 (show ¬ max C[i].1 C[i].2 < k from fun h9 => c ⟨by omega, by omega, by omega, by omega⟩)]; rfl
    · have : i = C.length := by omega
      subst this
      rw [lt_false hlt, bb_false, List.drop_length]; rfl
theorem p50 (n fl : Nat) (k : Int) (C : List (Int × Int)) : puN (n + 2) 50 [tb fl k C] = some (I (chk k C)) := by
  show oo (puN (n + 1) 56 [I 1, I k, I 7]) none (fun v => oo (vBool v) none fun b => bb (nt b) (some (I 1)) (bb (ilt 24 (Int.ofNat C.length)) (some (I 3)) (l50_1 (puN (n + 1)) 1000000 1000000 (cl fl C) (Int.ofNat C.length) (Int.ofNat 0) k (cl fl C)))) = _
  rw [p56]
  simp only [oo_some, vBool_mk]
  unfold chk
  by_cases hk : 1 ≤ k ∧ k ≤ 7
  · have d : (decide ((1 : Int) ≤ k) && decide (k ≤ 7)) = true := by simp; omega
    rw [d, ifp_t hk]
    simp only [nt_eq, Bool.not_true, bb_false]
    by_cases h1 : 24 < C.length
    · rw [ifp_t h1, iltD.2 (show (24 : Int) < Int.ofNat C.length by show (24 : Int) < (C.length : Int); omega)]; rfl
    · rw [ifp_f h1, iltF.2 (show ¬ (24 : Int) < Int.ofNat C.length by show ¬ (24 : Int) < (C.length : Int); omega), bb_false]
      exact l50 (puN (n + 1)) 1000000 fl k C (by omega) 1000000 0 (by omega) (by omega)
  · have d : (decide ((1 : Int) ≤ k) && decide (k ≤ 7)) = false := by simp; omega
    rw [d, ifp_f hk]; rfl

end Go.TabUM
set_option maxRecDepth 100000
namespace Go.TabUM
open Go.Sp Go.TabU Go.TM

noncomputable def U (x : Nat) : Value := .int .u64 (Int.ofNat x)
noncomputable def W (b : List Nat) : List Value := b.map U
theorem W_len (b : List Nat) : (W b).length = b.length := by simp [W]
theorem W_cl (b : List Nat) : allL closed1 (W b) = true := by
  rw [allL_eq, List.all_eq_true]; intro x hx; simp [W] at hx; obtain ⟨z, _, rfl⟩ := hx; rfl
theorem W_sc (b : List Nat) : allL scalarB (W b) = true := by
  rw [allL_eq, List.all_eq_true]; intro x hx; simp [W] at hx; obtain ⟨z, _, rfl⟩ := hx; rfl
theorem W_get (b : List Nat) (i : Nat) (h : i < b.length) : nthL (W b) i = some (U (b.getD i 0)) := by
  rw [nthL_eq]; simp [W, h]
theorem W_set (b : List Nat) (i v : Nat) (h : i < b.length) : setL ([U v] : List Value) i (W b) = W (b.set i v) := by
  have : ∀ (i : Nat) (xs : List Value), i < xs.length → setL ([U v] : List Value) i xs = xs.set i (U v) := by
    intro i
    induction i with
    | zero => intro xs h; cases xs with
      | nil => simp at h
      | cons x xs => rfl
    | succ i ih => intro xs h; cases xs with
      | nil => simp at h
      | cons x xs =>
        show x :: setL [U v] i xs = x :: xs.set i (U v)
        rw [ih xs (by simpa using h)]
  rw [this i _ (by rw [W_len]; exact h)]
  simp [W, List.map_set]
theorem toU (x : Nat) : toI .u64 (U x) = some (Int.ofNat x) := rfl
theorem tk14 {q : List Value} (h : q.length = 14) : takeL 14 (dropL 0 q) = q := by
  rw [takeL_eq, dropL_eq, List.drop_zero, List.take_of_length_le (by omega)]
theorem st14 {q z : List Value} (h : q.length = 14) (h2 : z.length = 14) : setL q 0 z = q := by
  show appL q (dropL (len q) z) = q
  rw [appL_eq, dropL_eq, len_eq, List.drop_of_length_le (by omega), List.append_nil]
theorem zA : zA73 = W (List.replicate 14 0) := rfl
theorem zA_len : zA73.length = 14 := rfl
theorem zA_cl : allL closed1 zA73 = true := rfl
theorem b14 {q : List Value} (h : q.length = 14) : Nat.ble (0 + 14) (len q) = true := by rw [len_eq, h]; rfl
theorem q14 {q : List Value} (h : q.length = 14) : Nat.beq (len q) 14 = true := by rw [len_eq, h]; rfl
theorem i14 {q : List Value} (h : q.length = 14) (hc : allL closed1 q = true) : an (Nat.beq (len q) 14) (allL closed1 q) = true := by rw [q14 h, hc]; rfl
theorem s14 {q z : List Value} (h : q.length = 14) (h2 : z.length = 14) (hs : allL scalarB q = true) : an (Nat.ble (0 + len q) (len z)) (allL scalarB q) = true := by
  rw [len_eq, len_eq, h, h2, hs]; rfl
theorem clA (q : List Value) (h : allL closed1 q = true) : closedV (.agg ⟨q⟩) = true := h

theorem end14 {q z : List Value} (h : q.length = 14) (h2 : z.length = 14) (hc : allL closed1 q = true) (hs : allL scalarB q = true) :
    (bb (Nat.ble (0 + 14) (len q)) (bb (Nat.beq (len (takeL 14 (dropL 0 q))) 14) (bb (an (Nat.ble (0 + len (takeL 14 (dropL 0 q))) (len z)) (allL scalarB (takeL 14 (dropL 0 q)))) (bb (allL closed1 (setL (takeL 14 (dropL 0 q)) 0 z)) (bb (Nat.ble (0 + 14) (len (setL (takeL 14 (dropL 0 q)) 0 z))) (bb (closedV (.agg ⟨(takeL 14 (dropL 0 (setL (takeL 14 (dropL 0 q)) 0 z)))⟩)) (some (Value.agg ⟨(takeL 14 (dropL 0 (setL (takeL 14 (dropL 0 q)) 0 z)))⟩)) none) none) none) none) none) none) = some (.agg ⟨q⟩) := by
  rw [tk14 h, st14 h h2, tk14 h, b14 h, q14 h, s14 h h2 hs, hc, clA q hc]
  rfl

theorem aandU (x y : Nat) (hx : x < 2 ^ 64) (hy : y < 2 ^ 64) : aand .u64 (Int.ofNat x) (Int.ofNat y) = Int.ofNat (Nat.land x y) := by
  show bb (bothIn .u64 x y) (Int.ofNat (Nat.land x y)) _ = _
  have : bothIn .u64 x y = true := by
    show an (Nat.ble x 18446744073709551615) (Nat.ble y 18446744073709551615) = true
    rw [Nat.ble_eq_true_of_le (by omega), Nat.ble_eq_true_of_le (by omega)]; rfl
  rw [this]; rfl
theorem aorU (x y : Nat) (hx : x < 2 ^ 64) (hy : y < 2 ^ 64) : aor .u64 (Int.ofNat x) (Int.ofNat y) = Int.ofNat (Nat.lor x y) := by
  show bb (bothIn .u64 x y) (Int.ofNat (Nat.lor x y)) _ = _
  have : bothIn .u64 x y = true := by
    show an (Nat.ble x 18446744073709551615) (Nat.ble y 18446744073709551615) = true
    rw [Nat.ble_eq_true_of_le (by omega), Nat.ble_eq_true_of_le (by omega)]; rfl
  rw [this]; rfl
theorem aanU (x y : Nat) (hx : x < 2 ^ 64) (hy : y < 2 ^ 64) : aandNot .u64 (Int.ofNat x) (Int.ofNat y) = Int.ofNat (Nat.xor x (Nat.land x y)) := by
  show bb (bothIn .u64 x y) (Int.ofNat (Nat.xor x (Nat.land x y))) _ = _
  have : bothIn .u64 x y = true := by
    show an (Nat.ble x 18446744073709551615) (Nat.ble y 18446744073709551615) = true
    rw [Nat.ble_eq_true_of_le (by omega), Nat.ble_eq_true_of_le (by omega)]; rfl
  rw [this]; rfl
theorem xor_lt {x y : Nat} (hx : x < 2 ^ 64) (hy : y < 2 ^ 64) : Nat.xor x (Nat.land x y) < 2 ^ 64 := Nat.xor_lt_two_pow hx (land_lt hx)

theorem st52 (pu : PureF) (n : Nat) (ih : Int → List Value → Int → Int → List Value → Option Value) (b : List Nat) (hb : wd b) (A B k : Nat) (hAB : A < B) (hB : B < 7) (hk : k < 2) :
    b52_1 pu n ih (Int.ofNat k) (W b) (Int.ofNat A) (Int.ofNat B) zA73 = ih (Int.ofNat (k + 1)) (W (pass1 b A B k)) (Int.ofNat A) (Int.ofNat B) zA73 := by
  have hl := hb.1
  unfold b52_1
  rw [W_cl, zA_cl, show ilt (Int.ofNat k) 2 = true from lt_true hk]
  have e1 : (0 + A * 2) + k * 1 = A * 2 + k := by omega
  have e2 : (0 + B * 2) + k * 1 = B * 2 + k := by omega
  have g1 := W_get b (A * 2 + k) (by omega)
  have g2 := W_get b (B * 2 + k) (by omega)
  have s1 : setL ([(.int .u64 (Int.ofNat (Nat.land (b.getD (A * 2 + k) 0) (b.getD (B * 2 + k) 0))))] : List Value) (A * 2 + k) (W b) = W (b.set (A * 2 + k) (Nat.land (b.getD (A * 2 + k) 0) (b.getD (B * 2 + k) 0))) := W_set b _ _ (by omega)
  have s2 : setL ([(.int .u64 (Int.ofNat (Nat.lor (b.getD (A * 2 + k) 0) (b.getD (B * 2 + k) 0))))] : List Value) (B * 2 + k) (W (b.set (A * 2 + k) (Nat.land (b.getD (A * 2 + k) 0) (b.getD (B * 2 + k) 0)))) = W (pass1 b A B k) := W_set _ _ _ (by simp; omega)
  have c1 : an (Nat.ble (A * 2 + k + 1) (len (W b))) true = true := by rw [len_eq, W_len, Nat.ble_eq_true_of_le (by omega)]; rfl
  have c2 : an (Nat.ble (B * 2 + k + 1) (len (W (b.set (A * 2 + k) (Nat.land (b.getD (A * 2 + k) 0) (b.getD (B * 2 + k) 0)))))) true = true := by rw [len_eq, W_len, List.length_set, Nat.ble_eq_true_of_le (by omega)]; rfl
  simp only [bb_true, toN_mk, oo_some, blt_eq, show A < 7 from by omega, hB, hk, decide_true, e1, e2, g1, g2, toU, aandU _ _ (wd_get hb _) (wd_get hb _), aorU _ _ (wd_get hb _) (wd_get hb _), s1, s2, c1, c2, W_cl, wrapS k (by omega)]
theorem en52 (pu : PureF) (n : Nat) (ih : Int → List Value → Int → Int → List Value → Option Value) (b : List Nat) (hb : wd b) (A B : Int) : b52_1 pu n ih (Int.ofNat 2) (W b) A B zA73 = some (.agg ⟨W b⟩) := by
  unfold b52_1
  rw [W_cl, zA_cl, show ilt (Int.ofNat 2) 2 = false from rfl]
  simp only [bb_true, bb_false]
  exact end14 (by rw [W_len]; exact hb.1) zA_len (W_cl b) (W_sc b)
theorem l52_s (pu : PureF) (n f : Nat) (a b : Int) (q z : List Value) (k : Int) : l52_1 pu n (f + 1) k q a b z = b52_1 pu n (l52_1 pu n f) k q a b z := rfl
theorem p52 (n : Nat) (b : List Nat) (hb : wd b) (p : Int × Int) (m : Nat) (hp : ok1 m p) (hm : m ≤ 7) : puN (n + 1) 52 [.agg ⟨W b⟩, .agg ⟨[I p.1, I p.2]⟩] = some (.agg ⟨W (pass b p)⟩) := by
  obtain ⟨h1, h2, h3⟩ := hp
  have e : puN (n + 1) 52 [.agg ⟨W b⟩, .agg ⟨[I p.1, I p.2]⟩] = bb (an (Nat.beq (len (W b)) 14) (allL closed1 (W b))) (m52_ (puN n) 1000000 (W b) p.1 p.2) none := by kernel_rfl
  rw [e, i14 (by rw [W_len]; exact hb.1) (W_cl b), bb_true]
  unfold m52_
  rw [W_cl, zA_cl, bb_true, bb_true]
  show l52_1 (puN n) 1000000 (999997 + 1 + 1 + 1) (Int.ofNat 0) (W b) p.1 p.2 zA73 = _
  have ea : p.1 = Int.ofNat p.1.toNat := (Int.toNat_of_nonneg h1).symm
  have eb : p.2 = Int.ofNat p.2.toNat := (Int.toNat_of_nonneg (by omega)).symm
  rw [ea, eb]
  have hAB : p.1.toNat < p.2.toNat := by omega
  have hB : p.2.toNat < 7 := by omega
  rw [l52_s, st52 _ _ _ b hb _ _ 0 hAB hB (by omega), l52_s, st52 _ _ _ _ (wd_pass1 hb _ _ _) _ _ 1 hAB hB (by omega), l52_s, en52 _ _ _ _ (wd_pass1 (wd_pass1 hb _ _ _) _ _ _)]
  rfl

theorem l53 (m n fl N : Nat) (C : List (Int × Int)) (hN : N ≤ 7) (hC : okC N C) (hCl : C.length < 1000) : ∀ (f i : Nat) (b : List Nat), wd b → C.length - i < f → i ≤ C.length →
    l53_1 (puN (m + 1)) n f (cl fl C) (Int.ofNat C.length) (Int.ofNat i) (W b) zA73 = some (.agg ⟨W (thru b (C.drop i))⟩) := by
  intro f
  induction f with
  | zero => intro i b hb h; omega
  | succ f ih =>
    intro i b hb h hi
    show b53_1 (puN (m + 1)) n (l53_1 (puN (m + 1)) n f) _ _ _ _ _ = _
    unfold b53_1
    have hl : (W b).length = 14 := by rw [W_len]; exact hb.1
    rw [W_cl, zA_cl]
    by_cases hlt : i < C.length
    · obtain ⟨g1, g2⟩ := pc_get C i hlt
      have e : C.drop i = C[i] :: C.drop (i + 1) := List.drop_eq_getElem_cons hlt
      have hbb : Nat.ble (i * 2 + 2) (len (pc C)) = true := by rw [ble_eq, len_eq, pc_len]; simp; omega
      have hw := wd_pass hb C[i]
      have hl2 : (W (pass b C[i])).length = 14 := by rw [W_len]; exact hw.1
      have q := p52 m b hb C[i] N (hC _ (List.getElem_mem hlt)) hN
      have hcl2 : allL closed2 [(.agg ⟨W b⟩ : Value), (.agg ⟨[(.int .i64 C[i].1), (.int .i64 C[i].2)]⟩)] = true := by
        show an (allL closed1 (W b)) _ = true
        rw [W_cl]; rfl
      rw [lt_true hlt]
      simp only [bb_true, toN_mk, oo_some, cl_n, cl_cs, blt_eq, hlt, decide_true, an_eq, Bool.true_and, hbb, nthL_eq, g1, g2, toI_mk, b14 hl, tk14 hl, q, vAgg_mk, hcl2]
      simp only [← an_eq, i14 hl2 (W_cl _), q14 hl2, s14 hl2 hl (W_sc _), st14 hl2 hl, W_cl, bb_true, wrapS i (by omega : i < 1000000)]
      rw [ih (i + 1) (pass b C[i]) hw (by omega) (by omega), e]; rfl
    · have : i = C.length := by omega
      subst this
      rw [lt_false hlt, List.drop_length]
      simp only [bb_true, bb_false]
      exact end14 hl zA_len (W_cl b) (W_sc b)
theorem p53 (n fl N : Nat) (b : List Nat) (hb : wd b) (C : List (Int × Int)) (hN : N ≤ 7) (hC : okC N C) (hCl : C.length < 1000) : puN (n + 2) 53 [.agg ⟨W b⟩, (cl fl C).v 2] = some (.agg ⟨W (thru b C)⟩) := by
  have e : puN (n + 2) 53 [.agg ⟨W b⟩, (cl fl C).v 2] = bb (an (Nat.beq (len (W b)) 14) (allL closed1 (W b))) (m53_ (puN (n + 1)) 1000000 (W b) (cl fl C)) none := by kernel_rfl
  rw [e, i14 (by rw [W_len]; exact hb.1) (W_cl b), bb_true]
  unfold m53_
  rw [W_cl, zA_cl, bb_true, bb_true]
  exact l53 n 1000000 fl N C hN hC hCl 1000000 0 b hb (by omega) (by omega)
end Go.TabUM
set_option maxRecDepth 100000
namespace Go.TabUM
open Go.Sp Go.TabU Go.TM
def A1 : List Nat := [2, 0, 0, 0, 0, 0, 0, 0, 0, 0, 0, 0, 0, 0]
theorem all1 (n : Nat) : puN (n + 1) 51 [I 1] = some (.agg ⟨W A1⟩) := by kernel_rfl
def A2 : List Nat := [12, 0, 10, 0, 0, 0, 0, 0, 0, 0, 0, 0, 0, 0]
theorem all2 (n : Nat) : puN (n + 1) 51 [I 2] = some (.agg ⟨W A2⟩) := by kernel_rfl
def A3 : List Nat := [240, 0, 204, 0, 170, 0, 0, 0, 0, 0, 0, 0, 0, 0]
theorem all3 (n : Nat) : puN (n + 1) 51 [I 3] = some (.agg ⟨W A3⟩) := by kernel_rfl
def A4 : List Nat := [65280, 0, 61680, 0, 52428, 0, 43690, 0, 0, 0, 0, 0, 0, 0]
theorem all4 (n : Nat) : puN (n + 1) 51 [I 4] = some (.agg ⟨W A4⟩) := by kernel_rfl
def A5 : List Nat := [4294901760, 0, 4278255360, 0, 4042322160, 0, 3435973836, 0, 2863311530, 0, 0, 0, 0, 0]
theorem all5 (n : Nat) : puN (n + 1) 51 [I 5] = some (.agg ⟨W A5⟩) := by kernel_rfl
def A6 : List Nat := [18446744069414584320, 0, 18446462603027742720, 0, 18374966859414961920, 0, 17361641481138401520, 0, 14757395258967641292, 0, 12297829382473034410, 0, 0, 0]
theorem all6 (n : Nat) : puN (n + 1) 51 [I 6] = some (.agg ⟨W A6⟩) := by kernel_rfl
def A7 : List Nat := [0, 18446744073709551615, 18446744069414584320, 18446744069414584320, 18446462603027742720, 18446462603027742720, 18374966859414961920, 18374966859414961920, 17361641481138401520, 17361641481138401520, 14757395258967641292, 14757395258967641292, 12297829382473034410, 12297829382473034410]
theorem all7 (n : Nat) : puN (n + 1) 51 [I 7] = some (.agg ⟨W A7⟩) := by kernel_rfl
theorem is1 : isAll 1 A1 := by
  have h := belowAll_iff (show belowAll (fun m => decide (rowB A1 1 m = plain 1 m)) 2 = true by kernel_rfl)
  have h2 := belowAll_iff (show belowAll (fun m => decide (2 ≤ m → rowB A1 1 m = plain 1 0)) 128 = true by kernel_rfl)
  exact ⟨⟨rfl, of_decide_eq_true (by kernel_rfl)⟩, fun m hm => of_decide_eq_true (h m hm), fun m h1 hm => of_decide_eq_true (h2 m hm) h1⟩
theorem is2 : isAll 2 A2 := by
  have h := belowAll_iff (show belowAll (fun m => decide (rowB A2 2 m = plain 2 m)) 4 = true by kernel_rfl)
  have h2 := belowAll_iff (show belowAll (fun m => decide (4 ≤ m → rowB A2 2 m = plain 2 0)) 128 = true by kernel_rfl)
  exact ⟨⟨rfl, of_decide_eq_true (by kernel_rfl)⟩, fun m hm => of_decide_eq_true (h m hm), fun m h1 hm => of_decide_eq_true (h2 m hm) h1⟩
theorem is3 : isAll 3 A3 := by
  have h := belowAll_iff (show belowAll (fun m => decide (rowB A3 3 m = plain 3 m)) 8 = true by kernel_rfl)
  have h2 := belowAll_iff (show belowAll (fun m => decide (8 ≤ m → rowB A3 3 m = plain 3 0)) 128 = true by kernel_rfl)
  exact ⟨⟨rfl, of_decide_eq_true (by kernel_rfl)⟩, fun m hm => of_decide_eq_true (h m hm), fun m h1 hm => of_decide_eq_true (h2 m hm) h1⟩
theorem is4 : isAll 4 A4 := by
  have h := belowAll_iff (show belowAll (fun m => decide (rowB A4 4 m = plain 4 m)) 16 = true by kernel_rfl)
  have h2 := belowAll_iff (show belowAll (fun m => decide (16 ≤ m → rowB A4 4 m = plain 4 0)) 128 = true by kernel_rfl)
  exact ⟨⟨rfl, of_decide_eq_true (by kernel_rfl)⟩, fun m hm => of_decide_eq_true (h m hm), fun m h1 hm => of_decide_eq_true (h2 m hm) h1⟩
theorem is5 : isAll 5 A5 := by
  have h := belowAll_iff (show belowAll (fun m => decide (rowB A5 5 m = plain 5 m)) 32 = true by kernel_rfl)
  have h2 := belowAll_iff (show belowAll (fun m => decide (32 ≤ m → rowB A5 5 m = plain 5 0)) 128 = true by kernel_rfl)
  exact ⟨⟨rfl, of_decide_eq_true (by kernel_rfl)⟩, fun m hm => of_decide_eq_true (h m hm), fun m h1 hm => of_decide_eq_true (h2 m hm) h1⟩
theorem is6 : isAll 6 A6 := by
  have h := belowAll_iff (show belowAll (fun m => decide (rowB A6 6 m = plain 6 m)) 64 = true by kernel_rfl)
  have h2 := belowAll_iff (show belowAll (fun m => decide (64 ≤ m → rowB A6 6 m = plain 6 0)) 128 = true by kernel_rfl)
  exact ⟨⟨rfl, of_decide_eq_true (by kernel_rfl)⟩, fun m hm => of_decide_eq_true (h m hm), fun m h1 hm => of_decide_eq_true (h2 m hm) h1⟩
theorem is7 : isAll 7 A7 := by
  have h := belowAll_iff (show belowAll (fun m => decide (rowB A7 7 m = plain 7 m)) 128 = true by kernel_rfl)
  have h2 := belowAll_iff (show belowAll (fun m => decide (128 ≤ m → rowB A7 7 m = plain 7 0)) 128 = true by kernel_rfl)
  exact ⟨⟨rfl, of_decide_eq_true (by kernel_rfl)⟩, fun m hm => of_decide_eq_true (h m hm), fun m h1 hm => of_decide_eq_true (h2 m hm) h1⟩
theorem all_rows (N : Nat) (h1 : 1 ≤ N) (h7 : N ≤ 7) : ∃ b, isAll N b ∧ ∀ n, puN (n + 1) 51 [I (Int.ofNat N)] = some (.agg ⟨W b⟩) := by
  match N, h1, h7 with
  | 1, _, _ => exact ⟨A1, is1, all1⟩
  | 2, _, _ => exact ⟨A2, is2, all2⟩
  | 3, _, _ => exact ⟨A3, is3, all3⟩
  | 4, _, _ => exact ⟨A4, is4, all4⟩
  | 5, _, _ => exact ⟨A5, is5, all5⟩
  | 6, _, _ => exact ⟨A6, is6, all6⟩
  | 7, _, _ => exact ⟨A7, is7, all7⟩
  | N + 8, _, h => omega
end Go.TabUM
set_option maxRecDepth 100000
namespace Go.TabUM
open Go.Sp Go.TabU Go.TM

theorem low_ex : ∀ (n x : Nat), x < n → 0 < x → ∃ t q, x = 2 ^ t * (2 * q + 1)
  | 0, x, h, _ => by omega
  | n + 1, x, h, h0 => by
    by_cases hp : x % 2 = 1
    · exact ⟨0, x / 2, by omega⟩
    · obtain ⟨t, q, e⟩ := low_ex n (x / 2) (by omega) (by omega)
      refine ⟨t + 1, q, ?_⟩
      rw [Nat.pow_succ, Nat.mul_assoc, Nat.mul_comm 2, ← Nat.mul_assoc, ← e]; omega
theorem low_bit (t q i : Nat) : (2 ^ t * (2 * q + 1)).testBit i = (decide (t ≤ i) && (2 * q + 1).testBit (i - t)) := Nat.testBit_two_pow_mul ..
theorem low_pred (t q i : Nat) : (2 ^ t * (2 * q + 1) - 1).testBit i = if i < t then true else if i = t then false else (2 ^ t * (2 * q + 1)).testBit i := by
  have e : 2 ^ t * (2 * q + 1) - 1 = 2 ^ t * (2 * q) + (2 ^ t - 1) := by
    have := Nat.two_pow_pos t
    rw [Nat.mul_add]; omega
  rw [e, Nat.testBit_two_pow_mul_add _ (by have := Nat.two_pow_pos t; omega)]
  by_cases h1 : i < t
  · rw [if_pos h1, if_pos h1, Nat.testBit_two_pow_sub_one]; simp [h1]
  · rw [if_neg h1, if_neg h1, low_bit]
    by_cases h2 : i = t
    · subst h2; rw [if_pos rfl, Nat.sub_self]; simp
    · rw [if_neg h2]
      obtain ⟨j, hj⟩ : ∃ j, i - t = j + 1 := ⟨i - t - 1, by omega⟩
      rw [hj, Nat.testBit_succ, Nat.testBit_succ]
      have h3 : 2 * q / 2 = q := by omega
      have h4 : (2 * q + 1) / 2 = q := by omega
      have h5 : t ≤ i := by omega
      simp [h3, h4, h5]
theorem low_neg (t q : Nat) (hx : 2 ^ t * (2 * q + 1) < 2 ^ 64) : Nat.land (2 ^ t * (2 * q + 1)) (2 ^ 64 - 2 ^ t * (2 * q + 1)) = 2 ^ t := by
  have h0 : 0 < 2 ^ t * (2 * q + 1) := Nat.mul_pos (Nat.two_pow_pos t) (by omega)
  apply Nat.eq_of_testBit_eq
  intro i
  rw [show (Nat.land (2 ^ t * (2 * q + 1)) (2 ^ 64 - 2 ^ t * (2 * q + 1))).testBit i = ((2 ^ t * (2 * q + 1)).testBit i && (2 ^ 64 - 2 ^ t * (2 * q + 1)).testBit i) from Nat.testBit_and ..]
  have e : 2 ^ 64 - 2 ^ t * (2 * q + 1) = 2 ^ 64 - (2 ^ t * (2 * q + 1) - 1 + 1) := by omega
  rw [e, Nat.testBit_two_pow_sub_succ (by omega), low_pred, Nat.testBit_two_pow]
  by_cases h1 : i < t
  · rw [if_pos h1]
    have : ¬ t = i := by omega
    simp [this]
  · rw [if_neg h1]
    by_cases h2 : i = t
    · subst h2
      have hi : i < 64 := by
        apply Nat.lt_of_not_le
        intro h3
        have : 2 ^ 64 ≤ 2 ^ i := Nat.pow_le_pow_right (by omega) h3
        have h6 : 2 ^ i * 1 ≤ 2 ^ i * (2 * q + 1) := Nat.mul_le_mul_left _ (by omega)
        omega
      rw [if_pos rfl, low_bit, Nat.sub_self]
      simp [hi]
    · rw [if_neg h2]
      have : ¬ t = i := by omega
      cases (2 ^ t * (2 * q + 1)).testBit i <;> simp [this]
theorem low_lt (t q : Nat) (hx : 2 ^ t * (2 * q + 1) < 2 ^ 64) : t < 64 := by
  apply Nat.lt_of_not_le
  intro h3
  have : 2 ^ 64 ≤ 2 ^ t := Nat.pow_le_pow_right (by omega) h3
  have h6 : 2 ^ t * 1 ≤ 2 ^ t * (2 * q + 1) := Nat.mul_le_mul_left _ (by omega)
  omega
noncomputable def eqI (o : Option Value) (z : Nat) : Bool := oo o false fun v => oo (toI .i64 v) false fun n => ieq n (Int.ofNat z)
theorem eqI_ok {o : Option Value} {z : Nat} (h : eqI o z = true) : o = some (I (Int.ofNat z)) := by
  unfold eqI at h
  cases o with
  | none => cases h
  | some v =>
    rw [oo_some] at h
    cases hs : toI .i64 v with
    | none => rw [hs] at h; cases h
    | some n =>
      rw [hs, oo_some, ieq_eq] at h
      rw [toI_some hs, eq_of_beq h]
noncomputable def tz2 (y : Nat) : Option Value :=
  oo (toN (shrI .u64 (wrapF .u64 (Int.mul (Int.ofNat y) (285870213051353865 : Int))) 58)) none fun k => bb (Nat.blt k 64) (oo (nthL tab0 (0 + k * 1)) none fun v => oo (toI .u8 v) none fun x => some (.int .i64 (wrapF .i64 x))) none
theorem tz_all : belowAll (fun t => eqI (tz2 (2 ^ t)) t) 64 = true := by kernel_rfl
theorem p60 (n t q : Nat) (hx : 2 ^ t * (2 * q + 1) < 2 ^ 64) : puN (n + 1) 60 [U (2 ^ t * (2 * q + 1))] = some (I (Int.ofNat t)) := by
  have h0 : 0 < 2 ^ t * (2 * q + 1) := Nat.mul_pos (Nat.two_pow_pos t) (by omega)
  generalize hxe : 2 ^ t * (2 * q + 1) = x at *
  have e : puN (n + 1) 60 [U x] = m60_ (puN n) 1000000 (Int.ofNat x) := by kernel_rfl
  rw [e]; unfold m60_
  have hz : ieq (Int.ofNat x) 0 = false := ie_f (by show (x : Int) ≠ 0; omega)
  have hw : wrapF .u64 (Int.sub (.ofNat 0) (Int.ofNat x)) = Int.ofNat (2 ^ 64 - x) := by
    rw [wrapF_eq, IntKind.wrap_u64]
    show ((0 : Int) - (x : Int)) % 18446744073709551616 = ((2 ^ 64 - x : Nat) : Int)
    omega
  rw [hz, bb_false, hw, aandU _ _ hx (by omega), ← hxe, low_neg t q (by rw [hxe]; exact hx)]
  exact eqI_ok (belowAll_iff tz_all t (low_lt t q (by rw [hxe]; exact hx)))

theorem wrongs_lt {b : List Nat} (hb : wd b) (k : Nat) : ∀ d l, wrongs b k d l < 2 ^ 64
  | 0, l => by simp [wrongs]
  | d + 1, l => lor_lt (xor_lt (wd_get hb _) (wd_get hb _)) (wrongs_lt hb k d (l + 1))
theorem lor_assoc (a b c : Nat) : Nat.lor (Nat.lor a b) c = Nat.lor a (Nat.lor b c) := Nat.or_assoc ..
theorem lor_zero (a : Nat) : Nat.lor a 0 = a := Nat.or_zero ..
theorem l39 (pu : PureF) (n N k : Nat) (ih0 : Int → Int → List Value → Option Value) (b : List Nat) (hb : wd b) (hN : N ≤ 7) (hk : k < 2) (z : Int) : ∀ (f l w : Nat), N - l < f → 1 ≤ l → l ≤ N → w < 2 ^ 64 →
    l39_4 pu n ih0 f (Int.ofNat N) (Int.ofNat k) (Int.ofNat w) (Int.ofNat l) z (W b) = m39_3 pu n ih0 (Int.ofNat N) (Int.ofNat k) (Int.ofNat (Nat.lor w (wrongs b k (N - l) l))) z (W b) := by
  intro f
  induction f with
  | zero => intro l w h; omega
  | succ f ih =>
    intro l w h h1 hl hw
    show b39_4 pu n ih0 (l39_4 pu n ih0 f) _ _ _ _ _ _ = _
    unfold b39_4
    rw [W_cl]
    have hbl := hb.1
    by_cases hlt : l < N
    · have hp : wrapF .i64 (Int.sub (Int.ofNat l) 1) = Int.ofNat (l - 1) := by
        show wrapF .i64 (Int.ofNat l - 1) = _
        rw [wrapI _ (by simp; omega) (by simp; omega)]; simp; omega
      have g1 := W_get b ((l - 1) * 2 + k) (by omega)
      have g2 := W_get b (l * 2 + k) (by omega)
      have e1 : (0 + (l - 1) * 2) + k * 1 = (l - 1) * 2 + k := by omega
      have e2 : (0 + l * 2) + k * 1 = l * 2 + k := by omega
      have hx := xor_lt (wd_get hb ((l - 1) * 2 + k)) (wd_get hb (l * 2 + k))
      rw [lt_true hlt]
      simp only [bb_true, hp, toN_mk, oo_some, blt_eq, show l - 1 < 7 from by omega, show l < 7 from by omega, hk, decide_true, e1, e2, g1, g2, toU, aanU _ _ (wd_get hb _) (wd_get hb _), aorU _ _ hw hx, wrapS l (by omega)]
      rw [ih (l + 1) _ (by omega) (by omega) (by omega) (lor_lt hw hx), lor_assoc]
      have : N - l = (N - (l + 1)) + 1 := by omega
      rw [this]; rfl
    · have : N = l := by omega
      subst this
      rw [lt_false hlt, bb_true, bb_false, Nat.sub_self]
      show _ = m39_3 pu n ih0 _ _ (Int.ofNat (Nat.lor w 0)) z (W b)
      rw [lor_zero]
noncomputable def badI (N : Nat) (b : List Nat) : Int → Prop := fun z => (z = -1 ∧ wrongs b 0 (N - 1) 1 = 0 ∧ wrongs b 1 (N - 1) 1 = 0) ∨ ∃ k t q, k < 2 ∧ z = Int.ofNat (64 * k + t) ∧ wrongs b k (N - 1) 1 = 2 ^ t * (2 * q + 1) ∧ t < 64 ∧ (k = 1 → wrongs b 0 (N - 1) 1 = 0)
theorem m39_z (pu : PureF) (n k : Nat) (ih0 : Int → Int → List Value → Option Value) (b : List Nat) (N : Int) : m39_3 pu n ih0 N (Int.ofNat k) (Int.ofNat 0) (Int.ofNat k) (W b) = ih0 N (wrapF .i64 (Int.add (Int.ofNat k) 1)) (W b) := by
  unfold m39_3 m39_2
  rw [W_cl]; rfl
theorem m39_nz (m n k t q : Nat) (hk : k < 2) (ih0 : Int → Int → List Value → Option Value) (b : List Nat) (N z : Int) (hx : 2 ^ t * (2 * q + 1) < 2 ^ 64) : m39_3 (puN (m + 1)) n ih0 N (Int.ofNat k) (Int.ofNat (2 ^ t * (2 * q + 1))) z (W b) = some (I (Int.ofNat (64 * k + t))) := by
  have h0 : 0 < 2 ^ t * (2 * q + 1) := Nat.mul_pos (Nat.two_pow_pos t) (by omega)
  have ht := low_lt t q hx
  have hz : nt (ieq (Int.ofNat (2 ^ t * (2 * q + 1))) 0) = true := ne_t (by show ((2 ^ t * (2 * q + 1) : Nat) : Int) ≠ 0; omega)
  have hp := p60 m t q hx
  unfold U at hp
  unfold m39_3
  rw [W_cl]
  simp only [bb_true, hz, hp, oo_some, toI_mk]
  have e : wrapF .i64 (Int.add (wrapF .i64 (Int.mul (64 : Int) (Int.ofNat k))) (Int.ofNat t)) = Int.ofNat (64 * k + t) := by
    show wrapF .i64 (wrapF .i64 (64 * (k : Int)) + (t : Int)) = ((64 * k + t : Nat) : Int)
    rw [wrapI (64 * (k : Int)) (by omega) (by omega), wrapI _ (by omega) (by omega)]; simp
  rw [e]
theorem p39 (n N : Nat) (h1 : 1 ≤ N) (h7 : N ≤ 7) (b : List Nat) (hb : wd b) : ∃ z, puN (n + 2) 39 [.agg ⟨W b⟩, I (Int.ofNat N)] = some (I z) ∧ badI N b z := by
  have e : puN (n + 2) 39 [.agg ⟨W b⟩, I (Int.ofNat N)] = bb (an (Nat.beq (len (W b)) 14) (allL closed1 (W b))) (m39_ (puN (n + 1)) 1000000 (W b) (Int.ofNat N)) none := by kernel_rfl
  rw [e, i14 (by rw [W_len]; exact hb.1) (W_cl b), bb_true]
  unfold m39_
  rw [W_cl, bb_true]
  have st : ∀ (f k : Nat), k < 2 → l39_1 (puN (n + 1)) 1000000 (f + 1) (Int.ofNat N) (Int.ofNat k) (W b) = m39_3 (puN (n + 1)) 1000000 (l39_1 (puN (n + 1)) 1000000 f) (Int.ofNat N) (Int.ofNat k) (Int.ofNat (wrongs b k (N - 1) 1)) (Int.ofNat k) (W b) := fun f k hk => by
    show b39_1 (puN (n + 1)) 1000000 (l39_1 (puN (n + 1)) 1000000 f) _ _ _ = _
    unfold b39_1
    rw [W_cl, show ilt (Int.ofNat k) 2 = true from lt_true hk, bb_true, bb_true]
    have := l39 (puN (n + 1)) 1000000 N k (l39_1 (puN (n + 1)) 1000000 f) b hb h7 hk (Int.ofNat k) 1000000 1 0 (by omega) (by omega) h1 (by decide)
    rw [show Nat.lor 0 (wrongs b k (N - 1) 1) = wrongs b k (N - 1) 1 from Nat.zero_or ..] at this
    exact this
  have en : ∀ f, l39_1 (puN (n + 1)) 1000000 (f + 1) (Int.ofNat N) (Int.ofNat 2) (W b) = some (I (-1)) := fun f => by
    show b39_1 (puN (n + 1)) 1000000 (l39_1 (puN (n + 1)) 1000000 f) _ _ _ = _
    unfold b39_1
    rw [W_cl, show ilt (Int.ofNat 2) 2 = false from rfl, bb_true, bb_false]; rfl
  show ∃ z, l39_1 (puN (n + 1)) 1000000 (999997 + 1 + 1 + 1) (Int.ofNat N) (Int.ofNat 0) (W b) = some (I z) ∧ _
  rw [st _ 0 (by omega)]
  by_cases w0 : wrongs b 0 (N - 1) 1 = 0
  · rw [w0, m39_z, wrapS 0 (by omega), st _ 1 (by omega)]
    by_cases w1 : wrongs b 1 (N - 1) 1 = 0
    · rw [w1, m39_z, wrapS 1 (by omega), en]
      exact ⟨-1, rfl, .inl ⟨rfl, w0, w1⟩⟩
    · obtain ⟨t, q, e⟩ := low_ex _ _ (Nat.lt_succ_self _) (Nat.pos_of_ne_zero w1)
      have hx : 2 ^ t * (2 * q + 1) < 2 ^ 64 := by rw [← e]; exact wrongs_lt hb 1 _ _
      rw [e, m39_nz _ _ _ _ _ (by omega) _ _ _ _ hx]
      exact ⟨_, rfl, .inr ⟨1, t, q, by omega, rfl, e, low_lt t q hx, fun _ => w0⟩⟩
  · obtain ⟨t, q, e⟩ := low_ex _ _ (Nat.lt_succ_self _) (Nat.pos_of_ne_zero w0)
    have hx : 2 ^ t * (2 * q + 1) < 2 ^ 64 := by rw [← e]; exact wrongs_lt hb 0 _ _
    rw [e, m39_nz _ _ _ _ _ (by omega) _ _ _ _ hx]
    exact ⟨_, rfl, .inr ⟨0, t, q, by omega, rfl, e, low_lt t q hx, fun h => by omega⟩⟩
end Go.TabUM
set_option maxRecDepth 100000
namespace Go.TabUM
open Go.Sp Go.TabU Go.TM

def fine (k : Int) (C : List (Int × Int)) : Prop := ∀ p ∈ C, good k p ∧ p.1 < p.2
theorem go_fine (k : Int) : ∀ (C : List (Int × Int)), go k C = 0 → fine k C
  | [], _ => by intro p hp; simp at hp
  | p :: C, h => by
    unfold go at h
    by_cases c : good k p
    · rw [ifp_t c] at h
      by_cases c2 : p.1 < p.2
      · rw [ifp_t c2] at h
        intro q hq
        simp at hq
        rcases hq with rfl | hq
        · exact ⟨c, c2⟩
        · exact go_fine k C h q hq
      · rw [ifp_f c2] at h; omega
    · rw [ifp_f c] at h; omega
theorem chk_zero {k : Int} {C : List (Int × Int)} (h : chk k C = 0) : ∃ N : Nat, k = Int.ofNat N ∧ 1 ≤ N ∧ N ≤ 7 ∧ C.length ≤ 24 ∧ okC N C := by
  unfold chk at h
  by_cases h1 : 1 ≤ k ∧ k ≤ 7
  · rw [ifp_t h1] at h
    by_cases h2 : 24 < C.length
    · rw [ifp_t h2] at h; omega
    · rw [ifp_f h2] at h
      have hf := go_fine k C h
      have hk : k = ((k.toNat : Nat) : Int) := (Int.toNat_of_nonneg (by omega)).symm
      refine ⟨k.toNat, hk, by omega, by omega, by omega, fun p hp => ?_⟩
      obtain ⟨⟨g1, g2, g3, g4⟩, g5⟩ := hf p hp
      exact ⟨g1, g5, by omega⟩
  · rw [ifp_f h1] at h; omega

theorem bad_rows {N : Nat} {b : List Nat} {z : Int} (h1 : 1 ≤ N) (hz : badI N b z) : (z = -1 ∧ ∀ m, m < 128 → srt (rowB b N m)) ∨ ∃ m0, z = Int.ofNat m0 ∧ m0 < 128 ∧ ¬ srt (rowB b N m0) ∧ ∀ m, m < m0 → srt (rowB b N m) := by
  rcases hz with ⟨rfl, w0, w1⟩ | ⟨k, t, q, hk, rfl, e, ht, h0⟩
  · refine .inl ⟨rfl, fun m hm => ?_⟩
    rw [srt_wrongs h1]
    rcases (show m / 64 = 0 ∨ m / 64 = 1 by omega) with c | c <;> rw [c] <;> simp [w0, w1]
  · refine .inr ⟨64 * k + t, rfl, by omega, ?_, fun m hm => ?_⟩
    · rw [srt_wrongs h1, show (64 * k + t) / 64 = k by omega, show (64 * k + t) % 64 = t by omega, e, low_bit, Nat.sub_self]
      simp
    · rw [srt_wrongs h1]
      by_cases hm2 : m / 64 = k
      · rw [hm2, e, low_bit]
        have : ¬ t ≤ m % 64 := by omega
        simp [this]
      · have hk1 : k = 1 := by omega
        have hm3 : m / 64 = 0 := by omega
        rw [hm3, h0 hk1]; simp

theorem clT (q : List Value) (z : Int) (h : allL closed1 q = true) : closedV (.tuple ⟨[(.agg ⟨q⟩), (.int .i64 z)]⟩) = true := by
  show an (allL closed1 q) (an true true) = true
  rw [h]; rfl
theorem p38a (n fl : Nat) (k : Int) (C : List (Int × Int)) (hc : chk k C ≠ 0) : puN (n + 3) 38 [tb fl k C] = some (.tuple ⟨[.agg ⟨zA73⟩, I (chk k C)]⟩) := by
  have e : puN (n + 3) 38 [tb fl k C] = m38_ (puN (n + 2)) 1000000 k (cl fl C) := by kernel_rfl
  rw [e]; unfold m38_
  have e1 := p50 n fl k C
  unfold tb at e1
  have ez : ([(.int .u64 (0 : Int)), (.int .u64 (0 : Int)), (.int .u64 (0 : Int)), (.int .u64 (0 : Int)), (.int .u64 (0 : Int)), (.int .u64 (0 : Int)), (.int .u64 (0 : Int)), (.int .u64 (0 : Int)), (.int .u64 (0 : Int)), (.int .u64 (0 : Int)), (.int .u64 (0 : Int)), (.int .u64 (0 : Int)), (.int .u64 (0 : Int)), (.int .u64 (0 : Int))] : List Value) = zA73 := rfl
  rw [e1, ez]
  simp only [oo_some, toI_mk, ne_t hc, bb_true, st14 zA_len zA_len, zA_cl, tk14 zA_len, clT _ _ zA_cl, b14 zA_len]
  rfl
theorem p38b (n fl N : Nat) (C : List (Int × Int)) (h1 : 1 ≤ N) (h7 : N ≤ 7) (hl : C.length ≤ 24) (hC : okC N C) (hc : chk (Int.ofNat N) C = 0) (b : List Nat) (hb : wd b) (hall : ∀ n, puN (n + 1) 51 [I (Int.ofNat N)] = some (.agg ⟨W b⟩)) :
    puN (n + 3) 38 [tb fl (Int.ofNat N) C] = some (.tuple ⟨[.agg ⟨W (thru b C)⟩, I 0]⟩) := by
  have e : puN (n + 3) 38 [tb fl (Int.ofNat N) C] = m38_ (puN (n + 2)) 1000000 (Int.ofNat N) (cl fl C) := by kernel_rfl
  rw [e]; unfold m38_
  have e1 := p50 n fl (Int.ofNat N) C
  unfold tb at e1
  rw [hc] at e1
  have e2 := p53 n fl N b hb C h7 hC (by omega)
  have hw := wd_thru C b hb
  have l1 : (W b).length = 14 := by rw [W_len]; exact hb.1
  have l2 : (W (thru b C)).length = 14 := by rw [W_len]; exact hw.1
  have cl2 : allL closed2 [(.agg ⟨W b⟩ : Value), (Sl.v 2 (cl fl C))] = true := by
    show an (allL closed1 (W b)) _ = true
    rw [W_cl]; rfl
  rw [e1, hall (n + 1)]
  simp only [zA_cl, bb_true, oo_some, toI_mk, ne_f, bb_false, vAgg_mk, i14 l1 (W_cl b), e2, i14 l2 (W_cl _), cl2, q14 l1, q14 l2, s14 l2 zA_len (W_sc _), st14 l2 zA_len, W_cl, b14 l2, tk14 l2, clT _ _ (W_cl _)]
  rfl
theorem pSa (n fl : Nat) (k : Int) (C : List (Int × Int)) (hc : chk k C ≠ 0) : puN (n + 4) 10090 [tb fl k C] = some (.tuple ⟨[.tuple ⟨[.bool false, I (chk k C)]⟩]⟩) := by
  have e : puN (n + 4) 10090 [tb fl k C] = m10090_ (puN (n + 3)) 1000000 k (cl fl C) := by kernel_rfl
  rw [e]; unfold m10090_
  have e1 := p38a n fl k C hc
  unfold tb at e1
  rw [e1]
  simp only [oo_some, vTup_mk, ll_cons', ll_nil', vAgg_mk, i14 zA_len zA_cl, bb_true, toI_mk, q14 zA_len, s14 zA_len zA_len (show allL scalarB zA73 = true from rfl), st14 zA_len zA_len, zA_cl, ne_t hc]
  rfl
theorem pSb (n fl N : Nat) (C : List (Int × Int)) (h1 : 1 ≤ N) (h7 : N ≤ 7) (hl : C.length ≤ 24) (hC : okC N C) (hc : chk (Int.ofNat N) C = 0) (b : List Nat) (hb : wd b) (hall : ∀ n, puN (n + 1) 51 [I (Int.ofNat N)] = some (.agg ⟨W b⟩))
    (z : Int) (hz : puN (n + 3) 39 [.agg ⟨W (thru b C)⟩, I (Int.ofNat N)] = some (I z)) : puN (n + 4) 10090 [tb fl (Int.ofNat N) C] = some (.tuple ⟨[.tuple ⟨[.bool (ilt z 0), I 0]⟩]⟩) := by
  have e : puN (n + 4) 10090 [tb fl (Int.ofNat N) C] = m10090_ (puN (n + 3)) 1000000 (Int.ofNat N) (cl fl C) := by kernel_rfl
  rw [e]; unfold m10090_
  have e1 := p38b n fl N C h1 h7 hl hC hc b hb hall
  unfold tb at e1
  have hw := wd_thru C b hb
  have l2 : (W (thru b C)).length = 14 := by rw [W_len]; exact hw.1
  have cl2 : allL closed2 [(.agg ⟨W (thru b C)⟩ : Value), (.int .i64 (Int.ofNat N))] = true := by
    show an (allL closed1 (W (thru b C))) _ = true
    rw [W_cl]; rfl
  rw [e1]
  simp only [oo_some, vTup_mk, ll_cons', ll_nil', vAgg_mk, i14 l2 (W_cl _), bb_true, toI_mk, q14 l2, s14 l2 zA_len (W_sc _), st14 l2 zA_len, W_cl, ne_f, bb_false, b14 l2, tk14 l2, hz, cl2]
  rfl
end Go.TabUM
set_option maxRecDepth 100000
namespace Go.TabUM
open Go.Sp Go.TabU Go.TM

theorem setL_one {α : Type} (v : α) : ∀ (i : Nat) (xs : List α), i < xs.length → setL [v] i xs = xs.set i v
  | 0, x :: xs, _ => rfl
  | i + 1, x :: xs, h => by
    show x :: setL [v] i xs = x :: xs.set i v
    rw [setL_one v i xs (by simpa using h)]
  | _, [], h => by simp at h
theorem getD_I (l : List Int) (i : Nat) (h : i < l.length) : (l.map I)[i]? = some (I (l.getD i 0)) := by rw [getI l i h]; simp [h]
theorem takeM (l : List Int) : List.take l.length (l.map I) = l.map I := List.take_of_length_le (by simp)
theorem roomyS {n : Nat} (h : n ≤ 1000) : roomy n 8 = true := by
  unfold roomy; rw [ble_eq]; simp; omega
theorem ok_at {N : Nat} {C : List (Int × Int)} (h : okC N C) {i : Nat} (hi : i < C.length) : ∃ A B : Nat, C[i].1 = Int.ofNat A ∧ C[i].2 = Int.ofNat B ∧ A < N ∧ B < N ∧ A < B ∧ C[i].1.toNat = A ∧ C[i].2.toNat = B := by
  obtain ⟨h1, h2, h3⟩ := h _ (List.getElem_mem hi)
  exact ⟨C[i].1.toNat, C[i].2.toNat, (Int.toNat_of_nonneg h1).symm, (Int.toNat_of_nonneg (by omega)).symm, by omega, by omega, by omega, rfl, rfl⟩
theorem wholeI (r : List Int) : an (Nat.ble (0 + r.length * 1) (len (r.map I))) (allL closed1 (takeL (r.length * 1) (dropL 0 (r.map I)))) = true := by
  simp only [allL_eq, closedI, ble_eq, len_eq, List.length_map, Nat.zero_add, Nat.mul_one, Nat.le_refl, decide_true, an_eq, Bool.true_and, takeL_eq, dropL_eq, List.drop_zero, takeM]
theorem takeI (r : List Int) : takeL (r.length * 1) (dropL 0 (r.map I)) = r.map I := by
  simp only [Nat.mul_one, takeL_eq, dropL_eq, List.drop_zero, takeM]
theorem takeI' (r : List Int) : takeL (r.length * 1) (r.map I) = r.map I := by
  simp only [Nat.mul_one, takeL_eq, takeM]
theorem clI (r : List Int) : allL closed1 (r.map I) = true := by rw [allL_eq, closedI]
theorem slI (r : List Int) : Sl.v 1 (Sl.mk r.length 0 (r.map I)) = S 0 r := rfl

theorem endRun (pu : PureF) (n c : Nat) (r : List Int) : m10240_0 pu n r.length c (r.map I) = some (.tuple ⟨[.tuple ⟨[S 0 r, I 0]⟩]⟩) := by
  unfold m10240_0
  rw [clI, wholeI, takeI, bb_true, bb_true]; rfl
theorem lRun (pu : PureF) (n fl c : Nat) (N : Nat) (C : List (Int × Int)) (hf : okC N C) (hC : C.length < 1000) : ∀ (f i : Nat) (r : List Int), C.length - i < f → i ≤ C.length → r.length = N →
    l10240_1 pu n f r.length c (cl fl C) (Int.ofNat C.length) (Int.ofNat i) (r.map I) = some (.tuple ⟨[.tuple ⟨[S 0 (runs r (C.drop i)), I 0]⟩]⟩) := by
  intro f
  induction f with
  | zero => intro i r h; omega
  | succ f ih =>
    intro i r h hi hr
    show b10240_1 pu n (l10240_1 pu n f) _ _ _ _ _ _ = _
    unfold b10240_1
    rw [clI, bb_true]
    by_cases hlt : i < C.length
    · obtain ⟨g1, g2⟩ := pc_get C i hlt
      have e : C.drop i = C[i] :: C.drop (i + 1) := List.drop_eq_getElem_cons hlt
      obtain ⟨A, B, hA, hB, a1, b1, hAB, tA, tB⟩ := ok_at hf hlt
      have a2 : A < r.length := by omega
      have b2 : B < r.length := by omega
      rw [hA] at g1
      rw [hB] at g2
      have hb : decide (i * 2 + 2 ≤ (pc C).length) = true := by rw [pc_len]; simp; omega
      have next := ih (i + 1) (stp r C[i]) (by omega) (by omega) (by rw [stp_len]; exact hr)
      rw [stp_len] at next
      have s1 : setL ([I (min (r.getD A 0) (r.getD B 0))] : List Value) A (r.map I) = (r.set A (min (r.getD A 0) (r.getD B 0))).map I := by rw [setL_one _ _ _ (by simpa using a2), List.map_set]
      have s2 : setL ([I (max (r.getD A 0) (r.getD B 0))] : List Value) B ((r.set A (min (r.getD A 0) (r.getD B 0))).map I) = (stp r C[i]).map I := by
        rw [setL_one _ _ _ (by simpa using b2), ← List.map_set]
        unfold stp
        rw [tA, tB]
      rw [lt_true hlt]
      simp only [bb_true, toN_mk, oo_some, cl_n, cl_cs, blt_eq, hlt, decide_true, an_eq, Bool.true_and, hb, nthL_eq, g1, g2, toI_mk, a2, b2, Nat.zero_add, Nat.mul_one, getD_I r A a2, getD_I r B b2, bbmin, bbmax, s1, s2, clI, ble_eq, len_eq, List.length_map, List.length_set, Nat.succ_le_of_lt a2, Nat.succ_le_of_lt b2, Bool.and_true, wrapS i (by omega : i < 1000000)]
      rw [next, e]; rfl
    · have : i = C.length := by omega
      subst this
      rw [lt_false hlt, bb_false, List.drop_length, endRun]; rfl
theorem pRun (n fl fl' N : Nat) (C : List (Int × Int)) (r : List Int) (h7 : N ≤ 7) (hl : C.length ≤ 24) (hC : okC N C) (hc : chk (Int.ofNat N) C = 0) (hr : r.length = N) :
    puN (n + 3) 10240 [tb fl (Int.ofNat N) C, S fl' r] = some (.tuple ⟨[.tuple ⟨[S 0 (runs r C), I 0]⟩]⟩) := by
  have e : puN (n + 3) 10240 [tb fl (Int.ofNat N) C, S fl' r] = m10240_ (puN (n + 2)) 1000000 (Int.ofNat N) (cl fl C) (sl fl' r) := by kernel_rfl
  rw [e]; unfold m10240_
  have e1 := p50 n fl (Int.ofNat N) C
  unfold tb at e1
  rw [hc] at e1
  rw [e1]
  have rm : roomy (0 + r.length) 8 = true := by rw [Nat.zero_add]; exact roomyS (by omega)
  have := lRun (puN (n + 2)) 1000000 fl (2 * r.length + bb false 1 0) N C hC (by omega) 1000000 0 r (by omega) (by omega) hr
  rw [List.drop_zero] at this
  have hn : nt (ieq (Int.ofNat r.length) (Int.ofNat N)) = false := by rw [hr]; exact ne_f _
  simp only [oo_some, toI_mk, ne_f, bb_false, sl_n, sl_cs, hn, rm, bb_true, takeI', clI]
  exact this

theorem lSame (pu : PureF) (n fl fl' : Nat) (a : List Int) (ha : a.length < 1000) : ∀ (f i : Nat), a.length - i < f → i ≤ a.length → l10150_1 pu n f (sl fl a) (sl fl' a) (Int.ofNat i) = some (.tuple ⟨[.bool true]⟩) := by
  intro f
  induction f with
  | zero => intro i h; omega
  | succ f ih =>
    intro i h hi
    show b10150_1 pu n (l10150_1 pu n f) _ _ _ = _
    unfold b10150_1
    by_cases hlt : i < a.length
    · rw [sl_n, lt_true hlt]
      simp only [bb_true, toN_mk, oo_some, sl_n, sl_cs, blt_eq, hlt, decide_true, an_eq, Bool.true_and, nthL_eq, Nat.mul_one, getI a i hlt, toI_mk, wrapS i (by omega), ne_f, bb_false]
      exact ih (i + 1) (by omega) (by omega)
    · rw [sl_n, lt_false hlt]; rfl
theorem pSame (n fl fl' : Nat) (a : List Int) (ha : a.length < 1000) : puN (n + 1) 10150 [S fl a, S fl' a] = some (.tuple ⟨[.bool true]⟩) := by
  have e : puN (n + 1) 10150 [S fl a, S fl' a] = m10150_ (puN n) 1000000 (sl fl a) (sl fl' a) := by kernel_rfl
  rw [e]; unfold m10150_
  rw [sl_n, sl_n, ne_f, bb_false]
  exact lSame (puN n) 1000000 fl fl' a ha 1000000 0 (by omega) (by omega)

theorem every_row {N : Nat} (h1 : 1 ≤ N) (h7 : N ≤ 7) : ∃ b, isAll N b ∧ ∀ n, puN (n + 1) 51 [I (Int.ofNat N)] = some (.agg ⟨W b⟩) := all_rows N h1 h7
theorem pSorts (n fl N : Nat) (C : List (Int × Int)) (h1 : 1 ≤ N) (h7 : N ≤ 7) (hl : C.length ≤ 24) (hC : okC N C) (hc : chk (Int.ofNat N) C = 0) :
    puN (n + 4) 10090 [tb fl (Int.ofNat N) C] = some (.tuple ⟨[.tuple ⟨[.bool (ifb (sorts N C)), I 0]⟩]⟩) := by
  obtain ⟨b, hb, hall⟩ := every_row h1 h7
  obtain ⟨z, hz, hbad⟩ := p39 (n + 1) N h1 h7 (thru b C) (wd_thru C b hb.1)
  rw [pSb n fl N C h1 h7 hl hC hc b hb.1 hall z hz]
  have hiff : ilt z 0 = ifb (sorts N C) := by
    have hw := wd_thru C b hb.1
    rcases bad_rows h1 hbad with ⟨rfl, hs⟩ | ⟨m0, rfl, hm, hns, _⟩
    · rw [ifb_t ((all_sorts h1 h7 hb hC).1 ((none_wrong hw h1).1 hs))]; rfl
    · rw [ifb_f (fun h => hns ((none_wrong hw h1).2 ((all_sorts h1 h7 hb hC).2 h) m0 hm))]
      rw [iltF]
      show ¬ ((m0 : Int) < 0)
      omega
  rw [hiff]
end Go.TabUM
set_option maxRecDepth 100000
namespace Go.TabUM
open Go.Sp Go.TabU Go.TM

def pl (P : List (Nat × Nat)) : List Value := P.flatMap fun p => [.int .u8 (Int.ofNat p.1), .int .u8 (Int.ofNat p.2)]
def ps (P : List (Nat × Nat)) : Sl := ⟨P.length, 0, pl P⟩
def byte (P : List (Nat × Nat)) : Prop := ∀ p ∈ P, p.1 < 256 ∧ p.2 < 256
theorem pl_len (P : List (Nat × Nat)) : (pl P).length = P.length * 2 := by
  induction P with
  | nil => rfl
  | cons p C ih => simp only [pl, List.flatMap_cons, List.length_append, List.length_cons, List.length_nil] at ih ⊢; omega
theorem pl_get : ∀ (C : List (Nat × Nat)) (i : Nat) (h : i < C.length), (pl C)[i * 2]? = some (.int .u8 (Int.ofNat C[i].1)) ∧ (pl C)[i * 2 + 1]? = some (.int .u8 (Int.ofNat C[i].2))
  | [], i, h => by simp at h
  | p :: C, 0, _ => ⟨rfl, rfl⟩
  | p :: C, i + 1, h => by
    have ih := pl_get C i (by simpa using h)
    have e : pl (p :: C) = .int .u8 (Int.ofNat p.1) :: .int .u8 (Int.ofNat p.2) :: pl C := rfl
    have e2 : (i + 1) * 2 = i * 2 + 1 + 1 := by omega
    rw [e, e2]
    simp only [List.getElem?_cons_succ, List.getElem_cons_succ]
    exact ih
theorem clP (C : List (Int × Int)) : allL closed1 (pc C) = true := by
  rw [allL_eq, List.all_eq_true]; intro x hx
  simp [pc] at hx
  obtain ⟨a, b, _, h | h⟩ := hx <;> subst h <;> rfl
theorem growP (C : List (Int × Int)) (k : Nat) (hk : 1 ≤ k) (hb : C.length + k ≤ 1000000) : growC 2 16 C.length (2 * C.length) k (pc C) = true := by
  unfold growC
  have h1 : roomy (C.length + k) 16 = true := Nat.ble_eq_true_of_le (by omega)
  have h2 : Nat.ble (C.length + k) (2 * C.length / 2) = false := by
    rw [ble_eq]; exact decide_eq_false (by omega)
  have h3 : Nat.ble (0 + C.length * 2) (len (pc C)) = true := Nat.ble_eq_true_of_le (by rw [len_eq, pc_len]; omega)
  have h4 : Nat.beq (2 * C.length % 2) 1 = false := by rw [Nat.mul_mod_right]; rfl
  have h5 : Nat.beq (0 + C.length * 2) (len (pc C)) = true := by rw [len_eq, pc_len, Nat.zero_add]; exact Nat.beq_refl _
  rw [h1, h2, h3, h4, h5]; rfl
theorem pc_app (C D : List (Int × Int)) : pc C ++ pc D = pc (C ++ D) := by simp [pc]
theorem pc_snoc (C : List (Int × Int)) (a b : Int) : appL (dropL 0 (pc C)) [I a, I b] = pc (C ++ [(a, b)]) := by
  rw [appL_eq, dropL_eq, List.drop_zero, ← pc_app]; rfl

def mk (N : Nat) (C : List (Int × Int)) : Value :=
  .tuple ⟨[(.agg ⟨[I (Int.ofNat N), (.slice (some ⟨2, 0, some 2⟩) C.length (2 * C.length))]⟩), (.agg ⟨[I (Int.ofNat N), (.slice (some ⟨2, 0, some 2⟩) C.length (2 * C.length))]⟩), (.agg ⟨pc C⟩)]⟩
theorem endMade (pu : PureF) (n : Nat) (z : Int) (N : Nat) (C : List (Int × Int)) : m10230_1 pu n z (Int.ofNat N) C.length (2 * C.length) (pc C) = some (mk N C) := by
  unfold m10230_1; rw [clP, bb_true]; rfl
theorem wN (x : Nat) (h : x < 1000000) : wrapF .i64 (Int.ofNat x) = Int.ofNat x := wrapI _ (by show _ ≤ (x : Int); omega) (by show (x : Int) ≤ _; omega)
theorem wSub (a b : Nat) (h : a < 1000000) (hb : b ≤ a) : wrapF .i64 (Int.sub (Int.ofNat a) (Int.ofNat b)) = Int.ofNat (a - b) := by
  have : Int.sub (Int.ofNat a) (Int.ofNat b) = Int.ofNat (a - b) := by show (a : Int) - (b : Int) = ((a - b : Nat) : Int); omega
  rw [this]; exact wN _ (by omega)
theorem wAdd (a b : Nat) (h : a + b < 1000000) : wrapF .i64 (Int.add (Int.ofNat a) (Int.ofNat b)) = Int.ofNat (a + b) := wN _ h
theorem tmodN (a b : Nat) : Int.tmod (Int.ofNat a) (Int.ofNat b) = Int.ofNat (a % b) := rfl
theorem neN {a : Nat} (h : a ≠ 0) : nt (ieq (Int.ofNat a) 0) = true := ne_t (by show (a : Int) ≠ 0; omega)
theorem lMade (pu : PureF) (n M N : Nat) (P : List (Nat × Nat)) (hP : byte P) (h1 : 1 ≤ N) (h5 : N ≤ 5) (z : Int) : ∀ (f i : Nat) (C : List (Int × Int)), M - i < f → i ≤ M → i ≤ P.length → okC N C → C.length + (M - i) ≤ 1000 → M ≤ 1000 →
    ∃ D, okC N D ∧ D.length ≤ C.length + (M - i) ∧ l10230_2 pu n f (Int.ofNat M) (ps P) (Int.ofNat P.length) (Int.ofNat i) z (Int.ofNat N) C.length (2 * C.length) (pc C) = some (mk N D) := by
  intro f
  induction f with
  | zero => intro i C h; omega
  | succ f ih =>
    intro i C h hi hiP hC hlen hM
    have fin : ∀ x y (k : Int), m10230_3 pu n (l10230_2 pu n f) (Int.ofNat M) (ps P) (Int.ofNat P.length) k true z (Int.ofNat N) C.length (2 * C.length) x y (pc C) = some (mk N C) := by
      intro x y k
      unfold m10230_3
      rw [clP, bb_true, bb_true, endMade]
    show ∃ D, okC N D ∧ D.length ≤ C.length + (M - i) ∧ b10230_2 pu n (l10230_2 pu n f) _ _ _ _ _ _ _ _ _ = _
    unfold b10230_2
    rw [clP, bb_true]
    by_cases hlt : i < P.length
    · obtain ⟨g1, g2⟩ := pl_get P i hlt
      obtain ⟨hx, hy⟩ := hP _ (List.getElem_mem hlt)
      have hb : decide (i * 2 + 2 ≤ (pl P).length) = true := by rw [pl_len]; simp; omega
      rw [lt_true hlt]
      simp only [bb_true, toN_mk, oo_some, ps, blt_eq, hlt, decide_true, an_eq, Bool.true_and, ble_eq, len_eq, hb, nthL_eq, g1, g2, toI_mk8]
      by_cases hiM : i < M
      · rw [lt_true hiM]
        simp only [nt_eq, Bool.not_true, bb_false]
        by_cases h2 : N < 2
        · rw [show ilt (Int.ofNat N) 2 = true from lt_true h2]
          exact ⟨C, hC, by omega, fin _ _ _⟩
        · rw [show ilt (Int.ofNat N) 2 = false from lt_false h2]
          have e1 : wrapF .i64 (Int.sub (Int.ofNat N) 1) = Int.ofNat (N - 1) := wSub N 1 (by omega) (by omega)
          have ha : P[i].1 % (N - 1) < N - 1 := Nat.mod_lt _ (by omega)
          have e2 : wrapF .i64 (Int.sub (Int.ofNat (N - 1)) (Int.ofNat (P[i].1 % (N - 1)))) = Int.ofNat (N - 1 - P[i].1 % (N - 1)) := wSub _ _ (by omega) (by omega)
          have hd : P[i].2 % (N - 1 - P[i].1 % (N - 1)) < N - 1 - P[i].1 % (N - 1) := Nat.mod_lt _ (by omega)
          have e3 : wrapF .i64 (Int.add (Int.ofNat (P[i].1 % (N - 1))) 1) = Int.ofNat (P[i].1 % (N - 1) + 1) := wrapS _ (by omega)
          have e4 : wrapF .i64 (Int.add (Int.ofNat (P[i].1 % (N - 1) + 1)) (Int.ofNat (P[i].2 % (N - 1 - P[i].1 % (N - 1))))) = Int.ofNat (P[i].1 % (N - 1) + 1 + P[i].2 % (N - 1 - P[i].1 % (N - 1))) := wAdd _ _ (by omega)
          unfold m10230_3
          rw [wN P[i].1 (by omega), wN P[i].2 (by omega), e1, tmodN, e2, tmodN, e3, e4, pc_snoc, clP, clP, growP C 1 (by omega) (by omega), neN (show N - 1 ≠ 0 by omega), neN (show N - 1 - P[i].1 % (N - 1) ≠ 0 by omega), wrapS i (by omega)]
          simp only [bb_true, bb_false]
          obtain ⟨D, d1, d2, d3⟩ := ih (i + 1) (C ++ [(Int.ofNat (P[i].1 % (N - 1)), Int.ofNat (P[i].1 % (N - 1) + 1 + P[i].2 % (N - 1 - P[i].1 % (N - 1))))]) (by omega) (by omega) (by omega)
            (by
              intro p hp
              rcases List.mem_append.1 hp with hp | hp
              · exact hC p hp
              · simp only [List.mem_singleton] at hp
                subst hp
                refine ⟨?_, ?_, ?_⟩
                · show (0 : Int) ≤ ((P[i].1 % (N - 1) : Nat) : Int); omega
                · show ((P[i].1 % (N - 1) : Nat) : Int) < ((P[i].1 % (N - 1) + 1 + P[i].2 % (N - 1 - P[i].1 % (N - 1)) : Nat) : Int); omega
                · show ((P[i].1 % (N - 1) + 1 + P[i].2 % (N - 1 - P[i].1 % (N - 1)) : Nat) : Int) < (N : Int); omega)
            (by simp; omega) hM
          refine ⟨D, d1, ?_, ?_⟩
          · simp at d2; omega
          · rw [List.length_append] at d3
            exact d3
      · rw [lt_false hiM]
        simp only [nt_eq, Bool.not_false, bb_true]
        exact ⟨C, hC, by omega, fin _ _ _⟩
    · have : i = P.length := by omega
      subst this
      rw [lt_false hlt, bb_false, endMade]
      exact ⟨C, hC, by omega, rfl⟩

def full : Nat → List (Int × Int)
  | 2 => [(0, 1)]
  | 3 => [(0, 1), (1, 2), (0, 1)]
  | 4 => [(0, 1), (1, 2), (2, 3), (0, 1), (1, 2), (0, 1)]
  | 5 => [(0, 1), (1, 2), (2, 3), (3, 4), (0, 1), (1, 2), (2, 3), (0, 1), (1, 2), (0, 1)]
  | _ => []
theorem full_ok : ∀ N, 1 ≤ N → N ≤ 5 → okC N (full N) ∧ (full N).length ≤ 10
  | 1, _, _ => ⟨by show ∀ p ∈ full 1, 0 ≤ p.1 ∧ p.1 < p.2 ∧ p.2 < ((1 : Nat) : Int); decide, by decide⟩
  | 2, _, _ => ⟨by show ∀ p ∈ full 2, 0 ≤ p.1 ∧ p.1 < p.2 ∧ p.2 < ((2 : Nat) : Int); decide, by decide⟩
  | 3, _, _ => ⟨by show ∀ p ∈ full 3, 0 ≤ p.1 ∧ p.1 < p.2 ∧ p.2 < ((3 : Nat) : Int); decide, by decide⟩
  | 4, _, _ => ⟨by show ∀ p ∈ full 4, 0 ≤ p.1 ∧ p.1 < p.2 ∧ p.2 < ((4 : Nat) : Int); decide, by decide⟩
  | 5, _, _ => ⟨by show ∀ p ∈ full 5, 0 ≤ p.1 ∧ p.1 < p.2 ∧ p.2 < ((5 : Nat) : Int); decide, by decide⟩
  | N + 6, _, h => by omega
theorem lFull (pu : PureF) (z z2 : Int) (s : Sl) (b : Bool) : ∀ N, 1 ≤ N → N ≤ 5 → l10230_4 pu 1000000 1000000 z (Int.ofNat N) z2 s b 0 (Int.ofNat N) 0 0 [] = m10230_0 pu 1000000 z z2 s b 0 (Int.ofNat N) (full N).length (2 * (full N).length) (pc (full N))
  | 1, _, _ => by kernel_rfl
  | 2, _, _ => by kernel_rfl
  | 3, _, _ => by kernel_rfl
  | 4, _, _ => by kernel_rfl
  | 5, _, _ => by kernel_rfl
  | N + 6, _, h => by omega
theorem pMade (n L M : Nat) (P : List (Nat × Nat)) (hL : L < 256) (hP : byte P) (b : Bool) (hM : M ≤ 10) :
    ∃ D, okC (1 + L % 5) D ∧ D.length ≤ (if b then 10 else 0) + M ∧ puN (n + 1) 10230 [.agg ⟨[.int .u8 (Int.ofNat L), Sl.v 2 (ps P), .bool b]⟩, I (Int.ofNat M)] = some (mk (1 + L % 5) D) := by
  have e : puN (n + 1) 10230 [.agg ⟨[.int .u8 (Int.ofNat L), Sl.v 2 (ps P), .bool b]⟩, I (Int.ofNat M)] = m10230_ (puN n) 1000000 (Int.ofNat L) (ps P) b (Int.ofNat M) := by kernel_rfl
  rw [e]; unfold m10230_
  have eN : wrapF .i64 (Int.add 1 (Int.tmod (wrapF .i64 (Int.ofNat L)) 5)) = Int.ofNat (1 + L % 5) := by
    rw [wN L (by omega), show Int.tmod (Int.ofNat L) 5 = Int.ofNat (L % 5) from rfl]
    exact wAdd 1 (L % 5) (by omega)
  rw [eN]
  have run : ∀ C, okC (1 + L % 5) C → C.length ≤ 10 → ∃ D, okC (1 + L % 5) D ∧ D.length ≤ C.length + M ∧ m10230_0 (puN n) 1000000 (Int.ofNat M) (Int.ofNat L) (ps P) b 0 (Int.ofNat (1 + L % 5)) C.length (2 * C.length) (pc C) = some (mk (1 + L % 5) D) := by
    intro C hC hl
    unfold m10230_0
    rw [clP, bb_true]
    exact lMade (puN n) 1000000 M (1 + L % 5) P hP (by omega) (by omega) 0 1000000 0 C (by omega) (by omega) (by omega) hC (by omega) (by omega)
  cases b with
  | false =>
    obtain ⟨D, d1, d2, d3⟩ := run [] (by intro p hp; cases hp) (by simp)
    exact ⟨D, d1, by simpa using d2, d3⟩
  | true =>
    rw [bb_true, lFull _ _ _ _ _ _ (by omega) (by omega)]
    obtain ⟨f1, f2⟩ := full_ok (1 + L % 5) (by omega) (by omega)
    obtain ⟨D, d1, d2, d3⟩ := run _ f1 f2
    exact ⟨D, d1, by simp; omega, d3⟩
end Go.TabUM
set_option maxRecDepth 100000
namespace Go.TabUM
open Go.Sp Go.TabU Go.TM

theorem go_ok {N : Nat} : ∀ (C : List (Int × Int)), okC N C → go (Int.ofNat N) C = 0
  | [], _ => rfl
  | p :: C, h => by
    obtain ⟨h1, h2, h3⟩ := h p (by simp)
    unfold go
    rw [ifp_t (show good (Int.ofNat N) p from ⟨h1, Int.lt_trans h2 h3, by omega, h3⟩), ifp_t h2]
    exact go_ok C fun q hq => h q (by simp [hq])
theorem chk_ok {N : Nat} {C : List (Int × Int)} (h1 : 1 ≤ N) (h7 : N ≤ 7) (hl : C.length ≤ 24) (hC : okC N C) : chk (Int.ofNat N) C = 0 := by
  unfold chk
  rw [ifp_t ⟨by show (1 : Int) ≤ (N : Int); omega, by show (N : Int) ≤ 7; omega⟩, ifp_f (by omega), go_ok C hC]

theorem drop0 (q : List Value) : dropL 0 q = q := rfl
theorem takeP (C : List (Int × Int)) : takeL (C.length * 2) (pc C) = pc C := by rw [takeL_eq, ← pc_len, List.take_length]
theorem appP (C D : List (Int × Int)) : appL (pc C) (pc D) = pc (C ++ D) := by rw [appL_eq, pc_app]
theorem takeP2 (C D : List (Int × Int)) : takeL ((C.length + D.length) * 2) (pc (C ++ D)) = pc (C ++ D) := by rw [← List.length_append, takeP]
theorem chkP (C : List (Int × Int)) : an (Nat.ble (0 + C.length * 2) (len (pc C))) (allL closed1 (pc C)) = true := by
  rw [clP, Nat.ble_eq_true_of_le (by rw [len_eq, pc_len]; omega)]; rfl
theorem bleP (C : List (Int × Int)) : Nat.ble (0 + C.length * 2) (len (pc C)) = true := Nat.ble_eq_true_of_le (by rw [len_eq, pc_len]; omega)
theorem chkP2 (C D : List (Int × Int)) : an (Nat.ble (0 + (C.length + D.length) * 2) (len (pc (C ++ D)))) (allL closed1 (pc (C ++ D))) = true := by rw [← List.length_append, chkP]
theorem scP (C : List (Int × Int)) : allL scalarB (pc C) = true := by
  rw [allL_eq, List.all_eq_true]; intro x hx
  simp [pc] at hx
  obtain ⟨a, b, _, h | h⟩ := hx <;> subst h <;> rfl
theorem room16 (n : Nat) (h : n ≤ 1000) : roomy (0 + n) 16 = true := Nat.ble_eq_true_of_le (by omega)
theorem nb_t {z : Nat} (h : z = 0) : Nat.beq z 0 = true := by subst h; rfl
theorem nb_f {z : Nat} (h : z ≠ 0) : Nat.beq z 0 = false := by
  cases z with
  | zero => exact absurd rfl h
  | succ z => rfl
theorem sc_mk (a c : Nat) : toSc 2 0 2 (.slice (some ⟨2, 0, some 2⟩) a c) = some ⟨a, c⟩ := rfl
theorem ieq0 : ieq 0 0 = true := rfl

theorem sorts_app {N : Nat} : ∀ (D C : List (Int × Int)), okC N D → sorts N C → sorts N (C ++ D)
  | [], C, _, h => by rw [List.append_nil]; exact h
  | d :: D, C, hD, h => by
    have := sorts_app D (C ++ [d]) (fun q hq => hD q (by simp [hq])) (sorts_end (hD d (by simp)) h)
    rwa [List.append_assoc] at this
theorem sorts_pre {N : Nat} : ∀ (D C : List (Int × Int)), sorts N C → sorts N (D ++ C)
  | [], C, h => h
  | d :: D, C, h => sorts_begin (sorts_pre D C h)
theorem okC_app {N : Nat} {C D : List (Int × Int)} (h1 : okC N C) (h2 : okC N D) : okC N (C ++ D) := by
  intro p hp
  rcases List.mem_append.1 hp with hp | hp
  · exact h1 p hp
  · exact h2 p hp

theorem m4_gen (pu : PureF) (n N : Nat) (L m1 m2 z : Int) (s : Sl) (b' b : Bool) (C D : List (Int × Int)) (h8 : pu 8 [] = some (.bool true))
    (hone : pu 10230 [(.agg ⟨[(.int .u8 L), (Sl.v 2 (Sl.mk 1 0 (takeL (1 * 2) (dropL 0 ([(.int .u8 m1), (.int .u8 m2)] : List Value))))), (.bool false)]⟩), (.int .i64 (1 : Int))] = some (mk N D))
    (hs : ∀ E, okC N E → E.length ≤ 24 → pu 10090 [(.agg ⟨[I (Int.ofNat N), (Sl.v 2 (Sl.mk E.length 0 (pc E)))]⟩)] = some (.tuple ⟨[.tuple ⟨[.bool (ifb (sorts N E)), I 0]⟩]⟩))
    (hC : okC N C) (hD : okC N D) (hl : C.length ≤ 20) (hDl : D.length ≤ 1) (hb : b = false → sorts N C) :
    m6_4 pu n (Int.ofNat N) b L s b' m1 m2 z (Sl.mk C.length 0 (pc C)) = some (.bool true) := by
  unfold m6_4
  cases b with
  | true => rw [bb_true, h8]; rfl
  | false =>
    have hS := hb rfl
    rw [bb_false, hone]
    have e1 := hs C hC (by omega)
    have e2 := hs D hD (by omega)
    have e3 := hs (C ++ D) (okC_app hC hD) (by simp; omega)
    have e4 := hs (D ++ C) (okC_app hD hC) (by simp; omega)
    rw [List.length_append] at e3 e4
    have q1 := ifb_t hS
    have q3 := ifb_t (sorts_app D C hD hS)
    have q4 := ifb_t (sorts_pre D C hS)
    unfold mk
    simp only [oo_some, vTup_mk, ll_cons', ll_nil', vAgg_mk, toI_mk, sc_mk, clP, bb_true, drop0, takeP, room16 C.length (by omega), bleP, chkP, e1, e2]
    by_cases d0 : D.length = 0
    · have dn : D = [] := List.eq_nil_of_length_eq_zero d0
      subst dn
      rw [nb_t d0]
      simp only [bb_true, vTup_mk, oo_some, ll_cons', ll_nil', vBool_mk, toI_mk, ieq0, q1]
      by_cases c0 : C.length = 0
      · have cn : C = [] := List.eq_nil_of_length_eq_zero c0
        subst cn
        rw [nb_t c0]
        simp only [bb_true, vTup_mk, oo_some, ll_cons', ll_nil', vBool_mk, toI_mk, ieq0, q1, h8]
        rfl
      · rw [nb_f c0]
        simp only [bb_true, bb_false, scP, an_eq, Bool.true_and, growP [] C.length (by omega) (by simp; omega), appP, takeP2]
        simp only [← an_eq, chkP2, e4, bb_true, vTup_mk, oo_some, ll_cons', ll_nil', vBool_mk, toI_mk, ieq0, q1, q4, h8]
        rfl
    · rw [nb_f d0]
      simp only [bb_true, bb_false, scP, an_eq, Bool.true_and, Nat.add_zero, growP C D.length (by omega) (by omega), appP, takeP2]
      simp only [← an_eq, chkP2, e3, bb_true, vTup_mk, oo_some, ll_cons', ll_nil', vBool_mk, toI_mk, ieq0, q3]
      by_cases c0 : C.length = 0
      · have cn : C = [] := List.eq_nil_of_length_eq_zero c0
        subst cn
        rw [nb_t c0]
        have q2 : ifb (sorts N D) = true := by rw [List.append_nil] at q4; exact q4
        simp only [bb_true, vTup_mk, oo_some, ll_cons', ll_nil', vBool_mk, toI_mk, ieq0, q2, h8]
        rfl
      · rw [nb_f c0]
        simp only [bb_true, bb_false, scP, an_eq, Bool.true_and, growP D C.length (by omega) (by omega), appP, takeP2]
        simp only [← an_eq, chkP2, e4, bb_true, vTup_mk, oo_some, ll_cons', ll_nil', vBool_mk, toI_mk, ieq0, q4, h8]
        rfl
end Go.TabUM
