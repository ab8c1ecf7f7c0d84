/- The plain law of TableSorts, fifth part: the reference's rows. -/
import Derived.Test.YtchpnknhdgplgaaDoorTabSLaw4x

set_option maxRecDepth 100000
namespace Go.TabSM
open Go.Sp Go.TabS Go.TM

theorem setL_one {α : Type} (v : α) : ∀ (i : Nat) (xs : List α), i < xs.length → setL [v] i xs = xs.set i v
  | 0, x :: xs, _ => rfl
  | i + 1, x :: xs, h => by
    show x :: setL [v] i xs = x :: xs.set i v
    rw [setL_one v i xs (by simpa using h)]
  | _, [], h => by simp at h
theorem getD_I (l : List Int) (i : Nat) (h : i < l.length) : (l.map I)[i]? = some (I (l.getD i 0)) := by rw [getI l i h]; simp [h]
theorem takeM (l : List Int) : List.take l.length (l.map I) = l.map I := List.take_of_length_le (by simp)
theorem roomyS {n : Nat} (h : n ≤ 1000) : roomy n 8 = true := by
  unfold roomy; rw [ble_eq]; simp; omega

theorem ok_at {N : Nat} {C : List (Int × Int)} (h : okC N C) {i : Nat} (hi : i < C.length) : ∃ A B : Nat, C[i].1 = Int.ofNat A ∧ C[i].2 = Int.ofNat B ∧ A < N ∧ B < N ∧ A < B ∧ C[i].1.toNat = A ∧ C[i].2.toNat = B := by
  obtain ⟨h1, h2, h3⟩ := h _ (List.getElem_mem hi)
  exact ⟨C[i].1.toNat, C[i].2.toNat, (Int.toNat_of_nonneg h1).symm, (Int.toNat_of_nonneg (by omega)).symm, by omega, by omega, by omega, rfl, rfl⟩
/-- A comparator's work, as the reference does it. -/
theorem stp_swap {r : List Int} {p : Int × Int} {A B : Nat} (tA : p.1.toNat = A) (tB : p.2.toNat = B) (hAB : A < B) (h : r.getD B 0 < r.getD A 0) : (r.set A (r.getD B 0)).set B (r.getD A 0) = stp r p := by
  unfold stp
  rw [tA, tB, Int.min_eq_right (by omega), Int.max_eq_left (by omega)]
theorem stp_keep {r : List Int} {p : Int × Int} {A B : Nat} (tA : p.1.toNat = A) (tB : p.2.toNat = B) (hA : A < r.length) (hB : B < r.length) (h : ¬ r.getD B 0 < r.getD A 0) : r = stp r p := by
  unfold stp
  rw [tA, tB, Int.min_eq_left (by omega), Int.max_eq_right (by omega), set_same r A hA, set_same r B hB]

theorem end45 (pu : PureF) (n c : Nat) (r : List Int) : m45_4 pu n r.length c (r.map I) = some (S 0 r) := by
  unfold m45_4
  simp only [allL_eq, closedI, bb_true, ble_eq, len_eq, List.length_map, Nat.zero_add, Nat.mul_one, Nat.le_refl, decide_true, an_eq, Bool.true_and, takeL_eq, dropL_eq, List.drop_zero, takeM]
  rfl
theorem l45 (pu : PureF) (n fl c : Nat) (N : Nat) (C : List (Int × Int)) (hf : okC N C) (hC : C.length < 1000) : ∀ (f i : Nat) (r : List Int), C.length - i < f → i ≤ C.length → r.length = N →
    l45_5 pu n f (-1) r.length c (Int.ofNat i) (Int.ofNat N) (cl fl C) (r.map I) = some (S 0 (runs r (C.drop i))) := by
  intro f
  induction f with
  | zero => intro i r h; omega
  | succ f ih =>
    intro i r h hi hr
    show b45_5 pu n (l45_5 pu n f) _ _ _ _ _ _ _ = _
    unfold b45_5
    rw [allL_eq, closedI, bb_true]
    by_cases hlt : i < C.length
    · obtain ⟨g1, g2⟩ := pc_get C i hlt
      have e : C.drop i = C[i] :: C.drop (i + 1) := List.drop_eq_getElem_cons hlt
      obtain ⟨A, B, hA, hB, a1, b1, hAB, tA, tB⟩ := ok_at hf hlt
      have a2 : A < r.length := by omega
      have b2 : B < r.length := by omega
      rw [hA] at g1
      rw [hB] at g2
      have hne : nt (ieq (Int.ofNat i) (-1)) = true := ne_t (by show (i : Int) ≠ -1; omega)
      have next := ih (i + 1) (stp r C[i]) (by omega) (by omega) (by rw [stp_len]; exact hr)
      rw [stp_len] at next
      rw [cl_n, lt_true hlt]
      simp only [bb_true, toN_mk, oo_some, cl_n, cl_cs, blt_eq, hlt, decide_true, an_eq, Bool.true_and, nthL_eq, Nat.add_zero, g1, g2, toI_mk, hne, a2, b2, Nat.zero_add, Nat.mul_one, getD_I r A a2, getD_I r B b2]
      unfold m45_7 m45_6
      by_cases c1 : r.getD B 0 < r.getD A 0
      · have s1 : setL ([I (r.getD B 0)] : List Value) A (r.map I) = (r.set A (r.getD B 0)).map I := by rw [setL_one _ _ _ (by simpa using a2), List.map_set]
        have s2 : setL ([I (r.getD A 0)] : List Value) B ((r.set A (r.getD B 0)).map I) = (stp r C[i]).map I := by
          rw [setL_one _ _ _ (by simpa using b2), ← List.map_set, stp_swap tA tB hAB c1]
        rw [iltD.2 c1]
        simp only [bb_true, toN_mk, oo_some, blt_eq, a2, b2, decide_true, an_eq, Bool.true_and, nthL_eq, Nat.zero_add, Nat.mul_one, getD_I r A a2, getD_I r B b2, toI_mk, s1, s2, ble_eq, len_eq, List.length_map, List.length_set, Nat.succ_le_of_lt a2, Nat.succ_le_of_lt b2, Bool.and_true, allL_eq, closedI, wrapS i (by omega : i < 1000000)]
        rw [next, e]; rfl
      · rw [iltF.2 c1]
        simp only [bb_false, bb_true, allL_eq, closedI, wrapS i (by omega : i < 1000000)]
        rw [← stp_keep tA tB a2 b2 c1] at next
        rw [next, e]
        show _ = some (S 0 (runs (stp r C[i]) (C.drop (i + 1))))
        rw [← stp_keep tA tB a2 b2 c1]
    · have : i = C.length := by omega
      subst this
      rw [cl_n, lt_false hlt, bb_false, List.drop_length, end45]; rfl
theorem p45 (n fl fl' N : Nat) (C : List (Int × Int)) (r : List Int) (h1 : 1 ≤ N) (h7 : N ≤ 7) (hl : C.length ≤ 24) (hC : okC N C) (hr : r.length = N) : puN (n + 1) 45 [tb fl (Int.ofNat N) C, S fl' r, I (-1)] = some (S 0 (runs r C)) := by
  have e : puN (n + 1) 45 [tb fl (Int.ofNat N) C, S fl' r, I (-1)] = m45_ (puN n) 1000000 (Int.ofNat N) (cl fl C) (sl fl' r) (-1) := by kernel_rfl
  rw [e]; unfold m45_
  have z1 : Nat.beq r.length 0 = false := by cases hz : r.length with
    | zero => omega
    | succ m => rfl
  have rm : roomy r.length 8 = true := roomyS (by omega)
  have := l45 (puN n) 1000000 fl (2 * r.length + bb false 1 0) N C hC (by omega) 1000000 0 r (by omega) (by omega) hr
  rw [List.drop_zero] at this
  simp only [sl_n, sl_cs, z1, bb_false, Nat.zero_add, rm, bb_true, Nat.mul_one, allL_eq, takeL_eq, takeM, closedI]
  exact this

/-- Is a row sorted from a place on? -/
def srtR (r : List Int) (i : Nat) : Prop := ∀ j, i ≤ j → j < r.length → ¬ r.getD j 0 < r.getD (j - 1) 0
theorem predW (i : Nat) (h1 : 1 ≤ i) (h : i < 1000000) : wrapF .i64 (Int.sub (Int.ofNat i) 1) = Int.ofNat (i - 1) := by
  show wrapF .i64 (Int.ofNat i - 1) = _
  rw [wrapI _ (by simp; omega) (by simp; omega)]; simp; omega
theorem l44 (pu : PureF) (n fl : Nat) (r : List Int) (hr : r.length < 1000) : ∀ (f i : Nat), r.length - i < f → 1 ≤ i → i ≤ r.length → l44_1 pu n f (sl fl r) (Int.ofNat i) = some (Value.bool (ifb (srtR r i))) := by
  intro f
  induction f with
  | zero => intro i h; omega
  | succ f ih =>
    intro i h h1 hi
    show b44_1 pu n (l44_1 pu n f) _ _ = _
    unfold b44_1
    by_cases hlt : i < r.length
    · have hi1 : i - 1 < r.length := by omega
      rw [sl_n, lt_true hlt]
      simp only [bb_true, toN_mk, oo_some, sl_n, sl_cs, blt_eq, hlt, hi1, decide_true, an_eq, Bool.true_and, nthL_eq, Nat.mul_one, getD_I r i hlt, getD_I r (i - 1) hi1, toI_mk, predW i h1 (by omega)]
      by_cases c : r.getD i 0 < r.getD (i - 1) 0
      · rw [iltD.2 c, bb_true, ifb_f (fun h9 => h9 i (Nat.le_refl _) hlt c)]
      · rw [iltF.2 c, bb_false, wrapS i (by omega), ih (i + 1) (by omega) (by omega) (by omega)]
        congr 2
        apply ifb_congr
        constructor
        · intro h9 j hj hjl
          by_cases hji : j = i
          · rw [hji]; exact c
          · exact h9 j (by omega) hjl
        · intro h9 j hj hjl; exact h9 j (by omega) hjl
    · rw [sl_n, lt_false hlt, bb_false, ifb_t (show srtR r i from fun j h8 h9 => by omega)]; rfl
theorem p44 (n fl : Nat) (r : List Int) (h1 : 1 ≤ r.length) (hr : r.length < 1000) : puN (n + 1) 44 [S fl r] = some (Value.bool (ifb (srt r))) := by
  have e : puN (n + 1) 44 [S fl r] = m44_ (puN n) 1000000 (sl fl r) := by kernel_rfl
  rw [e]; unfold m44_
  exact l44 (puN n) 1000000 fl r hr 1000000 1 (by omega) (by omega) h1
/-- Has a list a number from a place on? -/
theorem l62 (pu : PureF) (n fl : Nat) (r : List Int) (x : Int) (hr : r.length < 1000) : ∀ (f i : Nat), r.length - i < f → i ≤ r.length → l62_1 pu n f (sl fl r) x (Int.ofNat i) = some (Value.bool (ifb (x ∈ r.drop i))) := by
  intro f
  induction f with
  | zero => intro i h; omega
  | succ f ih =>
    intro i h hi
    show b62_1 pu n (l62_1 pu n f) _ _ _ = _
    unfold b62_1
    by_cases hlt : i < r.length
    · have e : r.drop i = r[i] :: r.drop (i + 1) := List.drop_eq_getElem_cons hlt
      rw [sl_n, lt_true hlt]
      simp only [bb_true, toN_mk, oo_some, sl_n, sl_cs, blt_eq, hlt, decide_true, an_eq, Bool.true_and, nthL_eq, Nat.mul_one, getI r i hlt, toI_mk]
      by_cases c : r[i] = x
      · rw [c, ieqr, bb_true, ifb_t (by rw [e, c]; simp)]
      · rw [ie_f c, bb_false, wrapS i (by omega), ih (i + 1) (by omega) (by omega)]
        congr 2
        apply ifb_congr
        rw [e, List.mem_cons]
        exact ⟨fun h9 => .inr h9, fun h9 => h9.resolve_left (fun h8 => c h8.symm)⟩
    · have : i = r.length := by omega
      subst this
      rw [sl_n, lt_false hlt, bb_false, List.drop_length, ifb_f (by simp)]; rfl
theorem p62 (n fl : Nat) (r : List Int) (x : Int) (hr : r.length < 1000) : puN (n + 1) 62 [S fl r, I x] = some (Value.bool (ifb (x ∈ r))) := by
  have e : puN (n + 1) 62 [S fl r, I x] = m62_ (puN n) 1000000 (sl fl r) x := by kernel_rfl
  rw [e]; unfold m62_
  have := l62 (puN n) 1000000 fl r x hr 1000000 0 (by omega) (by omega)
  rwa [List.drop_zero] at this

/-- All rows of different numbers that begin with some. -/
def ords (N : Nat) : Nat → List Int → List (List Int)
  | 0, r => [r]
  | d + 1, r => (List.range N).flatMap fun i => if Int.ofNat i ∈ r then [] else ords N d (r ++ [Int.ofNat i])
theorem flatMap_le {α β : Type} (g : α → List β) (B : Nat) : ∀ (l : List α), (∀ x ∈ l, (g x).length ≤ B) → (l.flatMap g).length ≤ l.length * B
  | [], _ => by simp
  | x :: l, h => by
    have h1 := h x (by simp)
    have h2 := flatMap_le g B l (fun y hy => h y (by simp [hy]))
    rw [List.flatMap_cons, List.length_append, List.length_cons, Nat.succ_mul]; omega
theorem ords_len (N : Nat) : ∀ (d : Nat) (r : List Int), (ords N d r).length ≤ N ^ d
  | 0, r => by simp [ords]
  | d + 1, r => by
    have := flatMap_le (fun i => if Int.ofNat i ∈ r then [] else ords N d (r ++ [Int.ofNat i])) (N ^ d) (List.range N) (fun i _ => by
      by_cases h : Int.ofNat i ∈ r
      · rw [if_pos h]; exact Nat.zero_le _
      · rw [if_neg h]; exact ords_len N d _)
    rw [List.length_range] at this
    rw [Nat.pow_succ, Nat.mul_comm]; exact this
theorem ords_row (N : Nat) : ∀ (d : Nat) (r x : List Int), x ∈ ords N d r → x.length = r.length + d
  | 0, r, x, h => by simp [ords] at h; rw [h]; rfl
  | d + 1, r, x, h => by
    simp only [ords, List.mem_flatMap] at h
    obtain ⟨i, _, h⟩ := h
    by_cases c : Int.ofNat i ∈ r
    · rw [if_pos c] at h; cases h
    · rw [if_neg c] at h
      have := ords_row N d _ x h
      simp at this; omega
/-- Rows, as a slice of slices. -/
noncomputable def RW (L : List (List Int)) : List Value := L.map (S 0)
noncomputable def sls (L : List (List Int)) : Sl := ⟨L.length, 0, RW L⟩
theorem RW_cl (L : List (List Int)) : allL closed1 (RW L) = true := by
  rw [allL_eq, List.all_eq_true]; intro x hx; simp [RW] at hx; obtain ⟨z, _, rfl⟩ := hx; rfl
theorem RW_sc (L : List (List Int)) : allL scalarB (RW L) = true := by
  rw [allL_eq, List.all_eq_true]; intro x hx; simp [RW] at hx; obtain ⟨z, _, rfl⟩ := hx; rfl
theorem RW_len (L : List (List Int)) : (RW L).length = L.length := by simp [RW]
theorem RW_app (L M : List (List Int)) : RW L ++ RW M = RW (L ++ M) := by simp [RW]
theorem growRW (acc : List (List Int)) (k : Nat) (hk : 1 ≤ k) (hb : acc.length + k ≤ 10000000) : growC 1 24 acc.length (2 * acc.length) k (RW acc) = true := by
  unfold growC
  have h1 : roomy (acc.length + k) 24 = true := Nat.ble_eq_true_of_le (by omega)
  have h2 : Nat.ble (acc.length + k) (2 * acc.length / 2) = false := by
    rw [ble_eq]; exact decide_eq_false (by omega)
  have h3 : Nat.ble (0 + acc.length * 1) (len (RW acc)) = true := Nat.ble_eq_true_of_le (by rw [len_eq, RW_len]; omega)
  have h4 : Nat.beq (2 * acc.length % 2) 1 = false := by rw [Nat.mul_mod_right]; rfl
  have h5 : Nat.beq (0 + acc.length * 1) (len (RW acc)) = true := by rw [len_eq, RW_len, Nat.zero_add, Nat.mul_one]; exact Nat.beq_refl _
  rw [h1, h2, h3, h4, h5]; rfl
theorem takeRW (L : List (List Int)) : takeL (L.length * 1) (RW L) = RW L := by rw [takeL_eq, Nat.mul_one, List.take_of_length_le (by rw [RW_len]; exact Nat.le_refl _)]
theorem dropRW (q : List Value) : dropL 0 q = q := rfl
theorem toSls (L : List (List Int)) : toSl 1 (Sl.v 1 (sls L)) = some (sls L) := rfl
theorem app1 (r : List Int) (i : Int) (z : Nat) (hz : z = r.length) : Sl.mk ((0 + z) + 1) 0 (takeL (((0 + z) + 1) * 1) (dropL 0 (appL (dropL 0 (takeL (z * 1) (r.map I))) [I i]))) = sl 0 (r ++ [i]) := by
  subst hz
  simp only [takeL_eq, dropL_eq, appL_eq, List.drop_zero, Nat.mul_one, takeM, Nat.zero_add]
  rw [List.take_of_length_le (by simp)]
  simp [sl]
theorem nbeq {z : Nat} (h : z ≠ 0) : Nat.beq z 0 = false := by
  cases z with
  | zero => exact absurd rfl h
  | succ z => rfl
theorem nt_ifb (p : Prop) : nt (ifb p) = ifb (¬ p) := by
  by_cases h : p
  · rw [ifb_t h, ifb_f (fun h9 => h9 h)]; rfl
  · rw [ifb_f h, ifb_t h]; rfl
theorem end42 (pu : PureF) (n c : Nat) (acc : List (List Int)) : m42_0 pu n acc.length c (RW acc) = some (Sl.v 1 (sls acc)) := by
  unfold m42_0
  have h1 : an (Nat.ble (0 + acc.length * 1) (len (RW acc))) (allL closed1 (takeL (acc.length * 1) (dropL 0 (RW acc)))) = true := by
    rw [dropRW, takeRW, RW_cl, Nat.ble_eq_true_of_le (by rw [len_eq, RW_len]; omega)]; rfl
  rw [h1, RW_cl, dropRW, takeRW]; rfl
theorem grow1 (r : List Int) (hr : r.length ≤ 900) : growC 1 8 (0 + r.length) (2 * (0 + r.length) + bb false 1 0) 1 (takeL (r.length * 1) (r.map I)) = true := by
  rw [takeL_eq, Nat.mul_one, takeM]
  unfold growC
  have h1 : roomy (0 + r.length + 1) 8 = true := roomyS (by omega)
  have h2 : Nat.ble (0 + r.length + 1) ((2 * (0 + r.length) + bb false 1 0) / 2) = false := by
    rw [ble_eq]; exact decide_eq_false (by show ¬ (0 + r.length + 1) ≤ (2 * (0 + r.length) + 0) / 2; omega)
  have h3 : Nat.ble (0 + (0 + r.length) * 1) (len (r.map I)) = true := Nat.ble_eq_true_of_le (by rw [len_eq, List.length_map]; omega)
  have h4 : Nat.beq ((2 * (0 + r.length) + bb false 1 0) % 2) 1 = false := by
    show Nat.beq ((2 * (0 + r.length) + 0) % 2) 1 = false
    rw [Nat.add_zero, Nat.mul_mod_right]; rfl
  have h5 : Nat.beq (0 + (0 + r.length) * 1) (len (r.map I)) = true := by rw [len_eq, List.length_map]; simp
  rw [h1, h2, h3, h4, h5]; rfl
theorem close1 (r : List Int) (i : Int) : an (Nat.ble (0 + ((0 + r.length) + 1) * 1) (len (appL (dropL 0 (takeL (r.length * 1) (r.map I))) [I i]))) (allL closed1 (takeL (((0 + r.length) + 1) * 1) (dropL 0 (appL (dropL 0 (takeL (r.length * 1) (r.map I))) [I i])))) = true := by
  have e : appL (dropL 0 (takeL (r.length * 1) (r.map I))) [I i] = (r ++ [i]).map I := by
    simp only [takeL_eq, dropL_eq, appL_eq, List.drop_zero, Nat.mul_one, takeM]; simp
  rw [e]
  simp only [takeL_eq, dropL_eq, allL_eq, List.drop_zero]
  rw [List.take_of_length_le (by simp), closedI, Nat.ble_eq_true_of_le (by rw [len_eq, List.length_map, List.length_append]; simp)]; rfl
/-- One more number, in the loop over all numbers. -/
theorem l42 (pu : PureF) (n fl N d : Nat) (r : List Int) (hN : N ≤ 7) (hr : r.length ≤ 7) (h62 : ∀ x : Int, pu 62 [Sl.v 1 (sl fl r), I x] = some (Value.bool (ifb (x ∈ r))))
    (h42 : ∀ i, i < N → Int.ofNat i ∉ r → pu 42 [I (Int.ofNat N), Sl.v 1 (sl 0 (r ++ [Int.ofNat i]))] = some (Sl.v 1 (sls (ords N d (r ++ [Int.ofNat i]))))) :
    ∀ (f i : Nat) (acc : List (List Int)), N - i < f → i ≤ N → (acc ++ ((List.range N).drop i).flatMap fun i => if Int.ofNat i ∈ r then [] else ords N d (r ++ [Int.ofNat i])).length ≤ 1000000 →
    l42_1 pu n f (Int.ofNat N) (sl fl r) acc.length (2 * acc.length) (Int.ofNat i) (RW acc) = some (Sl.v 1 (sls (acc ++ ((List.range N).drop i).flatMap fun i => if Int.ofNat i ∈ r then [] else ords N d (r ++ [Int.ofNat i])))) := by
  intro f
  induction f with
  | zero => intro i acc h; omega
  | succ f ih =>
    intro i acc h hi hb
    show b42_1 pu n (l42_1 pu n f) _ _ _ _ _ _ = _
    unfold b42_1
    rw [RW_cl]
    by_cases hlt : i < N
    · have e : (List.range N).drop i = i :: (List.range N).drop (i + 1) := by
        rw [List.drop_eq_getElem_cons (by simpa using hlt)]; simp
      have go : ∀ (acc2 : List (List Int)), (acc2 ++ ((List.range N).drop (i + 1)).flatMap fun i => if Int.ofNat i ∈ r then [] else ords N d (r ++ [Int.ofNat i])).length ≤ 1000000 →
          m42_2 pu n (l42_1 pu n f) (Int.ofNat N) (sl fl r) acc2.length (2 * acc2.length) (Int.ofNat i) (RW acc2) = some (Sl.v 1 (sls (acc2 ++ ((List.range N).drop (i + 1)).flatMap fun i => if Int.ofNat i ∈ r then [] else ords N d (r ++ [Int.ofNat i])))) := fun acc2 hb2 => by
        unfold m42_2
        rw [RW_cl, bb_true, wrapS i (by omega)]
        exact ih (i + 1) acc2 (by omega) (by omega) hb2
      rw [e, List.flatMap_cons] at hb ⊢
      rw [lt_true hlt]
      simp only [bb_true, h62, oo_some, vBool_mk, nt_ifb]
      by_cases hm : Int.ofNat i ∈ r
      · rw [ifb_f (fun h9 => h9 hm), bb_false, if_pos hm, List.nil_append]
        rw [if_pos hm, List.nil_append] at hb
        exact go acc hb
      · rw [ifb_t hm, bb_true, if_neg hm]
        rw [if_neg hm] at hb
        have hp := h42 i hlt hm
        -- what is appended
        have app : ∀ (X : Option Value), X = some (Sl.v 1 (sls (ords N d (r ++ [Int.ofNat i])))) →
            (oo X none fun v => oo (toSl 1 v) none fun s => bb (Nat.beq (Sl.n s) 0) (m42_2 pu n (l42_1 pu n f) (Int.ofNat N) (sl fl r) acc.length (2 * acc.length) (Int.ofNat i) (RW acc))
              (bb (an (allL scalarB (takeL ((Sl.n s) * 1) (Sl.cs s))) (growC 1 24 acc.length (2 * acc.length) (Sl.n s) (RW acc))) (bb (allL closed1 (appL (dropL 0 (RW acc)) (takeL ((Sl.n s) * 1) (Sl.cs s)))) (m42_2 pu n (l42_1 pu n f) (Int.ofNat N) (sl fl r) (acc.length + (Sl.n s)) (2 * (acc.length + (Sl.n s)) + bb false 1 0) (Int.ofNat i) (appL (dropL 0 (RW acc)) (takeL ((Sl.n s) * 1) (Sl.cs s)))) none) none)) =
            some (Sl.v 1 (sls (acc ++ (ords N d (r ++ [Int.ofNat i]) ++ ((List.range N).drop (i + 1)).flatMap fun i => if Int.ofNat i ∈ r then [] else ords N d (r ++ [Int.ofNat i]))))) := fun X hX => by
          rw [hX, oo_some, toSls, oo_some]
          generalize ords N d (r ++ [Int.ofNat i]) = l at hb ⊢
          show bb (Nat.beq l.length 0) _ (bb (an (allL scalarB (takeL (l.length * 1) (RW l))) (growC 1 24 acc.length (2 * acc.length) l.length (RW acc))) (bb (allL closed1 (appL (dropL 0 (RW acc)) (takeL (l.length * 1) (RW l)))) (m42_2 pu n (l42_1 pu n f) (Int.ofNat N) (sl fl r) (acc.length + l.length) (2 * (acc.length + l.length) + bb false 1 0) (Int.ofNat i) (appL (dropL 0 (RW acc)) (takeL (l.length * 1) (RW l)))) none) none) = _
          by_cases hl : l.length = 0
          · have : l = [] := List.eq_nil_of_length_eq_zero hl
            subst this
            exact go acc (by simpa using hb)
          · rw [nbeq hl, bb_false, takeRW, RW_sc, dropRW, appL_eq, RW_app, RW_cl, growRW acc l.length (by omega) (by simp at hb; omega)]
            have := go (acc ++ l) (by rw [List.append_assoc]; exact hb)
            rw [List.length_append, List.append_assoc] at this
            exact this
        by_cases hrn : r.length = 0
        · have hr0 : r = [] := List.eq_nil_of_length_eq_zero hrn
          subst hr0
          exact app _ hp
        · rw [sl_n, nbeq hrn, bb_false, sl_cs]
          rw [show roomy (0 + r.length) 8 = true from roomyS (by omega), grow1 r (by omega), close1 r (Int.ofNat i), bb_true, bb_true, bb_true, app1 r (Int.ofNat i) r.length rfl]
          exact app _ hp
    · have hi2 : i = N := by omega
      subst hi2
      rw [lt_false hlt, bb_true, bb_false, end42, List.drop_of_length_le (by simp), List.flatMap_nil, List.append_nil]
theorem p42 (N : Nat) (h1 : 1 ≤ N) (hN : N ≤ 7) : ∀ (d n fl : Nat) (r : List Int), r.length + d = N → (d = 0 → fl = 0) → puN (n + d + 2) 42 [I (Int.ofNat N), S fl r] = some (Sl.v 1 (sls (ords N d r))) := by
  intro d
  induction d with
  | zero =>
    intro n fl r hr hfl
    obtain rfl := hfl rfl
    have e : puN (n + 0 + 2) 42 [I (Int.ofNat N), S 0 r] = m42_ (puN (n + 1)) 1000000 (Int.ofNat N) (sl 0 r) := by kernel_rfl
    rw [e]; unfold m42_
    have hr2 : r.length = N := hr
    rw [sl_n, hr2, ieqr, bb_true]; rfl
  | succ d ih =>
    intro n fl r hr _
    have e : puN (n + (d + 1) + 2) 42 [I (Int.ofNat N), S fl r] = m42_ (puN (n + d + 2)) 1000000 (Int.ofNat N) (sl fl r) := by kernel_rfl
    rw [e]; unfold m42_
    have hne : Int.ofNat r.length ≠ Int.ofNat N := fun h => by have h : (r.length : Int) = (N : Int) := h; omega
    rw [sl_n, ie_f hne, bb_false]
    have hb : (ords N (d + 1) r).length ≤ 1000000 := by
      have h9 := ords_len N (d + 1) r
      have h8 : N ^ (d + 1) ≤ 7 ^ 7 := Nat.le_trans (Nat.pow_le_pow_left hN _) (Nat.pow_le_pow_right (by omega) (by omega))
      have : (7 : Nat) ^ 7 = 823543 := rfl
      omega
    have := l42 (puN (n + d + 2)) 1000000 fl N d r hN (by omega) (fun x => p62 (n + d + 1) fl r x (by omega)) (fun i hi hm => ih n 0 (r ++ [Int.ofNat i]) (by simp; omega) (fun _ => rfl)) 1000000 0 [] (by omega) (by omega) hb
    exact this
end Go.TabSM
/- Tables of comparators: all rows of different numbers are sorted just if all rows are. -/
set_option maxRecDepth 100000
namespace Go.TabSM
open Go.Sp Go.TM

theorem mem_ords (N : Nat) : ∀ (d : Nat) (r s : List Int), s.length = d → (∀ e ∈ s, 0 ≤ e ∧ e < (N : Int)) → (r ++ s).Nodup → r ++ s ∈ ords N d r
  | 0, r, s, h, _, _ => by
    have : s = [] := List.eq_nil_of_length_eq_zero h
    subst this; simp [ords]
  | d + 1, r, e :: s, h, hs, hn => by
    obtain ⟨h1, h2⟩ := hs e (by simp)
    have he : e = Int.ofNat e.toNat := (Int.toNat_of_nonneg h1).symm
    have hm : Int.ofNat e.toNat ∉ r := by
      rw [← he]
      intro hr
      exact (List.nodup_append.1 hn).2.2 e hr e (by simp) rfl
    simp only [ords, List.mem_flatMap]
    refine ⟨e.toNat, List.mem_range.2 (by omega), ?_⟩
    rw [if_neg hm, ← he]
    have e2 : r ++ e :: s = (r ++ [e]) ++ s := by simp
    rw [e2]
    exact mem_ords N d (r ++ [e]) s (by simpa using h) (fun x hx => hs x (by simp [hx])) (by rw [← e2]; exact hn)

/-- A row of different numbers that goes with a plain row: the zeros get the small ones. -/
def pr : Nat → Nat → List Int → List Int
  | _, _, [] => []
  | a, b, x :: l => if x = 0 then (a : Int) :: pr (a + 1) b l else (b : Int) :: pr a (b + 1) l
def zeros : List Int → Nat
  | [] => 0
  | x :: l => if x = 0 then zeros l + 1 else zeros l
theorem zeros_le : ∀ l : List Int, zeros l ≤ l.length
  | [] => Nat.le_refl _
  | x :: l => by
    have := zeros_le l
    simp only [zeros, List.length_cons]
    split <;> omega
theorem pr_len : ∀ (l : List Int) (a b : Nat), (pr a b l).length = l.length
  | [], a, b => rfl
  | x :: l, a, b => by
    simp only [pr]
    split <;> simp [pr_len l]
theorem pr_mem : ∀ (l : List Int) (a b : Nat) (e : Int), e ∈ pr a b l → ((a : Int) ≤ e ∧ e < (a : Int) + zeros l) ∨ ((b : Int) ≤ e ∧ e < (b : Int) + (l.length - zeros l : Nat))
  | [], a, b, e, h => by simp [pr] at h
  | x :: l, a, b, e, h => by
    have hz := zeros_le l
    simp only [pr] at h
    simp only [zeros, List.length_cons]
    split at h
    · rename_i hx
      rw [if_pos hx]
      rw [List.mem_cons] at h
      rcases h with rfl | h
      · left; omega
      · rcases pr_mem l (a + 1) b e h with h1 | h1
        · left; omega
        · right; omega
    · rename_i hx
      rw [if_neg hx]
      rw [List.mem_cons] at h
      rcases h with rfl | h
      · right; omega
      · rcases pr_mem l a (b + 1) e h with h1 | h1
        · left; omega
        · right; omega
theorem pr_nodup : ∀ (l : List Int) (a b : Nat), a + zeros l ≤ b → (pr a b l).Nodup
  | [], a, b, _ => by simp [pr]
  | x :: l, a, b, h => by
    simp only [zeros] at h
    simp only [pr]
    split
    · rename_i hx
      rw [if_pos hx] at h
      rw [List.nodup_cons]
      refine ⟨fun hm => ?_, pr_nodup l (a + 1) b (by omega)⟩
      rcases pr_mem l (a + 1) b _ hm with h1 | h1 <;> omega
    · rename_i hx
      rw [if_neg hx] at h
      rw [List.nodup_cons]
      refine ⟨fun hm => ?_, pr_nodup l a (b + 1) (by omega)⟩
      rcases pr_mem l a (b + 1) _ hm with h1 | h1 <;> omega
theorem pr_map : ∀ (l : List Int) (a b Z : Nat), (∀ x ∈ l, x = 0 ∨ x = 1) → a + zeros l ≤ Z → Z ≤ b → (pr a b l).map (fun x => if (Z : Int) ≤ x then 1 else 0) = l
  | [], a, b, Z, _, _, _ => rfl
  | x :: l, a, b, Z, hl, h1, h2 => by
    simp only [zeros] at h1
    simp only [pr]
    split
    · rename_i hx
      rw [if_pos hx] at h1
      rw [List.map_cons, pr_map l (a + 1) b Z (fun y hy => hl y (by simp [hy])) (by omega) h2, if_neg (by omega), hx]
    · rename_i hx
      rw [if_neg hx] at h1
      have hx1 : x = 1 := (hl x (by simp)).resolve_left hx
      rw [List.map_cons, pr_map l a (b + 1) Z (fun y hy => hl y (by simp [hy])) h1 (by omega), if_pos (by omega), hx1]
theorem srt_map {f : Int → Int} (hf : mono f) {r : List Int} (h : srt r) : srt (r.map f) := by
  intro j h1 h2 h3
  rw [List.length_map] at h2
  rw [getD_map f r j h2, getD_map f r (j - 1) (by omega)] at h3
  have := hf (r.getD (j - 1) 0) (r.getD j 0) (by have := h j h1 h2; omega)
  omega
theorem plain_01 (N m : Nat) : ∀ x ∈ plain N m, x = 0 ∨ x = 1 := by
  intro x hx
  simp only [plain, List.mem_map] at hx
  obtain ⟨i, _, rfl⟩ := hx
  split
  · exact .inr rfl
  · exact .inl rfl
/-- A plain row out of a row of different numbers. -/
theorem ords_sorts {N : Nat} {C : List (Int × Int)} (hC : okC N C) : (∀ x ∈ ords N N [], srt (runs x C)) ↔ sorts N C := by
  constructor
  · intro h
    rw [← zero_one hC]
    intro m _
    have hl := plain_len N m
    have h01 := plain_01 N m
    generalize plain N m = l at hl h01
    have hz := zeros_le l
    have hp : pr 0 (zeros l) l ∈ ords N N [] := by
      have := mem_ords N N [] (pr 0 (zeros l) l) (by rw [pr_len]; exact hl) (fun e he => by rcases pr_mem l 0 (zeros l) e he with h1 | h1 <;> omega) (by rw [List.nil_append]; exact pr_nodup l 0 (zeros l) (by omega))
      rwa [List.nil_append] at this
    have hs := h _ hp
    have hf : mono (fun x => if (zeros l : Int) ≤ x then 1 else 0) := by
      intro a b hab
      by_cases c1 : (zeros l : Int) ≤ a
      · simp only [if_pos c1, if_pos (Int.le_trans c1 hab)]; exact Int.le_refl _
      · simp only [if_neg c1]; split <;> omega
    have hm := runs_map hf C (pr 0 (zeros l) l) hC (by rw [pr_len]; exact hl)
    rw [pr_map l 0 (zeros l) (zeros l) h01 (by omega) (Nat.le_refl _)] at hm
    rw [hm]
    exact srt_map hf hs
  · intro h x hx
    exact h x (by have := ords_row N N [] x hx; simpa using this)
end Go.TabSM
/- The plain law of TableSorts, sixth part: whether a table sorts, and a row that it does not sort. -/
set_option maxRecDepth 100000
namespace Go.TabSM
open Go.Sp Go.TabS Go.TM

theorem row_all (n : Nat) : belowAll (fun N => belowAll (fun m => eqS (puN (n + 1) 43 [I (Int.ofNat N), I (Int.ofNat m)]) (plain N m)) (2 ^ N)) 8 = true := by kernel_rfl
theorem plain_all (n : Nat) : belowAll (fun N => belowAll (fun m => eqS (puN (n + 1) 46 [I (Int.ofNat N), I (Int.ofNat m)]) (plain N m)) (2 ^ N)) 8 = true := by kernel_rfl
theorem p43 (n N m : Nat) (h7 : N ≤ 7) (hm : m < 2 ^ N) : puN (n + 1) 43 [I (Int.ofNat N), I (Int.ofNat m)] = some (S 0 (plain N m)) := eqS_ok (belowAll_iff (belowAll_iff (row_all n) N (by omega)) m hm)
theorem p46 (n N m : Nat) (h7 : N ≤ 7) (hm : m < 2 ^ N) : puN (n + 1) 46 [I (Int.ofNat N), I (Int.ofNat m)] = some (S 0 (plain N m)) := eqS_ok (belowAll_iff (belowAll_iff (plain_all n) N (by omega)) m hm)

/-- All rows of a list, sorted. -/
theorem l41 (pu : PureF) (n fl N : Nat) (C : List (Int × Int)) (R : List (List Int)) (hR : R.length ≤ 999999) (hrow : ∀ x ∈ R, x.length = N)
    (h45 : ∀ x : List Int, x.length = N → pu 45 [.agg ⟨[I (Int.ofNat N), Sl.v 2 (cl fl C)]⟩, Sl.v 1 (sl 0 x), I (-1)] = some (Sl.v 1 (sl 0 (runs x C))))
    (h44 : ∀ x : List Int, x.length = N → pu 44 [Sl.v 1 (sl 0 (runs x C))] = some (Value.bool (ifb (srt (runs x C))))) :
    ∀ (f i : Nat), R.length - i < f → i ≤ R.length → l41_1 pu n f (sls R) (-1) (Int.ofNat i) (Int.ofNat N) (cl fl C) = some (Value.bool (ifb (∀ x ∈ R.drop i, srt (runs x C)))) := by
  intro f
  induction f with
  | zero => intro i h; omega
  | succ f ih =>
    intro i h hi
    show b41_1 pu n (l41_1 pu n f) _ _ _ _ _ = _
    unfold b41_1
    show bb (ilt (Int.ofNat i) (Int.ofNat R.length)) _ _ = _
    by_cases hlt : i < R.length
    · have e : R.drop i = R[i] :: R.drop (i + 1) := List.drop_eq_getElem_cons hlt
      have hx := hrow R[i] (List.getElem_mem hlt)
      have g : nthL (sls R).cs (i * 1) = some (Sl.v 1 (sl 0 R[i])) := by
        rw [nthL_eq, Nat.mul_one]
        show (RW R)[i]? = _
        simp [RW, hlt]; rfl
      rw [lt_true hlt]
      simp only [bb_true, toN_mk, oo_some, show (sls R).n = R.length from rfl, blt_eq, hlt, decide_true, an_eq, Bool.true_and, g, toSl_mk, h45 _ hx, h44 _ hx, vBool_mk, nt_ifb]
      by_cases c : srt (runs R[i] C)
      · rw [ifb_f (fun h9 => h9 c), bb_false, wrapS i (by omega), ih (i + 1) (by omega) (by omega)]
        congr 2
        apply ifb_congr
        rw [e]
        constructor
        · intro h9 x hx9
          rw [List.mem_cons] at hx9
          rcases hx9 with rfl | hx9
          · exact c
          · exact h9 x hx9
        · intro h9 x hx9; exact h9 x (List.mem_cons_of_mem _ hx9)
      · rw [ifb_t c, bb_true, ifb_f (fun h9 => c (h9 _ (by rw [e]; exact List.mem_cons_self)))]
    · have : i = R.length := by omega
      subst this
      rw [lt_false hlt, bb_false, List.drop_length, ifb_t (by simp)]; rfl
theorem ords_small {N : Nat} (hN : N ≤ 7) : (ords N N []).length ≤ 999999 := by
  have h9 := ords_len N N []
  have h8 : N ^ N ≤ 7 ^ 7 := Nat.le_trans (Nat.pow_le_pow_left hN _) (Nat.pow_le_pow_right (by omega) hN)
  have : (7 : Nat) ^ 7 = 823543 := rfl
  omega
theorem p41 (n fl N : Nat) (C : List (Int × Int)) (h1 : 1 ≤ N) (h7 : N ≤ 7) (hl : C.length ≤ 24) (hC : okC N C) :
    puN (n + 2) 41 [tb fl (Int.ofNat N) C, Sl.v 1 (sls (ords N N [])), I (-1)] = some (Value.bool (ifb (sorts N C))) := by
  have e : puN (n + 2) 41 [tb fl (Int.ofNat N) C, Sl.v 1 (sls (ords N N [])), I (-1)] = m41_ (puN (n + 1)) 1000000 (Int.ofNat N) (cl fl C) (sls (ords N N [])) (-1) := by kernel_rfl
  rw [e]; unfold m41_
  have h := l41 (puN (n + 1)) 1000000 fl N C (ords N N []) (ords_small h7) (fun x hx => by have := ords_row N N [] x hx; simpa using this)
    (fun x hx => p45 n fl 0 N C x h1 h7 hl hC hx) (fun x hx => p44 n 0 (runs x C) (by rw [runs_len]; omega) (by rw [runs_len]; omega)) 1000000 0 (by have := ords_small h7; omega) (by omega)
  rw [List.drop_zero] at h
  refine h.trans ?_
  rw [ifb_congr (ords_sorts hC)]
theorem p10a (n fl : Nat) (k : Int) (C : List (Int × Int)) (hc : chk k C ≠ 0) : puN (n + 10) 10 [tb fl k C] = some (.tuple ⟨[.bool false, I (chk k C)]⟩) := by
  have e : puN (n + 10) 10 [tb fl k C] = m10_ (puN (n + 9)) 1000000 k (cl fl C) := by kernel_rfl
  rw [e]; unfold m10_
  have e1 := p40 (n + 7) fl k C
  unfold tb at e1
  rw [e1]
  simp only [oo_some, toI_mk, ne_t hc, bb_true]
theorem p10b (n fl N : Nat) (C : List (Int × Int)) (h1 : 1 ≤ N) (h7 : N ≤ 7) (hl : C.length ≤ 24) (hC : okC N C) (hc : chk (Int.ofNat N) C = 0) :
    puN (n + 10) 10 [tb fl (Int.ofNat N) C] = some (.tuple ⟨[.bool (ifb (sorts N C)), I 0]⟩) := by
  have e : puN (n + 10) 10 [tb fl (Int.ofNat N) C] = m10_ (puN (n + 9)) 1000000 (Int.ofNat N) (cl fl C) := by kernel_rfl
  rw [e]; unfold m10_
  have e1 := p40 (n + 7) fl (Int.ofNat N) C
  unfold tb at e1
  rw [hc] at e1
  have e2 := p42 N h1 h7 N (n + (7 - N)) 2 [] (by simp) (fun h => by omega)
  rw [show n + (7 - N) + N + 2 = n + 9 by omega] at e2
  have e2 : puN (n + 9) 42 [I (Int.ofNat N), Sl.v 1 (Sl.mk 0 2 [])] = _ := e2
  have e3 := p41 (n + 7) fl N C h1 h7 hl hC
  unfold tb at e3
  rw [e1]
  simp only [oo_some, toI_mk, ne_f, bb_false, e2, toSls, e3, vBool_mk]

theorem shl1 (N : Nat) (h7 : N ≤ 7) : shlI .i64 1 N = Int.ofNat (2 ^ N) := by
  match N, h7 with
  | 0, _ => rfl | 1, _ => rfl | 2, _ => rfl | 3, _ => rfl | 4, _ => rfl | 5, _ => rfl | 6, _ => rfl | 7, _ => rfl
  | N + 8, h => omega
theorem two7 {N : Nat} (h7 : N ≤ 7) : 2 ^ N ≤ 128 := (Nat.pow_le_pow_right (by omega) h7 : 2 ^ N ≤ 2 ^ 7)
/-- The loop over all plain rows. -/
theorem s12 (k n f fl N m : Nat) (C : List (Int × Int)) (h1 : 1 ≤ N) (h7 : N ≤ 7) (hl : C.length ≤ 24) (hC : okC N C) (hm : m < 2 ^ N) :
    l12_1 (puN (k + 1)) n (f + 1) (Int.ofNat m) (Int.ofNat N) (cl fl C) = bb (ifb (srt (runs (plain N m) C))) (l12_1 (puN (k + 1)) n f (Int.ofNat (m + 1)) (Int.ofNat N) (cl fl C)) (some (.tuple ⟨[S 0 (plain N m), I 0]⟩)) := by
  show b12_1 (puN (k + 1)) n (l12_1 (puN (k + 1)) n f) _ _ _ = _
  unfold b12_1
  have h128 := two7 h7
  have e1 := p46 k N m h7 hm
  have e2 := p45 k fl 0 N C (plain N m) h1 h7 hl hC (plain_len N m)
  have e3 := p44 k 0 (runs (plain N m) C) (by rw [runs_len, plain_len]; omega) (by rw [runs_len, plain_len]; omega)
  unfold S at e1 e2 e3
  unfold tb at e2
  rw [toN_mk, oo_some, shl1 N h7, lt_true hm]
  simp only [bb_true, e1, oo_some, toSl_mk, e2, e3, vBool_mk, wrapS m (by omega)]
  by_cases c : srt (runs (plain N m) C)
  · rw [ifb_t c]; rfl
  · rw [ifb_f c]; rfl
theorem e12 (k n f fl N : Nat) (C : List (Int × Int)) (h7 : N ≤ 7) : l12_1 (puN (k + 1)) n (f + 1) (Int.ofNat (2 ^ N)) (Int.ofNat N) (cl fl C) = some (.tuple ⟨[S 2 [], I 13]⟩) := by
  show b12_1 (puN (k + 1)) n (l12_1 (puN (k + 1)) n f) _ _ _ = _
  unfold b12_1
  rw [toN_mk, oo_some, shl1 N h7, lt_false (Nat.lt_irrefl _)]; rfl
theorem l12a (k n fl N : Nat) (C : List (Int × Int)) (h1 : 1 ≤ N) (h7 : N ≤ 7) (hl : C.length ≤ 24) (hC : okC N C) (hs : ∀ m, m < 2 ^ N → srt (runs (plain N m) C)) : ∀ (f m : Nat), 2 ^ N - m < f → m ≤ 2 ^ N →
    l12_1 (puN (k + 1)) n f (Int.ofNat m) (Int.ofNat N) (cl fl C) = some (.tuple ⟨[S 2 [], I 13]⟩) := by
  intro f
  induction f with
  | zero => intro m h; omega
  | succ f ih =>
    intro m h hm
    by_cases hlt : m < 2 ^ N
    · rw [s12 k n f fl N m C h1 h7 hl hC hlt, ifb_t (hs m hlt), bb_true]
      exact ih (m + 1) (by omega) (by omega)
    · have : m = 2 ^ N := by omega
      subst this
      exact e12 k n f fl N C h7
theorem l12b (k n fl N m0 : Nat) (C : List (Int × Int)) (h1 : 1 ≤ N) (h7 : N ≤ 7) (hl : C.length ≤ 24) (hC : okC N C) (h0 : m0 < 2 ^ N) (hn : ¬ srt (runs (plain N m0) C)) (hs : ∀ m, m < m0 → srt (runs (plain N m) C)) : ∀ (f m : Nat), m0 - m < f → m ≤ m0 →
    l12_1 (puN (k + 1)) n f (Int.ofNat m) (Int.ofNat N) (cl fl C) = some (.tuple ⟨[S 0 (plain N m0), I 0]⟩) := by
  intro f
  induction f with
  | zero => intro m h; omega
  | succ f ih =>
    intro m h hm
    rw [s12 k n f fl N m C h1 h7 hl hC (by omega)]
    by_cases hlt : m < m0
    · rw [ifb_t (hs m hlt), bb_true]
      exact ih (m + 1) (by omega) (by omega)
    · have : m = m0 := by omega
      subst this
      rw [ifb_f hn, bb_false]
theorem p12a (n fl : Nat) (k : Int) (C : List (Int × Int)) (hc : chk k C ≠ 0) : puN (n + 10) 12 [tb fl k C] = some (.tuple ⟨[S 2 [], I (chk k C)]⟩) := by
  have e : puN (n + 10) 12 [tb fl k C] = m12_ (puN (n + 9)) 1000000 k (cl fl C) := by kernel_rfl
  rw [e]; unfold m12_
  have e1 := p40 (n + 7) fl k C
  unfold tb at e1
  rw [e1]
  simp only [oo_some, toI_mk, ne_t hc, bb_true]; rfl
theorem p12_ (n fl N : Nat) (C : List (Int × Int)) (hc : chk (Int.ofNat N) C = 0) : puN (n + 10) 12 [tb fl (Int.ofNat N) C] = l12_1 (puN (n + 9)) 1000000 1000000 (Int.ofNat 0) (Int.ofNat N) (cl fl C) := by
  have e : puN (n + 10) 12 [tb fl (Int.ofNat N) C] = m12_ (puN (n + 9)) 1000000 (Int.ofNat N) (cl fl C) := by kernel_rfl
  rw [e]; unfold m12_
  have e1 := p40 (n + 7) fl (Int.ofNat N) C
  unfold tb at e1
  rw [hc] at e1
  rw [e1]
  simp only [oo_some, toI_mk, ne_f, bb_false]; rfl
theorem p11a (n fl : Nat) (k : Int) (C : List (Int × Int)) (hc : chk k C ≠ 0) : puN (n + 10) 11 [tb fl k C] = some (.tuple ⟨[S 2 [], I (chk k C)]⟩) := by
  have e : puN (n + 10) 11 [tb fl k C] = m11_ (puN (n + 9)) 1000000 k (cl fl C) := by kernel_rfl
  rw [e]; unfold m11_
  have e1 := p38a (n + 6) fl k C hc
  unfold tb at e1
  rw [e1]
  simp only [oo_some, vTup_mk, ll_cons', ll_nil', vAgg_mk, i14 zA_len zA_cl, bb_true, toI_mk, q14 zA_len, s14 zA_len zA_len (show allL scalarB zA73 = true from rfl), st14 zA_len zA_len, zA_cl, ne_t hc]
  rfl
theorem p11_ (n fl N : Nat) (C : List (Int × Int)) (h1 : 1 ≤ N) (h7 : N ≤ 7) (hl : C.length ≤ 24) (hC : okC N C) (hc : chk (Int.ofNat N) C = 0) (b : List Nat) (hb : wd b) (hall : ∀ n, puN (n + 1) 51 [I (Int.ofNat N)] = some (.agg ⟨W b⟩))
    (z : Int) (hz : puN (n + 9) 39 [.agg ⟨W (thru b C)⟩, I (Int.ofNat N)] = some (I z)) : puN (n + 10) 11 [tb fl (Int.ofNat N) C] =
      bb (ilt z 0) (some (.tuple ⟨[S 2 [], I 13]⟩)) (oo (puN (n + 9) 43 [I (Int.ofNat N), I z]) none fun v => oo (toSl 1 v) none fun s => some (.tuple ⟨[Sl.v 1 s, I 0]⟩)) := by
  have e : puN (n + 10) 11 [tb fl (Int.ofNat N) C] = m11_ (puN (n + 9)) 1000000 (Int.ofNat N) (cl fl C) := by kernel_rfl
  rw [e]; unfold m11_
  have e1 := p38b (n + 6) fl N C h1 h7 hl hC hc b hb hall
  unfold tb at e1
  have hw := wd_thru C b hb
  have l2 : (W (thru b C)).length = 14 := by rw [W_len]; exact hw.1
  have cl2 : allL closed2 [(.agg ⟨W (thru b C)⟩ : Value), (.int .i64 (Int.ofNat N))] = true := by
    show an (allL closed1 (W (thru b C))) _ = true
    rw [W_cl]; rfl
  rw [e1]
  simp only [oo_some, vTup_mk, ll_cons', ll_nil', vAgg_mk, i14 l2 (W_cl _), bb_true, toI_mk, q14 l2, s14 l2 zA_len (W_sc _), st14 l2 zA_len, W_cl, ne_f, bb_false, b14 l2, tk14 l2, hz, cl2]
  rfl

/-- Sorts and Unsorted, both ways: the same answers. -/
theorem agree (n fl N : Nat) (C : List (Int × Int)) (h1 : 1 ≤ N) (h7 : N ≤ 7) (hl : C.length ≤ 24) (hC : okC N C) (hc : chk (Int.ofNat N) C = 0) (b : List Nat) (hb : isAll N b) (hall : ∀ n, puN (n + 1) 51 [I (Int.ofNat N)] = some (.agg ⟨W b⟩)) :
    ∃ t : Bool, ∃ fl2 : Nat, ∃ r : List Int, ∃ e : Int, r.length ≤ 7 ∧ puN (n + 10) 9 [tb fl (Int.ofNat N) C] = some (.tuple ⟨[.bool t, I 0]⟩) ∧ puN (n + 10) 10 [tb fl (Int.ofNat N) C] = some (.tuple ⟨[.bool t, I 0]⟩) ∧
      puN (n + 10) 11 [tb fl (Int.ofNat N) C] = some (.tuple ⟨[S fl2 r, I e]⟩) ∧ puN (n + 10) 12 [tb fl (Int.ofNat N) C] = some (.tuple ⟨[S fl2 r, I e]⟩) := by
  have hw := wd_thru C b hb.1
  obtain ⟨z, hz, hbad⟩ := p39 (n + 7) N h1 h7 (thru b C) hw
  have r1 := p9b (n + 6) fl N C h1 h7 hl hC hc b hb.1 hall z hz
  have r2 := p10b n fl N C h1 h7 hl hC hc
  have r3 := p11_ n fl N C h1 h7 hl hC hc b hb.1 hall z hz
  have r4 := p12_ n fl N C hc
  have h128 := two7 h7
  have row : ∀ m, m < 2 ^ N → rowB (thru b C) N m = runs (plain N m) C := fun m hm => by
    rw [rowB_thru h7 m (by omega) C b hb.1 hC, hb.2.1 m hm]
  rcases bad_rows h1 hbad with ⟨rfl, hs⟩ | ⟨m0, rfl, hm0, hn, hs⟩
  · have hs' : ∀ m, m < 2 ^ N → srt (runs (plain N m) C) := fun m hm => by rw [← row m hm]; exact hs m (by omega)
    refine ⟨true, 2, [], 13, by simp, ?_, ?_, ?_, ?_⟩
    · rw [r1]; rfl
    · rw [r2, ifb_t ((zero_one hC).1 hs')]
    · rw [r3]; rfl
    · rw [r4]; exact l12a (n + 8) 1000000 fl N C h1 h7 hl hC hs' 1000000 0 (by omega) (Nat.zero_le _)
  · have hp := Nat.two_pow_pos N
    have hmN : m0 < 2 ^ N := by
      apply Nat.lt_of_not_le
      intro hle
      apply hn
      rw [rowB_thru h7 m0 hm0 C b hb.1 hC, hb.2.2 m0 hle hm0, ← row 0 hp]
      exact hs 0 (by omega)
    have hn' : ¬ srt (runs (plain N m0) C) := by rw [← row m0 hmN]; exact hn
    have hs' : ∀ m, m < m0 → srt (runs (plain N m) C) := fun m hm => by rw [← row m (by omega)]; exact hs m hm
    have hlt : ilt (Int.ofNat m0) 0 = false := iltF.2 (by show ¬ (m0 : Int) < 0; omega)
    refine ⟨false, 0, plain N m0, 0, by rw [plain_len]; omega, ?_, ?_, ?_, ?_⟩
    · rw [r1, hlt]
    · rw [r2, ifb_f (fun h9 => hn' ((zero_one hC).2 h9 m0 hmN))]
    · rw [r3, hlt, bb_false, p43 (n + 8) N m0 h7 hmN]; rfl
    · rw [r4]; exact l12b (n + 8) 1000000 fl N m0 C h1 h7 hl hC hmN hn' hs' 1000000 0 (by omega) (Nat.zero_le _)
end Go.TabSM
/- The plain law of TableSorts, seventh part: all outcomes. -/
set_option maxRecDepth 100000
namespace Go.TabSM
open Go.Sp Go.TabS Go.TM

/-! Ascending lists. -/
theorem asc_ext : ∀ (a b : List Int), a.Pairwise (· < ·) → b.Pairwise (· < ·) → (∀ x, x ∈ a ↔ x ∈ b) → a = b
  | [], [], _, _, _ => rfl
  | [], y :: b, _, _, h => by have := (h y).2 (by simp); cases this
  | x :: a, [], _, _, h => by have := (h x).1 (by simp); cases this
  | x :: a, y :: b, ha, hb, h => by
    rw [List.pairwise_cons] at ha hb
    have e : x = y := by
      have h1 := (h x).1 (by simp)
      have h2 := (h y).2 (by simp)
      rw [List.mem_cons] at h1 h2
      rcases h1 with h1 | h1
      · exact h1
      · rcases h2 with h2 | h2
        · exact h2.symm
        · have := ha.1 y h2
          have := hb.1 x h1
          omega
    subst e
    rw [asc_ext a b ha.2 hb.2 fun z => ?_]
    constructor
    · intro hz
      have := (h z).1 (by simp [hz])
      rw [List.mem_cons] at this
      rcases this with rfl | h3
      · have := ha.1 z hz; omega
      · exact h3
    · intro hz
      have := (h z).2 (by simp [hz])
      rw [List.mem_cons] at this
      rcases this with rfl | h3
      · have := hb.1 z hz; omega
      · exact h3
theorem le_of_sorted {l : List Int} (h : l.Pairwise (· ≤ ·)) {i j : Nat} (hij : i ≤ j) (hj : j < l.length) : l[i]'(by omega) ≤ l[j] := by
  by_cases e : i = j
  · subst e; exact Int.le_refl _
  · exact List.pairwise_iff_getElem.1 h i j (by omega) hj (by omega)
/-- What slices.Compact keeps of an ascending list. -/
theorem cmp_asc {l : List Int} (h : l.Pairwise (· ≤ ·)) : (Lib.compact l).Pairwise (· < ·) := by
  have hg : ∀ i, i < l.length → l.toArray[i]! = l.getD i 0 := fun i hi => by simp [List.getD, hi]
  unfold Lib.compact Lib.compactUpTo
  rw [List.pairwise_map]
  refine List.Pairwise.imp_of_mem ?_ (List.Pairwise.filter _ List.pairwise_lt_range)
  intro a b ha hb hab
  rw [List.mem_filter, List.mem_range] at ha hb
  obtain ⟨hb1, hb2⟩ := hb
  rw [hg a ha.1, hg b hb1]
  unfold Lib.keeps at hb2
  rw [decide_eq_true_iff] at hb2
  rcases hb2 with h0 | h0
  · omega
  · rw [hg b hb1, hg (b - 1) (by omega)] at h0
    have h1 := le_of_sorted h (show a ≤ b - 1 by omega) (by omega)
    have h2 := le_of_sorted h (show b - 1 ≤ b by omega) hb1
    have e1 : l.getD a 0 = l[a]'(by omega) := by simp [List.getD, show a < l.length by omega]
    have e2 : l.getD (b - 1) 0 = l[b - 1]'(by omega) := by simp [List.getD, show b - 1 < l.length by omega]
    have e3 : l.getD b 0 = l[b] := by simp [List.getD, hb1]
    omega
theorem cmp_mem {l : List Int} (x : Int) : x ∈ Lib.compact l ↔ x ∈ l := by
  have hg : ∀ i, i < l.length → l.toArray[i]! = l.getD i 0 := fun i hi => by simp [List.getD, hi]
  unfold Lib.compact Lib.compactUpTo
  rw [List.mem_map]
  constructor
  · rintro ⟨i, hi, rfl⟩
    rw [List.mem_filter, List.mem_range] at hi
    rw [hg i hi.1]
    simp [List.getD, hi.1]
  · have key : ∀ i, i < l.length → ∃ j, j ∈ List.filter (Lib.keeps l.toArray) (List.range l.length) ∧ l.toArray[j]! = l.getD i 0 := by
      intro i
      induction i with
      | zero => intro hi; exact ⟨0, by rw [List.mem_filter, List.mem_range]; exact ⟨hi, by simp [Lib.keeps]⟩, hg 0 hi⟩
      | succ i ih =>
        intro hi
        by_cases c : l.getD (i + 1) 0 = l.getD i 0
        · obtain ⟨j, h1, h2⟩ := ih (by omega)
          exact ⟨j, h1, h2.trans c.symm⟩
        · refine ⟨i + 1, ?_, hg _ hi⟩
          rw [List.mem_filter, List.mem_range]
          refine ⟨hi, ?_⟩
          unfold Lib.keeps
          rw [decide_eq_true_iff, hg _ hi, show i + 1 - 1 = i by omega, hg i (by omega)]
          exact .inr c
    intro hx
    obtain ⟨i, hi, rfl⟩ := List.mem_iff_getElem.1 hx
    obtain ⟨j, h1, h2⟩ := key i hi
    exact ⟨j, h1, by rw [h2]; simp [List.getD, hi]⟩
theorem srtZ_perm (l : List Int) : (srtZ l).Perm l := List.mergeSort_perm _ _
theorem srtZ_sorted (l : List Int) : (srtZ l).Pairwise (· ≤ ·) := by
  have := List.pairwise_mergeSort (le := fun x y : Int => decide (x ≤ y)) (fun a b c h1 h2 => by simp at *; omega) (fun a b => by simp; omega) l
  exact this.imp fun h => by simpa using h
/-- The numbers of a list below a bound, each once. -/
noncomputable def once (B : Nat) (P : Nat → Prop) : List Nat := (List.range B).filter fun v => ifb (P v)
theorem cmp_once {B : Nat} {l : List Int} {P : Nat → Prop} (h : ∀ x, x ∈ l ↔ ∃ v, v < B ∧ x = Int.ofNat v ∧ P v) : Lib.compact (srtZ l) = (once B P).map Int.ofNat := by
  refine asc_ext _ _ (cmp_asc (srtZ_sorted l)) ?_ fun x => ?_
  · rw [List.pairwise_map]
    refine List.Pairwise.filter _ (List.pairwise_lt_range.imp fun {a b} h => ?_)
    show (a : Int) < (b : Int)
    omega
  · rw [cmp_mem, (srtZ_perm l).mem_iff, h, List.mem_map]
    constructor
    · rintro ⟨v, h1, h2, h3⟩
      exact ⟨v, by unfold once; rw [List.mem_filter, List.mem_range]; exact ⟨h1, ifb_t h3⟩, h2.symm⟩
    · rintro ⟨v, h1, h2⟩
      unfold once at h1
      rw [List.mem_filter, List.mem_range] at h1
      refine ⟨v, h1.1, h2.symm, ?_⟩
      by_cases c : P v
      · exact c
      · rw [ifb_f c] at h1; cases h1.2

/-! Numbers of rows. -/
theorem num_snoc : ∀ (l : List Int) (x : Int), num (l ++ [x]) = 2 * num l + (if x = 1 then 1 else 0)
  | [], x => by simp [num]
  | y :: l, x => by
    have := num_snoc l x
    simp only [List.cons_append, num, this, List.length_append, List.length_cons, List.length_nil, Nat.pow_succ]
    by_cases hy : y = 1
    · simp only [hy, if_true]; omega
    · simp only [hy, if_false]; omega
theorem rowB_snoc (b : List Nat) (lane m : Nat) : rowB b (lane + 1) m = rowB b lane m ++ [if bit b lane m then 1 else 0] := by
  simp [rowB, List.range_succ]
theorem num_rowB (b : List Nat) (lane m : Nat) : num (rowB b (lane + 1) m) = 2 * num (rowB b lane m) + (if bit b lane m then 1 else 0) := by
  rw [rowB_snoc, num_snoc]
  cases bit b lane m <;> simp
theorem num_small (b : List Nat) (lane m : Nat) : num (rowB b lane m) < 2 ^ lane := by
  have := num_lt (rowB b lane m)
  rwa [rowB_len] at this
theorem num_plain {N v : Nat} (hv : v < 2 ^ N) : num (plain N v) = v := by
  apply Nat.eq_of_testBit_eq
  intro i
  by_cases hi : i < N
  · have h := num_bit (plain N v) (N - 1 - i) (by rw [plain_len]; omega)
    rw [plain_len, show N - 1 - (N - 1 - i) = i by omega, plain_at _ _ _ (by omega), show N - 1 - (N - 1 - i) = i by omega] at h
    rw [h]
    cases v.testBit i <;> simp
  · have h1 := num_lt (plain N v)
    rw [plain_len] at h1
    have h2 : 2 ^ N ≤ 2 ^ i := Nat.pow_le_pow_right (by omega) (by omega)
    rw [Nat.testBit_lt_two_pow (by omega), Nat.testBit_lt_two_pow (by omega)]
theorem bit_word {b : List Nat} (lane m : Nat) : Nat.land (b.getD (lane * 2 + m / 64) 0 / 2 ^ (m % 64)) 1 = if bit b lane m then 1 else 0 := by
  rw [show Nat.land (b.getD (lane * 2 + m / 64) 0 / 2 ^ (m % 64)) 1 = (b.getD (lane * 2 + m / 64) 0 / 2 ^ (m % 64)) % 2 from Nat.and_one_is_mod _]
  unfold bit
  rw [Nat.testBit_eq_decide_div_mod_eq]
  generalize b.getD (lane * 2 + m / 64) 0 / 2 ^ (m % 64) = q
  rcases Nat.mod_two_eq_zero_or_one q with h | h <;> rw [h] <;> rfl
theorem lor_bit (x c : Nat) (hc : c < 2) : Nat.lor (2 * x) c = 2 * x + c := by
  have := Nat.two_pow_add_eq_or_of_lt (i := 1) (b := c) (by simpa using hc) x
  simpa using this.symm

/-- The list of numbers that grows: the first ones are done, one is under way. -/
def nums (b : List Nat) (N m lane : Nat) : List Int := (List.range (2 ^ N)).map fun i => if i < m then Int.ofNat (num (rowB b N i)) else if i = m then Int.ofNat (num (rowB b lane i)) else 0
theorem nums_len (b : List Nat) (N m lane : Nat) : (nums b N m lane).length = 2 ^ N := by simp [nums]
theorem nums_get (b : List Nat) (N m lane : Nat) (hm : m < 2 ^ N) : ((nums b N m lane).map I)[m]? = some (I (Int.ofNat (num (rowB b lane m)))) := by
  simp [nums, hm]
theorem nums_set (b : List Nat) (N m lane : Nat) (hm : m < 2 ^ N) : setL ([I (Int.ofNat (num (rowB b (lane + 1) m)))] : List Value) m ((nums b N m lane).map I) = (nums b N m (lane + 1)).map I := by
  rw [setL_one _ _ _ (by simpa [nums_len] using hm), ← List.map_set]
  congr 1
  apply List.ext_getElem
  · simp [nums_len]
  · intro i h1 h2
    rw [List.getElem_set]
    have h3 : i < 2 ^ N := by simpa [nums_len] using h2
    simp only [nums, List.getElem_map, List.getElem_range]
    by_cases e : m = i
    · subst e; simp
    · rw [if_neg e]
      have : ¬ i = m := fun h => e h.symm
      simp [this]
theorem nums_next (b : List Nat) (N m : Nat) : nums b N m N = nums b N (m + 1) 0 := by
  apply List.ext_getElem
  · simp [nums_len]
  · intro i h1 h2
    simp only [nums, List.getElem_map, List.getElem_range]
    by_cases c1 : i < m
    · rw [if_pos c1, if_pos (by omega)]
    · rw [if_neg c1]
      by_cases c2 : i = m
      · rw [if_pos c2, if_pos (by omega)]
      · rw [if_neg c2, if_neg (by omega)]
        split <;> rfl
theorem nums_zero (b : List Nat) (N : Nat) : nums b N 0 0 = List.replicate (2 ^ N) 0 := by
  apply List.ext_getElem
  · simp [nums_len]
  · intro i h1 h2
    simp only [nums, List.getElem_map, List.getElem_range, List.getElem_replicate]
    rw [if_neg (by omega)]
    split <;> rfl

theorem quo64 (m : Nat) (hm : m < 128) : wrapF .i64 (Int.tdiv (Int.ofNat m) 64) = Int.ofNat (m / 64) := by
  rw [show Int.tdiv (Int.ofNat m) 64 = Int.ofNat (m / 64) from rfl, wrapI _ (by simp; omega) (by simp; omega)]
theorem rem64 (m : Nat) : Int.tmod (Int.ofNat m) 64 = Int.ofNat (m % 64) := rfl
theorem word1 (w m lane : Nat) (x : Nat) (hw : w < 2 ^ 64) (hm : m % 64 < 64) (hx : x < 128) (c : Nat) (hc : c < 2) (h : Nat.land (w / 2 ^ (m % 64)) 1 = c) :
    aor .i64 (shlI .i64 (Int.ofNat x) 1) (wrapF .i64 (aand .u64 (shrI .u64 (Int.ofNat w) (m % 64)) (1 : Int))) = Int.ofNat (2 * x + c) := by
  have e1 : shlI .i64 (Int.ofNat x) 1 = Int.ofNat (2 * x) := by
    show wrapF .i64 (Int.ofNat (x * 2)) = _
    rw [wrapI _ (by simp; omega) (by simp; omega), Nat.mul_comm]
  have e2 : shrI .u64 (Int.ofNat w) (m % 64) = Int.ofNat (w / 2 ^ (m % 64)) := by
    show Int.ofNat (w / 2 ^ (Nat.min (m % 64) 64)) = _
    rw [show Nat.min (m % 64) 64 = m % 64 from Nat.min_eq_left (by omega)]
  have e3 : aand .u64 (Int.ofNat (w / 2 ^ (m % 64))) (1 : Int) = Int.ofNat c := by
    rw [show (1 : Int) = Int.ofNat 1 from rfl, aandU _ _ (Nat.lt_of_le_of_lt (Nat.div_le_self _ _) hw) (by decide), h]
  rw [e1, e2, e3, wrapI (Int.ofNat c) (by show (-9223372036854775808 : Int) ≤ (c : Int); omega) (by show (c : Int) ≤ 9223372036854775807; omega)]
  show bb (bothIn .i64 (2 * x) c) (Int.ofNat (Nat.lor (2 * x) c)) _ = _
  have : bothIn .i64 (2 * x) c = true := by
    show an (Nat.ble (2 * x) 9223372036854775807) (Nat.ble c 9223372036854775807) = true
    rw [Nat.ble_eq_true_of_le (by omega), Nat.ble_eq_true_of_le (by omega)]; rfl
  rw [this, bb_true, lor_bit x c hc]

/-- One number, lane by lane. -/
theorem l47i (pu : PureF) (n c : Nat) (ih0 : Int → Nat → Nat → Int → Int → List Value → List Value → Option Value) (b : List Nat) (hb : wd b) (N m : Nat) (h7 : N ≤ 7) (hm : m < 2 ^ N) : ∀ (f lane : Nat), N - lane < f → lane ≤ N →
    l47_3 pu n ih0 f (Int.ofNat N) (2 ^ N) c (Int.ofNat m) (Int.ofNat (2 ^ N)) (Int.ofNat m) (Int.ofNat N) (Int.ofNat lane) (W b) ((nums b N m lane).map I) = ih0 (Int.ofNat N) (2 ^ N) c (Int.ofNat (2 ^ N)) (Int.ofNat (m + 1)) (W b) ((nums b N (m + 1) 0).map I) := by
  have h128 : 2 ^ N ≤ 2 ^ 7 := Nat.pow_le_pow_right (by omega) h7
  have h128 : 2 ^ N ≤ 128 := h128
  intro f
  induction f with
  | zero => intro lane h; omega
  | succ f ih =>
    intro lane h hi
    show b47_3 pu n ih0 (l47_3 pu n ih0 f) _ _ _ _ _ _ _ _ _ _ = _
    unfold b47_3
    rw [W_cl, allL_eq, closedI, bb_true, bb_true]
    by_cases hlt : lane < N
    · have hbl := hb.1
      have g1 := nums_get b N m lane hm
      have hk : lane * 2 + m / 64 < b.length := by omega
      have g2 := W_get b (lane * 2 + m / 64) hk
      have s1 := nums_set b N m lane hm
      have w1 := word1 (b.getD (lane * 2 + m / 64) 0) m lane (num (rowB b lane m)) (wd_get hb _) (Nat.mod_lt _ (by omega))
        (by have := num_small b lane m; have : 2 ^ lane ≤ 2 ^ 7 := Nat.pow_le_pow_right (by omega) (by omega); have e : (2 : Nat) ^ 7 = 128 := rfl; omega)
        (if bit b lane m then 1 else 0) (by split <;> omega) (bit_word lane m)
      rw [← num_rowB] at w1
      have c1 : an (Nat.ble (m + 1) (len ((nums b N m lane).map I))) true = true := by rw [len_eq, List.length_map, nums_len, Nat.ble_eq_true_of_le (by omega)]; rfl
      rw [lt_true hlt]
      simp only [bb_true, toN_mk, oo_some, blt_eq, hm, decide_true, an_eq, Bool.true_and, Nat.zero_add, Nat.mul_one]
      rw [nthL_eq, g1]
      simp only [oo_some, toI_mk, quo64 m (by omega), toN_mk, bb_true, show decide (lane < 7) = true from decide_eq_true (by omega), show decide (m / 64 < 2) = true from decide_eq_true (by omega), g2, toU, rem64, w1, s1]
      simp only [← an_eq, c1, bb_true, allL_eq, closedI, wrapS lane (by omega)]
      exact ih (lane + 1) (by omega) (by omega)
    · have : lane = N := by omega
      subst this
      rw [lt_false hlt, bb_false]
      unfold m47_2
      rw [W_cl, allL_eq, closedI, bb_true, bb_true, wrapS m (by omega), nums_next]
theorem l47 (pu : PureF) (n c : Nat) (b : List Nat) (hb : wd b) (N : Nat) (h7 : N ≤ 7) (hn : N < n) : ∀ (f m : Nat), 2 ^ N - m < f → m ≤ 2 ^ N →
    l47_1 pu n f (Int.ofNat N) (2 ^ N) c (Int.ofNat (2 ^ N)) (Int.ofNat m) (W b) ((nums b N m 0).map I) = some (S 0 (nums b N (2 ^ N) 0)) := by
  intro f
  induction f with
  | zero => intro m h; omega
  | succ f ih =>
    intro m h hi
    show b47_1 pu n (l47_1 pu n f) _ _ _ _ _ _ _ = _
    unfold b47_1
    rw [W_cl, allL_eq, closedI, bb_true, bb_true]
    by_cases hlt : m < 2 ^ N
    · rw [lt_true hlt, bb_true, show (0 : Int) = Int.ofNat 0 from rfl, l47i pu n c _ b hb N m h7 hlt n 0 (by omega) (by omega)]
      exact ih (m + 1) (by omega) (by omega)
    · have : m = 2 ^ N := by omega
      subst this
      rw [lt_false hlt, bb_false]
      unfold m47_0
      have hl := nums_len b N (2 ^ N) 0
      have t1 : takeL (2 ^ N * 1) (dropL 0 ((nums b N (2 ^ N) 0).map I)) = (nums b N (2 ^ N) 0).map I := by
        rw [takeL_eq, dropL_eq, List.drop_zero, Nat.mul_one, List.take_of_length_le (by simp [hl])]
      rw [t1, allL_eq, closedI, bb_true, Nat.ble_eq_true_of_le (by rw [len_eq]; simp [hl])]
      show some (Sl.v 1 (Sl.mk (2 ^ N) 0 _)) = some (Sl.v 1 (Sl.mk (nums b N (2 ^ N) 0).length 0 _))
      rw [hl]
theorem zrow (k : Nat) : zeroRow ([I 0] : List Value) k = (List.replicate k (0 : Int)).map I := by
  induction k with
  | zero => rfl
  | succ k ih =>
    show appL [I 0] (zeroRow ([I 0] : List Value) k) = _
    rw [ih]; rfl
theorem p47 (n N : Nat) (b : List Nat) (hb : wd b) (h7 : N ≤ 7) : puN (n + 1) 47 [.agg ⟨W b⟩, I (Int.ofNat N)] = some (S 0 (nums b N (2 ^ N) 0)) := by
  have e : puN (n + 1) 47 [.agg ⟨W b⟩, I (Int.ofNat N)] = bb (an (Nat.beq (len (W b)) 14) (allL closed1 (W b))) (m47_ (puN n) 1000000 (W b) (Int.ofNat N)) none := by kernel_rfl
  rw [e, i14 (by rw [W_len]; exact hb.1) (W_cl b), bb_true]
  unfold m47_
  have h128 := two7 h7
  have z := zrow (2 ^ N)
  rw [W_cl, bb_true, toN_mk, oo_some, shl1 N h7, toN_mk, oo_some, z, ← nums_zero b N]
  have c1 : an (Nat.ble (2 ^ N) (2 ^ N)) (an (Nat.ble (2 ^ N * 8) 1099511627776) (an (Nat.ble (2 ^ N) 1099511627776) true)) = true := by
    rw [Nat.ble_eq_true_of_le (Nat.le_refl _), Nat.ble_eq_true_of_le (by omega), Nat.ble_eq_true_of_le (by omega)]; rfl
  rw [c1, bb_true, allL_eq, closedI, bb_true]
  exact l47 (puN n) 1000000 _ b hb N h7 (by omega) 1000000 0 (by omega) (Nat.zero_le _)
end Go.TabSM
/- The plain law of TableSorts, eighth part: all outcomes, both ways; the law. -/
set_option maxRecDepth 100000
namespace Go.TabSM
open Go.Sp Go.TabS Go.TM

/-- Which numbers are outcomes', and the outcomes. -/
def isOut (N : Nat) (C : List (Int × Int)) (v : Nat) : Prop := ∃ k, k < 2 ^ N ∧ runs (plain N k) C = plain N v
noncomputable def outs (N : Nat) (C : List (Int × Int)) : List (List Int) := (once (2 ^ N) (isOut N C)).map (plain N)
theorem once_len (B : Nat) (P : Nat → Prop) : (once B P).length ≤ B := by
  have := List.length_filter_le (fun v => ifb (P v)) (List.range B)
  rwa [List.length_range] at this
theorem once_lt {B : Nat} {P : Nat → Prop} {v : Nat} (h : v ∈ once B P) : v < B := by
  unfold once at h
  rw [List.mem_filter, List.mem_range] at h
  exact h.1

theorem end13 (pu : PureF) (n c : Nat) (acc : List (List Int)) : m13_0 pu n acc.length c (RW acc) = some (.tuple ⟨[Sl.v 1 (sls acc), I 0]⟩) := by
  unfold m13_0
  have h1 : an (Nat.ble (0 + acc.length * 1) (len (RW acc))) (allL closed1 (takeL (acc.length * 1) (dropL 0 (RW acc)))) = true := by
    rw [dropRW, takeRW, RW_cl, Nat.ble_eq_true_of_le (by rw [len_eq, RW_len]; omega)]; rfl
  rw [h1, RW_cl, dropRW, takeRW]; rfl
theorem end14' (pu : PureF) (n c : Nat) (acc : List (List Int)) : m14_0 pu n acc.length c (RW acc) = some (.tuple ⟨[Sl.v 1 (sls acc), I 0]⟩) := by
  unfold m14_0
  have h1 : an (Nat.ble (0 + acc.length * 1) (len (RW acc))) (allL closed1 (takeL (acc.length * 1) (dropL 0 (RW acc)))) = true := by
    rw [dropRW, takeRW, RW_cl, Nat.ble_eq_true_of_le (by rw [len_eq, RW_len]; omega)]; rfl
  rw [h1, RW_cl, dropRW, takeRW]; rfl
/-- A row more. -/
theorem appRW (acc : List (List Int)) (r : List Int) : appL (dropL 0 (RW acc)) [Sl.v 1 (sl 0 r)] = RW (acc ++ [r]) := by
  rw [appL_eq, dropRW]; simp [RW]; rfl
theorem l13 (pu : PureF) (n c2 N : Nat) (s : Sl) (V : List Nat) (pad : List Int) (hV : V.length ≤ 1000) (h43 : ∀ v ∈ V, pu 43 [I (Int.ofNat N), I (Int.ofNat v)] = some (S 0 (plain N v))) :
    ∀ (f i : Nat) (acc : List (List Int)), V.length - i < f → i ≤ V.length → acc.length + (V.length - i) ≤ 1000 →
    l13_1 pu n f acc.length (2 * acc.length) V.length c2 (Int.ofNat V.length) (Int.ofNat i) (Int.ofNat N) s (RW acc) ((V.map Int.ofNat ++ pad).map I) = some (.tuple ⟨[Sl.v 1 (sls (acc ++ (V.drop i).map (plain N))), I 0]⟩) := by
  intro f
  induction f with
  | zero => intro i acc h; omega
  | succ f ih =>
    intro i acc h hi hb
    show b13_1 pu n (l13_1 pu n f) _ _ _ _ _ _ _ _ _ _ = _
    unfold b13_1
    rw [RW_cl, allL_eq, closedI, bb_true, bb_true]
    by_cases hlt : i < V.length
    · have e : V.drop i = V[i] :: V.drop (i + 1) := List.drop_eq_getElem_cons hlt
      have g1 : ((V.map Int.ofNat ++ pad).map I)[i]? = some (I (Int.ofNat V[i])) := by
        rw [List.getElem?_map, List.getElem?_append_left (by simpa using hlt)]
        simp [hlt]
      have g2 := h43 V[i] (List.getElem_mem hlt)
      have g3 := growRW acc 1 (by omega) (by omega)
      rw [lt_true hlt]
      simp only [bb_true, toN_mk, oo_some, blt_eq, hlt, decide_true, an_eq, Bool.true_and, nthL_eq, Nat.zero_add, Nat.mul_one, g1, toI_mk, g2]
      unfold S
      rw [toSl_mk, oo_some, g3, bb_true, appRW, RW_cl, bb_true, wrapS i (by omega), e]
      have := ih (i + 1) (acc ++ [plain N V[i]]) (by omega) (by omega) (by simp; omega)
      rw [List.length_append] at this
      simp only [List.map_cons]
      rw [show acc ++ plain N V[i] :: (V.drop (i + 1)).map (plain N) = (acc ++ [plain N V[i]]) ++ (V.drop (i + 1)).map (plain N) by simp]
      exact this
    · have : i = V.length := by omega
      subst this
      rw [lt_false hlt, bb_false, end13, List.drop_length]; simp
theorem mapO_I (l : List Int) : mapO (toI .i64) (l.map I) = some l := by
  induction l with
  | nil => rfl
  | cons x l ih =>
    show oo (toI .i64 (I x)) none (fun b => oo (mapO (toI .i64) (l.map I)) none fun r => some (b :: r)) = _
    rw [toI_mk, oo_some, ih]; rfl
theorem mapI (l : List Int) : mapL I64 l = l.map I := mapI64 l
theorem whole_ok {k : Nat} (h1 : 1 ≤ k) (h2 : k ≤ 1000000) : wholeC 0 1 k k = true := by
  unfold wholeC
  rw [show Nat.beq k k = true from Nat.beq_refl k, Nat.ble_eq_true_of_le h1, Nat.ble_eq_true_of_le h2]; rfl

theorem p13a (n fl : Nat) (k : Int) (C : List (Int × Int)) (hc : chk k C ≠ 0) : puN (n + 10) 13 [tb fl k C] = some (.tuple ⟨[S 2 [], I (chk k C)]⟩) := by
  have e : puN (n + 10) 13 [tb fl k C] = m13_ (puN (n + 9)) 1000000 k (cl fl C) := by kernel_rfl
  rw [e]; unfold m13_
  have e1 := p38a (n + 6) fl k C hc
  unfold tb at e1
  rw [e1]
  simp only [oo_some, vTup_mk, ll_cons', ll_nil', vAgg_mk, i14 zA_len zA_cl, bb_true, toI_mk, q14 zA_len, s14 zA_len zA_len (show allL scalarB zA73 = true from rfl), st14 zA_len zA_len, zA_cl, ne_t hc]
  rfl
theorem p14a (n fl : Nat) (k : Int) (C : List (Int × Int)) (hc : chk k C ≠ 0) : puN (n + 10) 14 [tb fl k C] = some (.tuple ⟨[S 2 [], I (chk k C)]⟩) := by
  have e : puN (n + 10) 14 [tb fl k C] = m14_ (puN (n + 9)) 1000000 k (cl fl C) := by kernel_rfl
  rw [e]; unfold m14_
  have e1 := p40 (n + 7) fl k C
  unfold tb at e1
  rw [e1]
  simp only [oo_some, toI_mk, ne_t hc, bb_true]; rfl
/-- The numbers of all outcomes. -/
theorem out_nums {N : Nat} (h7 : N ≤ 7) {C : List (Int × Int)} {b : List Nat} (hb : isAll N b) (hC : okC N C) :
    Lib.compact (srtZ (nums (thru b C) N (2 ^ N) 0)) = (once (2 ^ N) (isOut N C)).map Int.ofNat := by
  have h128 := two7 h7
  have row : ∀ m, m < 2 ^ N → rowB (thru b C) N m = runs (plain N m) C := fun m hm => by
    rw [rowB_thru h7 m (by omega) C b hb.1 hC, hb.2.1 m hm]
  refine cmp_once fun x => ?_
  have bits : ∀ m, m < 2 ^ N → plain N (num (rowB (thru b C) N m)) = rowB (thru b C) N m := fun m hm => by
    have := plain_num (rowB (thru b C) N m) (fun j hj => by
      rw [rowB_len] at hj
      rw [rowB_at _ _ _ _ hj]
      split
      · exact .inr rfl
      · exact .inl rfl)
    rwa [rowB_len] at this
  constructor
  · intro hx
    simp only [nums, List.mem_map, List.mem_range] at hx
    obtain ⟨i, hi, rfl⟩ := hx
    rw [if_pos hi]
    exact ⟨_, num_small _ _ _, rfl, i, hi, by rw [bits i hi, row i hi]⟩
  · rintro ⟨v, hv, rfl, k, hk, e⟩
    simp only [nums, List.mem_map, List.mem_range]
    refine ⟨k, hk, ?_⟩
    rw [if_pos hk, row k hk, e, num_plain hv]
theorem p13b (n fl N : Nat) (C : List (Int × Int)) (h1 : 1 ≤ N) (h7 : N ≤ 7) (hl : C.length ≤ 24) (hC : okC N C) (hc : chk (Int.ofNat N) C = 0) (b : List Nat) (hb : isAll N b) (hall : ∀ n, puN (n + 1) 51 [I (Int.ofNat N)] = some (.agg ⟨W b⟩)) :
    puN (n + 10) 13 [tb fl (Int.ofNat N) C] = some (.tuple ⟨[Sl.v 1 (sls (outs N C)), I 0]⟩) := by
  have e : puN (n + 10) 13 [tb fl (Int.ofNat N) C] = m13_ (puN (n + 9)) 1000000 (Int.ofNat N) (cl fl C) := by kernel_rfl
  rw [e]; unfold m13_
  have e1 := p38b (n + 6) fl N C h1 h7 hl hC hc b hb.1 hall
  unfold tb at e1
  have hw := wd_thru C b hb.1
  have l2 : (W (thru b C)).length = 14 := by rw [W_len]; exact hw.1
  have cl2 : allL closed2 [(.agg ⟨W (thru b C)⟩ : Value), (.int .i64 (Int.ofNat N))] = true := by
    show an (allL closed1 (W (thru b C))) _ = true
    rw [W_cl]; rfl
  have q := p47 (n + 8) N (thru b C) hw h7
  have h128 := two7 h7
  have hp := Nat.two_pow_pos N
  have ho := out_nums h7 hb hC
  generalize hZ : nums (thru b C) N (2 ^ N) 0 = Z at q ho
  have hZl : Z.length = 2 ^ N := by rw [← hZ, nums_len]
  have hsl : (srtZ Z).length = 2 ^ N := by rw [(srtZ_perm Z).length_eq, hZl]
  have wh : wholeC 0 1 (2 ^ N) (2 ^ N) = true := whole_ok (by omega) (by omega)
  have hV : (once (2 ^ N) (isOut N C)).length ≤ 2 ^ N := once_len _ _
  unfold S at q
  rw [e1]
  simp only [oo_some, vTup_mk, ll_cons', ll_nil', vAgg_mk, i14 l2 (W_cl _), bb_true, toI_mk, q14 l2, s14 l2 zA_len (W_sc _), st14 l2 zA_len, W_cl, ne_f, bb_false, b14 l2, tk14 l2, cl2, q, toSl_mk]
  simp only [sl_n, sl_cs, mapO_I, oo_some, mapI, len_eq, List.length_map, hZl, hsl, wh, bb_true, allL_eq, closedI]
  have hz : cmpZ (srtZ Z) = (once (2 ^ N) (isOut N C)).map Int.ofNat := ho
  unfold cmpR
  rw [hz, List.length_map]
  have := l13 (puN (n + 9)) 1000000 (2 * 2 ^ N + bb false 1 0) N (cl fl C) (once (2 ^ N) (isOut N C)) (List.replicate ((srtZ Z).length - (once (2 ^ N) (isOut N C)).length) 0) (by omega) (fun v hv => p43 (n + 8) N v h7 (once_lt hv)) 1000000 0 [] (by omega) (by omega) (by simp; omega)
  rw [List.drop_zero, List.nil_append] at this
  exact this

/-- Two rows of the same size, compared. -/
theorem l49 (pu : PureF) (n fl fl' : Nat) (a b : List Int) (hab : a.length = b.length) (ha : a.length < 1000) : ∀ (f i : Nat), a.length - i < f → i ≤ a.length → l49_1 pu n f (sl fl a) (sl fl' b) (Int.ofNat i) = some (Value.bool (ifb (a.drop i = b.drop i))) := by
  intro f
  induction f with
  | zero => intro i h; omega
  | succ f ih =>
    intro i h hi
    show b49_1 pu n (l49_1 pu n f) _ _ _ = _
    unfold b49_1
    by_cases hlt : i < a.length
    · have hlt2 : i < b.length := by omega
      have e1 : a.drop i = a[i] :: a.drop (i + 1) := List.drop_eq_getElem_cons hlt
      have e2 : b.drop i = b[i] :: b.drop (i + 1) := List.drop_eq_getElem_cons hlt2
      rw [sl_n, lt_true hlt]
      simp only [bb_true, toN_mk, oo_some, sl_n, sl_cs, blt_eq, hlt, hlt2, decide_true, an_eq, Bool.true_and, nthL_eq, Nat.mul_one, getI a i hlt, getI b i hlt2, toI_mk]
      by_cases c : a[i] = b[i]
      · rw [c, ne_f, bb_false, wrapS i (by omega), ih (i + 1) (by omega) (by omega), e1, e2, c]
        congr 2
        exact ifb_congr (by rw [List.cons.injEq]; exact ⟨fun h => ⟨rfl, h⟩, fun h => h.2⟩)
      · rw [ne_t c, bb_true, ifb_f (by rw [e1, e2]; intro h9; exact c (List.cons.inj h9).1)]
    · have : i = a.length := by omega
      subst this
      rw [sl_n, lt_false hlt, bb_false, ifb_t (by rw [List.drop_length, hab, List.drop_length])]; rfl
theorem p49 (n fl fl' : Nat) (a b : List Int) (hab : a.length = b.length) (ha : a.length < 1000) : puN (n + 1) 49 [S fl a, S fl' b] = some (Value.bool (ifb (a = b))) := by
  have e : puN (n + 1) 49 [S fl a, S fl' b] = m49_ (puN n) 1000000 (sl fl a) (sl fl' b) := by kernel_rfl
  rw [e]; unfold m49_
  have := l49 (puN n) 1000000 fl fl' a b hab ha 1000000 0 (by omega) (by omega)
  rwa [List.drop_zero, List.drop_zero] at this
/-- Does a number's row come out, of some row from a number on? -/
theorem l14i (m n fl c N v len : Nat) (ih0 : Nat → Nat → Int → Int → Sl → List Value → Option Value) (C : List (Int × Int)) (acc : List (List Int)) (h1 : 1 ≤ N) (h7 : N ≤ 7) (hl : C.length ≤ 24) (hC : okC N C) (hv : v < 2 ^ N) :
    ∀ (f k : Nat) (found : Bool), 2 ^ N - k + 1 < f → k ≤ 2 ^ N → (found = true → isOut N C v) →
    l14_4 (puN (m + 1)) n ih0 f len c (Int.ofNat v) found (Int.ofNat k) (Int.ofNat N) (cl fl C) (RW acc) =
      m14_3 (puN (m + 1)) n ih0 len c (Int.ofNat v) (found || ifb (∃ j, k ≤ j ∧ j < 2 ^ N ∧ runs (plain N j) C = plain N v)) (Int.ofNat N) (cl fl C) (RW acc) := by
  have h128 := two7 h7
  intro f
  induction f with
  | zero => intro k found h; omega
  | succ f ih =>
    intro k found h hk hfo
    show b14_4 (puN (m + 1)) n ih0 (l14_4 (puN (m + 1)) n ih0 f) _ _ _ _ _ _ _ _ = _
    unfold b14_4
    rw [toN_mk, oo_some, shl1 N h7, RW_cl]
    by_cases hlt : k < 2 ^ N
    · rw [lt_true hlt, bb_true, bb_true]
      unfold m14_5
      cases found with
      | true => rw [show nt true = false from rfl, bb_false, RW_cl, bb_true]; rfl
      | false =>
        have q1 := p46 m N k h7 hlt
        have q2 := p45 m fl 0 N C (plain N k) h1 h7 hl hC (plain_len N k)
        have q3 := p46 m N v h7 hv
        have q4 := p49 m 0 0 (runs (plain N k) C) (plain N v) (by rw [runs_len, plain_len, plain_len]) (by rw [runs_len, plain_len]; omega)
        unfold S at q1 q2 q3 q4
        unfold tb at q2
        rw [show nt false = true from rfl, bb_true, RW_cl, bb_true]
        simp only [q1, oo_some, toSl_mk, q2, q3, q4, vBool_mk, wrapS k (by omega)]
        rw [ih (k + 1) _ (by omega) (by omega) (fun h9 => ?_)]
        · congr 1
          rw [Bool.false_or]
          by_cases c : runs (plain N k) C = plain N v
          · rw [ifb_t c, Bool.true_or, ifb_t ⟨k, Nat.le_refl _, hlt, c⟩]
          · rw [ifb_f c, Bool.false_or]
            apply ifb_congr
            constructor
            · rintro ⟨j, j1, j2, j3⟩; exact ⟨j, by omega, j2, j3⟩
            · rintro ⟨j, j1, j2, j3⟩
              refine ⟨j, ?_, j2, j3⟩
              by_cases e : j = k
              · subst e; exact absurd j3 c
              · omega
        · by_cases c : runs (plain N k) C = plain N v
          · exact ⟨k, hlt, c⟩
          · rw [ifb_f c] at h9; cases h9
    · have : k = 2 ^ N := by omega
      subst this
      rw [lt_false hlt, bb_false, bb_true]
      unfold m14_5
      rw [bb_false, RW_cl, bb_true, ifb_f (by rintro ⟨j, j1, j2, _⟩; omega), Bool.or_false]
theorem once_drop (B : Nat) (P : Nat → Prop) (v : Nat) (hv : v < B) : ((List.range B).drop v).filter (fun v => ifb (P v)) = (if ifb (P v) then [v] else []) ++ ((List.range B).drop (v + 1)).filter (fun v => ifb (P v)) := by
  have e : (List.range B).drop v = v :: (List.range B).drop (v + 1) := by
    rw [List.drop_eq_getElem_cons (by simpa using hv)]; simp
  rw [e, List.filter_cons]
  split <;> simp_all
theorem l14 (m n fl N : Nat) (C : List (Int × Int)) (h1 : 1 ≤ N) (h7 : N ≤ 7) (hl : C.length ≤ 24) (hC : okC N C) (hn : 200 < n) :
    ∀ (f v : Nat) (acc : List (List Int)), 2 ^ N - v < f → v ≤ 2 ^ N → acc.length ≤ v →
    l14_1 (puN (m + 1)) n f acc.length (2 * acc.length) (Int.ofNat v) (Int.ofNat N) (cl fl C) (RW acc) =
      some (.tuple ⟨[Sl.v 1 (sls (acc ++ (((List.range (2 ^ N)).drop v).filter fun v => ifb (isOut N C v)).map (plain N))), I 0]⟩) := by
  have h128 := two7 h7
  intro f
  induction f with
  | zero => intro v acc h; omega
  | succ f ih =>
    intro v acc h hv ha
    show b14_1 (puN (m + 1)) n (l14_1 (puN (m + 1)) n f) _ _ _ _ _ _ = _
    unfold b14_1
    rw [toN_mk, oo_some, shl1 N h7, RW_cl, bb_true]
    by_cases hlt : v < 2 ^ N
    · rw [lt_true hlt, bb_true, show (0 : Int) = Int.ofNat 0 from rfl, l14i m n fl _ N v acc.length _ C acc h1 h7 hl hC hlt n 0 false (by omega) (Nat.zero_le _) (fun h => by cases h)]
      have eo : (∃ j, 0 ≤ j ∧ j < 2 ^ N ∧ runs (plain N j) C = plain N v) ↔ isOut N C v := ⟨fun ⟨j, _, h2, h3⟩ => ⟨j, h2, h3⟩, fun ⟨j, h2, h3⟩ => ⟨j, Nat.zero_le _, h2, h3⟩⟩
      rw [Bool.false_or, ifb_congr eo, once_drop _ _ v hlt]
      unfold m14_3
      rw [RW_cl, bb_true]
      by_cases c : isOut N C v
      · rw [ifb_t c, bb_true]
        have q := p46 m N v h7 hlt
        unfold S at q
        have g3 := growRW acc 1 (by omega) (by omega)
        simp only [q, oo_some, toSl_mk]
        unfold m14_2
        rw [g3, bb_true, appRW, RW_cl, bb_true, bb_true, wrapS v (by omega)]
        have := ih (v + 1) (acc ++ [plain N v]) (by omega) (by omega) (by simp; omega)
        rw [List.length_append] at this
        simp only [if_true, List.singleton_append, List.map_cons]
        rw [show acc ++ plain N v :: (((List.range (2 ^ N)).drop (v + 1)).filter fun v => ifb (isOut N C v)).map (plain N) = (acc ++ [plain N v]) ++ (((List.range (2 ^ N)).drop (v + 1)).filter fun v => ifb (isOut N C v)).map (plain N) by simp]
        exact this
      · rw [ifb_f c, bb_false]
        unfold m14_2
        rw [RW_cl, bb_true, wrapS v (by omega)]
        have := ih (v + 1) acc (by omega) (by omega) (by omega)
        simpa using this
    · have : v = 2 ^ N := by omega
      subst this
      rw [lt_false hlt, bb_false, end14', List.drop_of_length_le (by simp)]; simp
theorem p14b (n fl N : Nat) (C : List (Int × Int)) (h1 : 1 ≤ N) (h7 : N ≤ 7) (hl : C.length ≤ 24) (hC : okC N C) (hc : chk (Int.ofNat N) C = 0) : puN (n + 10) 14 [tb fl (Int.ofNat N) C] = some (.tuple ⟨[Sl.v 1 (sls (outs N C)), I 0]⟩) := by
  have e : puN (n + 10) 14 [tb fl (Int.ofNat N) C] = m14_ (puN (n + 9)) 1000000 (Int.ofNat N) (cl fl C) := by kernel_rfl
  rw [e]; unfold m14_
  have e1 := p40 (n + 7) fl (Int.ofNat N) C
  unfold tb at e1
  rw [hc] at e1
  rw [e1]
  simp only [oo_some, toI_mk, ne_f, bb_false]
  have h128 := two7 h7
  have := l14 (n + 8) 1000000 fl N C h1 h7 hl hC (by omega) 1000000 0 [] (by omega) (Nat.zero_le _) (by simp)
  rw [List.drop_zero, List.nil_append] at this
  exact this

theorem l15 (pu : PureF) (n fl fl' : Nat) (l : List Int) (hl : l.length < 1000) : ∀ (f i : Nat), l.length - i < f → i ≤ l.length → l15_1 pu n f (sl fl l) (sl fl' l) (Int.ofNat i) = some (Value.bool true) := by
  intro f
  induction f with
  | zero => intro i h; omega
  | succ f ih =>
    intro i h hi
    show b15_1 pu n (l15_1 pu n f) _ _ _ = _
    unfold b15_1
    by_cases hlt : i < l.length
    · rw [sl_n, lt_true hlt]
      simp only [bb_true, toN_mk, oo_some, sl_n, sl_cs, blt_eq, hlt, decide_true, an_eq, Bool.true_and, nthL_eq, Nat.mul_one, getI l i hlt, toI_mk, wrapS i (by omega), ne_f, bb_false]
      exact ih (i + 1) (by omega) (by omega)
    · rw [sl_n, lt_false hlt]; rfl
theorem p15 (n fl fl' : Nat) (l : List Int) (hl : l.length < 1000) : puN (n + 1) 15 [S fl l, S fl' l] = some (Value.bool true) := by
  have e : puN (n + 1) 15 [S fl l, S fl' l] = m15_ (puN n) 1000000 (sl fl l) (sl fl' l) := by kernel_rfl
  rw [e]; unfold m15_
  rw [sl_n, sl_n, ne_f, bb_false]
  exact l15 (puN n) 1000000 fl fl' l hl 1000000 0 (by omega) (by omega)
theorem l16 (m n : Nat) (R : List (List Int)) (hR : R.length < 1000) (hrow : ∀ x ∈ R, x.length < 1000) : ∀ (f i : Nat), R.length - i < f → i ≤ R.length → l16_1 (puN (m + 1)) n f (sls R) (sls R) (Int.ofNat i) = some (Value.bool true) := by
  intro f
  induction f with
  | zero => intro i h; omega
  | succ f ih =>
    intro i h hi
    show b16_1 (puN (m + 1)) n (l16_1 (puN (m + 1)) n f) _ _ _ = _
    unfold b16_1
    by_cases hlt : i < R.length
    · have g : nthL (sls R).cs (i * 1) = some (Sl.v 1 (sl 0 R[i])) := by
        rw [nthL_eq, Nat.mul_one]
        show (RW R)[i]? = _
        simp [RW, hlt]; rfl
      have q := p15 m 0 0 R[i] (hrow _ (List.getElem_mem hlt))
      unfold S at q
      rw [show (sls R).n = R.length from rfl, lt_true hlt]
      simp only [bb_true, toN_mk, oo_some, show (sls R).n = R.length from rfl, blt_eq, hlt, decide_true, an_eq, Bool.true_and, g, toSl_mk, q, vBool_mk, show nt true = false from rfl, bb_false, wrapS i (by omega)]
      exact ih (i + 1) (by omega) (by omega)
    · rw [show (sls R).n = R.length from rfl, lt_false hlt]; rfl
theorem p16 (n : Nat) (R : List (List Int)) (hR : R.length < 1000) (hrow : ∀ x ∈ R, x.length < 1000) : puN (n + 2) 16 [Sl.v 1 (sls R), Sl.v 1 (sls R)] = some (Value.bool true) := by
  have e : puN (n + 2) 16 [Sl.v 1 (sls R), Sl.v 1 (sls R)] = m16_ (puN (n + 1)) 1000000 (sls R) (sls R) := by kernel_rfl
  rw [e]; unfold m16_
  rw [ne_f, bb_false]
  exact l16 n 1000000 R hR hrow 1000000 0 (by omega) (by omega)
theorem p16z (n : Nat) : puN (n + 2) 16 [S 2 [], S 2 []] = some (Value.bool true) := by kernel_rfl

section
variable (pu : PureF) (n : Nat) (k : Int) (s : Sl) (e8 : pu 8 [] = some (Value.bool true))
include e8
theorem m3_big (e7 : pu 7 [.agg ⟨[.int .i64 k, s.v 2]⟩, Sl.v 1 (Sl.mk 0 2 [])] = some (Value.bool true)) : m3_ pu n k s = some (Value.bool true) := by
  unfold m3_
  simp only [e7, e8, oo_some, vBool_mk, bb_true]
theorem m3_gen (e7 : pu 7 [.agg ⟨[.int .i64 k, s.v 2]⟩, Sl.v 1 (Sl.mk 0 2 [])] = some (Value.bool false)) {t : Bool} {e x y : Int} {u v : Sl}
    (e9 : pu 9 [.agg ⟨[.int .i64 k, s.v 2]⟩] = some (.tuple ⟨[.bool t, .int .i64 e]⟩)) (e10 : pu 10 [.agg ⟨[.int .i64 k, s.v 2]⟩] = some (.tuple ⟨[.bool t, .int .i64 e]⟩))
    (e11 : pu 11 [.agg ⟨[.int .i64 k, s.v 2]⟩] = some (.tuple ⟨[u.v 1, .int .i64 x]⟩)) (e12 : pu 12 [.agg ⟨[.int .i64 k, s.v 2]⟩] = some (.tuple ⟨[u.v 1, .int .i64 x]⟩)) (q : pu 15 [u.v 1, u.v 1] = some (Value.bool true))
    (e13 : pu 13 [.agg ⟨[.int .i64 k, s.v 2]⟩] = some (.tuple ⟨[v.v 1, .int .i64 y]⟩)) (e14 : pu 14 [.agg ⟨[.int .i64 k, s.v 2]⟩] = some (.tuple ⟨[v.v 1, .int .i64 y]⟩)) (q2 : pu 16 [v.v 1, v.v 1] = some (Value.bool true)) : m3_ pu n k s = some (Value.bool true) := by
  have hb : bq true (bq t t) = true := by cases t <;> rfl
  unfold m3_
  simp only [e7, e8, e9, e10, e11, e12, e13, e14, q, q2, oo_some, vBool_mk, bb_false, bb_true, vTup_mk, ll_cons', ll_nil', toSl_mk, toI_mk, ieqr, m3_0, hb]
end
theorem p7 (n fl : Nat) (k : Int) (C : List (Int × Int)) : puN (n + 1) 7 [tb fl k C, S 2 []] = some (Value.bool (decide (60 < C.length))) := by
  show bb (ilt 60 (Int.ofNat C.length)) (some (Value.bool true)) (some (Value.bool (ilt 40 (Int.ofNat 0)))) = _
  have e1 : ilt 60 (Int.ofNat C.length) = decide (60 < C.length) := by
    rw [ilt_eq, Bool.eq_iff_iff, decide_eq_true_iff, decide_eq_true_iff]; simp; omega
  rw [e1]
  cases decide (60 < C.length) <;> rfl
theorem e3 (n fl : Nat) (k : Int) (C : List (Int × Int)) : puN (n + 11) 3 [tb fl k C] = m3_ (puN (n + 10)) 1000000 k (cl fl C) := by kernel_rfl
theorem e8 (n : Nat) : puN (n + 4) 8 [] = some (Value.bool true) := by kernel_rfl
theorem every_row {N : Nat} (h1 : 1 ≤ N) (h7 : N ≤ 7) : ∃ b, isAll N b ∧ ∀ n, puN (n + 1) 51 [I (Int.ofNat N)] = some (.agg ⟨W b⟩) := by
  match N, h1, h7 with
  | 1, _, _ => exact ⟨A1, is1, all1⟩
  | 2, _, _ => exact ⟨A2, is2, all2⟩
  | 3, _, _ => exact ⟨A3, is3, all3⟩
  | 4, _, _ => exact ⟨A4, is4, all4⟩
  | 5, _, _ => exact ⟨A5, is5, all5⟩
  | 6, _, _ => exact ⟨A6, is6, all6⟩
  | 7, _, _ => exact ⟨A7, is7, all7⟩
  | N + 8, _, h => omega
theorem p3 (n fl : Nat) (k : Int) (C : List (Int × Int)) : puN (n + 11) 3 [tb fl k C] = some (Value.bool true) := by
  rw [e3]
  have q7 := p7 (n + 9) fl k C
  by_cases hb : 60 < C.length
  · rw [decide_eq_true hb] at q7
    exact m3_big _ _ _ _ (e8 (n + 6)) q7
  · rw [decide_eq_false hb] at q7
    by_cases hc : chk k C = 0
    · obtain ⟨N, rfl, h1, h7, hl, hC⟩ := chk_zero hc
      obtain ⟨b, hb2, hall⟩ := every_row h1 h7
      obtain ⟨t, fl2, r, e, hr, r1, r2, r3, r4⟩ := agree n fl N C h1 h7 hl hC hc b hb2 hall
      have h128 := two7 h7
      have ho : (outs N C).length ≤ 2 ^ N := by unfold outs; rw [List.length_map]; exact once_len _ _
      exact m3_gen _ _ _ _ (e8 (n + 6)) q7 r1 r2 r3 r4 (p15 (n + 9) fl2 fl2 r (by omega)) (p13b n fl N C h1 h7 hl hC hc b hb2 hall) (p14b n fl N C h1 h7 hl hC hc)
        (p16 (n + 8) (outs N C) (by omega) (fun x hx => by unfold outs at hx; rw [List.mem_map] at hx; obtain ⟨v, _, rfl⟩ := hx; rw [plain_len]; omega))
    · exact m3_gen _ _ _ _ (e8 (n + 6)) q7 (p9a (n + 6) fl k C hc) (p10a n fl k C hc) (p11a n fl k C hc) (p12a n fl k C hc) (p15 (n + 9) 2 2 [] (by simp)) (p13a n fl k C hc) (p14a n fl k C hc) (p16z (n + 8))
end Go.TabSM
