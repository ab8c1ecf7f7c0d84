/- The operations, continued: literals; maps. -/
import Derived.Test.YtcjocjoaphpclaaDoorSpOps7
namespace Go.Sp

section
variable {P : Program} {tt : TT} (hT : TOk P tt) {H H' : AHeap} {R : Ren} {w : World}

theorem foldl_set (vs : List Value) (off k : Nat) (C : Array Value) (h : off + k + vs.length ≤ C.size) :
    ((vs.zipIdx k).foldl (fun cs (p : Value × Nat) => cs.setIfInBounds (off + p.2) p.1) C).toList = setL vs (off + k) C.toList := by
  induction vs generalizing k C with
  | nil =>
    apply List.ext_getElem?
    intro j
    rw [setL_get _ _ _ (by simpa using h)]
    rw [if_neg (by simp)]
    rfl
  | cons v vs ih =>
    simp only [List.zipIdx_cons, List.foldl_cons]
    simp only [List.length_cons] at h
    rw [ih (k + 1) (C.setIfInBounds (off + k) v) (by simp; omega)]
    apply List.ext_getElem?
    intro j
    rw [setL_get _ _ _ (by simp; omega), setL_get _ _ _ (by simp; omega)]
    by_cases hj : off + (k + 1) ≤ j ∧ j < off + (k + 1) + vs.length
    · rw [if_pos hj, if_pos (by simp; omega)]
      have : j - (off + k) = (j - (off + (k + 1))) + 1 := by omega
      rw [this, List.getElem?_cons_succ]
    · rw [if_neg hj]
      by_cases hj2 : j = off + k
      · subst hj2
        rw [if_pos (by simp), Nat.sub_self, List.getElem?_cons_zero, Array.toList_setIfInBounds, List.getElem?_set, if_pos rfl]
        rw [if_pos (by simp; omega)]
      · rw [if_neg (by simp; omega)]
        simp [List.getElem?_set, Ne.symm hj2]

theorem setL_VRL {R : Ren} {xs ys as bs : List Value} {off : Nat} (h : VRL R as bs) (hv : VRL R xs ys) (hfit : off + xs.length ≤ as.length) : VRL R (setL xs off as) (setL ys off bs) := by
  refine ⟨by rw [setL_length _ _ _ hfit, setL_length _ _ _ (by rw [← h.1, ← hv.1]; exact hfit), h.1], fun i x y hx hy => ?_⟩
  rw [setL_get _ _ _ hfit] at hx
  rw [setL_get _ _ _ (by rw [← h.1, ← hv.1]; exact hfit), ← hv.1] at hy
  split at hx
  · rename_i hi; rw [if_pos hi] at hy; exact hv.2 _ x y hx hy
  · rename_i hi; rw [if_neg hi] at hy; exact h.2 _ x y hx hy

def PartsR (R : Ren) (ps qs : List (Nat × Value)) : Prop := ps.length = qs.length ∧ ∀ (i : Nat) (p q : Nat × Value), ps[i]? = some p → qs[i]? = some q → p.1 = q.1 ∧ VR R p.2 q.2

theorem lay_ok {place place' : Nat → Option (Nat × Nat)} (hpl : ∀ i q, place i = some q → place' i = some q) {ps qs : List (Nat × Value)} (hps : PartsR R ps qs) {cells r : List Value} {C : Array Value}
    (h : lay place ps cells = some r) (hc : VRL R cells C.toList) : ∃ D, Instr.fill place' C qs = some D ∧ VRL R r D.toList := by
  induction ps generalizing qs cells C with
  | nil =>
    cases qs with
    | cons => have := hps.1; simp at this
    | nil => injection h with h; subst h; exact ⟨C, rfl, hc⟩
  | cons p ps ih =>
    cases qs with
    | nil => have := hps.1; simp at this
    | cons q qs =>
      obtain ⟨e1, hv⟩ := hps.2 0 p q rfl rfl
      have h : pp p (fun i v => oo (place i) none fun q => pp q fun off size => bb (an (nt (noCell v)) (an (Nat.beq (len (cellsOf v)) size) (Nat.ble (off + size) (len cells)))) (lay place ps (setL (cellsOf v) off cells)) none) = some r := h
      rw [pp_eta] at h
      obtain ⟨os, hos, h1⟩ := oo_inv h
      rw [pp_eta] at h1
      obtain ⟨hcond, h2⟩ := bb_inv h1
      obtain ⟨htup, hcond⟩ := an_inv hcond
      simp only [an_eq, len_eq, Bool.and_eq_true] at hcond
      have k1 := Nat.eq_of_beq_eq_true hcond.1
      have k2 := Nat.le_of_ble_eq_true hcond.2
      have hvl := cellsOf_VR hv (nt_false htup)
      have hsz : q.2.cells.size = os.2 := by rw [← Array.length_toList, ← hvl.1]; exact k1
      have hCs : C.size = cells.length := by rw [← Array.length_toList, hc.1]
      have hnext : VRL R (setL (cellsOf p.2) os.1 cells) (q.2.cells.zipIdx.foldl (fun cs (x : Value × Nat) => cs.setIfInBounds (os.1 + x.2) x.1) C).toList := by
        have e : (q.2.cells.zipIdx.foldl (fun cs (x : Value × Nat) => cs.setIfInBounds (os.1 + x.2) x.1) C) = (q.2.cells.toList.zipIdx 0).foldl (fun cs (x : Value × Nat) => cs.setIfInBounds (os.1 + x.2) x.1) C := by
          rw [← Array.foldl_toList]; simp
        rw [e, foldl_set q.2.cells.toList os.1 0 C (by rw [Array.length_toList, hsz]; omega)]
        exact setL_VRL hc hvl (by rw [k1]; exact k2)
      obtain ⟨D, hD, hDl⟩ := ih (qs := qs) ⟨by have := hps.1; simpa using this, fun i a b ha hb => hps.2 (i + 1) a b (by simpa using ha) (by simpa using hb)⟩ h2 hnext
      refine ⟨D, ?_, hDl⟩
      have hp2 := hpl _ _ hos
      rw [e1] at hp2
      obtain ⟨q1, q2⟩ := q
      simp only at hsz hD hp2
      have c1 : (decide (q2.cells.size ≠ os.2) || decide (os.1 + q2.cells.size > C.size)) = false := by
        simp [hsz]; omega
      simp only [Instr.fill, hp2]
      rw [if_neg (by simpa using c1)]
      exact hD

include hT in
theorem placeOf_ok {fs : Array Field} (hall : (fs.toList.all fun f => isS (tt f.type)) = true) (w : World) :
    ∃ places : Array (Nat × Nat), (fs.mapM fun f => do pure (f.offset, ← sizeOf f.type) : Sem (Array (Nat × Nat))).run P w = .ok places w ∧ ∀ i q, placeOf tt fs.toList i = some q → places[i]? = some q := by
  have key : ∀ (l : List Field), (l.all fun f => isS (tt f.type)) = true → ∃ ps : List (Nat × Nat), (l.mapM fun f => do pure (f.offset, ← sizeOf f.type) : Sem (List (Nat × Nat))).run P w = .ok ps w ∧
      ∀ (i : Nat) q, placeOf tt l i = some q → ps[i]? = some q := by
    intro l hl
    induction l with
    | nil => exact ⟨[], by simp, fun i q h => by simp [placeOf] at h⟩
    | cons f l ih =>
      simp only [List.all_cons, Bool.and_eq_true] at hl
      obtain ⟨ps, h1, h2⟩ := ih hl.2
      cases hf : tt f.type with
      | none => rw [hf] at hl; simp at hl
      | some ie =>
        have hs := hT.run_size hf w
        refine ⟨(f.offset, ie.size) :: ps, ?_, fun i q h => ?_⟩
        · simp [List.mapM_cons, hs] at h1 ⊢
          simp [h1]
        · cases i with
          | zero => simpa [placeOf, hf] using h
          | succ i => exact h2 i q (by simpa [placeOf] using h)
  obtain ⟨ps, h1, h2⟩ := key fs.toList hall
  refine ⟨ps.toArray, ?_, fun i q h => by simpa using h2 i q h⟩
  rw [Array.mapM_eq_mapM_toList, Sem.run_map, h1]
  rfl

theorem zero_range {z : Value} {m sz : Nat} (hzlen : z.cells.size = sz) (zz : Array Value) (h1 : m * sz = 0 → zz = #[]) (h2 : m * sz ≠ 0 → zz = z.cells) :
    (Array.range (m * sz)).map (fun i => zz[i % zz.size]!) = (zeroRow z.cells.toList m).toArray := by
  apply Array.ext'
  apply List.ext_getElem?
  intro i
  by_cases hi : i < m * sz
  · have hne : m * sz ≠ 0 := by omega
    rw [h2 hne]
    have hzp : 0 < z.cells.size := Nat.pos_of_ne_zero fun e => by rw [hzlen] at e; rw [e] at hi; simp at hi
    have hmod : i % z.cells.size < z.cells.size := Nat.mod_lt _ hzp
    show _ = (zeroRow z.cells.toList m)[i]?
    rw [zeroRow_get _ (by simpa using hzp) _ _ (by simpa [hzlen] using hi)]
    simp [hi, hmod]
  · rw [List.getElem?_eq_none (by simp; omega), List.getElem?_eq_none (by simp [zeroRow_length, hzlen]; omega)]

include hT in
theorem abuild_ok {t : TypeId} {ps : List (Nat × Value)} {qs : Array (Nat × Value)} {v : Value} (h : abuild tt t ps = some v) (hps : PartsR R ps qs.toList) : ∃ u, (Instr.build t qs).run P w = .ok u w ∧ VR R v u := by
  obtain ⟨i, hi, h1⟩ := oo_inv h
  obtain ⟨z, hz, h2⟩ := oo_inv h1
  have hu := hT.run_und hi w
  have hzr := hT.run_zero hi hz w
  have hzv := cellsOf_plain (R := R) (hT.plain _ _ _ hi hz)
  cases hd : dStruct i.und with
  | some fs =>
    rw [hd, oo_some] at h2
    obtain ⟨hall, h3⟩ := bb_inv h2
    obtain ⟨l, hl, h4⟩ := oo_inv h3
    injection h4 with h4; subst h4
    rw [dStruct_some hd] at hu
    rw [allL_eq] at hall
    obtain ⟨places, hp1, hp2⟩ := placeOf_ok hT hall w
    obtain ⟨D, hD, hDl⟩ := lay_ok (place' := fun i => places[i]?) hp2 hps hl hzv
    refine ⟨.agg D, ?_, ?_⟩
    · simp only [Instr.build, Sem.run_bind, hzr, hu, Result.andThen_ok, hp1, hD, Sem.run_pure]
    · obtain ⟨Dl⟩ := D
      exact .agg hDl.1 hDl.2
  | none =>
    rw [hd, oo_none] at h2
    obtain ⟨p, hp, h3⟩ := oo_inv h2
    obtain ⟨ie, hie, h4⟩ := oo_inv h3
    obtain ⟨l, hl, h5⟩ := oo_inv h4
    injection h5 with h5; subst h5
    rw [dArr_some hp] at hu
    have hsz := hT.run_size hie w
    obtain ⟨D, hD, hDl⟩ := lay_ok (place' := fun i => some (i * ie.size, ie.size)) (fun i q h => h) hps hl hzv
    refine ⟨.agg D, ?_, ?_⟩
    · simp only [Instr.build, Sem.run_bind, hzr, hu, Result.andThen_ok, hsz, hD, Sem.run_pure]
    · obtain ⟨Dl⟩ := D
      exact .agg hDl.1 hDl.2

include hT in
theorem abuildSlice_ok (hs : Sim H R w) {t n : Nat} {ps : List (Nat × Value)} {qs : Array (Nat × Value)} {v : Value} (h : abuildSlice tt H t n ps = some (v, H')) (hps : PartsR R ps qs.toList) :
    ∃ u w' R', (Instr.buildSlice t n qs).run P w = .ok u w' ∧ VR R' v u ∧ Post H R w H' R' w' := by
  obtain ⟨ie, hie, h1⟩ := oo_inv h
  obtain ⟨z, hz, h2⟩ := oo_inv h1
  obtain ⟨hc, h3⟩ := bb_inv h2
  obtain ⟨cs, hcs, h4⟩ := oo_inv h3
  injection h4 with h4; injection h4 with e1 e2; subst e1; subst e2
  simp only [an_eq, len_eq, Bool.and_eq_true] at hc
  have c1 := Nat.le_of_ble_eq_true hc.1
  have c2 := Nat.eq_of_beq_eq_true hc.2
  obtain ⟨is, e, his, hd, hte⟩ := elemOf_some hie
  have hu := hT.run_und his w
  rw [hd] at hu
  have hsz := hT.run_size hte w
  have hzr := hT.run_zero hte hz w
  have hpz := hT.plain _ _ _ hte hz
  have hzlen : z.cells.size = ie.size := by
    rw [← Array.length_toList, ← (cellsOf_plain (R := R) hpz).1]; exact c2
  have hzv : VRL R (zeroRow (cellsOf z) n) (zeroRow z.cells.toList n).toArray.toList := zeroRow_VRL (cellsOf_plain hpz) n
  obtain ⟨D, hD, hDl⟩ := lay_ok (place' := fun i => some (i * ie.size, ie.size)) (fun i q h => h) hps hcs hzv
  have hDlen : D.size = n * ie.size := by
    have := hDl.1
    have hlen : ∀ (place : Nat → Option (Nat × Nat)) (ps : List (Nat × Value)) (cells r : List Value), lay place ps cells = some r → r.length = cells.length := by
      intro place ps
      induction ps with
      | nil => intro cells r h; injection h with h; rw [h]
      | cons p ps ih =>
        intro cells r h
        have h : pp p (fun i v => oo (place i) none fun q => pp q fun off size => bb (an (nt (noCell v)) (an (Nat.beq (len (cellsOf v)) size) (Nat.ble (off + size) (len cells)))) (lay place ps (setL (cellsOf v) off cells)) none) = some r := h
        rw [pp_eta] at h
        obtain ⟨os, hos, h1⟩ := oo_inv h
        rw [pp_eta] at h1
        obtain ⟨hcond, h2⟩ := bb_inv h1
        obtain ⟨_, hcond⟩ := an_inv hcond
        simp only [an_eq, len_eq, Bool.and_eq_true] at hcond
        have k1 := Nat.eq_of_beq_eq_true hcond.1
        have k2 := Nat.le_of_ble_eq_true hcond.2
        rw [ih _ _ h2, setL_length _ _ _ (by rw [k1]; exact k2)]
    rw [← Array.length_toList, ← this, hlen _ _ _ _ hcs, zeroRow_length, c2]
  have hpost := post_cells (w := w) (xs := cs) (ys := D.toList) e [] false hs hDl false [] (by simp)
  refine ⟨.slice (some ⟨w.heap.size, 0, none⟩) n n, _, _, ?_, ?_, hpost⟩
  · have hbig : ¬ (n * ie.size > 2 ^ 24) := by omega
    by_cases h0 : n * ie.size = 0
    · have hr := zero_range (z := z) (m := n) hzlen #[] (fun _ => rfl) (fun h => absurd h0 h)
      rw [h0] at hr
      rw [← hr] at hD
      simp [Instr.buildSlice, hu, hsz, hbig, h0] at hD ⊢
      simp [hD, newRow]
    · have hr := zero_range (z := z) (m := n) hzlen z.cells (fun h => absurd h h0) (fun _ => rfl)
      rw [← hr] at hD
      simp only [Instr.buildSlice, Sem.run_bind, hu, Result.andThen_ok, hsz, hbig, if_false, h0, hzr, Sem.run_pure, hD]
      simp [newRow]
  · have := VR.sl (R := R.ext H.next w.heap.size 0 (D.toList ++ []).length) (off := 0) (sz := ie.size) (ln := n) (c2 := 2 * n + bb true 1 0) (cap := n) (Ren.ext_new R H.next w.heap.size 0 _)
      (by rw [sliceAt_half]; exact Nat.le_refl _) (by rw [sliceAt_half]; exact Nat.le_refl _) (fun _ => by rw [sliceAt_half]) (by rw [Ren.ext_sz]; simp [hDlen])
    simpa [sliceAt] using this
end
end Go.Sp
