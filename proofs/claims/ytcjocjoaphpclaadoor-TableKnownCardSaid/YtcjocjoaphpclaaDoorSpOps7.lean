/- The operations, continued: new memory by literals and make; maps. -/
import Derived.Test.YtcjocjoaphpclaaDoorSpOps6
namespace Go.Sp

section
variable {P : Program} {tt : TT} (hT : TOk P tt) {H H' : AHeap} {R : Ren} {w : World}

theorem aminmax0_ok {isMax : Bool} {l l' : List Value} {v : Value} (h : aminmax0 isMax l = some v) (hl : VRL R l l') (ts : Array TypeId) (ty : TypeId) :
    ((if isMax then Builtin.max_ else Builtin.min_) ts ty ⟨l'⟩).run P w = .ok v w ∧ plain1 v = true := by
  cases l with
  | nil => cases h
  | cons x r =>
    obtain ⟨x', r', rfl, hx, hr⟩ := hl.uncons
    obtain ⟨p, hp, h1⟩ := oo_inv (show oo (vInt x) none (fun p => pp p fun k a => aminmax isMax k r a) = some v from h)
    rw [pp_eta] at h1
    have := vInt_some hp; subst this
    rw [hx.int_l]
    have := aminmax_ok (P := P) (w := w) h1 hr
    cases isMax
    · simpa [Builtin.min_] using this
    · simpa [Builtin.max_] using this

theorem zeroOf_some {t : TypeId} {z : Value} (h : zeroOf tt t = some z) : ∃ i, tt t = some i ∧ i.zero = some z := by
  obtain ⟨i, hi, h1⟩ := oo_inv h; exact ⟨i, hi, h1⟩

include hT in
theorem aallocT_ok (hs : Sim H R w) {e : TypeId} {v : Value} (h : aallocT tt H e = some (v, H')) :
    ∃ u w' R', (Instr.alloc e true (.tuple #[])).run P w = .ok u w' ∧ VR R' v u ∧ Post H R w H' R' w' := by
  obtain ⟨z, hz, h1⟩ := oo_inv h
  obtain ⟨i, hi, hiz⟩ := zeroOf_some hz
  injection h1 with h1; injection h1 with e1 e2; subst e1; subst e2
  have hzr := hT.run_zero hi hiz w
  obtain ⟨w', R', hr, hv, hp⟩ := newVar_ok (P := P) hs e (cellsOf_plain (hT.plain _ _ _ hi hiz))
  refine ⟨_, w', R', ?_, hv, hp⟩
  simp only [Instr.alloc, Sem.run_bind, hzr, Result.andThen_ok]
  simpa using hr

theorem abox_ok (hs : Sim H R w) {e : TypeId} {x x' v : Value} (h : bb (noCell x) none (aalloc H (cellsOf x)) = some (v, H')) (hx : VR R x x') :
    ∃ u w' R', (Instr.box e x').run P w = .ok u w' ∧ VR R' v u ∧ Post H R w H' R' w' := by
  obtain ⟨ht, h⟩ := bb_inv' h
  injection h with h; injection h with e1 e2; subst e1; subst e2
  obtain ⟨w', R', hr, hv, hp⟩ := newVar_ok (P := P) hs e (cellsOf_VR hx ht)
  exact ⟨_, w', R', by simpa [Instr.box] using hr, hv, hp⟩

theorem amakeMap_ok (hs : Sim H R w) (t : TypeId) : ∃ u w' R', (Instr.makeMap t none).run P w = .ok u w' ∧ VR R' (.map (some H.next)) u ∧ Post H R w (H.push (.map [] 0)) R' w' := by
  have hp := post_push (o := .map [] 0) (ob := .map #[] 0) 0 hs (fun C t fz e => by cases e) (by simp [AObj.ancOf]) (fun R' _ _ => ⟨rfl, #[], rfl, rfl, by simp⟩)
  exact ⟨_, _, _, by simp [Instr.makeMap], .map (Ren.ext_new R H.next w.heap.size 0 0), hp⟩

include hT in
theorem amakeSlice_ok (hs : Sim H R w) {t : TypeId} {l c l' c' v : Value} (h : amakeSlice tt H t l c = some (v, H')) (hl : VR R l l') (hc : VR R c c') :
    ∃ u w' R', (Instr.makeSlice t l' c').run P w = .ok u w' ∧ VR R' v u ∧ Post H R w H' R' w' := by
  obtain ⟨ie, hie, h1⟩ := oo_inv h
  obtain ⟨n, hn, h2⟩ := oo_inv h1
  obtain ⟨m, hm, h3⟩ := oo_inv h2
  obtain ⟨z, hz, h4⟩ := oo_inv h3
  obtain ⟨hcc, h5⟩ := bb_inv h4
  simp only [an_eq, len_eq, Bool.and_eq_true] at hcc
  obtain ⟨c1, c2, c3, c4⟩ := hcc
  have c1 := Nat.le_of_ble_eq_true c1
  have c2 := Nat.le_of_ble_eq_true c2
  have c3 := Nat.le_of_ble_eq_true c3
  have c4 := Nat.eq_of_beq_eq_true c4
  injection h5 with h5; injection h5 with e1 e2; subst e1; subst e2
  obtain ⟨kl, rfl⟩ := hl.nat_l hn
  obtain ⟨kc, rfl⟩ := hc.nat_l hm
  obtain ⟨is, e, his, hd, hte⟩ := elemOf_some hie
  have hu := hT.run_und his w
  rw [hd] at hu
  have hsz := hT.run_size hte w
  have hzr := hT.run_zero hte hz w
  obtain ⟨inf, hinf, _, hbt, _⟩ := hT.run_bytes hte w
  have hpz := hT.plain _ _ _ hte hz
  have hzlen : z.cells.size = ie.size := by
    rw [← Array.length_toList, ← (cellsOf_plain (R := R) hpz).1]; exact c4
  have hw1 : IntKind.i64.wrap (n : Int) = n := IntWalk.i64_in _ (by omega)
  have hw2 : IntKind.i64.wrap (m : Int) = m := IntWalk.i64_in _ (by omega)
  have hb8 : ((m * ie.bytes : Nat) : Int) = (ie.bytes : Int) * (m : Int) := by push_cast; exact Int.mul_comm _ _
  have hbig : ¬ ((ie.bytes : Int) * (m : Int) > 2 ^ 48) := by rw [← hb8]; omega
  have hm0 : ¬ ((m : Int) < 0) := by omega
  have hn0 : ¬ ((n : Int) < 0) := by omega
  have hnm : ¬ ((n : Int) > (m : Int)) := by omega
  have hcells : ∀ zz : Array Value, (m * ie.size = 0 → zz = #[]) → (m * ie.size ≠ 0 → zz = z.cells) → (Array.range (m * ie.size)).map (fun i => zz[i % zz.size]!) = (zeroRow z.cells.toList m).toArray := fun zz h1 h2 => by
    apply Array.ext'
    apply List.ext_getElem?
    intro i
    by_cases hi : i < m * ie.size
    · have hne : m * ie.size ≠ 0 := by omega
      rw [h2 hne]
      have hzp : 0 < z.cells.size := Nat.pos_of_ne_zero fun e => by rw [hzlen] at e; rw [e] at hi; simp at hi
      have hmod : i % z.cells.size < z.cells.size := Nat.mod_lt _ hzp
      show _ = (zeroRow z.cells.toList m)[i]?
      rw [zeroRow_get _ (by simpa using hzp) _ _ (by simpa [hzlen] using hi)]
      simp [hi, hmod]
    · rw [List.getElem?_eq_none (by simp; omega), List.getElem?_eq_none (by simp [zeroRow_length, hzlen]; omega)]
  have hpost := post_cells (w := w) (xs := zeroRow (cellsOf z) m) (ys := zeroRow z.cells.toList m) e [] false hs (zeroRow_VRL (cellsOf_plain hpz) m) false [] (by simp)
  refine ⟨.slice (some ⟨w.heap.size, 0, none⟩) n m, _, _, ?_, ?_, hpost⟩
  · have hbig' : (ie.bytes : Int) * (m : Int) ≤ 281474976710656 := by rw [← hb8]; omega
    have hn0' : ¬ ((n : Int) < 0) := hn0
    have e0 : ((zeroRow z.cells.toList m ++ []).toArray) = (zeroRow z.cells.toList m).toArray := by simp
    rw [e0]
    by_cases h0 : m * ie.size = 0
    · have := hcells #[] (fun _ => rfl) (fun h => absurd h0 h)
      rw [← this]
      simp [Instr.makeSlice, hu, asInt, asIntOf, hinf, hw1, hw2, hbt, hsz, hbig', c1, h0, newRow]
      intro h; exfalso; omega
    · have := hcells z.cells (fun h => absurd h h0) (fun _ => rfl)
      rw [← this]
      simp [Instr.makeSlice, hu, asInt, asIntOf, hinf, hw1, hw2, hbt, hsz, hbig', c1, h0, hzr, newRow]
      intro h; exfalso; omega
  · have := VR.sl (R := R.ext H.next w.heap.size 0 (zeroRow z.cells.toList m ++ []).length) (off := 0) (sz := ie.size) (ln := n) (c2 := 2 * m + bb true 1 0) (cap := m) (Ren.ext_new R H.next w.heap.size 0 _)
      (by rw [sliceAt_half]; exact c1) (by rw [sliceAt_half]; exact Nat.le_refl _) (fun _ => by rw [sliceAt_half]) (by rw [Ren.ext_sz]; simp [zeroRow_length, hzlen])
    simpa [sliceAt] using this
end
end Go.Sp
