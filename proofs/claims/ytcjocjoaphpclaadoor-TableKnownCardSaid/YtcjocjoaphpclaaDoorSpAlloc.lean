/- New blocks, told without the place at which the abstract heap lays them: for operations that run later than the abstract run does them. -/
import Derived.Test.YtcjocjoaphpclaaDoorSpCode1
namespace Go.Sp

/-- No row with a frozen stretch. -/
def NoFz (ob : Obj) : Prop := ∀ C t fz, ob = .cells C t fz → fz = (0, 0)

/-- An operation that lays a new block: whatever the heap is by then. -/
def LaysNew (P : Program) (o : Oper) (ρ : Operand → Value) (V : Nat → Value) (obj : AObj) : Prop :=
  ∀ (R : Ren) (w : World) (ρ' : Operand → Value), (∀ x ∈ o.op.operands.toList, VR R (ρ x) (ρ' x)) →
    ∃ ob u n, (execOp ρ' o).run P w = .ok (.value u) (w.alloc ob) ∧
      ∀ Q k, R.le Q → Q.f k = some (w.heap.size, 0) → Q.sz w.heap.size = n → VR Q (V k) u ∧ ObjR Q obj w.heap.size 0 (some ob) ∧ NoFz ob

def newB : Op → Bool
  | .alloc _ | .box .. | .buildSlice .. | .makeSlice .. | .makeMap .. => true
  | _ => false

section
variable {P : Program} {tt : TT} (hT : TOk P tt)

theorem lays_cells {R : Ren} {w : World} {r : Result Value} {t : TypeId} {xs ys : List Value} (h : VRL R xs ys) {V : Nat → Value} {u : Value}
    (hr : r = .ok u (w.alloc (.cells ys.toArray t))) (hV : ∀ Q k, R.le Q → Q.f k = some (w.heap.size, 0) → Q.sz w.heap.size = ys.length → VR Q (V k) u) :
    ∃ ob u n, r = .ok u (w.alloc ob) ∧ ∀ Q k, R.le Q → Q.f k = some (w.heap.size, 0) → Q.sz w.heap.size = n → VR Q (V k) u ∧ ObjR Q (.cells xs false false []) w.heap.size 0 (some ob) ∧ NoFz ob :=
  ⟨_, u, ys.length, hr, fun Q k hle hk hsz => ⟨hV Q k hle hk hsz, ⟨ys.toArray, t, (0, 0), rfl, by rw [hsz]; simp, by simp [h.1], by simpa using cellsR_of_VRL (h.mono hle) [], fun _ => rfl⟩, fun C t fz e => by injection e with _ _ e; exact e.symm⟩⟩

theorem lays_lift {P : Program} {w : World} {s : Sem Value} {x : AObj} {R : Ren} {V : Nat → Value} (h : ∃ ob u n, s.run P w = .ok u (w.alloc ob) ∧ ∀ Q k, R.le Q → Q.f k = some (w.heap.size, 0) → Q.sz w.heap.size = n → VR Q (V k) u ∧ ObjR Q x w.heap.size 0 (some ob) ∧ NoFz ob) :
    ∃ ob u n, (do pure (.value (← s)) : Sem Next).run P w = .ok (.value u) (w.alloc ob) ∧ ∀ Q k, R.le Q → Q.f k = some (w.heap.size, 0) → Q.sz w.heap.size = n → VR Q (V k) u ∧ ObjR Q x w.heap.size 0 (some ob) ∧ NoFz ob := by
  obtain ⟨ob, u, n, hr, hh⟩ := h
  exact ⟨ob, u, n, by simp [hr], hh⟩

theorem lays_var {R : Ren} {w : World} (t : TypeId) {v v' : Value} (hl : VRL R (cellsOf v) v'.cells.toList) :
    ∃ ob u n, (do pure (.pointer (some (← newVar t v'))) : Sem Value).run P w = .ok u (w.alloc ob) ∧ ∀ Q k, R.le Q → Q.f k = some (w.heap.size, 0) → Q.sz w.heap.size = n →
      VR Q ((fun k => .pointer (some ⟨k, 0, none⟩) : Nat → Value) k) u ∧ ObjR Q (.cells (cellsOf v) false false []) w.heap.size 0 (some ob) ∧ NoFz ob := by
  refine lays_cells hl (u := .pointer (some ⟨w.heap.size, 0, none⟩)) (t := t) ?_ fun Q k _ hk _ => by simpa using VR.ptr (off := 0) hk
  simp [newVar, newRow]

include hT
theorem lays_makeSlice {H H' : AHeap} {t : TypeId} {l c v : Value} (h : amakeSlice tt H t l c = some (v, H')) : ∃ (V : Nat → Value) (obj : AObj), v = V H.next ∧ H' = H.push obj ∧ obj.ancOf = [] ∧
    ∀ (R : Ren) (w : World) (l' c' : Value), VR R l l' → VR R c c' → ∃ ob u n, (Instr.makeSlice t l' c').run P w = .ok u (w.alloc ob) ∧
      ∀ Q k, R.le Q → Q.f k = some (w.heap.size, 0) → Q.sz w.heap.size = n → VR Q (V k) u ∧ ObjR Q obj w.heap.size 0 (some ob) ∧ NoFz ob := by
  obtain ⟨ie, hie, h1⟩ := oo_inv h
  obtain ⟨n, hn, h2⟩ := oo_inv h1
  obtain ⟨m, hm, h3⟩ := oo_inv h2
  obtain ⟨z, hz, h4⟩ := oo_inv h3
  obtain ⟨hcc, h5⟩ := bb_inv h4
  simp only [an_eq, len_eq, Bool.and_eq_true] at hcc
  obtain ⟨c1, c2, c3, c4⟩ := hcc
  have c1 := Nat.le_of_ble_eq_true c1
  have c2 := Nat.le_of_ble_eq_true c2
  have c3 := Nat.le_of_ble_eq_true c3
  have c4 := Nat.eq_of_beq_eq_true c4
  injection h5 with h5; injection h5 with e1 e2; subst e1; subst e2
  refine ⟨fun k => sliceAt k 0 ie.size n m true, .cells (zeroRow (cellsOf z) m) false false [], rfl, rfl, rfl, fun R w l' c' hl hc => ?_⟩
  obtain ⟨kl, rfl⟩ := hl.nat_l hn
  obtain ⟨kc, rfl⟩ := hc.nat_l hm
  obtain ⟨is, e, his, hd, hte⟩ := elemOf_some hie
  have hu := hT.run_und his w
  rw [hd] at hu
  have hsz := hT.run_size hte w
  have hzr := hT.run_zero hte hz w
  obtain ⟨inf, hinf, _, hbt, _⟩ := hT.run_bytes hte w
  have hpz := hT.plain _ _ _ hte hz
  have hzlen : z.cells.size = ie.size := by
    rw [← Array.length_toList, ← (cellsOf_plain (R := R) hpz).1]; exact c4
  have hw1 : IntKind.i64.wrap (n : Int) = n := IntWalk.i64_in _ (by omega)
  have hw2 : IntKind.i64.wrap (m : Int) = m := IntWalk.i64_in _ (by omega)
  have hb8 : ((m * ie.bytes : Nat) : Int) = (ie.bytes : Int) * (m : Int) := by push_cast; exact Int.mul_comm _ _
  have hbig : ¬ ((ie.bytes : Int) * (m : Int) > 2 ^ 48) := by rw [← hb8]; omega
  have hm0 : ¬ ((m : Int) < 0) := by omega
  have hn0 : ¬ ((n : Int) < 0) := by omega
  have hnm : ¬ ((n : Int) > (m : Int)) := by omega
  have hcells : ∀ zz : Array Value, (m * ie.size = 0 → zz = #[]) → (m * ie.size ≠ 0 → zz = z.cells) → (Array.range (m * ie.size)).map (fun i => zz[i % zz.size]!) = (zeroRow z.cells.toList m).toArray := fun zz h1 h2 => by
    apply Array.ext'
    apply List.ext_getElem?
    intro i
    by_cases hi : i < m * ie.size
    · have hne : m * ie.size ≠ 0 := by omega
      rw [h2 hne]
      have hzp : 0 < z.cells.size := Nat.pos_of_ne_zero fun e => by rw [hzlen] at e; rw [e] at hi; simp at hi
      have hmod : i % z.cells.size < z.cells.size := Nat.mod_lt _ hzp
      show _ = (zeroRow z.cells.toList m)[i]?
      rw [zeroRow_get _ (by simpa using hzp) _ _ (by simpa [hzlen] using hi)]
      simp [hi, hmod]
    · rw [List.getElem?_eq_none (by simp; omega), List.getElem?_eq_none (by simp [zeroRow_length, hzlen]; omega)]
  refine lays_cells (xs := zeroRow (cellsOf z) m) (ys := zeroRow z.cells.toList m) (zeroRow_VRL (cellsOf_plain hpz) m) (u := .slice (some ⟨w.heap.size, 0, none⟩) n m) (t := e) ?_ fun Q k _ hk hsz => ?_
  · have hbig' : (ie.bytes : Int) * (m : Int) ≤ 281474976710656 := by rw [← hb8]; omega
    have hn0' : ¬ ((n : Int) < 0) := hn0
    by_cases h0 : m * ie.size = 0
    · have := hcells #[] (fun _ => rfl) (fun h => absurd h0 h)
      rw [← this]
      simp [Instr.makeSlice, hu, asInt, asIntOf, hinf, hw1, hw2, hbt, hsz, hbig', c1, h0, newRow]
      intro h; exfalso; omega
    · have := hcells z.cells (fun h => absurd h h0) (fun _ => rfl)
      rw [← this]
      simp [Instr.makeSlice, hu, asInt, asIntOf, hinf, hw1, hw2, hbt, hsz, hbig', c1, h0, hzr, newRow]
      intro h; exfalso; omega
  · have := VR.sl (R := Q) (off := 0) (sz := ie.size) (ln := n) (c2 := 2 * m + bb true 1 0) (cap := m) hk
      (by rw [sliceAt_half]; exact c1) (by rw [sliceAt_half]; exact Nat.le_refl _) (fun _ => by rw [sliceAt_half]) (by rw [hsz]; simp [zeroRow_length, hzlen])
    simpa [sliceAt] using this

theorem lays_buildSlice {H H' : AHeap} {t n : Nat} {ps : List (Nat × Value)} {v : Value} (h : abuildSlice tt H t n ps = some (v, H')) : ∃ (V : Nat → Value) (obj : AObj), v = V H.next ∧ H' = H.push obj ∧ obj.ancOf = [] ∧
    ∀ (R : Ren) (w : World) (qs : Array (Nat × Value)), PartsR R ps qs.toList → ∃ ob u n', (Instr.buildSlice t n qs).run P w = .ok u (w.alloc ob) ∧
      ∀ Q k, R.le Q → Q.f k = some (w.heap.size, 0) → Q.sz w.heap.size = n' → VR Q (V k) u ∧ ObjR Q obj w.heap.size 0 (some ob) ∧ NoFz ob := by
  obtain ⟨ie, hie, h1⟩ := oo_inv h
  obtain ⟨z, hz, h2⟩ := oo_inv h1
  obtain ⟨hc, h3⟩ := bb_inv h2
  obtain ⟨cs, hcs, h4⟩ := oo_inv h3
  injection h4 with h4; injection h4 with e1 e2; subst e1; subst e2
  simp only [an_eq, len_eq, Bool.and_eq_true] at hc
  have c1 := Nat.le_of_ble_eq_true hc.1
  have c2 := Nat.eq_of_beq_eq_true hc.2
  obtain ⟨is, e, his, hd, hte⟩ := elemOf_some hie
  refine ⟨fun k => sliceAt k 0 ie.size n n true, .cells cs false false [], rfl, rfl, rfl, fun R w qs hps => ?_⟩
  have hu := hT.run_und his w
  rw [hd] at hu
  have hsz := hT.run_size hte w
  have hzr := hT.run_zero hte hz w
  have hpz := hT.plain _ _ _ hte hz
  have hzlen : z.cells.size = ie.size := by
    rw [← Array.length_toList, ← (cellsOf_plain (R := R) hpz).1]; exact c2
  have hzv : VRL R (zeroRow (cellsOf z) n) (zeroRow z.cells.toList n).toArray.toList := zeroRow_VRL (cellsOf_plain hpz) n
  obtain ⟨D, hD, hDl⟩ := lay_ok (place' := fun i => some (i * ie.size, ie.size)) (fun i q h => h) hps hcs hzv
  have hDlen : D.size = n * ie.size := by
    have := hDl.1
    have hlen : ∀ (place : Nat → Option (Nat × Nat)) (ps : List (Nat × Value)) (cells r : List Value), lay place ps cells = some r → r.length = cells.length := by
      intro place ps
      induction ps with
      | nil => intro cells r h; injection h with h; rw [h]
      | cons p ps ih =>
        intro cells r h
        have h : pp p (fun i v => oo (place i) none fun q => pp q fun off size => bb (an (nt (noCell v)) (an (Nat.beq (len (cellsOf v)) size) (Nat.ble (off + size) (len cells)))) (lay place ps (setL (cellsOf v) off cells)) none) = some r := h
        rw [pp_eta] at h
        obtain ⟨os, hos, h1⟩ := oo_inv h
        rw [pp_eta] at h1
        obtain ⟨hcond, h2⟩ := bb_inv h1
        obtain ⟨_, hcond⟩ := an_inv hcond
        simp only [an_eq, len_eq, Bool.and_eq_true] at hcond
        have k1 := Nat.eq_of_beq_eq_true hcond.1
        have k2 := Nat.le_of_ble_eq_true hcond.2
        rw [ih _ _ h2, setL_length _ _ _ (by rw [k1]; exact k2)]
    rw [← Array.length_toList, ← this, hlen _ _ _ _ hcs, zeroRow_length, c2]
  refine lays_cells (xs := cs) (ys := D.toList) hDl (u := .slice (some ⟨w.heap.size, 0, none⟩) n n) (t := e) ?_ fun Q k _ hk hsz => ?_
  · have hbig : ¬ (n * ie.size > 2 ^ 24) := by omega
    by_cases h0 : n * ie.size = 0
    · have hr := zero_range (z := z) (m := n) hzlen #[] (fun _ => rfl) (fun h => absurd h0 h)
      rw [h0] at hr
      rw [← hr] at hD
      simp [Instr.buildSlice, hu, hsz, hbig, h0] at hD ⊢
      simp [hD, newRow]
    · have hr := zero_range (z := z) (m := n) hzlen z.cells (fun h => absurd h h0) (fun _ => rfl)
      rw [← hr] at hD
      simp only [Instr.buildSlice, Sem.run_bind, hu, Result.andThen_ok, hsz, hbig, if_false, h0, hzr, Sem.run_pure, hD]
      simp [newRow]
  · have := VR.sl (R := Q) (off := 0) (sz := ie.size) (ln := n) (c2 := 2 * n + bb true 1 0) (cap := n) hk
      (by rw [sliceAt_half]; exact Nat.le_refl _) (by rw [sliceAt_half]; exact Nat.le_refl _) (fun _ => by rw [sliceAt_half]) (by rw [hsz]; simp [hDlen])
    simpa [sliceAt] using this

/-- The operations that lay a new block. -/
theorem lays_ok {call : CallF} {H H' : AHeap} {ρ : Operand → Value} {o : Oper} {v : Value} (h : aop o.op tt call ρ H = some (v, H')) (hn : newB o.op = true) :
    ∃ (V : Nat → Value) (obj : AObj), v = V H.next ∧ H' = H.push obj ∧ obj.ancOf = [] ∧ LaysNew P o ρ V obj := by
  obtain ⟨dst, op, ty, pos, after, guard⟩ := o
  cases op <;> first | (cases hn; done) | skip
  case alloc e =>
    obtain ⟨z, hz, h1⟩ := oo_inv (show oo (zeroOf tt e) none _ = _ from h)
    obtain ⟨i, hi, hiz⟩ := zeroOf_some hz
    injection h1 with h1; injection h1 with e1 e2; subst e1; subst e2
    refine ⟨fun k => .pointer (some ⟨k, 0, none⟩), .cells (cellsOf z) false false [], rfl, rfl, rfl, fun R w ρ' _ => ?_⟩
    have hzr := hT.run_zero hi hiz w
    have := lays_lift (lays_var (P := P) (w := w) e (cellsOf_plain (R := R) (hT.plain _ _ _ hi hiz)))
    simpa [execOp, Instr.alloc, hzr] using this
  case box e x =>
    obtain ⟨ht, h⟩ := bb_inv' (show bb (noCell (ρ x)) none (aalloc H (cellsOf (ρ x))) = some (v, H') from h)
    injection h with h; injection h with e1 e2; subst e1; subst e2
    refine ⟨fun k => .pointer (some ⟨k, 0, none⟩), .cells (cellsOf (ρ x)) false false [], rfl, rfl, rfl, fun R w ρ' hρ => ?_⟩
    exact lays_lift (lays_var (P := P) (w := w) e (cellsOf_VR (hρ x (by simp [Op.operands])) ht))
  case buildSlice t n ps =>
    obtain ⟨V, obj, e1, e2, e3, hh⟩ := lays_buildSlice hT (show abuildSlice tt H t n (partsOf ρ ps) = _ from h)
    exact ⟨V, obj, e1, e2, e3, fun R w ρ' hρ => lays_lift (hh R w _ (parts_ok (ps := ps) fun p hp => hρ p.2 (by simp [Op.operands]; exact ⟨p.1, Array.mem_toList_iff.1 hp⟩)))⟩
  case makeSlice t l c =>
    obtain ⟨V, obj, e1, e2, e3, hh⟩ := lays_makeSlice hT (show amakeSlice tt H t (ρ l) (ρ c) = _ from h)
    exact ⟨V, obj, e1, e2, e3, fun R w ρ' hρ => lays_lift (hh R w _ _ (hρ l (by simp [Op.operands])) (hρ c (by simp [Op.operands])))⟩
  case makeMap t r =>
    cases r with
    | some => cases h
    | none =>
      injection h with h; injection h with e1 e2; subst e1; subst e2
      refine ⟨fun k => .map (some k), .map [] 0, rfl, rfl, rfl, fun R w ρ' _ => lays_lift ⟨.map #[] 0, .map (some w.heap.size), 0, by simp [Instr.makeMap], fun Q k _ hk _ => ⟨.map hk, ⟨rfl, #[], rfl, rfl, by simp⟩, fun C t fz e => by cases e⟩⟩⟩
end
end Go.Sp
