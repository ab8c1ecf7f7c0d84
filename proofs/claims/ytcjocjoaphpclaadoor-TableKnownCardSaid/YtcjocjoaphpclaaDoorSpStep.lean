/- How the heap steps keep the relation: a new block, a write, a change of a map, a draw. -/
import Derived.Test.YtcjocjoaphpclaaDoorSpRel
namespace Go.Sp

theorem Sim.of_heap {H : AHeap} {R : Ren} {w w' : World} (h : Sim H R w) (e : w'.heap = w.heap) : Sim H R w' :=
  ⟨fun id c β h1 => by rw [e]; exact h.dom id c β h1, fun id c β h1 => by rw [e]; exact h.obj id c β h1, h.sep, h.anc, h.wf, fun c C h1 => by rw [e]; exact h.ro c C h1⟩
theorem frozen_of_heap {w w' : World} (e : w'.heap = w.heap) (a : Addr) : w'.frozen? a = w.frozen? a := by unfold World.frozen?; rw [e]
theorem frozen_of_rows {w w' : World} (h : ∀ c : Nat, (∀ C t fz, w.heap[c]? = some (.cells C t fz) → ∃ C' t', w'.heap[c]? = some (.cells C' t' fz)) ∧ ((∀ C t fz, w.heap[c]? ≠ some (.cells C t fz)) → ∀ C t fz, w'.heap[c]? = some (.cells C t fz) → fz = (0, 0))) (a : Addr) : w'.frozen? a = w.frozen? a := by
  obtain ⟨h1, h2⟩ := h a.block
  unfold World.frozen?
  cases hw : w.heap[a.block]? with
  | none =>
    cases hw' : w'.heap[a.block]? with
    | none => rfl
    | some o' =>
      cases o' with
      | cells C t fz => have := h2 (by rw [hw]; simp) C t fz hw'; subst this; simp
      | _ => rfl
  | some o =>
    cases o with
    | cells C t fz =>
      obtain ⟨C', t', e⟩ := h1 C t fz hw
      rw [e]
    | _ =>
      cases hw' : w'.heap[a.block]? with
      | none => rfl
      | some o' =>
        cases o' with
        | cells C t fz => have := h2 (by rw [hw]; simp) C t fz hw'; subst this; simp
        | _ => rfl
theorem frozen_alloc (w : World) {ob : Obj} (hob : ∀ C t fz, ob = .cells C t fz → fz = (0, 0)) (a : Addr) : (w.alloc ob).frozen? a = w.frozen? a := by
  refine frozen_of_rows (fun c => ?_) a
  rcases Nat.lt_trichotomy c w.heap.size with h | h | h
  · rw [show (w.alloc ob).heap[c]? = w.heap[c]? from by show (w.heap.push ob)[c]? = _; rw [Array.getElem?_push, if_neg (by omega)]]
    exact ⟨fun C t fz e => ⟨C, t, e⟩, fun hn C t fz e => absurd e (hn C t fz)⟩
  · subst h
    rw [show (w.alloc ob).heap[w.heap.size]? = some ob from by show (w.heap.push ob)[w.heap.size]? = _; simp]
    refine ⟨fun C t fz e => by simp at e, fun _ C t fz e => hob C t fz (by injection e)⟩
  · rw [show (w.alloc ob).heap[c]? = none from by show (w.heap.push ob)[c]? = _; rw [Array.getElem?_eq_none (by simp; omega)]]
    refine ⟨fun C t fz e => ?_, fun _ C t fz e => by cases e⟩
    rw [Array.getElem?_eq_none (by omega)] at e; cases e
theorem frozen_setRow (w : World) (g : Nat) (cs : Array Value) (a : Addr) : (w.setRow g cs).frozen? a = w.frozen? a := by
  refine frozen_of_rows (fun c => ?_) a
  have hm : (w.setRow g cs).heap[c]? = if g = c then (w.heap[c]?).map (fun | .cells _ elem frozen => .cells cs elem frozen | o => o) else w.heap[c]? := by
    show (w.heap.modify g _)[c]? = _
    rw [Array.getElem?_modify]
    by_cases hgc : g = c
    · rw [if_pos hgc, if_pos hgc]
      cases w.heap[c]? with
      | none => rfl
      | some o => cases o <;> rfl
    · rw [if_neg hgc, if_neg hgc]
  rw [hm]
  split
  · cases hw : w.heap[c]? with
    | none => exact ⟨fun C t fz e => by simp at e, fun _ C t fz e => by simp at e⟩
    | some o =>
      cases o with
      | cells C t fz => exact ⟨fun C' t' fz' e => ⟨cs, t', by simp at e ⊢; obtain ⟨_, e2, e3⟩ := e; exact ⟨e2, e3⟩⟩, fun hn => absurd rfl (hn C t fz)⟩
      | _ => exact ⟨fun C t fz e => by simp at e, fun _ C t fz e => by simp at e⟩
  · exact ⟨fun C t fz e => ⟨C, t, e⟩, fun hn C t fz e => absurd e (hn C t fz)⟩
theorem frozen_setMap {w : World} {c : Nat} {es es' : Array MapEntry} {cl cl' : Nat} (h : w.heap[c]? = some (.map es cl)) (a : Addr) : World.frozen? { w with heap := w.heap.setIfInBounds c (.map es' cl') } a = w.frozen? a := by
  refine frozen_of_rows (fun k => ?_) a
  show (∀ C t fz, _ → ∃ C' t', (w.heap.setIfInBounds c (.map es' cl'))[k]? = _) ∧ (_ → ∀ C t fz, (w.heap.setIfInBounds c (.map es' cl'))[k]? = _ → _)
  rw [Array.getElem?_setIfInBounds]
  by_cases hk : c = k
  · subst hk
    rw [if_pos rfl, h]
    exact ⟨fun C t fz e => by simp at e, fun _ C t fz e => by split at e <;> simp at e⟩
  · rw [if_neg hk]
    exact ⟨fun C t fz e => ⟨C, t, e⟩, fun hn C t fz e => absurd e (hn C t fz)⟩
theorem Post.of_heap {H H' : AHeap} {R R' : Ren} {w w' w2 : World} (h : Post H R w H' R' w') (e : w2.heap = w'.heap) (e1 : w2.os = w'.os) (e2 : w2.output = w'.output) : Post H R w H' R' w2 :=
  ⟨h.le, h.new, h.sim.of_heap e, h.next, by rw [e]; exact h.grow, fun c hc hall => by rw [e]; exact h.frame c hc hall, h.calm, h.imm, h.fresh, ⟨e1.trans h.side.1, e2.trans h.side.2.1, fun a => (frozen_of_heap e a).trans (h.side.2.2 a)⟩, h.rofresh⟩
theorem Post.from_heap {H H' : AHeap} {R R' : Ren} {w w' w0 : World} (h : Post H R w0 H' R' w') (e : w0.heap = w.heap) (e1 : w0.os = w.os) (e2 : w0.output = w.output) : Post H R w H' R' w' :=
  ⟨h.le, h.new, h.sim, h.next, by rw [← e]; exact h.grow, fun c hc hall => by rw [← e]; exact h.frame c (by rw [e]; exact hc) hall, h.calm, h.imm, fun id c β h1 h2 => by rw [← e]; exact h.fresh id c β h1 h2, ⟨h.side.1.trans e1, h.side.2.1.trans e2, fun a => (h.side.2.2 a).trans (frozen_of_heap e a)⟩, fun c C h1 => by rw [← e]; exact h.rofresh c C h1⟩

def Ren.ext (R : Ren) (id c β n : Nat) : Ren := ⟨fun i => if i = id then some (c, β) else R.f i, fun k => if k = c then n else R.sz k, R.ro⟩
theorem Ren.ext_new (R : Ren) (id c β n : Nat) : (R.ext id c β n).f id = some (c, β) := by simp [Ren.ext]
theorem Ren.ext_sz (R : Ren) (id c β n : Nat) : (R.ext id c β n).sz c = n := by simp [Ren.ext]
theorem Ren.ext_other (R : Ren) {id c β n i : Nat} (h : i ≠ id) : (R.ext id c β n).f i = R.f i := by simp [Ren.ext, h]

theorem heap_alloc_lt (w : World) (o : Obj) {c : Nat} (h : c < w.heap.size) : (w.alloc o).heap[c]? = w.heap[c]? := by
  show (w.heap.push o)[c]? = _
  rw [Array.getElem?_push, if_neg (by omega)]
theorem heap_alloc_at (w : World) (o : Obj) : (w.alloc o).heap[w.heap.size]? = some o := by
  show (w.heap.push o)[w.heap.size]? = _
  simp

theorem Sim.none_of_next {H : AHeap} {R : Ren} {w : World} (h : Sim H R w) : R.f H.next = none := by
  cases hr : R.f H.next with
  | none => rfl
  | some q => have := (h.dom H.next q.1 q.2 hr).1; omega

/-- A new block. -/
theorem post_push {H : AHeap} {R : Ren} {w : World} {o : AObj} {ob : Obj} (n : Nat) (hs : Sim H R w) (hob : ∀ C t fz, ob = .cells C t fz → fz = (0, 0))
    (hanc : ∀ a, a ∈ o.ancOf → a < H.next ∧ (H.get a).immB = false ∧ (H.get a).writable = false) (hR : ∀ R', R.le R' → R'.sz w.heap.size = n → ObjR R' o w.heap.size 0 (some ob)) :
    Post H R w (H.push o) (R.ext H.next w.heap.size 0 n) (w.alloc ob) := by
  have hnone := hs.none_of_next
  have hle : R.le (R.ext H.next w.heap.size 0 n) := ⟨fun id c β h => by
    have hd := hs.dom id c β h
    refine ⟨?_, ?_⟩
    · rw [Ren.ext_other]; exact h; omega
    · simp [Ren.ext]; omega, fun _ _ h => h⟩
  have back : ∀ id p, (R.ext H.next w.heap.size 0 n).f id = some p → (id = H.next ∧ p = (w.heap.size, 0)) ∨ (id ≠ H.next ∧ R.f id = some p) := fun id p h => by
    by_cases hid : id = H.next
    · subst hid; rw [Ren.ext_new] at h; exact .inl ⟨rfl, by injection h with h; exact h.symm⟩
    · rw [Ren.ext_other _ hid] at h; exact .inr ⟨hid, h⟩
  have hget : ∀ id, id ≠ H.next → (H.push o).get id = H.get id := fun id h => by rw [AHeap.get_push, if_neg (Ne.symm h)]
  refine ⟨hle, ?_, ⟨?_, ?_, ?_, ?_, hs.wf.push o, fun c C hc => ?_⟩, by simp, by simp, ?_, ?_, ?_, ?_, ⟨rfl, rfl, frozen_alloc w hob⟩, fun _ _ h => .inl h⟩
  · intro id p h
    rcases back id p h with ⟨rfl, _⟩ | ⟨_, h'⟩
    · exact .inr ⟨hnone, Nat.le_refl _⟩
    · exact .inl h'
  · intro id c β h
    rcases back id _ h with ⟨rfl, hp⟩ | ⟨_, h'⟩
    · cases hp; simp
    · have := hs.dom id c β h'; simp; omega
  · intro id c β h
    rcases back id _ h with ⟨rfl, hp⟩ | ⟨hid, h'⟩
    · cases hp
      rw [AHeap.get_push, if_pos rfl, heap_alloc_at]
      exact hR _ hle (Ren.ext_sz _ _ _ _ _)
    · have hd := hs.dom id c β h'
      rw [hget id hid, heap_alloc_lt _ _ hd.2]
      exact (hs.obj id c β h').mono hle (hle id c β h').2
  · intro id c β id' β' h h' hne hw
    rcases back id _ h with ⟨rfl, hp⟩ | ⟨hid, h1⟩
    · cases hp
      rcases back id' _ h' with ⟨rfl, hp'⟩ | ⟨hid', h1'⟩
      · exact absurd rfl hne
      · have := (hs.dom id' _ _ h1').2; omega
    · rcases back id' _ h' with ⟨rfl, hp'⟩ | ⟨hid', h1'⟩
      · cases hp'; have := (hs.dom id _ _ h1).2; omega
      · rw [hget id hid] at hw ⊢
        rw [hget id' hid']
        exact hs.sep id c β id' β' h1 h1' hne hw
  · intro id a ha
    have key : a < H.next ∧ (H.get a).immB = false ∧ (H.get a).writable = false := by
      by_cases hid : id = H.next
      · subst hid; rw [AHeap.get_push, if_pos rfl] at ha; exact hanc a ha
      · rw [hget id hid] at ha; exact hs.anc id a ha
    rw [hget a (by omega)]
    exact ⟨by simp; omega, key.2⟩
  · obtain ⟨⟨t, fz, h1⟩, h2⟩ := hs.ro c C hc
    have hlt := (Array.getElem?_eq_some_iff.1 h1).1
    refine ⟨⟨t, fz, by rw [heap_alloc_lt _ _ hlt]; exact h1⟩, fun id β h => ?_⟩
    rcases back id _ h with ⟨rfl, hp⟩ | ⟨hid, h'⟩
    · cases hp; omega
    · rw [hget id hid]; exact h2 id β h'
  · intro c hc _; exact heap_alloc_lt _ _ hc
  · intro id hid _; rw [hget id (by omega)]; exact fun _ _ _ _ h => h
  · intro id hid _; exact hget id (by omega)
  · intro id c β h hr
    rcases back id _ h with ⟨rfl, hp⟩ | ⟨_, h1⟩
    · cases hp; exact .inl (Nat.le_refl _)
    · rw [h1] at hr; cases hr

theorem cellsR_of_VRL {R : Ren} {xs ys : List Value} (h : VRL R xs ys) (ext : List Value) : CellsR R xs 0 (ys ++ ext).toArray := fun i x hx => by
  obtain ⟨y, hy, hv⟩ := h.get hx
  refine ⟨y, ?_, hv⟩
  have hi : i < ys.length := (List.getElem?_eq_some_iff.1 hy).1
  simp [List.getElem?_append_left hi, hy]

theorem post_cells {H : AHeap} {R : Ren} {w : World} {xs ys : List Value} (t : TypeId) (ext : List Value) (imm : Bool) (hs : Sim H R w) (h : VRL R xs ys) (spent : Bool) (anc : List Nat) (hanc : ∀ a, a ∈ anc → a < H.next ∧ (H.get a).immB = false ∧ (H.get a).writable = false) :
    Post H R w (H.push (.cells xs imm spent anc)) (R.ext H.next w.heap.size 0 (ys ++ ext).length) (w.alloc (.cells (ys ++ ext).toArray t)) :=
  post_push _ hs (fun C t fz e => by injection e with _ _ e; exact e.symm) hanc fun R' hle hsz => ⟨(ys ++ ext).toArray, t, (0, 0), rfl, by rw [hsz]; simp, by simp [h.1], cellsR_of_VRL (h.mono hle) ext, fun _ => rfl⟩

theorem setRow_size (w : World) (g : Nat) (cs : Array Value) : (w.setRow g cs).heap.size = w.heap.size := by simp [World.setRow]

theorem oneCell_of {R : Ren} {x y : Value} (h : VR R x y) (hx : scalarB x = true) : y.oneCell' = true := by
  cases h <;> first | rfl | (simp [scalarB, vv] at hx; done) | (cases hx)
theorem oneCells_of {R : Ren} {xs ys : List Value} (h : VRL R xs ys) (hx : xs.all scalarB = true) : ∀ v ∈ ys, v.oneCell' = true := fun v hv => by
  obtain ⟨i, hi⟩ := List.mem_iff_getElem?.1 hv
  have hl : i < xs.length := by rw [h.1]; exact (List.getElem?_eq_some_iff.1 hi).1
  have hxi : xs[i]? = some xs[i] := List.getElem?_eq_getElem hl
  exact oneCell_of (h.2 i _ v hxi hi) (List.all_eq_true.1 hx _ (List.mem_of_getElem? hxi))

theorem awrite_some {H H' : AHeap} {id off : Nat} {ys : List Value} (h : awrite H id off ys = some H') :
    ∃ xs anc, H.get id = .cells xs false false anc ∧ off + ys.length ≤ xs.length ∧ ys.all scalarB = true ∧ H' = (H.kill anc).set id (.cells (setL ys off xs) false false []) := by
  unfold awrite at h
  cases ho : H.get id with
  | cells xs imm spent anc =>
    simp only [ho, oCells, oo_some, an_eq, nt_eq, len_eq, allL_eq, bb_eq] at h
    split at h
    · rename_i hc
      simp only [Bool.and_eq_true, Bool.not_eq_true'] at hc
      obtain ⟨hi, hsp, hle, hall⟩ := hc
      subst hi; subst hsp
      injection h with h
      exact ⟨xs, anc, rfl, Nat.le_of_ble_eq_true hle, hall, h.symm⟩
    · cases h
  | map es c => simp [ho, oCells] at h
  | iter => simp [ho, oCells] at h
  | dead => simp [ho, oCells] at h

/-- A write into a block: the family's elders are gone. -/
theorem post_write {H H' : AHeap} {R : Ren} {w : World} {id off c β : Nat} {ys zs : List Value} (hs : Sim H R w) (hw : awrite H id off ys = some H') (hid : R.f id = some (c, β)) (hz : VRL R ys zs) :
    ∃ C t, w.heap[c]? = some (.cells C t (0, 0)) ∧ β + off + zs.length ≤ C.size ∧ (∀ v ∈ zs, v.oneCell' = true) ∧
      Post H R w H' R (w.setRow c (C.toList.take (β + off) ++ zs ++ C.toList.drop (β + off + zs.length)).toArray) := by
  obtain ⟨xs, anc, hg, hle, hsc, rfl⟩ := awrite_some hw
  have hob := hs.obj id c β hid
  rw [hg] at hob
  obtain ⟨C, t, fz, hC, hsz, hfit, hcells, hfz⟩ := hob
  have hfz := hfz rfl
  subst hfz
  have hzl := hz.1
  have hd := hs.dom id c β hid
  refine ⟨C, t, hC, by omega, oneCells_of hz hsc, Ren.le_refl R, fun i p h => .inl h, ⟨?_, ?_, ?_, ?_, (hs.wf.kill anc).set (by simpa using hd.1) _, fun c' C' hc' => ?_⟩, by simp, by rw [setRow_size]; exact Nat.le_refl _, ?_, ?_, ?_, fun i c' β' h h' => (by rw [h] at h'; cases h'), ⟨rfl, rfl, frozen_setRow w c _⟩, fun _ _ h => .inl h⟩
  · intro i c' β' h
    have := hs.dom i c' β' h
    rw [setRow_size]; simpa using this
  · intro i c' β' h
    have hnew : (C.toList.take (β + off) ++ zs ++ C.toList.drop (β + off + zs.length)).toArray.size = C.size := by simp; omega
    by_cases hi : i = id
    · subst hi
      rw [hid] at h; cases h
      rw [AHeap.get_set, if_pos rfl, setRow_heap w c C _ t (0, 0) hC]
      refine ⟨_, t, (0, 0), rfl, by rw [hnew, hsz], by rw [hnew, setL_length _ _ _ hle]; exact hfit, ?_, fun _ => rfl⟩
      intro j x hx
      rw [setL_get _ _ _ hle] at hx
      split at hx
      · rename_i hj
        obtain ⟨y, hy, hv⟩ := hz.get hx
        refine ⟨y, ?_, hv⟩
        simp only [List.getElem?_toArray]
        rw [List.append_assoc, List.getElem?_append_right (by simp; omega), List.getElem?_append_left (by simp; omega)]
        rw [← hy]; congr 1; simp; omega
      · rename_i hj
        obtain ⟨y, hy, hv⟩ := hcells j x hx
        refine ⟨y, ?_, hv⟩
        simp only [List.getElem?_toArray]
        have hjx : j < xs.length := (List.getElem?_eq_some_iff.1 hx).1
        by_cases hlt : j < off
        · rw [List.append_assoc, List.getElem?_append_left (by simp; omega), List.getElem?_take_of_lt (by omega)]
          simpa using hy
        · rw [List.getElem?_append_right (by simp; omega), List.getElem?_drop]
          rw [← hy]
          simp only [Array.getElem?_toList]
          congr 1; simp; omega
    · by_cases hc : c' = c
      · subst hc
        have hsep := hs.sep id c' β i β' hid h (Ne.symm hi) (by rw [hg]; rfl)
        have hdead : ((H.kill anc).set id (.cells (setL ys off xs) false false [])).get i = .dead := by
          rw [AHeap.get_set, if_neg (Ne.symm hi), AHeap.get_kill]
          rcases hsep with h1 | ⟨h1, _⟩
          · split
            · rfl
            · exact h1
          · have h1 : i ∈ anc := by rw [hg] at h1; exact h1
            rw [if_pos h1]
        rw [hdead]; trivial
      · rw [setRow_other _ _ _ _ hc, AHeap.get_set, if_neg (Ne.symm hi), AHeap.get_kill]
        split
        · trivial
        · exact hs.obj i c' β' h
  · intro i c' β' i' β'' h h' hne hwr
    have hgi : ∀ j, j ≠ id → ((H.kill anc).set id (.cells (setL ys off xs) false false [])).get j = if j ∈ anc then .dead else H.get j := fun j hj => by rw [AHeap.get_set, if_neg (Ne.symm hj), AHeap.get_kill]
    by_cases hi : i = id
    · subst hi
      rw [hgi i' (Ne.symm hne)]
      have hsep := hs.sep i c' β' i' β'' h h' hne (by rw [hg]; rfl)
      rcases hsep with h1 | ⟨h1, _⟩
      · left; split
        · rfl
        · exact h1
      · left
        have h1 : i' ∈ anc := by rw [hg] at h1; exact h1
        rw [if_pos h1]
    · rw [hgi i hi] at hwr ⊢
      by_cases ha : i ∈ anc
      · rw [if_pos ha] at hwr; simp [AObj.writable] at hwr
      · rw [if_neg ha] at hwr ⊢
        have hsep := hs.sep i c' β' i' β'' h h' hne hwr
        by_cases hi' : i' = id
        · subst hi'
          rcases hsep with h1 | ⟨h1, h2⟩
          · rw [hg] at h1; cases h1
          · right
            refine ⟨h1, ?_⟩
            rw [AHeap.get_set, if_pos rfl]
            rw [hg] at h2
            simpa [AObj.size, setL_length _ _ _ hle] using h2
        · rw [hgi i' hi']
          rcases hsep with h1 | ⟨h1, h2⟩
          · left; split
            · rfl
            · exact h1
          · by_cases ha' : i' ∈ anc
            · left; rw [if_pos ha']
            · right; rw [if_neg ha']; exact ⟨h1, h2⟩
  · intro i a ha
    have key : a < H.next ∧ (H.get a).immB = false ∧ (H.get a).writable = false := by
      rw [AHeap.get_set] at ha
      split at ha
      · simp [AObj.ancOf] at ha
      · rw [AHeap.get_kill] at ha
        split at ha
        · simp [AObj.ancOf] at ha
        · exact hs.anc i a ha
    refine ⟨by simpa using key.1, ?_⟩
    rw [AHeap.get_set]
    split
    · rename_i he; subst he; have := key.2.2; rw [hg] at this; cases this
    · rw [AHeap.get_kill]; split
      · exact ⟨rfl, rfl⟩
      · exact key.2
  · obtain ⟨⟨t', fz', h1⟩, h2⟩ := hs.ro c' C' hc'
    have hne : c' ≠ c := fun e => by subst e; have := h2 id β hid; rw [hg] at this; cases this
    refine ⟨⟨t', fz', by rw [setRow_other _ _ _ _ hne]; exact h1⟩, fun i β' h => ?_⟩
    have := h2 i β' h
    rw [AHeap.get_set]
    split
    · rename_i he; subst he; rw [hg] at this; cases this
    · rw [AHeap.get_kill]; split
      · rfl
      · exact this
  · intro c' hc' hall
    by_cases h : c' = c
    · subst h
      have := hall id β hid
      rw [hg] at this; cases this
    · exact setRow_other _ _ _ _ h
  · intro i hi hr
    by_cases h : i = id
    · subst h; rw [hid] at hr; cases hr
    · rw [AHeap.get_set, if_neg (Ne.symm h), AHeap.get_kill]
      split
      · exact fun _ _ _ _ _ => trivial
      · exact fun _ _ _ _ h => h
  · intro i hi him
    by_cases h : i = id
    · subst h; rw [hg] at him; cases him
    · rw [AHeap.get_set, if_neg (Ne.symm h), AHeap.get_kill]
      split
      · rename_i hin
        have := (hs.anc id i (by rw [hg]; exact hin)).2.1
        rw [him] at this; cases this
      · rfl

/-- A map changed. -/
theorem post_map {H : AHeap} {R : Ren} {w : World} {id c clock clock' : Nat} {es es' : List Ent} {Es' : Array MapEntry} (hs : Sim H R w) (hg : H.get id = .map es clock) (hid : R.f id = some (c, 0)) (hE : EntsR R es' Es'.toList) :
    Post H R w (H.set id (.map es' clock')) R { w with heap := w.heap.setIfInBounds c (.map Es' clock') } := by
  have hd := hs.dom id c 0 hid
  have hother : ∀ j, j ≠ id → (H.set id (.map es' clock')).get j = H.get j := fun j hj => by rw [AHeap.get_set, if_neg (Ne.symm hj)]
  have hself : (H.set id (.map es' clock')).get id = .map es' clock' := by rw [AHeap.get_set, if_pos rfl]
  obtain ⟨Es0, hmap⟩ : ∃ Es0, w.heap[c]? = some (.map Es0 clock) := by
    have h9 := hs.obj id c 0 hid
    rw [hg] at h9
    obtain ⟨_, Es0, h10, _⟩ := h9
    exact ⟨Es0, h10⟩
  have hheap : ∀ k, k ≠ c → (w.heap.setIfInBounds c (.map Es' clock'))[k]? = w.heap[k]? := fun k hk => by rw [Array.getElem?_setIfInBounds_ne (Ne.symm hk)]
  refine ⟨Ren.le_refl R, fun i p h => .inl h, ⟨?_, ?_, ?_, ?_, hs.wf.set hd.1 _, fun c' C' hc' => ?_⟩, by simp, by simp, ?_, ?_, ?_, fun i c' β' h h' => (by rw [h] at h'; cases h'), ⟨rfl, rfl, frozen_setMap hmap⟩, fun _ _ h => .inl h⟩
  · intro i c' β' h
    have := hs.dom i c' β' h
    simpa using this
  · intro i c' β' h
    show ObjR R _ c' β' (w.heap.setIfInBounds c (.map Es' clock'))[c']?
    by_cases hi : i = id
    · subst hi
      rw [hid] at h; cases h
      rw [hself]
      refine ⟨rfl, Es', ?_, hE⟩
      simp [hd.2]
    · rw [hother i hi]
      by_cases hc : c' = c
      · subst hc
        have hsep := hs.sep id c' 0 i β' hid h (Ne.symm hi) (by rw [hg]; rfl)
        rcases hsep with h1 | ⟨h1, _⟩
        · rw [h1]; trivial
        · rw [hg] at h1; cases h1
      · rw [hheap c' hc]; exact hs.obj i c' β' h
  · intro i c' β' i' β'' h h' hne hwr
    by_cases hi : i = id
    · subst hi
      have hsep := hs.sep i c' β' i' β'' h h' hne (by rw [hg]; rfl)
      rw [hother i' (Ne.symm hne)]
      rcases hsep with h1 | ⟨h1, _⟩
      · exact .inl h1
      · rw [hg] at h1; cases h1
    · rw [hother i hi] at hwr ⊢
      have hsep := hs.sep i c' β' i' β'' h h' hne hwr
      by_cases hi' : i' = id
      · subst hi'
        rcases hsep with h1 | ⟨h1, h2⟩
        · rw [hg] at h1; cases h1
        · right
          refine ⟨h1, ?_⟩
          rw [hself]
          rw [hg] at h2
          exact h2
      · rw [hother i' hi']; exact hsep
  · intro i a ha
    have key : a < H.next ∧ (H.get a).immB = false ∧ (H.get a).writable = false := by
      by_cases hi : i = id
      · subst hi; rw [hself] at ha; cases ha
      · rw [hother i hi] at ha; exact hs.anc i a ha
    refine ⟨by simpa using key.1, ?_⟩
    by_cases ha' : a = id
    · subst ha'; have := key.2.2; rw [hg] at this; cases this
    · rw [hother a ha']; exact key.2
  · obtain ⟨⟨t', fz', h1⟩, h2⟩ := hs.ro c' C' hc'
    have hne : c' ≠ c := fun e => by subst e; have := h2 id 0 hid; rw [hg] at this; cases this
    refine ⟨⟨t', fz', ?_⟩, fun i β' h => ?_⟩
    · show (w.heap.setIfInBounds c (.map Es' clock'))[c']? = _
      rw [hheap c' hne]; exact h1
    · have := h2 i β' h
      by_cases hi : i = id
      · subst hi; rw [hg] at this; cases this
      · rw [hother i hi]; exact this
  · intro c' hc' hall
    show (w.heap.setIfInBounds c (.map Es' clock'))[c']? = _
    by_cases h : c' = c
    · subst h; have := hall id 0 hid; rw [hg] at this; cases this
    · exact hheap c' h
  · intro i hi hr
    by_cases h : i = id
    · subst h; rw [hid] at hr; cases hr
    · rw [hother i h]; exact fun _ _ _ _ h => h
  · intro i hi him
    by_cases h : i = id
    · subst h; rw [hg] at him; cases him
    · exact hother i h

/-- A block that is appended to is spent. -/
theorem post_spend {H : AHeap} {R : Ren} {w : World} {id : Nat} {xs : List Value} {anc : List Nat} (hs : Sim H R w) (hg : H.get id = .cells xs false false anc) :
    Post H R w (H.set id (.cells xs false true anc)) R w := by
  have hother : ∀ j, j ≠ id → (H.set id (.cells xs false true anc)).get j = H.get j := fun j hj => by rw [AHeap.get_set, if_neg (Ne.symm hj)]
  have hself : (H.set id (.cells xs false true anc)).get id = .cells xs false true anc := by rw [AHeap.get_set, if_pos rfl]
  refine ⟨Ren.le_refl R, fun i p h => .inl h, ⟨?_, ?_, ?_, ?_, hs.wf.set (hs.wf.lt (by rw [hg]; simp)) _, fun c' C' hc' => ⟨(hs.ro c' C' hc').1, fun i β' h => ?_⟩⟩, by simp, Nat.le_refl _, fun _ _ _ => rfl, ?_, ?_, fun i c' β' h h' => (by rw [h] at h'; cases h'), ⟨rfl, rfl, fun _ => rfl⟩, fun _ _ h => .inl h⟩
  · intro i c' β' h
    have := hs.dom i c' β' h
    simpa using this
  · intro i c' β' h
    by_cases hi : i = id
    · subst hi
      have := hs.obj i c' β' h
      rw [hg] at this
      rw [hself]
      exact this
    · rw [hother i hi]; exact hs.obj i c' β' h
  · intro i c' β' i' β'' h h' hne hwr
    by_cases hi : i = id
    · subst hi; rw [hself] at hwr; cases hwr
    · rw [hother i hi] at hwr ⊢
      have hsep := hs.sep i c' β' i' β'' h h' hne hwr
      by_cases hi' : i' = id
      · subst hi'
        rcases hsep with h1 | ⟨h1, h2⟩
        · rw [hg] at h1; cases h1
        · right
          refine ⟨h1, ?_⟩
          rw [hself]
          rw [hg] at h2
          exact h2
      · rw [hother i' hi']; exact hsep
  · intro i a ha
    have key : a < H.next ∧ (H.get a).immB = false ∧ (H.get a).writable = false := by
      by_cases hi : i = id
      · subst hi; rw [hself] at ha; exact hs.anc i a (by rw [hg]; exact ha)
      · rw [hother i hi] at ha; exact hs.anc i a ha
    refine ⟨by simpa using key.1, ?_⟩
    by_cases ha' : a = id
    · subst ha'; rw [hself]; exact ⟨rfl, rfl⟩
    · rw [hother a ha']; exact key.2
  · by_cases hi : i = id
    · subst hi; rw [hself]; rfl
    · rw [hother i hi]; exact (hs.ro c' C' hc').2 i β' h
  · intro i hi hr
    by_cases h : i = id
    · subst h; rw [hself, hg]; exact fun _ _ _ _ h => h
    · rw [hother i h]; exact fun _ _ _ _ h => h
  · intro i hi him
    by_cases h : i = id
    · subst h; rw [hg] at him; cases him
    · exact hother i h

/-- An append in place, behind what the block holds. -/
theorem post_tip {H : AHeap} {R : Ren} {w : World} {id off c β : Nat} {xs ys zs : List Value} {anc : List Nat} (hs : Sim H R w) (hg : H.get id = .cells xs false false anc) (hid : R.f id = some (c, β))
    (hoff : off ≤ xs.length) (hz : VRL R ys zs) {C : Array Value} {t : TypeId} (hC : w.heap[c]? = some (.cells C t (0, 0))) (hfit : β + xs.length + zs.length ≤ C.size) :
    Post H R w ((H.set id (.cells xs false true anc)).push (.cells (xs.drop off ++ ys) false false (id :: anc))) (R.ext H.next c (β + off) (R.sz c))
      (w.setRow c (C.toList.take (β + xs.length) ++ zs ++ C.toList.drop (β + xs.length + zs.length)).toArray) := by
  have hnone := hs.none_of_next
  have hd := hs.dom id c β hid
  have hob := hs.obj id c β hid
  rw [hg] at hob
  obtain ⟨C', t', fz, hC', hsz, hfitx, hcells, hfz⟩ := hob
  rw [hC] at hC'; cases hC'
  have hsame : ∀ k, (R.ext H.next c (β + off) (R.sz c)).sz k = R.sz k := fun k => by simp only [Ren.ext]; split <;> simp_all
  have hle : R.le (R.ext H.next c (β + off) (R.sz c)) := ⟨fun i c' β' h => ⟨by rw [Ren.ext_other]; exact h; have := (hs.dom i c' β' h).1; omega, hsame _⟩, fun _ _ h => h⟩
  have back : ∀ i p, (R.ext H.next c (β + off) (R.sz c)).f i = some p → (i = H.next ∧ p = (c, β + off)) ∨ (i ≠ H.next ∧ R.f i = some p) := fun i p h => by
    by_cases hi : i = H.next
    · subst hi; rw [Ren.ext_new] at h; exact .inl ⟨rfl, by injection h with h; exact h.symm⟩
    · rw [Ren.ext_other _ hi] at h; exact .inr ⟨hi, h⟩
  have hnext : ((H.set id (.cells xs false true anc)).push (.cells (xs.drop off ++ ys) false false (id :: anc))).get H.next = .cells (xs.drop off ++ ys) false false (id :: anc) := by
    rw [AHeap.get_push, if_pos (by simp)]
  have hget : ∀ i, i ≠ H.next → i ≠ id → ((H.set id (.cells xs false true anc)).push (.cells (xs.drop off ++ ys) false false (id :: anc))).get i = H.get i := fun i h1 h2 => by
    rw [AHeap.get_push, if_neg (by simp; exact Ne.symm h1), AHeap.get_set, if_neg (Ne.symm h2)]
  have hself : ((H.set id (.cells xs false true anc)).push (.cells (xs.drop off ++ ys) false false (id :: anc))).get id = .cells xs false true anc := by
    rw [AHeap.get_push, if_neg (by simp; omega), AHeap.get_set, if_pos rfl]
  have hnew : (C.toList.take (β + xs.length) ++ zs ++ C.toList.drop (β + xs.length + zs.length)).toArray.size = C.size := by simp; omega
  have hzl := hz.1
  have keepCell : ∀ k, k < β + xs.length → (C.toList.take (β + xs.length) ++ zs ++ C.toList.drop (β + xs.length + zs.length)).toArray[k]? = C[k]? := fun k hk => by
    simp only [List.getElem?_toArray]
    rw [List.append_assoc, List.getElem?_append_left (by simp; omega), List.getElem?_take_of_lt (by omega)]
    simp
  refine ⟨hle, ?_, ⟨?_, ?_, ?_, ?_, (hs.wf.set hd.1 _).push _, fun c' C' hc' => ?_⟩, by simp, by rw [setRow_size]; exact Nat.le_refl _, ?_, ?_, ?_, ?_, ⟨rfl, rfl, frozen_setRow w c _⟩, fun _ _ h => .inl h⟩
  · intro i p h
    rcases back i p h with ⟨rfl, _⟩ | ⟨_, h'⟩
    · exact .inr ⟨hnone, Nat.le_refl _⟩
    · exact .inl h'
  · intro i c' β' h
    rw [setRow_size]
    rcases back i _ h with ⟨rfl, hp⟩ | ⟨_, h'⟩
    · cases hp; simp; exact hd.2
    · have := hs.dom i c' β' h'; simp; omega
  · intro i c' β' h
    rcases back i _ h with ⟨rfl, hp⟩ | ⟨hi, h'⟩
    · cases hp
      rw [hnext, setRow_heap w c C _ t (0, 0) hC]
      refine ⟨_, t, (0, 0), rfl, by rw [hnew, hsame, hsz], by rw [hnew]; simp; omega, ?_, fun _ => rfl⟩
      intro j x hx
      by_cases hj : j < xs.length - off
      · rw [List.getElem?_append_left (by simp; exact hj), List.getElem?_drop] at hx
        obtain ⟨y, hy, hv⟩ := hcells (off + j) x hx
        refine ⟨y, ?_, hv.mono hle⟩
        rw [show β + off + j = β + (off + j) by omega, keepCell _ (by omega)]
        exact hy
      · rw [List.getElem?_append_right (by simp; omega)] at hx
        obtain ⟨y, hy, hv⟩ := hz.get hx
        refine ⟨y, ?_, hv.mono hle⟩
        have hjy : j - (List.drop off xs).length < zs.length := (List.getElem?_eq_some_iff.1 hy).1
        simp at hjy
        simp only [List.getElem?_toArray]
        rw [List.append_assoc, List.getElem?_append_right (by simp; omega), List.getElem?_append_left (by simp; omega), ← hy]
        congr 1; simp; omega
    · by_cases hii : i = id
      · subst hii
        rw [hid] at h'; cases h'
        rw [hself, setRow_heap w c C _ t (0, 0) hC]
        refine ⟨_, t, (0, 0), rfl, by rw [hnew, hsame, hsz], by rw [hnew]; exact hfitx, ?_, fun _ => rfl⟩
        intro j x hx
        obtain ⟨y, hy, hv⟩ := hcells j x hx
        have hjx : j < xs.length := (List.getElem?_eq_some_iff.1 hx).1
        exact ⟨y, by rw [keepCell _ (by omega)]; exact hy, hv.mono hle⟩
      · rw [hget i hi hii]
        by_cases hc : c' = c
        · subst hc
          have hsep := hs.sep id c' β i β' hid h' (Ne.symm hii) (by rw [hg]; rfl)
          rcases hsep with h1 | ⟨h1, h2⟩
          · rw [h1]; trivial
          · have ho := hs.obj i c' β' h'
            rw [setRow_heap w c' C _ t (0, 0) hC]
            cases hgi : H.get i with
            | dead => trivial
            | cells xs' imm' sp' anc' =>
              rw [hgi] at ho
              obtain ⟨C1, t1, fz1, hC1, hsz1, hfit1, hcells1, hfz1⟩ := ho
              rw [hC] at hC1; cases hC1
              rw [hgi, hg] at h2
              simp only [AObj.size] at h2
              refine ⟨_, t, (0, 0), rfl, by rw [hnew, hsame, hsz1], by rw [hnew]; exact hfit1, ?_, fun _ => rfl⟩
              intro j x hx
              obtain ⟨y, hy, hv⟩ := hcells1 j x hx
              have hjx : j < xs'.length := (List.getElem?_eq_some_iff.1 hx).1
              exact ⟨y, by rw [keepCell _ (by omega)]; exact hy, hv.mono hle⟩
            | map es cl => rw [hgi] at ho; obtain ⟨_, Es, h3, _⟩ := ho; rw [hC] at h3; cases h3
            | iter => rw [hgi] at ho; exact ho.elim
        · rw [setRow_other _ _ _ _ hc]
          exact (hs.obj i c' β' h').mono hle (hsame _)
  · intro i c' β' i' β'' h h' hne hwr
    rcases back i _ h with ⟨rfl, hp⟩ | ⟨hi, h1⟩
    · cases hp
      rw [hnext]
      rcases back i' _ h' with ⟨rfl, _⟩ | ⟨hi', h1'⟩
      · exact absurd rfl hne
      · by_cases hii : i' = id
        · subst hii
          rw [hid] at h1'; cases h1'
          right
          rw [hself]
          refine ⟨by simp [AObj.ancOf], ?_⟩
          simp [AObj.size]; omega
        · rw [hget i' hi' hii]
          have hsep := hs.sep id c β i' β'' hid h1' (Ne.symm hii) (by rw [hg]; rfl)
          rcases hsep with h2 | ⟨h2, h3⟩
          · exact .inl h2
          · right
            rw [hg] at h2 h3
            refine ⟨by simp [AObj.ancOf]; exact .inr h2, ?_⟩
            simp [AObj.size] at h3 ⊢; omega
    · by_cases hii : i = id
      · subst hii; rw [hself] at hwr; cases hwr
      · rw [hget i hi hii] at hwr ⊢
        rcases back i' _ h' with ⟨rfl, hp⟩ | ⟨hi', h1'⟩
        · cases hp
          have hsep := hs.sep i c β' id β h1 hid hii hwr
          rcases hsep with h2 | ⟨h2, h3⟩
          · rw [hg] at h2; cases h2
          · exfalso
            have hsep2 := hs.sep id c β i β' hid h1 (Ne.symm hii) (by rw [hg]; rfl)
            rcases hsep2 with h4 | ⟨h4, _⟩
            · rw [h4] at hwr; cases hwr
            · have h5 := (hs.anc i id h2).2.2; rw [hg] at h5; cases h5
        · have hsep := hs.sep i c' β' i' β'' h1 h1' hne hwr
          by_cases hii' : i' = id
          · subst hii'
            rw [hself]
            rcases hsep with h2 | ⟨h2, h3⟩
            · rw [hg] at h2; cases h2
            · exact .inr ⟨h2, by rw [hg] at h3; exact h3⟩
          · rw [hget i' hi' hii']; exact hsep
  · intro i a ha
    have key : a < H.next ∧ (a = id ∨ ((H.get a).immB = false ∧ (H.get a).writable = false)) := by
      by_cases hi : i = H.next
      · subst hi
        rw [hnext] at ha
        simp [AObj.ancOf] at ha
        rcases ha with rfl | ha
        · exact ⟨hd.1, .inl rfl⟩
        · have := hs.anc id a (by rw [hg]; exact ha); exact ⟨this.1, .inr this.2⟩
      · by_cases hii : i = id
        · subst hii; rw [hself] at ha; have := hs.anc i a (by rw [hg]; exact ha); exact ⟨this.1, .inr this.2⟩
        · rw [hget i hi hii] at ha; have := hs.anc i a ha; exact ⟨this.1, .inr this.2⟩
    refine ⟨by simp; omega, ?_⟩
    by_cases ha' : a = id
    · subst ha'; rw [hself]; exact ⟨rfl, rfl⟩
    · rw [hget a (by omega) ha']
      rcases key.2 with h | h
      · exact absurd h ha'
      · exact h
  · obtain ⟨⟨t', fz', h1⟩, h2⟩ := hs.ro c' C' hc'
    have hne : c' ≠ c := fun e => by subst e; have := h2 id β hid; rw [hg] at this; cases this
    refine ⟨⟨t', fz', by rw [setRow_other _ _ _ _ hne]; exact h1⟩, fun i β' h => ?_⟩
    rcases back i _ h with ⟨rfl, hp⟩ | ⟨hi, h'⟩
    · cases hp; exact absurd rfl hne
    · by_cases hii : i = id
      · subst hii; rw [hself]; rfl
      · rw [hget i hi hii]; exact h2 i β' h'
  · intro c' hc' hall
    by_cases h : c' = c
    · subst h; have := hall id β hid; rw [hg] at this; cases this
    · exact setRow_other _ _ _ _ h
  · intro i hi hr
    by_cases h : i = id
    · subst h; rw [hid] at hr; cases hr
    · rw [hget i (by omega) h]; exact fun _ _ _ _ h => h
  · intro i hi him
    by_cases h : i = id
    · subst h; rw [hg] at him; cases him
    · exact hget i (by omega) h
  · intro i c' β' h hr
    rcases back i _ h with ⟨rfl, hp⟩ | ⟨_, h1⟩
    · cases hp; exact .inr ⟨id, β, hid, by rw [hg]; rfl⟩
    · rw [h1] at hr; cases hr
end Go.Sp
