/- The operations, continued: memory. -/
import Derived.Test.YtcjocjoaphpclaaDoorSpOps2
namespace Go.Sp

theorem add_plain (c o j : Nat) : (⟨c, o, none⟩ : Addr).add j = ⟨c, o + j, none⟩ := by unfold Addr.add; split <;> simp_all
theorem oCells_some {o : AObj} {x : CellObj} (h : oCells o = some x) : o = .cells x.xs x.imm x.spent x.anc := by
  cases o <;> simp [oCells] at h; subst h; rfl
theorem oMap_some {o : AObj} {x : MapObj} (h : oMap o = some x) : o = .map x.es x.clock := by
  cases o <;> simp [oMap] at h; subst h; rfl

theorem nt_false {b : Bool} (h : nt b = true) : b = false := by cases b with
  | false => rfl
  | true => cases h

section
variable {P : Program} {tt : TT} (hT : TOk P tt) {H : AHeap} {R : Ren} {w : World}

theorem Sim.cells (hs : Sim H R w) {id c β : Nat} (hid : R.f id = some (c, β)) {o : CellObj} (ho : oCells (H.get id) = some o) :
    ∃ C t fz, w.heap[c]? = some (.cells C t fz) ∧ C.size = R.sz c ∧ β + o.xs.length ≤ C.size ∧ CellsR R o.xs β C := by
  have h := hs.obj id c β hid
  rw [oCells_some ho] at h
  obtain ⟨C, t, fz, h1, h2, h3, h4, _⟩ := h
  exact ⟨C, t, fz, h1, h2, h3, h4⟩

/-- A stretch of a block. -/
theorem stretch {R : Ren} {xs : List Value} {β : Nat} {C : Array Value} (h : CellsR R xs β C) (hfit : β + xs.length ≤ C.size) (off n : Nat) (hn : off + n ≤ xs.length) :
    VRL R ((xs.drop off).take n) ((C.toList.drop (β + off)).take n) := by
  refine ⟨by simp; omega, fun i x y hx hy => ?_⟩
  rw [List.getElem?_take] at hx hy
  split at hx
  · rename_i hi
    rw [if_pos hi, List.getElem?_drop] at hy
    rw [List.getElem?_drop] at hx
    obtain ⟨z, hz, hv⟩ := h (off + i) x hx
    rw [Array.getElem?_toList, show β + off + i = β + (off + i) by omega, hz] at hy
    injection hy with hy; subst hy; exact hv
  · cases hx
theorem stretch_cells {c o n : Nat} {C : Array Value} {t : TypeId} {fz : Nat × Nat} (hC : w.heap[c]? = some (.cells C t fz)) :
    ∀ (j : Nat) (v : Value), ((C.toList.drop o).take n)[j]? = some v → w.cell? ((⟨c, o, none⟩ : Addr).add j) = some v := fun j v h => by
  rw [List.getElem?_take] at h
  split at h
  · rw [List.getElem?_drop, Array.getElem?_toList] at h
    rw [add_plain]
    simp [World.cell?, hC, h]
  · cases h
theorem run_stretch {c o n : Nat} {C : Array Value} {t : TypeId} {fz : Nat × Nat} (hC : w.heap[c]? = some (.cells C t fz)) (hn : o + n ≤ C.size) :
    (loadCells ⟨c, o, none⟩ n).run P w = .ok ((C.toList.drop o).take n).toArray w := by
  have h := run_loadCells_list (P := P) w ⟨c, o, none⟩ ((C.toList.drop o).take n) (stretch_cells hC)
  have e : ((C.toList.drop o).take n).length = n := by simp; omega
  rw [e] at h
  exact h

include hT in
theorem loadVar_ok {t : TypeId} {i : TI} (hi : tt t = some i) {xs : List Value} {off c β : Nat} {v : Value} (h : partV i xs off = some v) {C : Array Value} {ty : TypeId} {fz : Nat × Nat}
    (hC : w.heap[c]? = some (.cells C ty fz)) (hfit : β + xs.length ≤ C.size) (hc : CellsR R xs β C) : ∃ u, (loadVar t ⟨c, β + off, none⟩).run P w = .ok u w ∧ VR R v u := by
  unfold partV at h
  have ha := hT.run_isAgg hi w
  have hz := hT.run_size hi w
  rw [bb_eq] at h
  split at h
  · rename_i hag
    obtain ⟨hle, h⟩ := bb_inv h
    simp only [takeL_eq, dropL_eq, len_eq] at h hle
    have hle := Nat.le_of_ble_eq_true hle
    injection h with h; subst h
    refine ⟨.agg ((C.toList.drop (β + off)).take i.size).toArray, ?_, ?_⟩
    · simp only [loadVar, Sem.run_bind, ha, hag, Result.andThen_ok, if_true, hz, run_stretch hC (show β + off + i.size ≤ C.size by omega), Sem.run_pure]
    · exact .agg (stretch hc hfit off i.size hle).1 (stretch hc hfit off i.size hle).2
  · rename_i hag
    have hag : isAggT i.und = false := by simpa using hag
    simp only [nthL_eq] at h
    obtain ⟨y, hy, hv⟩ := hc off v h
    refine ⟨y, ?_, hv⟩
    simp only [loadVar, Sem.run_bind, ha, hag, Result.andThen_ok, Bool.false_eq_true, if_false, run_load]
    simp [World.cell?, hC, hy]

include hT in
theorem aload_ok (hs : Sim H R w) {t : TypeId} {a a' v : Value} (h : aload tt H t a = some v) (ha : VR R a a') : ∃ u, (Instr.loadAt t a').run P w = .ok u w ∧ VR R v u := by
  obtain ⟨i, hi, h1⟩ := oo_inv h
  cases hp : vPtr a with
  | some p =>
    rw [hp, oo_some, pp_eta] at h1
    obtain ⟨o, ho, h3⟩ := oo_inv h1
    have := vPtr_some hp; subst this
    obtain ⟨c, β, hid, rfl⟩ := ha.ptr_l
    obtain ⟨C, ty, fz, hC, _, hfit, hc⟩ := hs.cells hid ho
    obtain ⟨u, hu, hv⟩ := loadVar_ok hT hi h3 hC hfit hc
    exact ⟨u, by simp [Instr.loadAt, Instr.sureAddr, hu], hv⟩
  | none =>
    rw [hp, oo_none] at h1
    obtain ⟨q, hq, h2⟩ := oo_inv h1
    obtain ⟨c, o, C, hc, rfl, hfit, hcr, _⟩ := ha.fp_l hq
    obtain ⟨⟨ty, fz, hC⟩, _⟩ := hs.ro c C hc
    obtain ⟨u, hu, hv⟩ := loadVar_ok hT hi h2 hC hfit hcr
    exact ⟨u, by simp [Instr.loadAt, Instr.sureAddr, hu], hv⟩

include hT in
theorem astore_ok {H' : AHeap} (hs : Sim H R w) {t : TypeId} {a a' v v' : Value} (h : astore tt H t a v = some H') (ha : VR R a a') (hv : VR R v v') :
    ∃ w', (Instr.storeAt t a' v').run P w = .ok () w' ∧ Post H R w H' R w' := by
  obtain ⟨p, hp, h1⟩ := oo_inv h
  rw [pp_eta] at h1
  obtain ⟨i, hi, h2⟩ := oo_inv h1
  obtain ⟨hsz, h3⟩ := bb_inv h2
  obtain ⟨htup, hsz⟩ := an_inv hsz
  have := vPtr_some hp; subst this
  obtain ⟨c, β, hid, rfl⟩ := ha.ptr_l
  have hl := cellsOf_VR hv (nt_false htup)
  obtain ⟨C, ty, hC, hfit, hone, hpost⟩ := post_write hs h3 hid hl
  refine ⟨_, ?_, hpost⟩
  have hlen : v'.cells.size = i.size := by
    rw [← Array.length_toList, ← hl.1]
    simp only [len_eq] at hsz
    exact Nat.eq_of_beq_eq_true hsz
  simp only [Instr.storeAt, Instr.sureAddr, storeVar, Sem.run_bind, Sem.run_pure, Result.andThen_ok, hT.run_size hi w, hlen, ne_eq, not_true, if_false]
  have := run_storeCells_at P c (β + p.2) ty v'.cells.toList 0 C w hC (by simpa using hfit) hone
  simpa using this

theorem arr_eta (a : Array Value) : a.toList.toArray = a := by simp

theorem alloc_post (hs : Sim H R w) (t : TypeId) {xs ys : List Value} (h : VRL R xs ys) :
    Post H R w (H.push (.cells xs false false [])) (R.ext H.next w.heap.size 0 ys.length) (w.alloc (.cells ys.toArray t)) := by
  have := post_cells (w := w) t [] false hs h false [] (by simp)
  simpa using this

/-- A new variable. -/
theorem newVar_ok (hs : Sim H R w) (t : TypeId) {v v' : Value} (hl : VRL R (cellsOf v) v'.cells.toList) :
    ∃ w' R', (do pure (.pointer (some (← newVar t v'))) : Sem Value).run P w = .ok (.pointer (some ⟨w.heap.size, 0, none⟩)) w' ∧
      VR R' (.pointer (some ⟨H.next, 0, none⟩)) (.pointer (some ⟨w.heap.size, 0, none⟩)) ∧ Post H R w (H.push (.cells (cellsOf v) false false [])) R' w' := by
  refine ⟨_, _, ?_, ?_, alloc_post hs t hl⟩
  · simp [newVar, newRow]
  · have := VR.ptr (off := 0) (Ren.ext_new R H.next w.heap.size 0 v'.cells.toList.length)
    simpa using this

theorem vFunc_some {v : Value} {g : FnV} (h : vFunc v = some g) : v = .func (.func g.f) ⟨g.first⟩ ⟨g.rest⟩ := by
  cases v <;> simp [vFunc, vv] at h
  rename_i f a b
  cases f <;> simp [fnOf] at h
  obtain ⟨l⟩ := a; obtain ⟨m⟩ := b
  simp [arrL] at h; subst h; rfl

theorem anilCheck_ok (hs : Sim H R w) {x x' v : Value} (h : anilCheck x = some v) (hx : VR R x x') :
    OpOk H R w ((match x' with
    | .pointer none | .nilIface | .nilFunc => runtimePanic .nilDeref
    | .func (.method name) first captured =>
      match (first[0]? : Option Value) with
      | some .nilIface => runtimePanic .nilDeref
      | some (.iface t w) => do
        if (← nilAhead ((← program).types.size + Made.depth) t w name) != some false then
          unsupported (.noEntry "op/nilCheck.the method's receiver behind this interface value is a nil pointer, or cannot be seen to be none, and the arguments act or may panic (ledger 612)")
        pure (.value (.func (.method name) first captured))
      | _ => pure (.value (.func (.method name) first captured))
    | x => pure (.value x) : Sem Next).run P w) v H := by
  unfold anilCheck at h
  cases hp : vPtr x with
  | some p =>
    rw [hp, oo_some] at h
    injection h with h; subst h
    have := vPtr_some hp; subst this
    obtain ⟨c, β, hid, rfl⟩ := hx.ptr_l
    exact ⟨_, _, w, R, rfl, .inl rfl, .ptr hid, .refl hs⟩
  | none =>
    rw [hp, oo_none] at h
    cases hq : vFp x with
    | some q =>
      rw [hq, oo_some] at h
      injection h with h; subst h
      obtain ⟨c, o, C, _, rfl, _⟩ := hx.fp_l hq
      exact ⟨_, _, w, R, rfl, .inl rfl, hx, .refl hs⟩
    | none =>
    rw [hq, oo_none] at h
    obtain ⟨g, hg, h1⟩ := oo_inv h
    injection h1 with h1; subst h1
    have := vFunc_some hg; subst this
    cases hx with
    | func fn hl hh hl' hh' => exact ⟨_, _, w, R, rfl, .inl rfl, .func _ hl hh hl' hh', .refl hs⟩

theorem aextract_ok {t t' v : Value} {i : Nat} (h : aextract t i = some v) (ht : VR R t t') : ∃ u, (Instr.extract t' i).run P w = .ok u w ∧ VR R v u := by
  obtain ⟨vs, hvs, h1⟩ := oo_inv h
  have := vTup_some hvs; subst this
  rw [nthL_eq] at h1
  obtain ⟨us, rfl, hl⟩ := ht.tuple_l
  obtain ⟨u, hu, hv⟩ := hl.get h1
  refine ⟨u, ?_, hv⟩
  simp [Instr.extract, hu]

theorem fieldOfK_some {β : Type} {t : TypeId} {f : Nat} {k : Field → TI → Option β} {r : β} (h : fieldOfK tt t f k = some r) :
    ∃ i fs fd ie, tt t = some i ∧ i.und = .struct fs ∧ fs[f]? = some fd ∧ tt fd.type = some ie ∧ k fd ie = some r := by
  obtain ⟨i, hi, h1⟩ := oo_inv h
  obtain ⟨fs, hfs, h2⟩ := oo_inv h1
  obtain ⟨fd, hfd, h3⟩ := oo_inv h2
  obtain ⟨ie, hie, h4⟩ := oo_inv h3
  exact ⟨i, fs, fd, ie, hi, dStruct_some hfs, by simpa using hfd, hie, h4⟩

include hT in
theorem afieldAddr_ok {t : TypeId} {x x' v : Value} {f : Nat} (h : afieldAddr tt t x f = some v) (hx : VR R x x') : ∃ u, (Instr.fieldAt t x' f).run P w = .ok u w ∧ VR R v u := by
  obtain ⟨i, fs, fd, ie, hi, hd, hfd, hie, h1⟩ := fieldOfK_some h
  obtain ⟨hz, h2⟩ := bb_inv' h1
  have hz : ie.size ≠ 0 := fun e => by rw [e] at hz; cases hz
  have hu := hT.run_und hi w
  rw [hd] at hu
  cases hp : vPtr x with
  | none =>
    rw [hp, oo_none] at h2
    obtain ⟨q, hq, h3⟩ := oo_inv h2
    injection h3 with h3; subst h3
    obtain ⟨c, o, C, hc, rfl, hfit, hcr, hcl⟩ := hx.fp_l hq
    refine ⟨.pointer (some ⟨c, o + (q.off + fd.offset), none⟩), ?_, .mkFp hc hfit hcr hcl⟩
    simp [Instr.fieldAt, hu, hfd, Instr.sureAddr, fieldPlace, hT.run_size hie w, hz, add_plain, Nat.add_assoc]
  | some p =>
  rw [hp, oo_some, pp_eta] at h2
  injection h2 with h3; subst h3
  have := vPtr_some hp; subst this
  obtain ⟨c, β, hid, rfl⟩ := hx.ptr_l
  refine ⟨.pointer (some ⟨c, β + (p.2 + fd.offset), none⟩), ?_, .ptr hid⟩
  simp [Instr.fieldAt, hu, hfd, Instr.sureAddr, fieldPlace, hT.run_size hie w, hz, add_plain, Nat.add_assoc]

include hT in
theorem part_ok {t : TypeId} {i : TI} (hi : tt t = some i) {xs ys : List Value} {off : Nat} {v : Value} (h : partV i xs off = some v) (hl : VRL R xs ys) : ∃ u, (part t ⟨ys⟩ off).run P w = .ok u w ∧ VR R v u := by
  unfold partV at h
  have ha := hT.run_isAgg hi w
  have hz := hT.run_size hi w
  rw [bb_eq] at h
  split at h
  · rename_i hag
    obtain ⟨hle, h⟩ := bb_inv h
    simp only [takeL_eq, dropL_eq, len_eq] at h hle
    have hle := Nat.le_of_ble_eq_true hle
    injection h with h; subst h
    refine ⟨.agg ((ys.drop off).take i.size).toArray, ?_, ?_⟩
    · simp only [part, Sem.run_bind, ha, hag, Result.andThen_ok, if_true, hz, Sem.run_pure]
      congr 2
      simp [List.extract_toArray, List.extract_eq_take_drop]
    · have := (hl.drop off).take i.size
      exact .agg this.1 this.2
  · rename_i hag
    have hag : isAggT i.und = false := by simpa using hag
    simp only [nthL_eq] at h
    obtain ⟨y, hy, hv⟩ := hl.get h
    refine ⟨y, ?_, hv⟩
    simp only [part, Sem.run_bind, ha, hag, Result.andThen_ok, Bool.false_eq_true, if_false]
    simp [hy]

include hT in
theorem afield_ok {t : TypeId} {x x' v : Value} {f : Nat} (h : afield tt t x f = some v) (hx : VR R x x') : ∃ u, (Instr.field t x' f).run P w = .ok u w ∧ VR R v u := by
  obtain ⟨i, fs, fd, ie, hi, hd, hfd, hie, h1⟩ := fieldOfK_some h
  obtain ⟨cs, hcs, h2⟩ := oo_inv h1
  have := vAgg_some hcs; subst this
  obtain ⟨us, rfl, hl⟩ := hx.agg_l
  have hu := hT.run_und hi w
  rw [hd] at hu
  obtain ⟨u, hr, hv⟩ := part_ok (w := w) hT hie h2 hl
  exact ⟨u, by simp [Instr.field, hu, hfd, asAgg, hr], hv⟩

theorem VR.nat_l {R : Ren} {x x' : Value} {n : Nat} (h : vNat x = some n) (hx : VR R x x') : ∃ k, x' = .int k n := by
  obtain ⟨k, rfl⟩ := vNat_some h
  exact ⟨k, hx.int_l⟩

theorem VR.sl_l {R : Ren} {x x' : Value} {s : SlV} (h : vSl x = some s) (hx : VR R x x') :
    (∃ c β cap, R.f s.id = some (c, β) ∧ x' = .slice (some ⟨c, β + s.off, none⟩) s.len cap ∧ s.len ≤ s.cap / 2 ∧ s.cap / 2 ≤ cap ∧ (s.cap % 2 = 1 → cap = s.cap / 2) ∧ β + s.off + cap * s.sz ≤ R.sz c) ∨
    (∃ c o, x' = .slice (some ⟨c, o, none⟩) 0 0 ∧ s.len = 0 ∧ s.cap / 2 = 0) ∨ (x' = .slice none 0 0 ∧ s.len = 0 ∧ s.cap / 2 = 0) := by
  have := vSl_some h; subst this
  generalize hl : s.len = ln at hx
  cases hx with
  | sl h h1 h2 h3 h4 => exact .inl ⟨_, _, _, h, by simp, h1, h2, h3, h4⟩
  | slE h => exact .inr (.inl ⟨_, _, rfl, by omega, h⟩)
  | slN h => exact .inr (.inr ⟨rfl, by omega, h⟩)

include hT in
theorem aindexAddr_ok {t : TypeId} {x x' ix ix' v : Value} (h : aindexAddr tt t x ix = some v) (hx : VR R x x') (hix : VR R ix ix') : ∃ u, (Instr.indexAt t x' ix').run P w = .ok u w ∧ VR R v u := by
  obtain ⟨i, hi, h1⟩ := oo_inv h
  obtain ⟨n, hn, h2⟩ := oo_inv h1
  obtain ⟨k, rfl⟩ := hix.nat_l hn
  have hu := hT.run_und hi w
  cases hd : dSl i.und with
  | some e =>
    rw [hd, oo_some] at h2
    obtain ⟨ie, hie, h3⟩ := oo_inv h2
    cases hsl : vSl x with
    | none =>
      rw [hsl, oo_none] at h3
      obtain ⟨f, hf, h4⟩ := oo_inv h3
      obtain ⟨hc, h5⟩ := bb_inv h4
      obtain ⟨hc1, hc2⟩ := an_inv hc
      rw [Nat.blt_eq] at hc1
      have hc2 := Nat.eq_of_beq_eq_true hc2
      injection h5 with h5; subst h5
      rw [dSl_some hd] at hu
      rcases hx.fs_l hf with ⟨h0, _⟩ | ⟨_, h0, _⟩ | ⟨c, o, cap, C, hro, rfl, hn, k1, k2, k3, hfit, hcr, hcl⟩
      · omega
      · omega
      · refine ⟨.pointer (some ⟨c, o + n * f.sz, none⟩), ?_, .mkFp hro hfit hcr hcl⟩
        simp [Instr.indexAt, asIntOf, hu, hc1, hT.run_size hie w, add_plain, hc2]
    | some s =>
    rw [hsl, oo_some] at h3
    have h4 := h3
    obtain ⟨hc, h5⟩ := bb_inv (show bb (an (Nat.blt n s.len) (Nat.beq ie.size s.sz)) (aptr s.id (s.off + n * s.sz)) none = some v from h4)
    obtain ⟨hc1, hc2⟩ := an_inv hc
    rw [Nat.blt_eq] at hc1
    have hc2 := Nat.eq_of_beq_eq_true hc2
    injection h5 with h5; subst h5
    rw [dSl_some hd] at hu
    rcases hx.sl_l hsl with ⟨c, β, cap, hid, rfl, _⟩ | ⟨c, o, rfl, h0, _⟩ | ⟨rfl, h0, _⟩
    · refine ⟨.pointer (some ⟨c, β + (s.off + n * s.sz), none⟩), ?_, .ptr hid⟩
      simp [Instr.indexAt, asIntOf, hu, hc1, hT.run_size hie w, add_plain, hc2, Nat.add_assoc]
    · omega
    · omega
  | none =>
    rw [hd, oo_none] at h2
    obtain ⟨p, hp, h3⟩ := oo_inv h2
    rw [pp_eta] at h3
    obtain ⟨ie, hie, h4⟩ := oo_inv h3
    rw [dArr_some hp] at hu
    cases hq : vPtr x with
    | none =>
      rw [hq, oo_none] at h4
      obtain ⟨q, hq2, h5⟩ := oo_inv h4
      obtain ⟨hc, h6⟩ := bb_inv h5
      rw [Nat.blt_eq] at hc
      injection h6 with h6; subst h6
      obtain ⟨c, o, C, hro, rfl, hfit, hcr, hcl⟩ := hx.fp_l hq2
      refine ⟨.pointer (some ⟨c, o + (q.off + n * ie.size), none⟩), ?_, .mkFp hro hfit hcr hcl⟩
      simp [Instr.indexAt, asIntOf, hu, Instr.sureAddr, hc, hT.run_size hie w, add_plain, Nat.add_assoc]
    | some q =>
    rw [hq, oo_some, pp_eta] at h4
    obtain ⟨hc, h6⟩ := bb_inv h4
    rw [Nat.blt_eq] at hc
    injection h6 with h6; subst h6
    have := vPtr_some hq; subst this
    obtain ⟨c, β, hid, rfl⟩ := hx.ptr_l
    refine ⟨.pointer (some ⟨c, β + (q.2 + n * ie.size), none⟩), ?_, .ptr hid⟩
    simp [Instr.indexAt, asIntOf, hu, Instr.sureAddr, hc, hT.run_size hie w, add_plain, Nat.add_assoc]

include hT in
theorem aindex_ok {t : TypeId} {x x' ix ix' v : Value} (h : aindex tt t x ix = some v) (hx : VR R x x') (hix : VR R ix ix') : ∃ u, (Instr.index t x' ix').run P w = .ok u w ∧ VR R v u := by
  obtain ⟨i, hi, h1⟩ := oo_inv h
  obtain ⟨n, hn, h2⟩ := oo_inv h1
  obtain ⟨k, rfl⟩ := hix.nat_l hn
  have hu := hT.run_und hi w
  cases hd : dArr i.und with
  | some p =>
    rw [hd, oo_some, pp_eta] at h2
    obtain ⟨cs, hcs, h3⟩ := oo_inv h2
    obtain ⟨ie, hie, h4⟩ := oo_inv h3
    obtain ⟨hc, h5⟩ := bb_inv h4
    rw [Nat.blt_eq] at hc
    rw [dArr_some hd] at hu
    have := vAgg_some hcs; subst this
    obtain ⟨us, rfl, hl⟩ := hx.agg_l
    obtain ⟨u, hr, hv⟩ := part_ok (w := w) hT hie h5 hl
    exact ⟨u, by simp [Instr.index, asIntOf, hu, hc, hT.run_size hie w, hr], hv⟩
  | none =>
    rw [hd, oo_none] at h2
    obtain ⟨hstr, h3⟩ := bb_inv h2
    obtain ⟨s, hs, h4⟩ := oo_inv h3
    obtain ⟨b, hb, h5⟩ := oo_inv h4
    injection h5 with h5; subst h5
    rw [isStrT_true hstr] at hu
    have := vStr_some hs; subst this
    rw [hx.string_l]
    refine ⟨.int .u8 b.toNat, ?_, .int _ _⟩
    have hb' : s[n]? = some b := by
      have : s.data[n]? = some b := by simpa using hb
      have hlt : n < s.size := by
        have := (Array.getElem?_eq_some_iff.1 this).1; exact this
      rw [getElem?_pos s n hlt]
      have e := (Array.getElem?_eq_some_iff.1 this).2
      exact congrArg some e
    simp [Instr.index, asIntOf, hu, hb']
end
end Go.Sp
