/- All operations joined; calls. -/
import Derived.Test.YtcjocjoaphpclaaDoorSpOps9
namespace Go.Sp

def GlR (gl : List Nat) (R : Ren) : Prop := ∀ g ∈ gl, R.f g = some (g, 0)
theorem GlR.mono {gl : List Nat} {R R' : Ren} (h : GlR gl R) (hle : R.le R') : GlR gl R' := fun g hg => (hle g g 0 (h g hg)).1

/-- What a function of the interpreter promises about the program's function. -/
def CallOk (P : Program) (gl : List Nat) (call : CallF) : Prop :=
  ∀ g args H v H', call g args H = some (v, H') →
    (∀ (as : Array Value) (w : World), (callFunc g as).run P w = .ok (.enter g as) w) ∧
    ∀ R w args', Sim H R w → GlR gl R → VRL R args args' →
      Calls P g ⟨args'⟩ w fun e w' => ∃ u R', e = .returned u ∧ VR R' v u ∧ Post H R w H' R' w'

theorem keep_some {H H' : AHeap} {x : Option Value} {v : Value} (h : keep H x = some (v, H')) : x = some v ∧ H' = H := by
  obtain ⟨y, hy, h1⟩ := oo_inv h
  injection h1 with h1; injection h1 with e1 e2
  exact ⟨by rw [hy, e1], e2.symm⟩
theorem done_some {H' : AHeap} {x : Option AHeap} {u v : Value} (h : done x u = some (v, H')) : x = some H' ∧ v = u := by
  obtain ⟨y, hy, h1⟩ := oo_inv h
  injection h1 with h1; injection h1 with e1 e2
  exact ⟨by rw [hy, e2], e1.symm⟩
theorem on1_some {β : Type} {l : List Value} {k : Value → Option β} {r : β} (h : on1 l k = some r) : ∃ x, l = [x] ∧ k x = some r := by
  cases l with
  | nil => cases h
  | cons x l =>
    cases l with
    | nil => exact ⟨x, rfl, h⟩
    | cons => cases h
theorem on2_some {β : Type} {l : List Value} {k : Value → Value → Option β} {r : β} (h : on2 l k = some r) : ∃ x y, l = [x, y] ∧ k x y = some r := by
  cases l with
  | nil => cases h
  | cons x l =>
    cases l with
    | nil => cases h
    | cons y l =>
      cases l with
      | nil => exact ⟨x, y, rfl, h⟩
      | cons => cases h
theorem onT_some {β : Type} {l : List TypeId} {k : TypeId → Option β} {r : β} (h : onT l k = some r) : ∃ x m, l = x :: m ∧ k x = some r := by
  cases l with
  | nil => cases h
  | cons x l => exact ⟨x, l, rfl, h⟩
theorem onT2_some {β : Type} {l : List TypeId} {k : TypeId → TypeId → Option β} {r : β} (h : onT2 l k = some r) : ∃ x y m, l = x :: y :: m ∧ k x y = some r := by
  cases l with
  | nil => cases h
  | cons x l =>
    cases l with
    | nil => cases h
    | cons y l => exact ⟨x, y, l, rfl, h⟩

theorem mapL_map {α β : Type} (f : α → β) (l : List α) : mapL f l = l.map f := by
  induction l with
  | nil => rfl
  | cons a l ih => show f a :: mapL f l = _; rw [ih]; rfl

theorem VRL.un1 {R : Ren} {x : Value} {l : List Value} (h : VRL R [x] l) : ∃ y, l = [y] ∧ VR R x y := by
  obtain ⟨y, l', rfl, h1, h2⟩ := h.uncons
  rw [h2.unnil]; exact ⟨y, rfl, h1⟩
theorem VRL.un2 {R : Ren} {x y : Value} {l : List Value} (h : VRL R [x, y] l) : ∃ x' y', l = [x', y'] ∧ VR R x x' ∧ VR R y y' := by
  obtain ⟨x', l', rfl, h1, h2⟩ := h.uncons
  obtain ⟨y', rfl, h3⟩ := h2.un1
  exact ⟨x', y', rfl, h1, h3⟩

section
variable {P : Program} {tt : TT} (hT : TOk P tt) {H H' : AHeap} {R : Ren} {w : World}
include hT

/-- What follows on an operation. -/
def OpOk2 (P : Program) (H : AHeap) (R : Ren) (w : World) (r : Result Next) (v : Value) (H' : AHeap) : Prop :=
  OpOk H R w r v H' ∨ ∃ g args, r = .ok (.enter g args) w ∧ Calls P g args w fun e w' => ∃ u R', e = .returned u ∧ VR R' v u ∧ Post H R w H' R' w'

omit hT in
theorem append_types {ts : Array TypeId} {a b : TypeId} {m : List TypeId} (h : ts.toList = a :: b :: m) (ty : TypeId) (args : Array Value) : Builtin.append_ ts ty args = Builtin.append_ #[a, b] ty args := by
  obtain ⟨l⟩ := ts; subst h; simp [Builtin.append_]
omit hT in
theorem copy_types {ts : Array TypeId} {a : TypeId} {m : List TypeId} (h : ts.toList = a :: m) (ty : TypeId) (args : Array Value) : Builtin.copy_ ts ty args = Builtin.copy_ #[a, a] ty args := by
  obtain ⟨l⟩ := ts; subst h; simp [Builtin.copy_]
omit hT in
theorem delete_types {ts : Array TypeId} {a : TypeId} {m : List TypeId} (h : ts.toList = a :: m) (ty : TypeId) (args : Array Value) : Builtin.delete_ ts ty args = Builtin.delete_ #[a] ty args := by
  obtain ⟨l⟩ := ts; subst h; simp [Builtin.delete_]
omit hT in
theorem clear_types {ts : Array TypeId} {a : TypeId} {m : List TypeId} (h : ts.toList = a :: m) (ty : TypeId) (args : Array Value) : Builtin.clear_ ts ty args = Builtin.clear_ #[a] ty args := by
  obtain ⟨l⟩ := ts; subst h; simp [Builtin.clear_]
omit hT in
theorem len_types {ts : Array TypeId} {a : TypeId} {m : List TypeId} (h : ts.toList = a :: m) (ty : TypeId) (args : Array Value) : Builtin.len_ ts ty args = Builtin.len_ #[a] ty args := by
  obtain ⟨l⟩ := ts; subst h; simp [Builtin.len_]
omit hT in
theorem cap_types {ts : Array TypeId} {a : TypeId} {m : List TypeId} (h : ts.toList = a :: m) (ty : TypeId) (args : Array Value) : Builtin.cap_ ts ty args = Builtin.cap_ #[a] ty args := by
  obtain ⟨l⟩ := ts; subst h; simp [Builtin.cap_]

theorem abuiltin_ok (hs : Sim H R w) {b : Builtin} {ts : Array TypeId} {args args' : List Value} {v : Value} (h : abuiltin b tt H ts.toList args = some (v, H')) (ha : VRL R args args') (ty : TypeId) (cs : Array Bool) :
    OpOk H R w ((builtin b ts ty cs ⟨args'⟩).run P w) v H' := by
  cases b <;> simp only [abuiltin, Bu.pick] at h <;> first | (cases h; done) | skip
  case append =>
    obtain ⟨s, x, rfl, h1⟩ := on2_some h
    obtain ⟨st, xt, m, e, h2⟩ := onT2_some h1
    obtain ⟨s', x', rfl, hs', hx'⟩ := ha.un2
    obtain ⟨u, w', R', hr, hv, hp⟩ := aappend_ok hT hs (ty := ty) h2 hs' hx'
    exact .value (by rw [append_types e]; exact hr) hv hp
  case cap =>
    obtain ⟨x, rfl, h1⟩ := on1_some h
    obtain ⟨t, m, e, h2⟩ := onT_some h1
    obtain ⟨x', rfl, hx'⟩ := ha.un1
    obtain ⟨h3, rfl⟩ := keep_some h2
    obtain ⟨hr, hp⟩ := acap_ok hT (w := w) (ty := ty) h3 hx'
    exact .quiet hs (by rw [cap_types e]; exact hr) (plain1_VR hp)
  case clear =>
    obtain ⟨x, rfl, h1⟩ := on1_some h
    obtain ⟨t, m, e, h2⟩ := onT_some h1
    obtain ⟨x', rfl, hx'⟩ := ha.un1
    obtain ⟨h3, rfl⟩ := done_some h2
    obtain ⟨u, w', hr, rfl, hp⟩ := aclear_ok hT hs (ty := ty) h3 hx'
    exact .value (by rw [clear_types e]; exact hr) (.tuple rfl VRL.nil.2) hp
  case copy =>
    obtain ⟨s, x, rfl, h1⟩ := on2_some h
    obtain ⟨st, m, e, h2⟩ := onT_some h1
    obtain ⟨s', x', rfl, hs', hx'⟩ := ha.un2
    obtain ⟨u, w', R', hr, hv, hp⟩ := acopy_ok hT hs (ty := ty) (xt := st) h2 hs' hx'
    exact .value (by rw [copy_types e]; exact hr) hv hp
  case delete =>
    obtain ⟨s, x, rfl, h1⟩ := on2_some h
    obtain ⟨st, m, e, h2⟩ := onT_some h1
    obtain ⟨s', x', rfl, hs', hx'⟩ := ha.un2
    obtain ⟨h3, rfl⟩ := done_some h2
    obtain ⟨u, w', hr, rfl, hp⟩ := adelete_ok hT hs (ty := ty) h3 hs' hx'
    exact .value (by rw [delete_types e]; exact hr) (.tuple rfl VRL.nil.2) hp
  case len =>
    obtain ⟨x, rfl, h1⟩ := on1_some h
    obtain ⟨t, m, e, h2⟩ := onT_some h1
    obtain ⟨x', rfl, hx'⟩ := ha.un1
    obtain ⟨h3, rfl⟩ := keep_some h2
    obtain ⟨hr, hp⟩ := alen_ok hT hs (ty := ty) h3 hx'
    exact .quiet hs (by rw [len_types e]; exact hr) (plain1_VR hp)
  case max =>
    obtain ⟨h3, rfl⟩ := keep_some h
    obtain ⟨hr, hp⟩ := aminmax0_ok (P := P) (w := w) h3 ha ts ty
    exact .quiet hs hr (plain1_VR hp)
  case min =>
    obtain ⟨h3, rfl⟩ := keep_some h
    obtain ⟨hr, hp⟩ := aminmax0_ok (P := P) (w := w) h3 ha ts ty
    exact .quiet hs hr (plain1_VR hp)

omit hT in
theorem parts_ok {ρ ρ' : Operand → Value} {ps : Array (Nat × Operand)} (h : ∀ p ∈ ps.toList, VR R (ρ p.2) (ρ' p.2)) : PartsR R (partsOf ρ ps) (ps.map fun (i, x) => (i, ρ' x)).toList := by
  unfold partsOf
  rw [mapL_map]
  refine ⟨by simp, fun i p q hp hq => ?_⟩
  simp only [Array.toList_map, List.getElem?_map] at hp hq
  cases hi : ps.toList[i]? with
  | none => rw [hi] at hp; cases hp
  | some a =>
    rw [hi] at hp hq
    simp at hp hq
    subst hp; subst hq
    exact ⟨rfl, h a (List.mem_of_getElem? hi)⟩

omit hT in
theorem opts_ok {ρ ρ' : Operand → Value} {o : Option Operand} (h : ∀ x, o = some x → VR R (ρ x) (ρ' x)) : OptR R (opts ρ o) (o.map ρ') := by
  cases o with
  | none => trivial
  | some x => exact h x rfl

theorem acall_ok {call : CallF} {gl : List Nat} (hc : CallOk P gl call) (hs : Sim H R w) (hgl : GlR gl R) {ρ ρ' : Operand → Value} {c : Call} (hρ : ∀ x ∈ c.operands.toList, VR R (ρ x) (ρ' x)) {v : Value}
    (h : acall tt call ρ H c.callee (mapL ρ c.args.toList) c.argTypes.toList = some (v, H')) (ty : TypeId) :
    OpOk2 P H R w ((do let d ← resolve ρ' c ty; invoke d.target d.args : Sem Next).run P w) v H' := by
  obtain ⟨cal, cargs, cts⟩ := c
  have hargs : VRL R (mapL ρ cargs.toList) (cargs.map ρ').toList := by
    rw [mapL_map, Array.toList_map]
    exact VRL.map fun x hx => hρ x (by unfold Call.operands; simp; right; exact Array.mem_toList_iff.1 hx)
  cases cal with
  | invoke => cases h
  | builtin b =>
    left
    have := abuiltin_ok hT hs h hargs ty (cargs.map fun | .const _ => true | _ => false)
    rw [show (⟨(cargs.map ρ').toList⟩ : Array Value) = cargs.map ρ' from rfl] at this
    simp only [resolve, invoke, Sem.run_bind, Sem.run_pure, Result.andThen_ok]
    exact this
  | value f =>
    right
    obtain ⟨g, hg, h1⟩ := oo_inv (show oo (vFunc (ρ f)) none _ = _ from h)
    have hf := vFunc_some hg
    have hfr := hρ f (by unfold Call.operands; simp)
    rw [hf] at hfr
    obtain ⟨gf, ga, gb⟩ := g
    generalize hρf : ρ' f = F at hfr
    cases hfr with
    | func fn hl hh hl' hh' =>
      rename_i ys us
      have h2 : call gf (appL ga (appL (mapL ρ cargs.toList) gb)) H = some (v, H') := h1
      obtain ⟨he, hcalls⟩ := hc _ _ _ _ _ h2
      rw [appL_eq, appL_eq] at hcalls
      have := hcalls R w _ hs hgl (VRL.append ⟨hl, hh⟩ (hargs.append ⟨hl', hh'⟩))
      refine ⟨gf, _, ?_, this⟩
      have h3 := he ((⟨ys⟩ : Array Value) ++ cargs.map ρ' ++ ⟨us⟩) w
      have h4 : (⟨ys ++ ((cargs.map ρ').toList ++ us)⟩ : Array Value) = (⟨ys⟩ : Array Value) ++ cargs.map ρ' ++ ⟨us⟩ := by
        apply Array.ext'; simp
      rw [h4]
      simpa [resolve, Deferred.ofValue, hρf, invoke] using h3

/-- Every operation. -/
theorem aop_ok {call : CallF} {gl : List Nat} (hc : CallOk P gl call) (hs : Sim H R w) (hgl : GlR gl R) {ρ ρ' : Operand → Value} {o : Oper} (hρ : ∀ x ∈ o.op.operands.toList, VR R (ρ x) (ρ' x)) {v : Value}
    (h : aop o.op tt call ρ H = some (v, H')) : OpOk2 P H R w ((execOp ρ' o).run P w) v H' := by
  obtain ⟨dst, op, ty, pos, after, guard⟩ := o
  have lf : ∀ {r}, OpOk H R w r v H' → OpOk2 P H R w r v H' := Or.inl
  cases op <;> simp only [aop] at h <;> first | (cases h; done) | skip
  case move x =>
    injection h with h; injection h with e1 e2; subst e1; subst e2
    exact lf ⟨_, _, w, R, rfl, .inl rfl, hρ x (by simp [Op.operands]), .refl hs⟩
  case assign x =>
    injection h with h; injection h with e1 e2; subst e1; subst e2
    exact lf ⟨_, _, w, R, rfl, .inl rfl, hρ x (by simp [Op.operands]), .refl hs⟩
  case pick c a b =>
    obtain ⟨h1, rfl⟩ := keep_some h
    obtain ⟨t, ht, h2⟩ := oo_inv h1
    injection h2 with h2; subst h2
    have hcv := hρ c (by simp [Op.operands])
    rw [vBool_some ht] at hcv
    have hb := hcv.bool_l
    refine lf ⟨.value (if t then ρ' a else ρ' b), _, w, R, ?_, .inl rfl, ?_, .refl hs⟩
    · simp [execOp, hb, asBool]
    · cases t
      · exact hρ b (by simp [Op.operands])
      · exact hρ a (by simp [Op.operands])
  case alloc e =>
    obtain ⟨u, w', R', hr, hv, hp⟩ := aallocT_ok hT hs h
    exact lf (.value hr hv hp)
  case box e x =>
    obtain ⟨u, w', R', hr, hv, hp⟩ := abox_ok (P := P) hs (e := e) h (hρ x (by simp [Op.operands]))
    exact lf (.value hr hv hp)
  case build t ps =>
    obtain ⟨h1, rfl⟩ := keep_some h
    obtain ⟨u, hr, hv⟩ := abuild_ok hT (w := w) h1 (parts_ok (ps := ps) fun p hp => hρ p.2 (by simp [Op.operands]; exact ⟨p.1, Array.mem_toList_iff.1 hp⟩))
    exact lf (.quiet hs hr hv)
  case buildSlice t n ps =>
    obtain ⟨u, w', R', hr, hv, hp⟩ := abuildSlice_ok hT hs h (parts_ok (ps := ps) fun p hp => hρ p.2 (by simp [Op.operands]; exact ⟨p.1, Array.mem_toList_iff.1 hp⟩))
    exact lf (.value hr hv hp)
  case insert t m k x =>
    obtain ⟨h1, rfl⟩ := done_some h
    obtain ⟨w', hr, hp⟩ := amapUpdate_ok hT hs h1 (hρ m (by simp [Op.operands])) (hρ k (by simp [Op.operands])) (hρ x (by simp [Op.operands]))
    exact lf (.unit hr hp)
  case mapUpdate t m k x =>
    obtain ⟨h1, rfl⟩ := done_some h
    obtain ⟨w', hr, hp⟩ := amapUpdate_ok hT hs h1 (hρ m (by simp [Op.operands])) (hρ k (by simp [Op.operands])) (hρ x (by simp [Op.operands]))
    exact lf (.unit hr hp)
  case mapEntry t m k =>
    obtain ⟨u, w', R', hr, hv, hp⟩ := amapEntry_ok hT hs h (hρ m (by simp [Op.operands])) (hρ k (by simp [Op.operands]))
    exact lf (.value hr hv hp)
  case entryStore t m k x =>
    obtain ⟨h1, rfl⟩ := done_some h
    obtain ⟨w', hr, hp⟩ := aentryStore_ok hs h1 (hρ m (by simp [Op.operands])) (hρ k (by simp [Op.operands])) (hρ x (by simp [Op.operands]))
    exact lf (.unit hr hp)
  case load t a =>
    obtain ⟨h1, rfl⟩ := keep_some h
    obtain ⟨u, hr, hv⟩ := aload_ok hT hs h1 (hρ a (by simp [Op.operands]))
    exact lf (.quiet hs hr hv)
  case store t a x =>
    obtain ⟨h1, rfl⟩ := done_some h
    obtain ⟨w', hr, hp⟩ := astore_ok hT hs h1 (hρ a (by simp [Op.operands])) (hρ x (by simp [Op.operands]))
    exact lf (.unit hr hp)
  case nilCheck x =>
    obtain ⟨h1, rfl⟩ := keep_some h
    have hxv := hρ x (by simp [Op.operands])
    clear hρ
    generalize ρ x = X at h1 hxv
    unfold anilCheck at h1
    cases hpx : vPtr X with
    | some p =>
      rw [hpx, oo_some] at h1
      injection h1 with h1; subst h1
      have := vPtr_some hpx; subst this
      obtain ⟨c, β, hid, hx'⟩ := hxv.ptr_l
      refine lf ⟨.value (.pointer (some ⟨c, β + p.2, none⟩)), _, w, R, ?_, .inl rfl, .ptr hid, .refl hs⟩
      simp [execOp, hx']
    | none =>
      rw [hpx, oo_none] at h1
      cases hqx : vFp X with
      | some q =>
        rw [hqx, oo_some] at h1
        injection h1 with h1; subst h1
        have hxv' := hxv
        obtain ⟨c, o, C, _, hx', _⟩ := hxv.fp_l hqx
        refine lf ⟨.value (.pointer (some ⟨c, o + q.off, none⟩)), _, w, R, ?_, .inl rfl, by rw [← hx']; exact hxv', .refl hs⟩
        simp [execOp, hx']
      | none =>
      rw [hqx, oo_none] at h1
      obtain ⟨g, hg, h2⟩ := oo_inv h1
      injection h2 with h2; subst h2
      have := vFunc_some hg; subst this
      generalize hF : ρ' x = F at hxv
      cases hxv with
      | func fn hl hh hl' hh' =>
        refine lf ⟨.value _, _, w, R, ?_, .inl rfl, .func _ hl hh hl' hh', .refl hs⟩
        simp [execOp, hF]
  case binOp op t x y t' =>
    obtain ⟨h1, rfl⟩ := keep_some h
    obtain ⟨hr, hp⟩ := abin_ok hT (w := w) h1 (hρ x (by simp [Op.operands])) (hρ y (by simp [Op.operands])) x y
    exact lf (.quiet hs hr (plain1_VR hp))
  case unOp op t x =>
    obtain ⟨h1, rfl⟩ := keep_some h
    obtain ⟨hr, hp⟩ := aun_ok (P := P) (w := w) h1 (hρ x (by simp [Op.operands]))
    exact lf (.quiet hs hr (plain1_VR hp))
  case convert s d x =>
    obtain ⟨h1, rfl⟩ := keep_some h
    obtain ⟨hr, hp⟩ := aconv_ok hT (w := w) h1 (hρ x (by simp [Op.operands]))
    exact lf (.quiet hs hr (plain1_VR hp))
  case makeFunc fn fs cs =>
    injection h with h; injection h with e1 e2; subst e1; subst e2
    refine lf (.quiet (P := P) (s := Instr.makeFunc fn (fs.map ρ') (cs.map ρ')) hs (u := .func fn (fs.map ρ') (cs.map ρ')) (by simp [Instr.makeFunc]) ?_)
    have h1 : VRL R (mapL ρ fs.toList) (fs.toList.map ρ') := mapL_map ρ fs.toList ▸ VRL.map fun x hx => hρ x (by simp [Op.operands]; left; exact Array.mem_toList_iff.1 hx)
    have h2 : VRL R (mapL ρ cs.toList) (cs.toList.map ρ') := mapL_map ρ cs.toList ▸ VRL.map fun x hx => hρ x (by simp [Op.operands]; right; exact Array.mem_toList_iff.1 hx)
    rw [show fs.map ρ' = ⟨fs.toList.map ρ'⟩ from Array.ext' (by simp), show cs.map ρ' = ⟨cs.toList.map ρ'⟩ from Array.ext' (by simp)]
    exact .func fn h1.1 h1.2 h2.1 h2.2
  case makeMap t r =>
    cases r with
    | some => cases h
    | none =>
      injection h with h; injection h with e1 e2; subst e1; subst e2
      obtain ⟨u, w', R', hr, hv, hp⟩ := amakeMap_ok (P := P) hs t
      exact lf (.value hr hv hp)
  case makeSlice t l c =>
    obtain ⟨u, w', R', hr, hv, hp⟩ := amakeSlice_ok hT hs h (hρ l (by simp [Op.operands])) (hρ c (by simp [Op.operands]))
    exact lf (.value hr hv hp)
  case slice t x lo hi mx =>
    obtain ⟨h1, rfl⟩ := keep_some h
    obtain ⟨u, hr, hv⟩ := aslice_ok hT hs h1 (hρ x (by simp [Op.operands])) (opts_ok (o := lo) fun y hy => hρ y (by simp [Op.operands, hy])) (opts_ok (o := hi) fun y hy => hρ y (by simp [Op.operands, hy])) (opts_ok (o := mx) fun y hy => hρ y (by simp [Op.operands, hy]))
    exact lf (.quiet hs hr hv)
  case fieldAddr t x f =>
    obtain ⟨h1, rfl⟩ := keep_some h
    obtain ⟨u, hr, hv⟩ := afieldAddr_ok hT (w := w) h1 (hρ x (by simp [Op.operands]))
    exact lf (.quiet hs hr hv)
  case field t x f =>
    obtain ⟨h1, rfl⟩ := keep_some h
    obtain ⟨u, hr, hv⟩ := afield_ok hT (w := w) h1 (hρ x (by simp [Op.operands]))
    exact lf (.quiet hs hr hv)
  case indexAddr t x i =>
    obtain ⟨h1, rfl⟩ := keep_some h
    obtain ⟨u, hr, hv⟩ := aindexAddr_ok hT (w := w) h1 (hρ x (by simp [Op.operands])) (hρ i (by simp [Op.operands]))
    exact lf (.quiet hs hr hv)
  case index t x i =>
    obtain ⟨h1, rfl⟩ := keep_some h
    obtain ⟨u, hr, hv⟩ := aindex_ok hT (w := w) h1 (hρ x (by simp [Op.operands])) (hρ i (by simp [Op.operands]))
    exact lf (.quiet hs hr hv)
  case lookup t x i ok =>
    obtain ⟨h1, rfl⟩ := keep_some h
    obtain ⟨u, hr, hv⟩ := alookup_ok hT hs h1 (hρ x (by simp [Op.operands])) (hρ i (by simp [Op.operands]))
    exact lf (.quiet hs hr hv)
  case extract t i =>
    obtain ⟨h1, rfl⟩ := keep_some h
    obtain ⟨u, hr, hv⟩ := aextract_ok (P := P) (w := w) h1 (hρ t (by simp [Op.operands]))
    exact lf (.quiet hs hr hv)
  case call c => exact acall_ok hT hc hs hgl (fun x hx => hρ x (by simpa [Op.operands] using hx)) h ty
end
end Go.Sp
