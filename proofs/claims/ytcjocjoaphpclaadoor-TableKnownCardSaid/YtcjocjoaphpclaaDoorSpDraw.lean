/- Regions that may be run in any order. -/
import Derived.Test.YtcjocjoaphpclaaDoorSpFrame
import Derived.Orders
namespace Go.Sp

theorem Post.absPush {H0 H : AHeap} {R0 R : Ren} {w0 w : World} (hp : Post H0 R0 w0 H R w) {obj : AObj} (hanc : obj.ancOf = []) : Post H0 R0 w0 (H.push obj) R w := by
  have hs := hp.sim
  have hget : ∀ id, id < H.next → (H.push obj).get id = H.get id := fun id h => by rw [AHeap.get_push, if_neg (by omega)]
  refine ⟨hp.le, hp.new, ⟨?_, ?_, ?_, ?_, hs.wf.push obj, fun c C hc => ⟨(hs.ro c C hc).1, fun id β h => by rw [hget id (hs.dom id c β h).1]; exact (hs.ro c C hc).2 id β h⟩⟩, by have := hp.next; simp; omega, hp.grow, hp.frame, ?_, ?_, hp.fresh, hp.side, hp.rofresh⟩
  · intro id c β h; have := hs.dom id c β h; simp; omega
  · intro id c β h; rw [hget id (hs.dom id c β h).1]; exact hs.obj id c β h
  · intro id c β id' β' h h' hne hw
    rw [hget id (hs.dom id c β h).1] at hw ⊢
    rw [hget id' (hs.dom id' c β' h').1]
    exact hs.sep id c β id' β' h h' hne hw
  · intro id a ha
    have key : a < H.next ∧ (H.get a).immB = false ∧ (H.get a).writable = false := by
      rw [AHeap.get_push] at ha
      split at ha
      · rw [hanc] at ha; cases ha
      · exact hs.anc id a ha
    rw [hget a key.1]
    exact ⟨by simp; omega, key.2⟩
  · intro id hid hr; rw [hget id (Nat.lt_of_lt_of_le hid hp.next)]; exact hp.calm id hid hr
  · intro id hid him; rw [hget id (Nat.lt_of_lt_of_le hid hp.next)]; exact hp.imm id hid him

theorem Post.ext_le {H0 H : AHeap} {R0 R : Ren} {w0 w : World} (hp : Post H0 R0 w0 H R w) {k n : Nat} (hR : R.f k = none) : R.le (R.ext k w.heap.size 0 n) := ⟨fun id c β h => by
  have hd := hp.sim.dom id c β h
  have hne : id ≠ k := fun e => by rw [e, hR] at h; cases h
  refine ⟨?_, ?_⟩
  · rw [Ren.ext_other _ hne]; exact h
  · simp [Ren.ext]; omega, fun _ _ h => h⟩

theorem Post.concrete {H0 H : AHeap} {R0 R : Ren} {w0 w : World} (hp : Post H0 R0 w0 H R w) {k : Nat} (hk : k < H.next) (hmin : H0.next ≤ k) (hR : R.f k = none) {ob : Obj} {n : Nat} (hob : NoFz ob)
    (hobj : ∀ Q, R.le Q → Q.f k = some (w.heap.size, 0) → Q.sz w.heap.size = n → ObjR Q (H.get k) w.heap.size 0 (some ob)) :
    R.le (R.ext k w.heap.size 0 n) ∧ Post H0 R0 w0 H (R.ext k w.heap.size 0 n) (w.alloc ob) := by
  have hs := hp.sim
  have hne : ∀ id p, R.f id = some p → id ≠ k := fun id p h e => by rw [e, hR] at h; cases h
  have hle : R.le (R.ext k w.heap.size 0 n) := ⟨fun id c β h => by
    have hd := hs.dom id c β h
    refine ⟨?_, ?_⟩
    · rw [Ren.ext_other _ (hne id _ h)]; exact h
    · simp [Ren.ext]; omega, fun _ _ h => h⟩
  have back : ∀ id p, (R.ext k w.heap.size 0 n).f id = some p → (id = k ∧ p = (w.heap.size, 0)) ∨ (id ≠ k ∧ R.f id = some p) := fun id p h => by
    by_cases hid : id = k
    · subst hid; rw [Ren.ext_new] at h; exact .inl ⟨rfl, by injection h with h; exact h.symm⟩
    · rw [Ren.ext_other _ hid] at h; exact .inr ⟨hid, h⟩
  have hR0 : R0.f k = none := by
    cases h : R0.f k with
    | none => rfl
    | some p => have := (hp.le k p.1 p.2 h).1; rw [hR] at this; cases this
  refine ⟨hle, ⟨fun id c β h => ?_, hp.le.ro⟩, ?_, ⟨?_, ?_, ?_, hs.anc, hs.wf, fun c C hc => ?_⟩, hp.next, by have := hp.grow; simp; omega, ?_, hp.calm, hp.imm, ?_, ⟨hp.side.1, hp.side.2.1, fun a => (frozen_alloc w hob a).trans (hp.side.2.2 a)⟩, hp.rofresh⟩
  · have h1 := hp.le id c β h
    have h2 := hle id c β h1.1
    exact ⟨h2.1, h2.2.trans h1.2⟩
  · intro id p h
    rcases back id p h with ⟨rfl, _⟩ | ⟨_, h1⟩
    · exact .inr ⟨hR0, hmin⟩
    · exact hp.new id p h1
  · intro id c β h
    rcases back id _ h with ⟨rfl, e⟩ | ⟨_, h1⟩
    · cases e; simp; exact hk
    · have := hs.dom id c β h1; simp; omega
  · intro id c β h
    rcases back id _ h with ⟨rfl, e⟩ | ⟨_, h1⟩
    · cases e
      rw [heap_alloc_at]
      exact hobj _ hle (Ren.ext_new _ _ _ _ _) (Ren.ext_sz _ _ _ _ _)
    · rw [heap_alloc_lt _ _ (hs.dom id c β h1).2]
      exact (hs.obj id c β h1).mono hle (hle id c β h1).2
  · intro id c β id' β' h h' hne' hw
    rcases back id _ h with ⟨rfl, e⟩ | ⟨_, h1⟩
    · cases e
      rcases back id' _ h' with ⟨rfl, _⟩ | ⟨_, h1'⟩
      · exact absurd rfl hne'
      · have := (hs.dom id' _ _ h1').2; omega
    · rcases back id' _ h' with ⟨rfl, e⟩ | ⟨_, h1'⟩
      · cases e; have := (hs.dom id _ _ h1).2; omega
      · exact hs.sep id c β id' β' h1 h1' hne' hw
  · obtain ⟨⟨t, fz, h1⟩, h2⟩ := hs.ro c C hc
    have hlt := (Array.getElem?_eq_some_iff.1 h1).1
    refine ⟨⟨t, fz, by rw [heap_alloc_lt _ _ hlt]; exact h1⟩, fun id β h => ?_⟩
    rcases back id _ h with ⟨rfl, e⟩ | ⟨_, h3⟩
    · cases e; omega
    · exact h2 id β h3
  · intro c hc hall
    rw [heap_alloc_lt _ _ (Nat.lt_of_lt_of_le hc hp.grow)]
    exact hp.frame c hc hall
  · intro id c β h hr
    rcases back id _ h with ⟨rfl, e⟩ | ⟨_, h1⟩
    · cases e; exact .inl hp.grow
    · exact hp.fresh id c β h1 hr

theorem reads_operands {op : Op} {x : Operand} (h : x ∈ readsOf op) : x ∈ op.operands.toList := by
  cases op <;> simp only [readsOf] at h <;> first | (cases h; done) | skip
  case load t a => simpa [Op.operands] using h
  case lookup t m k ok => simp at h; subst h; simp [Op.operands]
  case slice t y lo hi mx => simp at h; subst h; simp [Op.operands]
  case call c =>
    obtain ⟨cal, args, ts⟩ := c
    cases cal with
    | value => cases h
    | invoke => cases h
    | builtin b =>
      cases b <;> simp only [readsOf] at h <;> first | (cases h; done) | skip
      simp only [Op.operands, Call.operands]
      simpa using h

theorem wanted_congr {ops : List Oper} {o : Oper} {W : List Operand} {F F' : Fr} (h : ∀ t ∈ namesL ops o, F'.get t = F.get t) : (slimL ops o W).wanted F' = (slimL ops o W).wanted F := by
  unfold ROp.wanted slimL
  cases hg : o.guard with
  | none => rfl
  | some p =>
    obtain ⟨j, want⟩ := p
    simp only [oo_some, pp_mk]
    have hgd : gdT ops o = dstL ops j := by unfold gdT; rw [hg, oo_some, pp_mk]
    cases hd : dstL ops j with
    | none => rfl
    | some t => rw [oo_some, oo_some, h t (names_guard (by rw [hgd, hd]))]
theorem gdOk_congr {ops : List Oper} {o : Oper} {W : List Operand} {F F' : Fr} (h : ∀ t ∈ namesL ops o, F'.get t = F.get t) : (slimL ops o W).gdOk F' = (slimL ops o W).gdOk F := by
  unfold ROp.gdOk slimL
  cases hg : o.guard with
  | none => rfl
  | some p =>
    obtain ⟨j, want⟩ := p
    simp only [oo_some, pp_mk]
    have hgd : gdT ops o = dstL ops j := by unfold gdT; rw [hg, oo_some, pp_mk]
    cases hd : dstL ops j with
    | none => rfl
    | some t => rw [oo_some, oo_some, h t (names_guard (by rw [hgd, hd]))]
theorem eval_congr {ops : List Oper} {o : Oper} {F F' : Fr} (h : ∀ t ∈ namesL ops o, F'.get t = F.get t) {x : Operand} (hx : x ∈ o.op.operands.toList) : F'.eval x = F.eval x := by
  cases x with
  | tmp t => exact h t (names_operand hx)
  | const v => rfl
  | global g => rfl
  | func f => rfl

/-- An operation that the interpreter has done and the program has not: what it must give. -/
inductive PendOk (P : Program) (tt : TT) (call : CallF) (ops : Array Oper) (base : Nat) (F : Fr) (H : AHeap) (R : Ren) (o : Oper) : Option Nat → Prop
  | skip (hw : (slimL ops.toList o []).gdOk F = true ∧ (slimL ops.toList o []).wanted F = false) (hv : ∀ d, o.dst = some d → d < F.n → F.get d = undef) : PendOk P tt call ops base F H R o none
  | quiet {ρ : Operand → Value} {v : Value} (hw : (slimL ops.toList o []).gdOk F = true ∧ (slimL ops.toList o []).wanted F = true) (hρ : ∀ x ∈ o.op.operands.toList, ρ x = F.eval x) (hq : effB o.op = false) (hn : newB o.op = false)
      (h : aop o.op tt call ρ H = some (v, H)) (hv : ∀ d, o.dst = some d → d < F.n → F.get d = v) : PendOk P tt call ops base F H R o none
  | new {ρ : Operand → Value} {V : Nat → Value} {obj : AObj} {id : Nat} (hw : (slimL ops.toList o []).gdOk F = true ∧ (slimL ops.toList o []).wanted F = true) (hρ : ∀ x ∈ o.op.operands.toList, ρ x = F.eval x)
      (hl : LaysNew P o ρ V obj) (hid : id < H.next) (hmin : base ≤ id) (hR : R.f id = none) (hobj : ∀ Q c β ob, ObjR Q obj c β ob → ObjR Q (H.get id) c β ob)
      (hv : ∀ d, o.dst = some d → d < F.n → F.get d = V id) : PendOk P tt call ops base F H R o (some id)

section
variable {P : Program} {tt : TT} {call : CallF} {ops : Array Oper} {base : Nat} {F F' : Fr} {H H' : AHeap} {R R' : Ren} {o : Oper} {q : Option Nat}

theorem PendOk.frame (h : PendOk P tt call ops base F H R o q) (hF : ∀ t ∈ namesL ops.toList o, F'.get t = F.get t) (hd : ∀ d, o.dst = some d → F'.get d = F.get d) (hn : F'.n = F.n) : PendOk P tt call ops base F' H R o q := by
  cases h with
  | skip hw hv => exact .skip ⟨by rw [gdOk_congr hF]; exact hw.1, by rw [wanted_congr hF]; exact hw.2⟩ fun d h1 h2 => by rw [hd d h1]; exact hv d h1 (hn ▸ h2)
  | quiet hw hρ hq hnb h hv => exact .quiet ⟨by rw [gdOk_congr hF]; exact hw.1, by rw [wanted_congr hF]; exact hw.2⟩ (fun x hx => by rw [eval_congr hF hx]; exact hρ x hx) hq hnb h fun d h1 h2 => by rw [hd d h1]; exact hv d h1 (hn ▸ h2)
  | new hw hρ hl hid hmin hR hobj hv => exact .new ⟨by rw [gdOk_congr hF]; exact hw.1, by rw [wanted_congr hF]; exact hw.2⟩ (fun x hx => by rw [eval_congr hF hx]; exact hρ x hx) hl hid hmin hR hobj fun d h1 h2 => by rw [hd d h1]; exact hv d h1 (hn ▸ h2)

theorem PendOk.heap (h : PendOk P tt call ops base F H R o q) (hsame : ∀ x ∈ readsOf o.op, Same H H' (F.eval x)) (hnx : H.next ≤ H'.next)
    (hcalm : ∀ id, q = some id → id < H.next → R.f id = none → ∀ (Q : Ren) (c β : Nat) (ob : Option Obj), ObjR Q (H.get id) c β ob → ObjR Q (H'.get id) c β ob) (hR' : ∀ id, q = some id → id < H.next → R.f id = none → R'.f id = none) : PendOk P tt call ops base F H' R' o q := by
  cases h with
  | skip hw hv => exact .skip hw hv
  | quiet hw hρ hq hnb h hv =>
    refine .quiet hw hρ hq hnb ((quiet_same hq hnb h).2 H' fun x hx => ?_) hv
    rw [hρ x (reads_operands hx)]; exact hsame x hx
  | new hw hρ hl hid hmin hR hobj hv =>
    exact .new hw hρ hl (Nat.lt_of_lt_of_le hid hnx) hmin (hR' _ rfl hid hR) (fun Q c β ob h1 => hcalm _ rfl hid hR Q c β ob (hobj Q c β ob h1)) hv
end
end Go.Sp
