/- Regions that may be run in any order: what holds at each step. -/
import Derived.Test.YtcjocjoaphpclaaDoorSpDraw
namespace Go.Sp

noncomputable def slimAt (ops : Array Oper) (p : Nat × List Operand) : ROp := ((ops[p.1]?).map fun o => slimL ops.toList o p.2).getD ⟨none, .alloc 0, 0, none, []⟩
theorem slimAt_eq {ops : Array Oper} {p : Nat × List Operand} {o : Oper} (h : ops[p.1]? = some o) : slimAt ops p = slimL ops.toList o p.2 := by unfold slimAt; rw [h]; rfl

theorem put_get_other (F : Fr) {d : Option Nat} {v : Value} {t : Nat} (h : d = some t → F.n ≤ t) : (F.put d v).get t = F.get t := by
  cases d with
  | none => rfl
  | some d =>
    rw [Fr.get_put, if_neg]
    rintro ⟨rfl, h2⟩
    have := h rfl; omega

structure DInv (P : Program) (tt : TT) (call : CallF) (ops : Array Oper) (ows : List (Nat × List Operand)) (H0 : AHeap) (R0 : Ren) (w0 : World) (Ff : Fr) (Hf : AHeap) (d0 : List Deferred) (m0 : Nat)
    (listed : Array Bool) (done rest : List (Nat × List Operand)) (F : Fr) (H : AHeap) (R : Ren) (a : Act) (w : World) (idOf : Nat → Option Nat) : Prop where
  split : ows = done ++ rest
  lsize : listed.size = ops.size
  run : evOps tt call (rest.map (slimAt ops)) F H = some (Ff, Hf)
  n : F.n = a.tmps.size
  size : a.tmps.size = m0
  defers : a.defers = d0
  post : Post H0 R0 w0 H R w
  unl : ∀ i ∈ rest.map (·.1), listed[i]? = some false
  closed : ∀ (i : Nat), listed[i]? = some true → ∀ o, ops[i]? = some o → ∀ k ∈ predsOf o, listed[k]? = some true
  pend : ∀ i ∈ done.map (·.1), listed[i]? = some false → ∀ o, ops[i]? = some o → effB o.op = false ∧ PendOk P tt call ops H0.next F H R o (idOf i)
  ids : ∀ (i j : Nat), i ∈ done.map (·.1) → j ∈ done.map (·.1) → listed[i]? = some false → listed[j]? = some false → i ≠ j → ∀ id, idOf i = some id → idOf j ≠ some id
  temps : ∀ (t : Nat), (∀ i ∈ done.map (·.1), listed[i]? = some false → ∀ o, ops[i]? = some o → o.dst = some t → F.n ≤ t) → VR R (F.get t) (a.tmps.getD t undef)

section
variable {P : Program} {tt : TT} (hT : TOk P tt) {call : CallF} {gl : List Nat} (hc : CallOk P gl call) {ops : Array Oper} {ows : List (Nat × List Operand)} (hreg : RegOk ops ows)
  (hop : ∀ o ∈ ops.toList, ∀ x ∈ o.op.operands.toList, OperandOk gl x) {H0 : AHeap} {R0 : Ren} {w0 : World} {Ff : Fr} {Hf : AHeap} {d0 : List Deferred} {m0 : Nat} (hs0 : Sim H0 R0 w0) (hgl : GlR gl R0)
  {listed : Array Bool} {done rest : List (Nat × List Operand)} {F : Fr} {H : AHeap} {R : Ren} {a : Act} {w : World} {idOf : Nat → Option Nat} {x : Nat × List Operand}

theorem PendOk.id_lt {base : Nat} {o : Oper} {id : Nat} (h : PendOk P tt call ops base F H R o (some id)) : id < H.next := by cases h; assumption
theorem PendOk.id_none {base : Nat} {o : Oper} {id : Nat} (h : PendOk P tt call ops base F H R o (some id)) : R.f id = none := by cases h; assumption

include hreg in
theorem DInv.stepOk (inv : DInv P tt call ops ows H0 R0 w0 Ff Hf d0 m0 listed done (x :: rest) F H R a w idOf) : ∃ o, StepOk ops (done.map (·.1)) x.1 x.2 o := hreg.step done x rest inv.split

include hT hreg in
/-- The interpreter goes ahead over a quiet operation. -/
theorem DInv.advance (inv : DInv P tt call ops ows H0 R0 w0 Ff Hf d0 m0 listed done (x :: rest) F H R a w idOf) {o : Oper} (ho : ops[x.1]? = some o) (hq : effB o.op = false) :
    ∃ F' H' idOf', DInv P tt call ops ows H0 R0 w0 Ff Hf d0 m0 listed (done ++ [x]) rest F' H' R a w idOf' := by
  obtain ⟨o', hst⟩ := inv.stepOk hreg
  have := hst.here; rw [ho] at this; injection this with this; subst this
  have hrun := inv.run
  rw [List.map_cons, slimAt_eq ho] at hrun
  have hxl : listed[x.1]? = some false := inv.unl x.1 (by simp)
  have hname : ∀ j ∈ done.map (·.1), ∀ oj, ops[j]? = some oj → ∀ t ∈ namesL ops.toList oj, o.dst ≠ some t := fun j hj oj hoj t ht e => by
    have := (hst.wr j hj oj hoj t e ht).1; rw [hq] at this; cases this
  have hdst : ∀ j ∈ done.map (·.1), ∀ oj, ops[j]? = some oj → ∀ t, oj.dst = some t → o.dst ≠ some t := fun j hj oj hoj t ht => (hst.dsts j hj oj hoj t ht).1
  have hself : ∀ t ∈ namesL ops.toList o, o.dst ≠ some t := fun t ht e => hst.self hq t e ht
  have hfr : ∀ (v : Value) j, j ∈ done.map (·.1) → ∀ oj, ops[j]? = some oj → ∀ {base H R q}, PendOk P tt call ops base F H R oj q → PendOk P tt call ops base (F.put o.dst v) H R oj q := fun v j hj oj hoj base H R q h =>
    h.frame (fun t ht => put_get_other F fun e => absurd e (hname j hj oj hoj t ht)) (fun t ht => put_get_other F fun e => absurd e (hdst j hj oj hoj t ht)) (Fr.n_put ..)
  have htemps : ∀ (v : Value) (t : Nat), (∀ i ∈ (done ++ [x]).map (·.1), listed[i]? = some false → ∀ o2, ops[i]? = some o2 → o2.dst = some t → (F.put o.dst v).n ≤ t) → VR R ((F.put o.dst v).get t) (a.tmps.getD t undef) := fun v t ht => by
    rw [put_get_other F fun e => by have := ht x.1 (by simp) hxl o ho e; rwa [Fr.n_put] at this]
    exact inv.temps t fun i hi hil oi hoi e => by have := ht i (by simp at hi ⊢; exact .inl hi) hil oi hoi e; rwa [Fr.n_put] at this
  have hw' : ∀ v, (slimL ops.toList o []).wanted (F.put o.dst v) = (slimL ops.toList o x.2).wanted F := fun v =>
    wanted_congr (W := []) fun t ht => put_get_other F fun e => absurd e (hself t ht)
  have hg' : ∀ v, (slimL ops.toList o []).gdOk (F.put o.dst v) = (slimL ops.toList o x.2).gdOk F := fun v =>
    gdOk_congr (W := []) fun t ht => put_get_other F fun e => absurd e (hself t ht)
  have hev : ∀ v, ∀ y ∈ o.op.operands.toList, F.eval y = (F.put o.dst v).eval y := fun v y hy => (eval_congr (fun t ht => put_get_other F fun e => absurd e (hself t ht)) hy).symm
  have hval : ∀ (v : Value) d, o.dst = some d → d < (F.put o.dst v).n → (F.put o.dst v).get d = v := fun v d hd hlt => by
    rw [Fr.n_put] at hlt; rw [hd, Fr.get_put, if_pos ⟨rfl, hlt⟩]
  have hmem : ∀ {i}, i ∈ (done ++ [x]).map (·.1) → i ∈ done.map (·.1) ∨ i = x.1 := fun h => by simpa [or_comm, eq_comm] using h
  obtain ⟨hk, hcons⟩ := evOps_cons hrun
  rcases hcons with ⟨hwt, v, H1, hop1, _, hrest⟩ | ⟨hwf, hrest⟩
  · by_cases hnb : newB o.op = true
    · obtain ⟨V, obj, rfl, rfl, hanc, hl⟩ := lays_ok hT hop1 hnb
      have hnx := inv.post.sim.none_of_next
      refine ⟨F.put o.dst (V H.next), H.push obj, fun k => if k = x.1 then some H.next else idOf k, ?_⟩
      refine ⟨by rw [inv.split]; simp, inv.lsize, hrest, by rw [Fr.n_put]; exact inv.n, inv.size, inv.defers, inv.post.absPush hanc, fun i hi => inv.unl i (by simp at hi ⊢; exact .inr hi), inv.closed, ?_, ?_, htemps (V H.next)⟩
      · intro i hi hil oi hoi
        rcases hmem hi with hi | rfl
        · have hne : i ≠ x.1 := fun e => hst.fresh (e ▸ hi)
          obtain ⟨h1, h2⟩ := inv.pend i hi hil oi hoi
          refine ⟨h1, ?_⟩
          rw [if_neg hne]
          refine (hfr _ i hi oi hoi h2).heap (fun y _ => Same.push inv.post.sim.wf obj _) (by simp) (fun id _ hid _ Q c β ob h => ?_) fun id _ _ h => h
          rw [AHeap.get_push, if_neg (by omega)]; exact h
        · rw [ho] at hoi; injection hoi with hoi; subst hoi
          refine ⟨hq, ?_⟩
          rw [if_pos rfl]
          exact .new ⟨by rw [hg']; exact hk, by rw [hw']; exact hwt⟩ (hev _) hl (by simp) inv.post.next hnx (fun Q c β ob h => by rw [AHeap.get_push, if_pos rfl]; exact h) (hval _)
      · intro i j hi hj hil hjl hne id hidi hidj
        rcases hmem hi with hi | rfl
        · have hni : i ≠ x.1 := fun e => hst.fresh (e ▸ hi)
          rw [if_neg hni] at hidi
          rcases hmem hj with hj | rfl
          · have hnj : j ≠ x.1 := fun e => hst.fresh (e ▸ hj)
            rw [if_neg hnj] at hidj
            exact inv.ids i j hi hj hil hjl hne id hidi hidj
          · rw [if_pos rfl] at hidj
            injection hidj with hidj; subst hidj
            obtain ⟨oi, hoi⟩ : ∃ oi, ops[i]? = some oi := by
              have : i < ops.size := by rw [← inv.lsize]; exact (Array.getElem?_eq_some_iff.1 hil).1
              exact ⟨_, Array.getElem?_eq_getElem this⟩
            have := (inv.pend i hi hil oi hoi).2
            rw [hidi] at this
            have := this.id_lt; omega
        · rw [if_pos rfl] at hidi
          injection hidi with hidi; subst hidi
          rcases hmem hj with hj | rfl
          · have hnj : j ≠ x.1 := fun e => hst.fresh (e ▸ hj)
            rw [if_neg hnj] at hidj
            obtain ⟨oj, hoj⟩ : ∃ oj, ops[j]? = some oj := by
              have : j < ops.size := by rw [← inv.lsize]; exact (Array.getElem?_eq_some_iff.1 hjl).1
              exact ⟨_, Array.getElem?_eq_getElem this⟩
            have := (inv.pend j hj hjl oj hoj).2
            rw [hidj] at this
            have := this.id_lt; omega
          · exact hne rfl
    · have hnb : newB o.op = false := by simpa using hnb
      obtain ⟨rfl, hst2⟩ := quiet_same hq hnb hop1
      refine ⟨F.put o.dst v, H1, fun k => if k = x.1 then none else idOf k, ?_⟩
      refine ⟨by rw [inv.split]; simp, inv.lsize, hrest, by rw [Fr.n_put]; exact inv.n, inv.size, inv.defers, inv.post, fun i hi => inv.unl i (by simp at hi ⊢; exact .inr hi), inv.closed, ?_, ?_, htemps v⟩
      · intro i hi hil oi hoi
        rcases hmem hi with hi | rfl
        · have hne : i ≠ x.1 := fun e => hst.fresh (e ▸ hi)
          obtain ⟨h1, h2⟩ := inv.pend i hi hil oi hoi
          refine ⟨h1, ?_⟩
          rw [if_neg hne]
          exact hfr _ i hi oi hoi h2
        · rw [ho] at hoi; injection hoi with hoi; subst hoi
          refine ⟨hq, ?_⟩
          rw [if_pos rfl]
          exact .quiet ⟨by rw [hg']; exact hk, by rw [hw']; exact hwt⟩ (hev _) hq hnb hop1 (hval _)
      · intro i j hi hj hil hjl hne id hidi hidj
        split at hidi
        · cases hidi
        · split at hidj
          · cases hidj
          · rename_i h1 h2
            exact inv.ids i j ((hmem hi).resolve_right h1) ((hmem hj).resolve_right h2) hil hjl hne id hidi hidj
  · refine ⟨F.put o.dst undef, H, fun k => if k = x.1 then none else idOf k, ?_⟩
    refine ⟨by rw [inv.split]; simp, inv.lsize, hrest, by rw [Fr.n_put]; exact inv.n, inv.size, inv.defers, inv.post, fun i hi => inv.unl i (by simp at hi ⊢; exact .inr hi), inv.closed, ?_, ?_, htemps undef⟩
    · intro i hi hil oi hoi
      rcases hmem hi with hi | rfl
      · have hne : i ≠ x.1 := fun e => hst.fresh (e ▸ hi)
        obtain ⟨h1, h2⟩ := inv.pend i hi hil oi hoi
        refine ⟨h1, ?_⟩
        rw [if_neg hne]
        exact hfr _ i hi oi hoi h2
      · rw [ho] at hoi; injection hoi with hoi; subst hoi
        refine ⟨hq, ?_⟩
        rw [if_pos rfl]
        exact .skip ⟨by rw [hg']; exact hk, by rw [hw']; exact hwf⟩ (hval _)
    · intro i j hi hj hil hjl hne id hidi hidj
      split at hidi
      · cases hidi
      · split at hidj
        · cases hidj
        · rename_i h1 h2
          exact inv.ids i j ((hmem hi).resolve_right h1) ((hmem hj).resolve_right h2) hil hjl hne id hidi hidj
end
end Go.Sp
