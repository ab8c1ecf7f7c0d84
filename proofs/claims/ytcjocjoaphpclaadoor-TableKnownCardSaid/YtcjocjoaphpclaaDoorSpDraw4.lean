/- Regions that may be run in any order: the effects, the end, the whole. -/
import Derived.Test.YtcjocjoaphpclaaDoorSpDraw3
namespace Go.Sp

theorem aop_assign {tt : TT} {call : CallF} {ρ : Operand → Value} {H H1 : AHeap} {op : Op} {v : Value} (ha : isAssign op = true) (h : aop op tt call ρ H = some (v, H1)) : H1 = H := by
  cases op <;> first | (cases ha; done) | skip
  injection h with h; injection h with e1 e2; exact e2.symm

section
variable {P : Program} {tt : TT} (hT : TOk P tt) {call : CallF} {gl : List Nat} (hc : CallOk P gl call) {ops : Array Oper} {ows : List (Nat × List Operand)} (hreg : RegOk ops ows)
  (hop : ∀ o ∈ ops.toList, ∀ x ∈ o.op.operands.toList, OperandOk gl x) {H0 : AHeap} {R0 : Ren} {w0 : World} {Ff : Fr} {Hf : AHeap} {d0 : List Deferred} {m0 : Nat} (hs0 : Sim H0 R0 w0) (hgl : GlR gl R0)
  {listed : Array Bool} {done rest : List (Nat × List Operand)} {F : Fr} {H : AHeap} {R : Ren} {a : Act} {w : World} {idOf : Nat → Option Nat} {x : Nat × List Operand}

include hT hc hreg hop hs0 hgl in
/-- The program and the interpreter do the next effect. -/
theorem DInv.takeHead (inv : DInv P tt call ops ows H0 R0 w0 Ff Hf d0 m0 listed done (x :: rest) F H R a w idOf) {o : Oper} (ho : ops[x.1]? = some o) (he : effB o.op = true) (hr : Ready ops listed x.1)
    {K : Act → World → Prop} {Q : Exit → Act → World → Prop} (hK : ∀ F' H' R' a' w', DInv P tt call ops ows H0 R0 w0 Ff Hf d0 m0 (listed.setIfInBounds x.1 true) (done ++ [x]) rest F' H' R' a' w' idOf → K a' w') : wpOp P ops Q x.1 K a w := by
  obtain ⟨o', hst⟩ := inv.stepOk hreg
  have := hst.here; rw [ho] at this; injection this with this; subst this
  have hom : o ∈ ops.toList := Array.mem_toList_iff.2 (Array.mem_of_getElem? ho)
  have hrun := inv.run
  rw [List.map_cons, slimAt_eq ho] at hrun
  have hunl : ∀ j ∈ done.map (·.1), listed[j]? = some false → ¬ Anc ops j x.1 := fun j _ hjl h => by have := inv.anc hr h; rw [hjl] at this; cases this
  have hnames : ∀ t ∈ namesL ops.toList o, VR R (F.get t) (a.tmps.getD t undef) := fun t ht => inv.temps t fun j hj hjl oj hoj hd => absurd ((hst.dsts j hj oj hoj t hd).2 ht) (hunl j hj hjl)
  have hopd : ∀ y ∈ o.op.operands.toList, VR R (F.eval y) (a.eval y) := fun y hy => eval_VR (hgl.mono inv.post.le) (hop o hom y hy) fun t e => hnames t (names_operand (e ▸ hy))
  obtain ⟨hk, hcons⟩ := evOps_cons hrun
  have hwe := wanted_eq (W := x.2) (ops := ops) (o := o) (F := F) (tmps := a.tmps) (R := R) (fun t e => hnames t (names_guard e)) hk
  have hxl : listed[x.1]? = some false := inv.unl x.1 (by simp)
  have hmem : ∀ {i}, i ∈ (done ++ [x]).map (·.1) → i ∈ done.map (·.1) ∨ i = x.1 := fun h => by simpa [or_comm, eq_comm] using h
  have fin : ∀ {R' : Ren} {u v : Value} {H1 : AHeap} {w' : World}, R.le R' → VR R' v u → Post H0 R0 w0 H1 R' w' → evOps tt call (rest.map (slimAt ops)) (F.put o.dst v) H1 = some (Ff, Hf) →
      (∀ j ∈ done.map (·.1), listed[j]? = some false → ∀ oj, ops[j]? = some oj → PendOk P tt call ops H0.next F H1 R' oj (idOf j)) → K (a.put o.dst u) w' := fun {R' u v H1 w'} hle hv hpost hrest hpd => by
    refine hK (F.put o.dst v) H1 R' _ w' ⟨by rw [inv.split]; simp, by rw [Array.size_setIfInBounds]; exact inv.lsize, hrest, by rw [put_size, Fr.n_put]; exact inv.n, by rw [put_size]; exact inv.size, by rw [put_defers]; exact inv.defers, hpost, ?_, closed_set inv.closed hr, ?_, ?_, ?_⟩
    · intro k hk
      have hki : k ≠ x.1 := by
        rintro rfl
        obtain ⟨z, hz, e⟩ := List.mem_map.1 hk
        obtain ⟨p2, s2, e2⟩ := List.append_of_mem hz
        obtain ⟨oz, hsz⟩ := hreg.step (done ++ x :: p2) z s2 (by rw [inv.split, e2]; simp)
        exact hsz.fresh (by rw [e]; simp)
      rw [Array.getElem?_setIfInBounds, if_neg (Ne.symm hki)]
      exact inv.unl k (List.mem_cons_of_mem _ hk)
    · intro j hj hjl oj hoj
      obtain ⟨hne, hjl⟩ := set_false hjl
      have hj := (hmem hj).resolve_right hne
      have hqj := (inv.pend j hj hjl oj hoj).1
      refine ⟨hqj, (hpd j hj hjl oj hoj).frame (fun t ht => put_get_other F fun e => ?_) (fun t ht => put_get_other F fun e => ?_) (Fr.n_put ..)⟩
      · rcases (hst.wr j hj oj hoj t e ht).2 with h1 | h1
        · rw [hqj] at h1; cases h1
        · exact absurd h1 (hunl j hj hjl)
      · exact absurd e (hst.dsts j hj oj hoj t ht).1
    · intro j k hj hk hjl hkl hne id
      obtain ⟨hnj, hjl⟩ := set_false hjl
      obtain ⟨hnk, hkl⟩ := set_false hkl
      exact inv.ids j k ((hmem hj).resolve_right hnj) ((hmem hk).resolve_right hnk) hjl hkl hne id
    · intro t ht
      have old : VR R (F.get t) (a.tmps.getD t undef) := inv.temps t fun j hj hjl oj hoj hd => by
        have hjx : j ≠ x.1 := fun e => hst.fresh (e ▸ hj)
        have := ht j (by simp at hj ⊢; exact .inl hj) (by rw [Array.getElem?_setIfInBounds, if_neg (Ne.symm hjx)]; exact hjl) oj hoj hd
        rwa [Fr.n_put] at this
      exact FrR_put inv.n hle hv (fun _ => old) fun _ => old
  unfold wpOp
  rw [ho]
  simp only
  rcases hcons with ⟨hwt, v, H1, hop1, hsame, hrest⟩ | ⟨hwf, hrest⟩
  · rw [hwe] at hwt
    rw [if_pos hwt]
    left
    refine oper_wp hT hc inv.post.sim (hgl.mono inv.post.le) hopd hop1 fun u w' R' hvu hp => ?_
    refine fin hp.le hvu (inv.post.trans hp hs0) hrest fun j hj hjl oj hoj => ?_
    obtain ⟨hqj, hpj⟩ := inv.pend j hj hjl oj hoj
    refine hpj.heap (fun y hy => ?_) hp.next (fun id _ hlt hn => hp.calm id hlt hn) fun id _ hlt hn => ?_
    · cases has : isAssign o.op with
      | true => rw [aop_assign has hop1]; exact Same.refl _ _
      | false =>
        rcases hst.watch he has j hj oj hoj hqj with h1 | h1
        · exact absurd h1 (hunl j hj hjl)
        · exact hsame y (h1 y hy)
    · cases hR' : R'.f id with
      | none => rfl
      | some p =>
        rcases hp.new id p hR' with h1 | ⟨_, h1⟩
        · rw [hn] at h1; cases h1
        · omega
  · rw [hwe] at hwf
    rw [if_neg (by rw [hwf]; simp)]
    exact fin R.le_refl undef_VR inv.post hrest fun j hj hjl oj hoj => (inv.pend j hj hjl oj hoj).2

include hT hreg in
/-- The interpreter goes ahead to the next effect. -/
theorem DInv.ahead (n : Nat) : ∀ {done rest : List (Nat × List Operand)} {F : Fr} {H : AHeap} {idOf : Nat → Option Nat}, rest.length = n → DInv P tt call ops ows H0 R0 w0 Ff Hf d0 m0 listed done rest F H R a w idOf →
    ∃ done rest F H idOf, DInv P tt call ops ows H0 R0 w0 Ff Hf d0 m0 listed done rest F H R a w idOf ∧ ∀ x r, rest = x :: r → ∃ o, ops[x.1]? = some o ∧ effB o.op = true := by
  induction n with
  | zero =>
    intro done rest F H idOf hn inv
    have : rest = [] := List.eq_nil_of_length_eq_zero hn
    subst this
    exact ⟨done, [], F, H, idOf, inv, fun x r h => by cases h⟩
  | succ n ih =>
    intro done rest F H idOf hn inv
    cases rest with
    | nil => cases hn
    | cons x rest =>
      obtain ⟨o, hst⟩ := inv.stepOk hreg
      cases he : effB o.op with
      | true => exact ⟨done, x :: rest, F, H, idOf, inv, fun y r h => by injection h with h1 h2; subst h1; exact ⟨o, hst.here, he⟩⟩
      | false =>
        obtain ⟨F', H', idOf', inv'⟩ := inv.advance hT hreg hst.here he
        exact ih (by simpa using hn) inv'

theorem ready_iff {listed : Array Bool} {i : Nat} (hl : listed.size = ops.size) : i ∈ Region.ready .any ops listed ↔ listed[i]? = some false ∧ Ready ops listed i := by
  unfold Region.ready Ready
  simp only [List.mem_filter, List.mem_range, Bool.and_eq_true, Bool.not_eq_true']
  constructor
  · rintro ⟨hi, hl1, hr⟩
    have hli : i < listed.size := by omega
    have h1 : listed[i]? = some false := by
      rw [Array.getD_eq_getD_getElem?, Array.getElem?_eq_getElem hli] at hl1
      rw [Array.getElem?_eq_getElem hli]; simpa using hl1
    refine ⟨h1, fun o ho k hk => ?_⟩
    rw [ho] at hr
    simp only [Option.map_some, Option.getD_some, Array.all_eq_true', ← Array.mem_toList_iff] at hr
    obtain ⟨e, hem, hb, rfl⟩ := mem_predsOf.1 hk
    have := hr e hem
    rw [hb] at this
    simp only [Bool.not_true, Bool.false_or] at this
    rw [Array.getD_eq_getD_getElem?] at this
    cases hh : listed[e.on]? with
    | none => rw [hh] at this; cases this
    | some b => rw [hh] at this; simp at this; rw [this]
  · rintro ⟨h1, hr⟩
    have hli : i < listed.size := (Array.getElem?_eq_some_iff.1 h1).1
    have hi : i < ops.size := by omega
    refine ⟨hi, by rw [Array.getD_eq_getD_getElem?, h1]; rfl, ?_⟩
    have ho : ops[i]? = some ops[i] := Array.getElem?_eq_getElem hi
    rw [ho]
    simp only [Option.map_some, Option.getD_some, Array.all_eq_true', ← Array.mem_toList_iff]
    intro e hem
    cases hb : Region.binds .any e with
    | false => rfl
    | true =>
      have := hr _ ho e.on (mem_predsOf.2 ⟨e, hem, hb, rfl⟩)
      rw [Array.getD_eq_getD_getElem?, this]; rfl
end
end Go.Sp
