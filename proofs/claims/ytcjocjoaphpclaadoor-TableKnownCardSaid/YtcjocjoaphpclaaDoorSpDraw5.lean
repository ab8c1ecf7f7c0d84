/- Regions that may be run in any order: the whole. -/
import Derived.Test.YtcjocjoaphpclaaDoorSpDraw4
namespace Go.Sp

theorem first_such {α : Type} (p : α → Prop) (l : List α) (h : ∃ x ∈ l, p x) : ∃ pre x suf, l = pre ++ x :: suf ∧ p x ∧ ∀ y ∈ pre, ¬ p y := by
  induction l with
  | nil => obtain ⟨x, hx, _⟩ := h; cases hx
  | cons a l ih =>
    by_cases ha : p a
    · exact ⟨[], a, l, rfl, ha, fun y hy => by cases hy⟩
    · obtain ⟨x, hx, hpx⟩ := h
      cases hx with
      | head => exact absurd hpx ha
      | tail _ hx =>
        obtain ⟨pre, y, suf, e, hy, hall⟩ := ih ⟨x, hx, hpx⟩
        exact ⟨a :: pre, y, suf, by rw [e]; rfl, hy, fun z hz => by cases hz with
          | head => exact ha
          | tail _ hz => exact hall z hz⟩

theorem count_set {l : List Bool} {i : Nat} (h : l[i]? = some false) : (l.set i true).count false + 1 = l.count false := by
  induction l generalizing i with
  | nil => cases h
  | cons a l ih =>
    cases i with
    | zero =>
      simp at h; subst h
      simp
    | succ i =>
      have := ih (i := i) (by simpa using h)
      simp only [List.set_cons_succ, List.count_cons]
      omega

section
variable {P : Program} {tt : TT} (hT : TOk P tt) {call : CallF} {gl : List Nat} (hc : CallOk P gl call) {ops : Array Oper} {ows : List (Nat × List Operand)} (hreg : RegOk ops ows)
  (hop : ∀ o ∈ ops.toList, ∀ x ∈ o.op.operands.toList, OperandOk gl x) {H0 : AHeap} {R0 : Ren} {w0 : World} {Ff : Fr} {Hf : AHeap} {d0 : List Deferred} {m0 : Nat} (hs0 : Sim H0 R0 w0) (hgl : GlR gl R0)
  {listed : Array Bool} {done rest : List (Nat × List Operand)} {F : Fr} {H : AHeap} {R : Ren} {a : Act} {w : World} {idOf : Nat → Option Nat} {x : Nat × List Operand}

include hreg in
theorem DInv.none_left (inv : DInv P tt call ops ows H0 R0 w0 Ff Hf d0 m0 listed done rest F H R a w idOf) (hn : Region.ready .any ops listed = []) : ∀ (i : Nat), listed[i]? ≠ some false := by
  intro i hi
  have hlt : i < ops.size := by rw [← inv.lsize]; exact (Array.getElem?_eq_some_iff.1 hi).1
  obtain ⟨z, hz, rfl⟩ := List.mem_map.1 (hreg.all i hlt)
  obtain ⟨pre, x, suf, e, hx, hall⟩ := first_such (fun z : Nat × List Operand => listed[z.1]? = some false) ows ⟨z, hz, hi⟩
  obtain ⟨o, hst⟩ := hreg.step pre x suf e
  have : x.1 ∈ Region.ready .any ops listed := (ready_iff inv.lsize).2 ⟨hx, fun o' ho' k hk => by
    rw [hst.here] at ho'; injection ho' with ho'; subst ho'
    obtain ⟨y, hy, rfl⟩ := List.mem_map.1 (hst.topo k hk)
    have hyn := hall y hy
    have hyo : y.1 < ops.size := by
      obtain ⟨p1, s1, e1⟩ := List.append_of_mem hy
      obtain ⟨oy, hsy⟩ := hreg.step p1 y (s1 ++ x :: suf) (by rw [e, e1]; simp)
      exact (Array.getElem?_eq_some_iff.1 hsy.here).1
    have hyl : y.1 < listed.size := by rw [inv.lsize]; exact hyo
    rw [Array.getElem?_eq_getElem hyl] at hyn ⊢
    cases hb : listed[y.1] with
    | true => rfl
    | false => rw [hb] at hyn; exact absurd rfl hyn⟩
  rw [hn] at this; cases this

theorem DInv.finish (inv : DInv P tt call ops ows H0 R0 w0 Ff Hf d0 m0 listed done rest F H R a w idOf) (hn : ∀ (i : Nat), listed[i]? ≠ some false) {Q : Exit → Act → World → Prop}
    (hQ : ∀ a' w' R', a'.defers = d0 → a'.tmps.size = m0 → (∀ t, VR R' (Ff.get t) (a'.tmps.getD t undef)) → Post H0 R0 w0 Hf R' w' → Q .normal a' w') : Q .normal a w := by
  cases rest with
  | cons x rest => exact absurd (inv.unl x.1 (by simp)) (hn x.1)
  | nil =>
    have := inv.run
    injection this with this; injection this with e1 e2; subst e1; subst e2
    exact hQ a w R inv.defers inv.size (fun t => inv.temps t fun i _ hil => absurd hil (hn i)) inv.post

include hT hc hreg hop hs0 hgl in
theorem DInv.any {Q : Exit → Act → World → Prop} (hQ : ∀ a' w' R', a'.defers = d0 → a'.tmps.size = m0 → (∀ t, VR R' (Ff.get t) (a'.tmps.getD t undef)) → Post H0 R0 w0 Hf R' w' → Q .normal a' w') (fuel : Nat) :
    ∀ {listed : Array Bool} {done rest : List (Nat × List Operand)} {F : Fr} {H : AHeap} {R : Ren} {a : Act} {w : World} {idOf : Nat → Option Nat},
      DInv P tt call ops ows H0 R0 w0 Ff Hf d0 m0 listed done rest F H R a w idOf → listed.toList.count false ≤ fuel → wpAny P .any ops Q fuel listed a w := by
  induction fuel with
  | zero =>
    intro listed done rest F H R a w idOf inv hcnt
    have hn : ∀ (i : Nat), listed[i]? ≠ some false := fun i hi => by
      have : false ∈ listed.toList := List.mem_of_getElem? (by simpa using hi)
      have := List.count_pos_iff.2 this
      omega
    refine ⟨?_, inv.finish hn hQ⟩
    cases hr : Region.ready .any ops listed with
    | nil => rfl
    | cons i r => exact absurd ((ready_iff inv.lsize).1 (by rw [hr]; exact List.mem_cons_self ..)).1 (hn i)
  | succ fuel ih =>
    intro listed done rest F H R a w idOf inv hcnt
    refine ⟨fun hr => inv.finish (inv.none_left hreg hr) hQ, fun i hi => ?_⟩
    obtain ⟨hil, hrd⟩ := (ready_iff inv.lsize).1 hi
    obtain ⟨done, rest, F, H, idOf, inv, hhead⟩ := DInv.ahead hT hreg rest.length rfl inv
    have hcnt' : (listed.setIfInBounds i true).toList.count false ≤ fuel := by
      have := count_set (l := listed.toList) (i := i) (by simpa using hil)
      rw [Array.toList_setIfInBounds]; omega
    have hlt : i < ops.size := by rw [← inv.lsize]; exact (Array.getElem?_eq_some_iff.1 hil).1
    have himem := hreg.all i hlt
    rw [inv.split, List.map_append, List.mem_append] at himem
    rcases himem with him | him
    · exact inv.takePend hT hc hreg hop hs0 hgl him hil hrd fun R' a' w' inv' => ih inv' hcnt'
    · cases rest with
      | nil => cases him
      | cons x rest =>
        obtain ⟨o, ho, he⟩ := hhead x rest rfl
        by_cases hix : i = x.1
        · subst hix
          exact inv.takeHead hT hc hreg hop hs0 hgl ho he hrd fun F' H' R' a' w' inv' => ih inv' hcnt'
        · exfalso
          have him : i ∈ rest.map (·.1) := by
            simp only [List.map_cons, List.mem_cons] at him; exact him.resolve_left hix
          obtain ⟨z, hz, rfl⟩ := List.mem_map.1 him
          obtain ⟨p2, s2, e2⟩ := List.append_of_mem hz
          obtain ⟨oz, hsz⟩ := hreg.step (done ++ x :: p2) z s2 (by rw [inv.split, e2]; simp)
          obtain ⟨k, hk, hkm⟩ := hsz.chain (done.map (·.1)) x.1 (p2.map (·.1)) (by simp) fun oe hoe => by rw [ho] at hoe; injection hoe with hoe; subst hoe; exact he
          have h1 := hrd oz hsz.here k hk
          have h2 := inv.unl k (by rw [e2]; simp only [List.map_cons, List.map_append, List.mem_cons, List.mem_append] at hkm ⊢; rcases hkm with h | h; exact .inl h; exact .inr (.inl h))
          rw [h2] at h1; cases h1
end

/-- A region that is run in any order gives what the interpreter gives. -/
theorem draw_ok {P : Program} {tt : TT} (hT : TOk P tt) {call : CallF} {gl : List Nat} (hc : CallOk P gl call) {ops : Array Oper} (hop : ∀ o ∈ ops.toList, ∀ x ∈ o.op.operands.toList, OperandOk gl x)
    {ord : List Nat} {l : List ROp} (hl : regDraw ops ord = some l) {F Ff : Fr} {H Hf : AHeap} {R : Ren} {a : Act} {w : World} (hrun : evOps tt call l F H = some (Ff, Hf)) (hs : Sim H R w) (hgl : GlR gl R)
    (hn : F.n = a.tmps.size) (ht : ∀ t, VR R (F.get t) (a.tmps.getD t undef)) {Q : Exit → Act → World → Prop} (hm : P.follows .mixedOrders = true) (id : Nat)
    (hQ : ∀ a' w' R', a'.defers = a.defers → a'.tmps.size = a.tmps.size → (∀ t, VR R' (Ff.get t) (a'.tmps.getD t undef)) → Post H R w Hf R' w' → Q .normal a' w') : (Code.region id ops true).wp P Q a w := by
  obtain ⟨ows, hreg, e⟩ := regDraw_ok hl
  refine wp_region_any hm ?_
  have hs' : Sim H R { w with drawn := w.drawn + 1 } := hs.of_heap rfl
  have hin : ∀ i, i ∈ ows.map (·.1) → i < ops.size := fun i hi => by
    obtain ⟨z, hz, rfl⟩ := List.mem_map.1 hi
    obtain ⟨p, s, e⟩ := List.append_of_mem hz
    obtain ⟨o, ho⟩ := hreg.step p z s e
    exact (Array.getElem?_eq_some_iff.1 ho.here).1
  refine DInv.any (gl := gl) (ows := ows) (H0 := H) (R0 := R) (w0 := { w with drawn := w.drawn + 1 }) (Ff := Ff) (Hf := Hf) (d0 := a.defers) (m0 := a.tmps.size) hT hc hreg hop hs' hgl (Q := Q)
    (fun a' w' R' h1 h2 h3 h4 => hQ a' w' R' h1 h2 h3 (h4.from_heap rfl rfl rfl)) ops.size (done := []) (rest := ows) (F := F) (H := H) (R := R) (idOf := fun _ => none) ?_ ?_
  · refine ⟨rfl, by simp, ?_, hn, rfl, rfl, .refl hs', fun i hi => by simp [hin i hi], fun i hi => ?_, fun i hi => (by cases hi), fun i j hi => (by cases hi), fun t _ => ht t⟩
    · rw [← hrun, e]; rfl
    · simp [Array.getElem?_replicate] at hi
  · simp
end Go.Sp
