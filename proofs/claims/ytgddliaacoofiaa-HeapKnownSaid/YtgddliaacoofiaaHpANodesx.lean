/- Calls whose result is a row of their own: the caller may write into it. -/
import Derived.Test.YtgddliaacoofiaaSpClox
import Derived.Test.YtgddliaacoofiaaSpFramex

namespace Go.Sp

theorem Post.adopt {H0 H : AHeap} {R0 R : Ren} {w0 w : World} (hp : Post H0 R0 w0 H R w) {k c β n : Nat} (hk : k < H.next) (hmin : H0.next ≤ k) (hR : R.f k = none) (hc0 : w0.heap.size ≤ c) (hc : c < w.heap.size)
    (hfr : ∀ id β', R.f id = some (c, β') → False) (hro : R.ro c = none)
    (hobj : ∀ Q, R.le Q → Q.f k = some (c, β) → Q.sz c = n → ObjR Q (H.get k) c β w.heap[c]?) :
    R.le (R.ext k c β n) ∧ Post H0 R0 w0 H (R.ext k c β n) w := by
  have hs := hp.sim
  have hne : ∀ id p, R.f id = some p → id ≠ k := fun id p h e => by rw [e, hR] at h; cases h
  have hle : R.le (R.ext k c β n) := ⟨fun id c' β' h => by
    refine ⟨?_, ?_⟩
    · rw [Ren.ext_other _ (hne id _ h)]; exact h
    · have : c' ≠ c := fun e => by subst e; exact hfr _ _ h
      simp [Ren.ext, this], fun _ _ h => h⟩
  have back : ∀ id p, (R.ext k c β n).f id = some p → (id = k ∧ p = (c, β)) ∨ (id ≠ k ∧ R.f id = some p) := fun id p h => by
    by_cases hid : id = k
    · subst hid; rw [Ren.ext_new] at h; exact .inl ⟨rfl, by injection h with h; exact h.symm⟩
    · rw [Ren.ext_other _ hid] at h; exact .inr ⟨hid, h⟩
  have hR0 : R0.f k = none := by
    cases h : R0.f k with
    | none => rfl
    | some p => have := (hp.le k p.1 p.2 h).1; rw [hR] at this; cases this
  refine ⟨hle, ⟨fun id c β h => ?_, hp.le.ro⟩, ?_, ⟨?_, ?_, ?_, hs.anc, hs.wf, fun c' C hc' => ?_⟩, hp.next, hp.grow, hp.frame, hp.calm, hp.imm, ?_, hp.side, hp.rofresh⟩
  · have h1 := hp.le id c β h
    have h2 := hle id c β h1.1
    exact ⟨h2.1, h2.2.trans h1.2⟩
  · intro id p h
    rcases back id p h with ⟨rfl, _⟩ | ⟨_, h1⟩
    · exact .inr ⟨hR0, hmin⟩
    · exact hp.new id p h1
  · intro id c' β' h
    rcases back id _ h with ⟨rfl, e⟩ | ⟨_, h1⟩
    · cases e; exact ⟨hk, hc⟩
    · exact hs.dom id c' β' h1
  · intro id c' β' h
    rcases back id _ h with ⟨rfl, e⟩ | ⟨_, h1⟩
    · cases e; exact hobj _ hle (Ren.ext_new _ _ _ _ _) (Ren.ext_sz _ _ _ _ _)
    · exact (hs.obj id c' β' h1).mono hle (hle id c' β' h1).2
  · intro id c' β' id' β'' h h' hne' hw
    rcases back id _ h with ⟨rfl, e⟩ | ⟨_, h1⟩
    · cases e
      rcases back id' _ h' with ⟨rfl, _⟩ | ⟨_, h1'⟩
      · exact absurd rfl hne'
      · exact (hfr _ _ h1').elim
    · rcases back id' _ h' with ⟨rfl, e⟩ | ⟨_, h1'⟩
      · cases e; exact (hfr _ _ h1).elim
      · exact hs.sep id c' β' id' β'' h1 h1' hne' hw
  · obtain ⟨h1, h2⟩ := hs.ro c' C hc'
    refine ⟨h1, fun id β' h => ?_⟩
    rcases back id _ h with ⟨rfl, e⟩ | ⟨_, h3⟩
    · cases e
      have hc' : R.ro c = some C := hc'
      rw [hro] at hc'; cases hc'
    · exact h2 id β' h3
  · intro id c' β' h hr
    rcases back id _ h with ⟨rfl, e⟩ | ⟨_, h1⟩
    · cases e; exact .inl hc0
    · exact hp.fresh id c' β' h1 hr

noncomputable section
def liveF (tabs : List (List Value)) (sz : Nat) (f : List Value → Option Value) (args : List Value) (H : AHeap) : Option (Value × AHeap) :=
  bb (tabsOk H tabs 0) (bb (allL closed2 args) (oo (f args) none fun v => oo (toSl sz v) none fun s =>
    some (.slice (some ⟨H.next, 0, some sz⟩) s.n (2 * s.n + bb false 1 0), H.push (.cells s.cs false false []))) none) none
end

def LiveOk (P : Program) (tabs : List (List Value)) (g : FuncId) (sz : Nat) (f : List Value → Option Value) : Prop :=
  (∀ (as : Array Value) (w : World), (callFunc g as).run P w = .ok (.enter g as) w) ∧
  ∀ args v, f args = some v → (∀ x ∈ args, closed2 x = true) →
    ∀ R w args', R.f = (fun i => if i < tabs.length then some (i, 0) else none) → Sim (pureHeap tabs) R w → VRL R args args' →
      Calls P g ⟨args'⟩ w fun e w' => ∃ u H' R' id off c2 anc xs, ∃ s : Sl, e = .returned u ∧ VR R' (.slice (some ⟨id, off, some sz⟩) s.n c2) u ∧ Post (pureHeap tabs) R w H' R' w' ∧
        tabs.length ≤ id ∧ H'.get id = .cells xs false false anc ∧ off + s.n * sz ≤ xs.length ∧ s.cs = (xs.drop off).take (s.n * sz) ∧ (∀ x ∈ s.cs, closed1 x = true) ∧ v = s.v sz

def FinL (tt : TT) (n0 sz : Nat) (rs : List ResultVar) (v : Value) : Ex → Fr → AHeap → Prop
  | .exit _, _, _ => False
  | .goto _, _, _ => False
  | _, F, H => ∃ id off c2 anc xs, ∃ s : Sl, aresults tt F H rs = some (.slice (some ⟨id, off, some sz⟩) s.n c2) ∧ n0 ≤ id ∧ H.get id = .cells xs false false anc ∧ off + s.n * sz ≤ xs.length ∧ s.cs = (xs.drop off).take (s.n * sz) ∧ (∀ x ∈ s.cs, closed1 x = true) ∧ v = s.v sz

section
variable {P : Program} {tabs : List (List Value)}

theorem liveOk_of_run {tt : TT} (hT : TOk P tt) (hm : P.follows .mixedOrders = true) {g sz : Nat} {r : RFn} {call : CallF} (hc : CallOk P (List.range tabs.length) call) (hfn : FnOk P (List.range tabs.length) g r) {f : List Value → Option Value}
    (h : ∀ args v, f args = some v → (∀ x ∈ args, closed2 x = true) → args.length ≤ r.n ∧ Run tt call tabs.length r.body (Fr.made r.n args) (pureHeap tabs) (FinL tt tabs.length sz r.results v)) : LiveOk P tabs g sz f := by
  refine ⟨enter_ok hfn, fun args v hv hcl => ?_⟩
  obtain ⟨hle, hrun⟩ := h args v hv hcl
  intro R w args' hR hs ha
  obtain ⟨fd, c, e1, e2, e3, e4, _, hcomp, hok⟩ := hfn.ok
  refine calls_of_wp e1 e2 ?_
  have hlen := ha.1
  have hsize : ((⟨args'⟩ : Array Value) ++ Array.replicate (fd.ntmps - (⟨args'⟩ : Array Value).size) undef).size = r.n := by simp; omega
  have hgl : GlR (List.range tabs.length) R := fun g hg => by rw [hR]; simp at hg; simp [hg]
  have hfull : ∀ id, id < (pureHeap tabs).next → R.f id = none → (pureHeap tabs).get id = .dead := fun id hid hr => by
    have hid : id < len tabs := hid
    rw [len_eq] at hid
    rw [hR] at hr; simp [hid] at hr
  have hrun : Run tt call (pureHeap tabs).next r.body (Fr.made r.n args) (pureHeap tabs) (FinL tt tabs.length sz r.results v) := by
    show Run tt call (len tabs) _ _ _ _
    rw [len_eq]; exact hrun
  have hst : St (List.range tabs.length) (pureHeap tabs) R w [] r.n (Fr.made r.n args) (pureHeap tabs) ⟨(⟨args'⟩ : Array Value) ++ Array.replicate (fd.ntmps - (⟨args'⟩ : Array Value).size) undef, []⟩ w := by
    refine ⟨⟨R, .refl hs, fun t => ?_⟩, rfl, hsize, Fr.n_made ..⟩
    rw [Fr.get_made, Array.getD_eq_getD_getElem?]
    show VR R _ (((⟨args'⟩ : Array Value) ++ Array.replicate (fd.ntmps - (⟨args'⟩ : Array Value).size) undef)[t]?.getD undef)
    rw [Array.getElem?_append]
    by_cases hlt : t < args'.length
    · rw [if_pos (by simpa using hlt)]
      obtain ⟨x, hx⟩ : ∃ x, args[t]? = some x := ⟨args[t]'(by omega), by simp⟩
      obtain ⟨y, hy, hv⟩ := ha.get hx
      rw [hx, show (⟨args'⟩ : Array Value)[t]? = some y by simpa using hy]
      exact hv
    · rw [List.getElem?_eq_none (by omega)]
      exact .any _
  refine wp_mono (hrun.sound hT hc hm hs hgl (fun id h1 h2 => by rw [hfull id h1 h2]; trivial) hcomp hok _ w hst) fun x a' w' ⟨e, F', H', h1, h2, h3⟩ => ?_
  subst h1
  obtain ⟨⟨R', hp, ht⟩, hd, _, _⟩ := h3
  have fin : FinL tt tabs.length sz r.results v .normal F' H' → bodyPost P fd (fun e w' => ∃ u H' R' id off c2 anc xs, ∃ s : Sl, e = .returned u ∧ VR R' (.slice (some ⟨id, off, some sz⟩) s.n c2) u ∧ Post (pureHeap tabs) R w H' R' w' ∧
        tabs.length ≤ id ∧ H'.get id = .cells xs false false anc ∧ off + s.n * sz ≤ xs.length ∧ s.cs = (xs.drop off).take (s.n * sz) ∧ (∀ x ∈ s.cs, closed1 x = true) ∧ v = s.v sz) .normal a' w' := fun ⟨id, off, c2, anc, xs, s, hres, g1, g2, g3, g4, g5, g6⟩ => by
    rw [← e4] at hres
    obtain ⟨u, hu, huv⟩ := aresults_ok hT hp.sim ht hres
    exact ⟨hd, u, hu, u, H', R', id, off, c2, anc, xs, s, rfl, huv, hp, g1, g2, g3, g4, g5, g6⟩
  cases e with
  | normal => exact fin h2
  | exit j => exact h2.elim
  | goto j => exact h2.elim
  | ret => exact fin h2

theorem liveF_ok (hne : ∀ t ∈ tabs, t ≠ []) (hpl : ∀ t ∈ tabs, ∀ x ∈ t, plain1 x = true) {g sz : Nat} {f : List Value → Option Value} (hok : LiveOk P tabs g sz f) {args : List Value} {H H' : AHeap} {v : Value} (h : liveF tabs sz f args H = some (v, H')) :
    (∀ (as : Array Value) (w : World), (callFunc g as).run P w = .ok (.enter g as) w) ∧
    ∀ R w args', Sim H R w → GlR (List.range tabs.length) R → VRL R args args' → Calls P g ⟨args'⟩ w fun e w' => ∃ u R', e = .returned u ∧ VR R' v u ∧ Post H R w H' R' w' := by
  refine ⟨hok.1, fun R w args' hs hgl ha => ?_⟩
  obtain ⟨htab, h1⟩ := bb_inv h
  obtain ⟨hcl, h1⟩ := bb_inv h1
  rw [allL_eq, List.all_eq_true] at hcl
  obtain ⟨v', hv', h1⟩ := oo_inv h1
  obtain ⟨s, hsl, h1⟩ := oo_inv h1
  injection h1 with h1; injection h1 with e1 e2; subst e1; subst e2
  have hs0 := pure_sim hs hgl htab R.ro (fun c C h => (hs.ro c C h).1) (fun c C h => h) hne hpl
  refine (hok.2 args v' hv' hcl _ w args' rfl hs0 (closed2L_VR (R := R) (R' := ⟨fun i => if i < tabs.length then some (i, 0) else none, R.sz, R.ro⟩) (fun _ _ h => h) ha hcl)).mono fun e w' ⟨u, H1, R1, id, off, c2, anc, xs, s', he, hu, hp, g1, g2, g3, g4, g5, g6⟩ => ?_
  have hss : s' = s := by
    rw [toSl_some hsl] at g6
    injection g6 with q1 q2
    injection q2 with q2
    injection q2 with q2
    injection q2 with q3 q4
    injection q3 with _ q5 q6
    cases s; cases s'
    simp only at q4 q5 q6
    subst q4; subst q5; subst q6; rfl
  subst hss
  -- what the caller knows behind the call
  have hpp : Post H R w H ⟨R.f, R.sz, R1.ro⟩ w' := pure_post hs rfl hp rfl rfl (fun c C h => hp.le.ro c C h) fun c C h => by
    rcases hp.rofresh c C h with h3 | h3 | ⟨id, β, h3, h4⟩
    · exact .inl h3
    · exact .inr ⟨h3, h⟩
    · have := pureHeap_imm (tabf_some (show (if id < tabs.length then some (id, 0) else none) = some (c, β) from h3)).1
      rw [this] at h4; cases h4
  have hpa := hpp.absPush (obj := .cells s'.cs false false []) rfl
  have hnone : R.f H.next = none := hs.none_of_next
  have empty : s'.n = 0 → (∃ c o, u = .slice (some ⟨c, o, none⟩) 0 0) ∨ u = .slice none 0 0 → ∃ u' R', e = .returned u' ∧ VR R' (.slice (some ⟨H.next, 0, some sz⟩) s'.n (2 * s'.n + bb false 1 0)) u' ∧ Post H R w (H.push (.cells s'.cs false false [])) R' w' := fun h0 hcase => by
    refine ⟨u, _, he, ?_, hpa⟩
    rw [h0]
    rcases hcase with ⟨c, o, rfl⟩ | rfl
    · exact .slE rfl
    · exact .slN rfl
  have hvs : vSl (.slice (some ⟨id, off, some sz⟩) s'.n c2) = some ⟨id, off, sz, s'.n, c2⟩ := rfl
  rcases hu.sl_l hvs with ⟨c, β, cap, hid, hu', k1, k2, k3, k4⟩ | ⟨c, o2, hu', k0, k00⟩ | ⟨hu', k0, k00⟩
  · have hidn : (fun i => if i < tabs.length then some (i, 0) else none : Nat → Option (Nat × Nat)) id = none := by simp; omega
    have hcf : w.heap.size ≤ c := by
      rcases hp.fresh id c β hid hidn with h3 | ⟨id0, β0, h3, h4⟩
      · exact h3
      · have := pureHeap_imm (tabf_some (show (if id0 < tabs.length then some (id0, 0) else none) = some (c, β0) from h3)).1
        rw [this] at h4; cases h4
    have hcd := (hp.sim.dom id c β hid).2
    have hob := hp.sim.obj id c β hid
    rw [g2] at hob
    obtain ⟨C, t, fz, m1, m2, m3, m4, m5⟩ := hob
    have hroc : R1.ro c = none := by
      cases hr : R1.ro c with
      | none => rfl
      | some D =>
        have := (hp.sim.ro c D hr).2 id β hid
        rw [g2] at this; cases this
    obtain ⟨hle2, hpost⟩ := hpa.adopt (k := H.next) (c := c) (β := β + off) (n := R1.sz c) (by simp) (Nat.le_refl _) hnone hcf hcd (fun id' β' h' => by have := (hs.dom id' c β' h').2; omega) hroc (fun Q hQ _ hQs => by
      rw [AHeap.get_push, if_pos rfl]
      refine ⟨C, t, fz, m1, by rw [hQs]; exact m2, by rw [g4]; simp; omega, fun i x hx => ?_, m5⟩
      rw [g4, List.getElem?_take] at hx
      split at hx
      · rename_i hi
        rw [List.getElem?_drop] at hx
        obtain ⟨y, n1, n2⟩ := m4 (off + i) x hx
        refine ⟨y, by rw [← n1]; congr 1; omega, n2.closed (R := R1) (R' := Q) (fun c' C' h' => hQ.ro c' C' h') (g5 x ?_)⟩
        rw [g4]
        refine List.mem_of_getElem? (i := i) ?_
        rw [List.getElem?_take, if_pos hi, List.getElem?_drop]; exact hx
      · cases hx)
    refine ⟨u, _, he, ?_, hpost⟩
    have k1 : s'.n ≤ c2 / 2 := k1
    have k2 : c2 / 2 ≤ cap := k2
    have e9 : (2 * s'.n + bb false 1 0) / 2 = s'.n := by show (2 * s'.n + 0) / 2 = _; omega
    have : VR ((⟨R.f, R.sz, R1.ro⟩ : Ren).ext H.next c (β + off) (R1.sz c)) (.slice (some ⟨H.next, 0, some sz⟩) s'.n (2 * s'.n + bb false 1 0)) (.slice (some ⟨c, (β + off) + 0, none⟩) s'.n cap) :=
      .sl (Ren.ext_new _ _ _ _ _) (by rw [e9]; exact Nat.le_refl _) (by rw [e9]; omega) (fun h9 => by exfalso; have h9 : (2 * s'.n + 0) % 2 = 1 := h9; omega) (by rw [Ren.ext_sz]; exact k4)
    rw [hu']
    exact this
  · exact empty k0 (.inl ⟨c, o2, hu'⟩)
  · exact empty k0 (.inr hu')
end

theorem live_eq {α : Type} {o : Option Value} {sz : Nat} {x : Sl} {k : Sl → α} (h : o = some (x.v sz)) : (oo o none fun v => oo (toSl sz v) none fun s => some (k s)) = some (k x) := by
  rw [h, oo_some]
  have : toSl sz (x.v sz) = some x := by
    show bb (Nat.beq sz sz) (some x) none = some x
    rw [Nat.beq_refl]; rfl
  rw [this, oo_some]

noncomputable section
def giveV (z : Nat) (v : Value) (H : AHeap) : Option (Value × AHeap) :=
  oo (vSl v) (bb (isNilSl v) (some (fsV z 0 2 [], H)) (bb (closed2 v) (some (v, H)) none)) fun s => oo (oCells (H.get s.id)) none fun o =>
    bb (an (nt o.imm) (an (nt o.spent) (an (Nat.ble (s.off + s.len * s.sz) (len o.xs)) (allL closed1 (takeL (s.len * s.sz) (dropL s.off o.xs))))))
      (some (fsV s.sz s.len 0 (takeL (s.len * s.sz) (dropL s.off o.xs)), H.set s.id .dead)) none
def giveL (z : Nat) (l : List Value) : AHeap → Option (List Value × AHeap) :=
  List.rec (motive := fun _ => AHeap → Option (List Value × AHeap)) (fun H => some ([], H)) (fun v _ ih H => oo (giveV z v H) none fun p => pp p fun v' H1 => oo (ih H1) none fun q => pp q fun r H2 => some (v' :: r, H2)) l
def giveF (tabs : List (List Value)) (z : Nat) (f : List Value → Option Value) (args : List Value) (H : AHeap) : Option (Value × AHeap) :=
  oo (giveL z args H) none fun p => pp p fun as H1 => bb (tabsOk H1 tabs 0) (oo (f as) none fun v => some (v, H1)) none
end

theorem giveV_ok {z : Nat} {v v' u : Value} {H H' : AHeap} {R : Ren} {w : World} (h : giveV z v H = some (v', H')) (hs : Sim H R w) (hx : VR R v u) :
    ∃ R', R.le R' ∧ R'.f = R.f ∧ Post H R w H' R' w ∧ VR R' v' u ∧ closed2 v' = true := by
  unfold giveV at h
  cases hsl : vSl v with
  | none =>
    rw [hsl, oo_none] at h
    rcases bb_cases h with ⟨hn, h⟩ | ⟨_, h⟩
    · injection h with h; injection h with e1 e2; subst e1; subst e2
      refine ⟨R, R.le_refl, rfl, .refl hs, ?_, rfl⟩
      rw [isNilSl_true hn] at hx
      rw [hx.slNil_l]; exact .fsN z 2 (by decide)
    · obtain ⟨hc, h⟩ := bb_inv h
      injection h with h; injection h with e1 e2; subst e1; subst e2
      exact ⟨R, R.le_refl, rfl, .refl hs, hx, hc⟩
  | some s =>
  rw [hsl, oo_some] at h
  obtain ⟨o, ho, h1⟩ := oo_inv h
  obtain ⟨hc, h2⟩ := bb_inv h1
  obtain ⟨c1, hc⟩ := an_inv hc
  obtain ⟨c3, hc⟩ := an_inv hc
  obtain ⟨c4, c5⟩ := an_inv hc
  have c1 := nt_false c1
  have c3 := nt_false c3
  simp only [len_eq] at c4
  have c4 := Nat.le_of_ble_eq_true c4
  rw [allL_eq, List.all_eq_true] at c5
  simp only [takeL_eq, dropL_eq] at c5 h2
  injection h2 with h2; injection h2 with e1 e2; subst e1; subst e2
  have ho' := oCells_some ho
  rw [c1, c3] at ho'
  have dead : ∀ (R' : Ren), R.le R' → R'.f = R.f → R'.sz = R.sz → (∀ c C, R'.ro c = some C → R.ro c = some C ∨ ∃ β, R.f s.id = some (c, β) ∧ ∃ ty fz, w.heap[c]? = some (.cells C ty fz)) →
      Post H R w (H.set s.id .dead) R' w := fun R' hle hRf hRs hro => by
    have hget : ∀ id, (H.set s.id .dead).get id = if s.id = id then .dead else H.get id := fun id => AHeap.get_set _ _ _ _
    have hnext : (H.set s.id .dead).next = H.next := by simp
    have hwr : ∀ id, (H.get id).writable = false → ((H.set s.id .dead).get id).writable = false := fun id h => by
      rw [hget]; split
      · rfl
      · exact h
    have hp := Post.refl hs
    refine ⟨⟨fun id c β h0 => by rw [hRf, hRs]; exact ⟨h0, rfl⟩, hle.ro⟩, fun id p h0 => by rw [hRf] at h0; exact .inl h0, ?_, by rw [hnext]; exact Nat.le_refl _, Nat.le_refl _, fun _ _ _ => rfl,
      fun id hi hr Q c β ob h0 => ?_, fun id hi him => ?_, fun id c β h0 hr => by rw [hRf] at h0; exact hp.fresh id c β h0 hr, hp.side, fun c C h0 => ?_⟩
    · refine ⟨fun id c β h0 => by rw [hRf] at h0; rw [hnext]; exact hs.dom id c β h0, fun id c β h0 => ?_, fun id c β id' β' h0 h0' hne hw => ?_, fun id a ha => ?_, fun id hi => ?_, fun c C h0 => ?_⟩
      · rw [hRf] at h0
        rw [hget]; split
        · trivial
        · exact (hs.obj id c β h0).mono hle (by rw [hRs])
      · rw [hRf] at h0 h0'
        have hg1 := hget id
        have hg2 := hget id'
        by_cases hn : s.id = id
        · rw [if_pos hn] at hg1; rw [hg1] at hw; cases hw
        · rw [if_neg hn] at hg1
          rw [hg1] at hw ⊢
          by_cases hn' : s.id = id'
          · rw [if_pos hn'] at hg2; exact .inl hg2
          · rw [if_neg hn'] at hg2; rw [hg2]; exact hs.sep id c β id' β' h0 h0' hne hw
      · rw [hget] at ha
        split at ha
        · cases ha
        · have := hs.anc id a ha
          rw [hnext, hget]
          refine ⟨this.1, ?_⟩
          split
          · exact ⟨rfl, rfl⟩
          · exact this.2
      · rw [hnext] at hi
        rw [hget]; split
        · rfl
        · exact hs.wf id hi
      · rcases hro c C h0 with h1 | ⟨β, h1, ty, fz, h2⟩
        · exact ⟨(hs.ro c C h1).1, fun id β h9 => by rw [hRf] at h9; exact hwr id ((hs.ro c C h1).2 id β h9)⟩
        · refine ⟨⟨ty, fz, h2⟩, fun id β' h9 => ?_⟩
          rw [hRf] at h9
          rw [hget]
          split
          · rfl
          · rename_i hn
            cases hwi : (H.get id).writable with
            | false => rfl
            | true =>
              rcases hs.sep id c β' s.id β h9 h1 (fun e => hn e.symm) hwi with h3 | ⟨h3, _⟩
              · rw [ho'] at h3; cases h3
              · have h4 := hs.anc id s.id h3
                rw [ho'] at h4
                have h5 : true = false := h4.2.2
                cases h5
    · rw [hget]; split
      · trivial
      · exact h0
    · rw [hget]; split
      · rename_i he
        rw [← he, ho'] at him; cases him
      · rfl
    · rcases hro c C h0 with h1 | ⟨β, h1, _⟩
      · exact .inl h1
      · exact .inr (.inr ⟨s.id, β, h1, by rw [ho']; rfl⟩)
  have hcl : closed2 (fsV s.sz s.len 0 ((o.xs.drop s.off).take (s.len * s.sz))) = true := rfl
  rcases hx.sl_l hsl with ⟨c, β, cap, hid, hv, k1, k2, k3, k4⟩ | ⟨c, o2, hv, k0, k00⟩ | ⟨hv, k0, k00⟩
  · obtain ⟨C, ty, fz, hC, hsz, hcf, hcr⟩ := hs.cells hid ho
    let R' : Ren := ⟨R.f, R.sz, fun c' => if c' = c then some C else R.ro c'⟩
    have hle : R.le R' := ⟨fun id c β h => ⟨h, rfl⟩, fun c' C' h => by
      show (if c' = c then some C else R.ro c') = some C'
      split
      · rename_i he; subst he
        obtain ⟨⟨t', fz', h9⟩, _⟩ := hs.ro c' C' h
        rw [hC] at h9; injection h9 with h9; injection h9 with h9; rw [h9]
      · exact h⟩
    refine ⟨R', hle, rfl, dead R' hle rfl rfl fun c' C' h => ?_, ?_, hcl⟩
    · have h : (if c' = c then some C else R.ro c') = some C' := h
      by_cases he : c' = c
      · rw [if_pos he] at h
        have h : C = C' := by injection h
        subst h; subst he
        exact .inr ⟨β, hid, ty, fz, hC⟩
      · rw [if_neg he] at h; exact .inl h
    · rw [hv]
      refine .mkFs (C := C) (by show (if c = c then some C else R.ro c) = some C; simp) (by simp; omega) (by omega) (fun he => by cases he) (by decide) (by simp; omega) ?_ c5
      exact (hcr.mono hle).part _ _
  · refine ⟨R, R.le_refl, rfl, dead R R.le_refl rfl rfl fun c' C' h => .inl h, ?_, hcl⟩
    rw [hv, k0]
    simp only [Nat.zero_mul, List.take_zero]
    exact .fsE (by decide)
  · refine ⟨R, R.le_refl, rfl, dead R R.le_refl rfl rfl fun c' C' h => .inl h, ?_, hcl⟩
    rw [hv, k0]
    simp only [Nat.zero_mul, List.take_zero]
    exact .fsN _ _ (by decide)

theorem giveL_ok {z : Nat} {l as : List Value} {H H' : AHeap} (h : giveL z l H = some (as, H')) : ∀ {R : Ren} {w : World} {us : List Value}, Sim H R w → VRL R l us →
    ∃ R', R.le R' ∧ R'.f = R.f ∧ Post H R w H' R' w ∧ VRL R' as us ∧ ∀ x ∈ as, closed2 x = true := by
  induction l generalizing as H with
  | nil =>
    injection h with h; injection h with e1 e2; subst e1; subst e2
    intro R w us hs hx
    exact ⟨R, R.le_refl, rfl, .refl hs, hx, by simp⟩
  | cons v l ih =>
    obtain ⟨p, hp, h⟩ := oo_inv (show oo (giveV z v H) none (fun p => pp p fun v' H1 => oo (giveL z l H1) none fun q => pp q fun r H2 => some (v' :: r, H2)) = some (as, H') from h)
    obtain ⟨v', H1⟩ := p
    obtain ⟨q, hq, h⟩ := oo_inv (show oo (giveL z l H1) none (fun q => pp q fun r H2 => some (v' :: r, H2)) = some (as, H') from h)
    obtain ⟨r, H2⟩ := q
    injection (show some (v' :: r, H2) = some (as, H') from h) with h; injection h with e1 e2; subst e1; subst e2
    intro R w us hs hx
    obtain ⟨u, us', rfl, h1, h2⟩ := hx.uncons
    obtain ⟨R1, k1, k2, k3, k4, k5⟩ := giveV_ok hp hs h1
    obtain ⟨R2, j1, j2, j3, j4, j5⟩ := ih hq k3.sim (h2.mono k1)
    refine ⟨R2, Ren.le_trans k1 j1, j2.trans k2, k3.trans j3 hs, .cons (k4.mono j1) j4, fun x hx => ?_⟩
    simp at hx
    rcases hx with rfl | hx
    · exact k5
    · exact j5 x hx

theorem giveF_ok {P : Program} {tabs : List (List Value)} (hne : ∀ t ∈ tabs, t ≠ []) (hpl : ∀ t ∈ tabs, ∀ x ∈ t, plain1 x = true) {g : FuncId} {z : Nat} {f : List Value → Option Value} (hok : PureOk P tabs g f) {args : List Value} {H H' : AHeap} {v : Value} (h : giveF tabs z f args H = some (v, H')) :
    (∀ (as : Array Value) (w : World), (callFunc g as).run P w = .ok (.enter g as) w) ∧
    ∀ R w args', Sim H R w → GlR (List.range tabs.length) R → VRL R args args' → Calls P g ⟨args'⟩ w fun e w' => ∃ u R', e = .returned u ∧ VR R' v u ∧ Post H R w H' R' w' := by
  refine ⟨hok.1, fun R w args' hs hgl ha => ?_⟩
  obtain ⟨p, hp, h⟩ := oo_inv h
  obtain ⟨as, H1⟩ := p
  obtain ⟨htab, h⟩ := bb_inv (show bb (tabsOk H1 tabs 0) (oo (f as) none fun v => some (v, H1)) none = some (v, H') from h)
  obtain ⟨v', hv', h2⟩ := oo_inv h
  injection h2 with h2; injection h2 with e1 e2; subst e1; subst e2
  obtain ⟨R1, k1, k2, k3, k4, k5⟩ := giveL_ok hp hs ha
  have hs1 := k3.sim
  have hgl1 : GlR (List.range tabs.length) R1 := hgl.mono k1
  have hs0 := pure_sim hs1 hgl1 htab R1.ro (fun c C h => (hs1.ro c C h).1) (fun c C h => h) hne hpl
  refine (hok.2 as v' hv' k5 _ w args' rfl hs0 (closed2L_VR (R := R1) (R' := ⟨fun i => if i < tabs.length then some (i, 0) else none, R1.sz, R1.ro⟩) (fun _ _ h => h) k4 k5)).mono fun e w' ⟨u, H2, R2, he, hcv, hu, hp2⟩ => ?_
  refine ⟨u, ⟨R1.f, R1.sz, R2.ro⟩, he, closedV_VR (R := R2) (R' := ⟨R1.f, R1.sz, R2.ro⟩) (fun _ _ h => h) hu hcv, k3.trans (pure_post hs1 rfl hp2 rfl rfl (fun c C h => hp2.le.ro c C h) fun c C h => ?_) hs⟩
  rcases hp2.rofresh c C h with h3 | h3 | ⟨id, β, h3, h4⟩
  · exact .inl h3
  · exact .inr ⟨h3, h⟩
  · have := pureHeap_imm (tabf_some (show (if id < tabs.length then some (id, 0) else none) = some (c, β) from h3)).1
    rw [this] at h4; cases h4

theorem finL_mk {tt : TT} {n0 sz : Nat} {rs : List ResultVar} {v : Value} {F : Fr} {H : AHeap} (id off c2 n : Nat) (anc : List Nat) (xs : List Value) (h : aresults tt F H rs = some (.slice (some ⟨id, off, some sz⟩) n c2)) (hn : Nat.ble n0 id = true)
    (hg : H.get id = .cells xs false false anc) (hc : an (Nat.ble (off + n * sz) (len xs)) (allL closed1 (takeL (n * sz) (dropL off xs))) = true) (hm : some (Sl.v sz ⟨n, 0, takeL (n * sz) (dropL off xs)⟩) = some v) :
    ∃ id off c2 anc xs, ∃ s : Sl, aresults tt F H rs = some (.slice (some ⟨id, off, some sz⟩) s.n c2) ∧ n0 ≤ id ∧ H.get id = .cells xs false false anc ∧ off + s.n * sz ≤ xs.length ∧ s.cs = (xs.drop off).take (s.n * sz) ∧ (∀ x ∈ s.cs, closed1 x = true) ∧ v = s.v sz := by
  injection hm with hm; subst hm
  obtain ⟨h1, h2⟩ := an_inv hc
  rw [len_eq] at h1
  rw [allL_eq, List.all_eq_true] at h2
  exact ⟨id, off, c2, anc, xs, ⟨n, 0, takeL (n * sz) (dropL off xs)⟩, h, Nat.le_of_ble_eq_true hn, hg, Nat.le_of_ble_eq_true h1, by show takeL (n * sz) (dropL off xs) = _; rw [takeL_eq, dropL_eq], h2, rfl⟩
theorem finL_ret {tt : TT} {n0 sz : Nat} {rs : List ResultVar} {v : Value} {F : Fr} {H : AHeap} (id off c2 n : Nat) (anc : List Nat) (xs : List Value) (h : aresults tt F H rs = some (.slice (some ⟨id, off, some sz⟩) n c2)) (hn : Nat.ble n0 id = true)
    (hg : H.get id = .cells xs false false anc) (hc : an (Nat.ble (off + n * sz) (len xs)) (allL closed1 (takeL (n * sz) (dropL off xs))) = true) (hm : some (Sl.v sz ⟨n, 0, takeL (n * sz) (dropL off xs)⟩) = some v) : FinL tt n0 sz rs v .ret F H :=
  finL_mk id off c2 n anc xs h hn hg hc hm
theorem giveL_nil {z : Nat} {H : AHeap} : giveL z [] H = some ([], H) := rfl
theorem giveL_cons {z : Nat} {v v' : Value} {r r' : List Value} {H H1 H2 : AHeap} (h : giveV z v H = some (v', H1)) (hr : giveL z r H1 = some (r', H2)) : giveL z (v :: r) H = some (v' :: r', H2) := by
  show oo (giveV z v H) none (fun p => pp p fun v' H1 => oo (giveL z r H1) none fun q => pp q fun r H2 => some (v' :: r, H2)) = _
  rw [h, oo_some, pp_mk, hr, oo_some, pp_mk]
theorem giveV_cl {z : Nat} {v : Value} {H : AHeap} (h1 : vSl v = none) (h2 : closed2 v = true) (h3 : isNilSl v = false) : giveV z v H = some (v, H) := by
  unfold giveV; rw [h1, oo_none, h3, bb_false, h2, bb_true]
theorem giveV_sl {z : Nat} {v : Value} {H : AHeap} (id off sz ln c2 : Nat) (xs : List Value) (anc : List Nat) (hx : vSl v = some ⟨id, off, sz, ln, c2⟩) (hg : H.get id = .cells xs false false anc)
    (hc : an (Nat.ble (off + ln * sz) (len xs)) (allL closed1 (takeL (ln * sz) (dropL off xs))) = true) : giveV z v H = some (Sl.v sz ⟨ln, 0, takeL (ln * sz) (dropL off xs)⟩, H.set id .dead) := by
  unfold giveV
  rw [hx, oo_some]
  show oo (oCells (H.get id)) none _ = _
  rw [hg]
  show bb (an (Nat.ble (off + ln * sz) (len xs)) (allL closed1 (takeL (ln * sz) (dropL off xs)))) _ none = _
  rw [hc]; rfl
theorem giveF_eq {tabs : List (List Value)} {z : Nat} {f : List Value → Option Value} {args as : List Value} {H H1 : AHeap} {v : Value} (h1 : giveL z args H = some (as, H1)) (ht : tabsOk H1 tabs 0 = true) (h : f as = some v) : giveF tabs z f args H = some (v, H1) := by
  unfold giveF
  rw [h1, oo_some, pp_mk, ht, bb_true, h, oo_some]

theorem appFs_grow {H : AHeap} {id sz bytes n c2 : Nat} {xs : List Value} {anc : List Nat} {x : Sl} (h : Nat.beq x.n 0 = false) (hg : H.get id = .cells xs false false anc) (hid : Nat.blt id H.next = true)
    (hc : an (allL scalarB (takeL (x.n * sz) x.cs)) (growC sz bytes n c2 x.n xs) = true) :
    appFs H sz bytes (.slice (some ⟨id, 0, some sz⟩) n c2) x = some ((growR sz n x.n id xs (takeL (x.n * sz) x.cs) anc H).1, (growR sz n x.n id xs (takeL (x.n * sz) x.cs) anc H).2) := by
  obtain ⟨hs, hc⟩ := an_inv hc
  obtain ⟨h1, h2, h3, h4, h5⟩ := growC_some hc
  unfold appFs; rw [sliceCells_fs h]
  show bb (Nat.beq x.n 0) _ (bb (an (Nat.beq sz sz) (roomy (n + x.n) bytes)) (bb (Nat.ble (n + x.n) (c2 / 2)) _ (oo (oCells (H.get id)) none _)) none) = _
  rw [h, Nat.beq_refl, h1, h2, hg]
  show bb (Nat.ble (0 + n * sz) (len xs)) (bb (Nat.beq (c2 % 2) 1) _ (bb (an (nt false) (an (nt false) (an (Nat.blt id H.next) (an (Nat.beq (0 + n * sz) (len xs)) (allL scalarB (takeL (x.n * sz) x.cs)))))) _ none)) none = _
  rw [h3, h4, hid, h5, hs]; rfl

theorem done_bb2 {a b : Bool} {H : AHeap} {v : Value} (h1 : a = true) (h2 : b = true) : done (bb a (bb b (some H) none) none) v = some (v, H) := by subst h1; subst h2; rfl
theorem callc_eq {c : Bool} {o : Option Value} {v : Value} {H : AHeap} {r : Option (Value × AHeap)} (hc : c = true) (h : o = some v) : bb c (oo o none fun v => some (v, H)) r = some (v, H) := by subst hc; subst h; rfl
theorem bb_true' {α : Type} {c : Bool} {a b : α} (h : c = true) : bb c a b = a := by subst h; rfl
theorem eq_bb {α : Type} {o : Option α} {c : Bool} {x : α} (h : o = bb c (some x) none) (hc : c = true) : o = some x := by rw [h, hc]; rfl
theorem aresultsL_cons {tt : TT} {F : Fr} {H : AHeap} {r : ResultVar} {l : List ResultVar} {v : Value} {vs : List Value} (h : aresult tt F H r = some v) (hr : aresultsL tt F H l = some vs) : aresultsL tt F H (r :: l) = some (v :: vs) := by
  show oo (aresult tt F H r) none (fun v => oo (aresultsL tt F H l) none fun l => some (v :: l)) = _
  rw [h, hr]; rfl
theorem aresults_of {tt : TT} {F : Fr} {H : AHeap} {rs : List ResultVar} {l : List Value} {r : Value} (h : aresultsL tt F H rs = some l) (hl : (ll l (some (.tuple #[])) fun v r => ll r (some v) fun _ _ => some (.tuple ⟨l⟩)) = some r) : aresults tt F H rs = some r := by
  unfold aresults; rw [h]; exact hl

noncomputable section
def oC (l : List Value) : AObj := .cells l false false []
def d2 (n : Nat) : Nat := 2 * n + bb false 1 0
def hp (n : Nat) (l : List AObj) : AHeap := ⟨n, objTr l 0 .nil, true⟩
def fr (n : Nat) (l : List (Nat × Value)) : Fr := ⟨n, frTr l .nil⟩
def pt (b o : Nat) : Value := .pointer (some ⟨b, o, none⟩)
def sc (b o z n c : Nat) : Value := .slice (some ⟨b, o, some z⟩) n c
def zI (z : Int) : Value := .int .i64 z
def zB (b : Bool) : Value := .bool b
end
end Go.Sp
namespace Go.Sp
section
variable {tt : TT} {call : CallF} {n0 : Nat}
theorem OpsG.ghs {os : List ROp} {F F' : Fr} {H H' : AHeap} (F1 : Fr) (H1 : AHeap) (h : GhS n0 F H F1 H1) (r : OpsG tt call n0 os F1 H1 F' H') : OpsG tt call n0 os F H F' H' := by
  induction h with
  | id => exact r
  | step hg _ ih => exact .gh hg (ih r)
theorem Run.scopeM {α : Type} (S : α → Fr × AHeap) (M : Nat → α → Option Value) {v : Value} {b r : RC} {l : Nat} {F : Fr} {H : AHeap} {Q : Ex → Fr → AHeap → Prop} (n : Nat) (hz : ∀ y, M 0 y = none)
    (hb : Run tt call n0 b F H (Gto l Q (At n0 S (M n) v))) (hstep : ∀ m y, M (m + 1) y = some v → Run tt call n0 r (S y).1 (S y).2 (Gto l Q (At n0 S (M m) v))) : Run tt call n0 (.scope b l r) F H Q := by
  refine .scope (fun m F H => At n0 S (M m) v F H) (n + 1) (.mono hb fun e F H h => ?_) fun m F H hI => ?_
  · cases e with
    | normal => exact h
    | exit j => exact h
    | goto j => exact ⟨h.1, n, by omega, h.2⟩
    | ret => exact h
  · obtain ⟨y, h2, h3⟩ := hI
    cases m with
    | zero => rw [hz] at h2; cases h2
    | succ m =>
      refine h3.run (.mono (hstep m y h2) fun e F H h => ?_)
      cases e with
      | normal => exact h
      | exit j => exact h
      | goto j => exact ⟨h.1, m, by omega, h.2⟩
      | ret => exact h
end
theorem keep_bbo {H : AHeap} {c : Bool} {o : Option Value} {v : Value} (h : c = true) (h2 : o = some v) : keep H (bb c o none) = some (v, H) := by rw [h, h2]; rfl
theorem copy_eq' {c d : Bool} {ys : List Value} {G : List Value → AHeap} {E : List Value → Bool} {v : Value} (h1 : c = true) (h2 : E ys = d) (h3 : d = true) :
    oo (bb c (some ys) none) none (fun new => oo (bb (E new) (some (G new)) none) none fun H' => some (v, H')) = some (v, G ys) := by rw [h1, bb_true, oo_some, h2, h3]; rfl
noncomputable def appZ (H : AHeap) (sz bytes : Nat) (z : List Value) (s : Value) (n : Nat) : Option (Value × AHeap) := bb (an (Nat.ble n 1000000) (roomy n bytes)) (aappendCells H sz bytes s n (zeroRow z n)) none
theorem appZ_0 {H : AHeap} {id o sz bytes ln c2 n : Nat} {z : List Value} (h1 : an (Nat.ble n 1000000) (roomy n bytes) = true) (h : Nat.beq n 0 = true) :
    appZ H sz bytes z (.slice (some ⟨id, o, some sz⟩) ln c2) n = some (.slice (some ⟨id, o, some sz⟩) ln c2, H) := by
  unfold appZ; rw [h1, bb_true]
  show bb (Nat.beq n 0) _ _ = _
  rw [h]; rfl
theorem appZ_grow {H : AHeap} {id sz bytes n c2 m : Nat} {xs z : List Value} {anc : List Nat} (h0 : an (Nat.ble m 1000000) (roomy m bytes) = true) (h : Nat.beq m 0 = false) (hg : H.get id = .cells xs false false anc) (hid : Nat.blt id H.next = true)
    (hc : an (allL scalarB (zeroRow z m)) (growC sz bytes n c2 m xs) = true) :
    appZ H sz bytes z (.slice (some ⟨id, 0, some sz⟩) n c2) m = some ((growR sz n m id xs (zeroRow z m) anc H).1, (growR sz n m id xs (zeroRow z m) anc H).2) := by
  obtain ⟨hs, hc⟩ := an_inv hc
  obtain ⟨h1, h2, h3, h4, h5⟩ := growC_some hc
  unfold appZ; rw [h0, bb_true]
  show bb (Nat.beq m 0) _ (bb (an (Nat.beq sz sz) (roomy (n + m) bytes)) (bb (Nat.ble (n + m) (c2 / 2)) _ (oo (oCells (H.get id)) none _)) none) = _
  rw [h, Nat.beq_refl, h1, h2, hg]
  show bb (Nat.ble (0 + n * sz) (len xs)) (bb (Nat.beq (c2 % 2) 1) _ (bb (an (nt false) (an (nt false) (an (Nat.blt id H.next) (an (Nat.beq (0 + n * sz) (len xs)) (allL scalarB (zeroRow z m)))))) _ none)) none = _
  rw [h3, h4, hid, h5, hs]; rfl
end Go.Sp
namespace Go.Sp
noncomputable section
structure MapV where
  es : List Ent
  clock : Nat
end

end Go.Sp
namespace Go.Sp

section
variable {H : AHeap} {R : Ren} {w : World} {args args' : List Value}
end

section
variable {P : Program} {tabs : List (List Value)}

end
end Go.Sp
namespace Go.Sp

section
variable {P : Program} {tabs : List (List Value)}

end
end Go.Sp
namespace Go.Sp

noncomputable section
structure NC where
  n : Nat
  c : Nat
end
noncomputable section
end
end Go.Sp
set_option maxRecDepth 100000
namespace Go.HpA
open Go.Sp
def o19_0 : List ROp := [
  rq 2 (.assign (ki 0)) 25]
def c19_0 : RC := .reg [] o19_0
def o19_1 : List ROp := [
  rq 7 (.move (tp 0)) 22,
  rq 8 (cb .len #[(tp 7)] #[22]) 3,
  rq 9 (.binOp .eql 3 (tp 8) (ki 0) 3) 4]
def c19_1 : RC := .reg [] o19_1
def o19_2 : List ROp := [
  rq 2 (.assign (ki 4)) 25]
def c19_2 : RC := .reg [] o19_2
def c19_3 : RC := .seq c19_2 .ret
def c19_4 : RC := .cond (tp 9) c19_3 .skip
def c19_5 : RC := .seq c19_1 c19_4
def o19_6 : List ROp := [
  rq 3 (.assign (ki 0)) 3,
  rq 4 (.assign (ki 21)) 3]
def c19_6 : RC := .reg [] o19_6
def o19_7 : List ROp := [
  rq 10 (.move (tp 0)) 22,
  rq 11 (cb .len #[(tp 10)] #[22]) 3,
  rq 12 (.move (ki 0)) 3]
def c19_7 : RC := .reg [] o19_7
def o19_8 : List ROp := [
  rq 13 (.binOp .lss 3 (tp 12) (tp 11) 3) 0]
def c19_8 : RC := .reg [] o19_8
def c19_9 : RC := .cond (tp 13) .skip (.exit 0)
def o19_10 : List ROp := [
  rq 14 (.indexAddr 22 (tp 10) (tp 12)) 0,
  rq 15 (.load 3 (tp 14)) 3,
  rq 6 (.assign (tp 15)) 3]
def c19_10 : RC := .reg [] o19_10
def o19_11 : List ROp := [
  rq 17 (.move (tp 6)) 3,
  rq 18 (cf 46 #[(ki 1), (tp 17), (ki 21)] #[3, 3, 3]) 4,
  rq 19 (.unOp .not 4 (tp 18)) 4,
  rq 16 (.assign (tp 19)) 4]
def c19_11 : RC := .reg [] o19_11
def o19_12 : List ROp := [
  rq 2 (.assign (ki 1)) 25]
def c19_12 : RC := .reg [] o19_12
def c19_13 : RC := .seq c19_12 .ret
def o19_14 : List ROp := [
  rq 21 (.move (tp 6)) 3,
  rq 22 (.move (tp 4)) 3,
  rq 23 (.binOp .gtr 3 (tp 21) (tp 22) 3) 4,
  rq 20 (.assign (tp 23)) 4]
def c19_14 : RC := .reg [] o19_14
def o19_15 : List ROp := [
  rq 2 (.assign (ki 7)) 25]
def c19_15 : RC := .reg [] o19_15
def c19_16 : RC := .seq c19_15 .ret
def c19_17 : RC := .cond (tp 20) c19_16 .skip
def c19_18 : RC := .seq c19_14 c19_17
def c19_19 : RC := .cond (tp 16) c19_13 c19_18
def c19_20 : RC := .seq c19_11 c19_19
def c19_21 : RC := .block 2 c19_20
def o19_22 : List ROp := [
  rq 24 (.move (tp 6)) 3,
  rq 4 (.assign (tp 24)) 3]
def c19_22 : RC := .reg [] o19_22
def o19_23 : List ROp := [
  rq 25 (.move (tp 3)) 3,
  rq 26 (.move (tp 6)) 3,
  rq 27 (.binOp .add 3 (tp 25) (tp 26) 3) 3,
  rq 28 (cb .min #[(tp 27), (ki 22)] #[3, 3]) 3,
  rq 3 (.assign (tp 28)) 3]
def c19_23 : RC := .reg [] o19_23
def c19_24 : RC := .seq c19_22 c19_23
def c19_25 : RC := .seq c19_21 c19_24
def c19_26 : RC := .seq c19_10 c19_25
def c19_27 : RC := .block 1 c19_26
def o19_28 : List ROp := [
  rq 29 (.binOp .add 3 (tp 12) (ki 1) 3) 3,
  rq 12 (.move (tp 29)) 3]
def c19_28 : RC := .reg [] o19_28
def c19_29 : RC := .seq c19_27 c19_28
def c19_30 : RC := .seq c19_9 c19_29
def c19_31 : RC := .seq c19_8 c19_30
def c19_32 : RC := .loop c19_31
def c19_33 : RC := .block 0 c19_32
def c19_34 : RC := .seq c19_7 c19_33
def o19_35 : List ROp := [
  rq 30 (.move (tp 3)) 3,
  rq 31 (.binOp .gtr 3 (tp 30) (ki 21) 3) 4]
def c19_35 : RC := .reg [] o19_35
def o19_36 : List ROp := [
  rq 2 (.assign (ki 3)) 25]
def c19_36 : RC := .reg [] o19_36
def c19_37 : RC := .seq c19_36 .ret
def c19_38 : RC := .cond (tp 31) c19_37 .skip
def c19_39 : RC := .seq c19_35 c19_38
def o19_40 : List ROp := [
  rq 2 (.assign (ki 0)) 25]
def c19_40 : RC := .reg [] o19_40
def c19_41 : RC := .seq c19_40 .ret
def c19_42 : RC := .seq c19_39 c19_41
def c19_43 : RC := .seq c19_34 c19_42
def c19_44 : RC := .seq c19_6 c19_43
def c19_45 : RC := .seq c19_5 c19_44
def c19_46 : RC := .seq c19_0 c19_45
def o42_0 : List ROp := [
  rq 2 (.alloc 54) 0]
def c42_0 : RC := .reg [] o42_0
def o42_1 : List ROp := [
  rq 3 (.alloc 54) 0]
def c42_1 : RC := .reg [] o42_1
def o42_2 : List ROp := [
  rq 6 (.move (tp 0)) 22,
  rq 7 (cb .len #[(tp 6)] #[22]) 3,
  rq 8 (.move (ki 0)) 3]
def c42_2 : RC := .reg [] o42_2
def o42_3 : List ROp := [
  rq 9 (.binOp .lss 3 (tp 8) (tp 7) 3) 0]
def c42_3 : RC := .reg [] o42_3
def c42_4 : RC := .cond (tp 9) .skip (.exit 0)
def o42_5 : List ROp := [
  rq 10 (.indexAddr 22 (tp 6) (tp 8)) 0,
  rq 11 (.load 3 (tp 10)) 3,
  rq 5 (.assign (tp 11)) 3]
def c42_5 : RC := .reg [] o42_5
def o42_6 : List ROp := [
  rq 12 (.move (tp 5)) 3,
  rq 13 (.indexAddr 54 (tp 3) (tp 12)) 0,
  rq 14 (.load 3 (tp 13)) 3,
  rq 15 (.binOp .add 3 (tp 14) (ki 1) 3) 3,
  rq 16 (.indexAddr 54 (tp 3) (tp 12)) 0,
  rn (.store 3 (tp 16) (tp 15)) 0]
def c42_6 : RC := .reg [] o42_6
def c42_7 : RC := .seq c42_5 c42_6
def c42_8 : RC := .block 1 c42_7
def o42_9 : List ROp := [
  rq 17 (.binOp .add 3 (tp 8) (ki 1) 3) 3,
  rq 8 (.move (tp 17)) 3]
def c42_9 : RC := .reg [] o42_9
def c42_10 : RC := .seq c42_8 c42_9
def c42_11 : RC := .seq c42_4 c42_10
def c42_12 : RC := .seq c42_3 c42_11
def c42_13 : RC := .loop c42_12
def c42_14 : RC := .block 0 c42_13
def c42_15 : RC := .seq c42_2 c42_14
def o42_16 : List ROp := [
  rq 18 (.load 54 (tp 3)) 54,
  rn (.store 54 (tp 2) (tp 18)) 0]
def c42_16 : RC := .reg [] o42_16
def c42_17 : RC := .seq c42_16 .ret
def c42_18 : RC := .seq c42_15 c42_17
def c42_19 : RC := .seq c42_1 c42_18
def c42_20 : RC := .seq c42_0 c42_19
def o43_0 : List ROp := [
  rq 1 (.box 54 (tp 0)) 0,
  rq 2 (.alloc 54) 0]
def c43_0 : RC := .reg [] o43_0
def o43_1 : List ROp := [
  rq 3 (.alloc 54) 0]
def c43_1 : RC := .reg [] o43_1
def o43_2 : List ROp := [
  rq 4 (.slice 54 (tp 3) none none none) 22,
  rq 5 (.slice 54 (tp 1) (some (ki 1)) none none) 22,
  rq 6 (cb .copy #[(tp 4), (tp 5)] #[22, 22]) 3]
def c43_2 : RC := .reg [0, 1, 2] o43_2
def o43_3 : List ROp := [
  rq 7 (.indexAddr 54 (tp 3) (ki 0)) 0,
  rn (.store 3 (tp 7) (ki 0)) 0]
def c43_3 : RC := .reg [] o43_3
def o43_4 : List ROp := [
  rq 8 (.load 54 (tp 1)) 54,
  rq 9 (cf 74 #[(tp 8)] #[54]) 3,
  rq 10 (.indexAddr 54 (tp 3) (tp 9)) 0,
  rq 11 (.load 3 (tp 10)) 3,
  rq 12 (.binOp .add 3 (tp 11) (ki 1) 3) 3,
  rq 13 (.indexAddr 54 (tp 3) (tp 9)) 0,
  rn (.store 3 (tp 13) (tp 12)) 0]
def c43_4 : RC := .reg [] o43_4
def o43_5 : List ROp := [
  rq 14 (.load 54 (tp 3)) 54,
  rn (.store 54 (tp 2) (tp 14)) 0]
def c43_5 : RC := .reg [] o43_5
def c43_6 : RC := .seq c43_5 .ret
def c43_7 : RC := .seq c43_4 c43_6
def c43_8 : RC := .seq c43_3 c43_7
def c43_9 : RC := .seq c43_2 c43_8
def c43_10 : RC := .seq c43_1 c43_9
def c43_11 : RC := .seq c43_0 c43_10
def o44_0 : List ROp := [
  rq 1 (.box 54 (tp 0)) 0,
  rq 2 (.assign (.const (.slice none 0 0))) 22]
def c44_0 : RC := .reg [] o44_0
def o44_1 : List ROp := [
  rq 3 (.assign (.const (.slice none 0 0))) 22]
def c44_1 : RC := .reg [] o44_1
def o44_2 : List ROp := [
  rq 4 (.assign (ki 21)) 3]
def c44_2 : RC := .reg [] o44_2
def o44_3 : List ROp := [
  rq 5 (.move (tp 4)) 3,
  rq 6 (.binOp .gtr 3 (tp 5) (ki 0) 3) 4]
def c44_3 : RC := .reg [] o44_3
def c44_4 : RC := .cond (tp 6) .skip (.exit 0)
def c44_5 : RC := .seq c44_3 c44_4
def o44_6 : List ROp := [
  rq 9 (.move (tp 3)) 22,
  rq 10 (.move (tp 4)) 3,
  rq 11 (.buildSlice 22 1 #[(0, (tp 10))]) 22,
  rq 12 (.move (tp 4)) 3,
  rq 13 (.indexAddr 54 (tp 1) (tp 12)) 0,
  rq 14 (.load 3 (tp 13)) 3,
  rq 15 (cf 75 #[(tp 11), (tp 14)] #[22, 3]) 22,
  rq 16 (cb .append #[(tp 9), (tp 15)] #[22, 22]) 22,
  rq 3 (.assign (tp 16)) 22]
def c44_6 : RC := .reg [] o44_6
def c44_7 : RC := .block 1 c44_6
def o44_8 : List ROp := [
  rq 7 (.move (tp 4)) 3,
  rq 8 (.binOp .sub 3 (tp 7) (ki 1) 3) 3,
  rq 4 (.assign (tp 8)) 3]
def c44_8 : RC := .reg [] o44_8
def c44_9 : RC := .seq c44_7 c44_8
def c44_10 : RC := .seq c44_5 c44_9
def c44_11 : RC := .loop c44_10
def c44_12 : RC := .block 0 c44_11
def c44_13 : RC := .seq c44_2 c44_12
def o44_14 : List ROp := [
  rq 17 (.move (tp 3)) 22,
  rq 2 (.assign (tp 17)) 22]
def c44_14 : RC := .reg [] o44_14
def c44_15 : RC := .seq c44_14 .ret
def c44_16 : RC := .seq c44_13 c44_15
def c44_17 : RC := .seq c44_1 c44_16
def c44_18 : RC := .seq c44_0 c44_17
def o46_0 : List ROp := [
  rq 6 (.assign (kb false)) 4]
def c46_0 : RC := .reg [] o46_0
def o46_1 : List ROp := [
  rq 7 (.move (tp 0)) 3,
  rq 8 (.move (tp 1)) 3,
  rq 9 (.binOp .leq 3 (tp 7) (tp 8) 3) 4,
  rq 10 (.move (tp 9)) 4,
  rg 11 (.move (tp 1)) 3 10 true,
  rg 12 (.move (tp 2)) 3 10 true,
  rg 13 (.binOp .leq 3 (tp 11) (tp 12) 3) 4 10 true,
  rq 14 (.pick (tp 10) (tp 13) (kb false)) 4,
  rq 6 (.assign (tp 14)) 4]
def c46_1 : RC := .reg [] o46_1
def c46_2 : RC := .seq c46_1 .ret
def c46_3 : RC := .seq c46_0 c46_2
def o47_0 : List ROp := [
  rq 1 (.box 54 (tp 0)) 0,
  rq 2 (.assign (kb false)) 4]
def c47_0 : RC := .reg [] o47_0
def o47_1 : List ROp := [
  rq 8 (.load 54 (tp 1)) 54,
  rq 9 (cf 44 #[(tp 8)] #[54]) 22,
  rq 3 (.assign (tp 9)) 22]
def c47_1 : RC := .reg [] o47_1
def o47_2 : List ROp := [
  rq 11 (.load 54 (tp 1)) 54,
  rq 12 (cf 49 #[(tp 11)] #[54]) 3,
  rq 13 (cf 48 #[(tp 12)] #[3]) 60,
  rq 10 (.move (tp 13)) 60,
  rq 14 (.extract (tp 10) 0) 3,
  rq 15 (.extract (tp 10) 1) 3,
  rq 4 (.assign (tp 14)) 3,
  rq 5 (.assign (tp 15)) 3]
def c47_2 : RC := .reg [] o47_2
def o47_3 : List ROp := [
  rq 16 (.move (tp 3)) 22,
  rq 17 (cb .len #[(tp 16)] #[22]) 3,
  rq 18 (.move (tp 4)) 3,
  rq 19 (.binOp .add 3 (tp 18) (ki 1) 3) 3,
  rq 20 (.binOp .gtr 3 (tp 17) (tp 19) 3) 4]
def c47_3 : RC := .reg [] o47_3
def o47_4 : List ROp := [
  rq 2 (.assign (kb false)) 4]
def c47_4 : RC := .reg [] o47_4
def c47_5 : RC := .seq c47_4 .ret
def c47_6 : RC := .cond (tp 20) c47_5 .skip
def c47_7 : RC := .seq c47_3 c47_6
def o47_8 : List ROp := [
  rq 21 (.move (tp 3)) 22,
  rq 22 (.move (tp 4)) 3,
  rq 23 (.binOp .add 3 (tp 22) (ki 1) 3) 3,
  rq 24 (.move (tp 3)) 22,
  rq 25 (cb .len #[(tp 24)] #[22]) 3,
  rq 26 (.binOp .sub 3 (tp 23) (tp 25) 3) 3,
  rq 27 (cb .append #[(tp 21), (tp 26)] #[22, 3]) 22,
  rq 28 (cb .len #[(tp 27)] #[22]) 3,
  rq 29 (.move (ki 0)) 3]
def c47_8 : RC := .reg [] o47_8
def o47_9 : List ROp := [
  rq 30 (.binOp .lss 3 (tp 29) (tp 28) 3) 0]
def c47_9 : RC := .reg [] o47_9
def c47_10 : RC := .cond (tp 30) .skip (.exit 0)
def o47_11 : List ROp := [
  rq 31 (.move (tp 29)) 3,
  rq 32 (.indexAddr 22 (tp 27) (tp 29)) 0,
  rq 33 (.load 3 (tp 32)) 3,
  rq 6 (.assign (tp 31)) 3,
  rq 7 (.assign (tp 33)) 3]
def c47_11 : RC := .reg [] o47_11
def o47_12 : List ROp := [
  rq 34 (.move (tp 4)) 3,
  rq 35 (.move (tp 6)) 3,
  rq 36 (.binOp .sub 3 (tp 34) (tp 35) 3) 3,
  rq 37 (.move (tp 7)) 3,
  rq 38 (.move (tp 4)) 3,
  rq 39 (.binOp .add 3 (tp 38) (ki 1) 3) 3,
  rq 40 (.move (tp 6)) 3,
  rq 41 (.binOp .sub 3 (tp 39) (tp 40) 3) 3,
  rq 42 (cf 46 #[(tp 36), (tp 37), (tp 41)] #[3, 3, 3]) 4,
  rq 43 (.unOp .not 4 (tp 42)) 4]
def c47_12 : RC := .reg [] o47_12
def o47_13 : List ROp := [
  rq 2 (.assign (kb false)) 4]
def c47_13 : RC := .reg [] o47_13
def c47_14 : RC := .seq c47_13 .ret
def c47_15 : RC := .cond (tp 43) c47_14 .skip
def c47_16 : RC := .seq c47_12 c47_15
def c47_17 : RC := .seq c47_11 c47_16
def c47_18 : RC := .block 1 c47_17
def o47_19 : List ROp := [
  rq 44 (.binOp .add 3 (tp 29) (ki 1) 3) 3,
  rq 29 (.move (tp 44)) 3]
def c47_19 : RC := .reg [] o47_19
def c47_20 : RC := .seq c47_18 c47_19
def c47_21 : RC := .seq c47_10 c47_20
def c47_22 : RC := .seq c47_9 c47_21
def c47_23 : RC := .loop c47_22
def c47_24 : RC := .block 0 c47_23
def c47_25 : RC := .seq c47_8 c47_24
def o47_26 : List ROp := [
  rq 2 (.assign (kb true)) 4]
def c47_26 : RC := .reg [] o47_26
def c47_27 : RC := .seq c47_26 .ret
def c47_28 : RC := .seq c47_25 c47_27
def c47_29 : RC := .seq c47_7 c47_28
def c47_30 : RC := .seq c47_2 c47_29
def c47_31 : RC := .seq c47_1 c47_30
def c47_32 : RC := .seq c47_0 c47_31
def o48_0 : List ROp := [
  rq 2 (.assign (ki 0)) 3,
  rq 3 (.assign (ki 0)) 3]
def c48_0 : RC := .reg [] o48_0
def o48_1 : List ROp := [
  rq 4 (.move (tp 0)) 3,
  rq 3 (.assign (tp 4)) 3]
def c48_1 : RC := .reg [] o48_1
def o48_2 : List ROp := [
  rq 5 (.move (tp 3)) 3,
  rq 6 (.move (tp 2)) 3,
  rq 7 (.binOp .gtr 3 (tp 5) (tp 6) 3) 4]
def c48_2 : RC := .reg [] o48_2
def c48_3 : RC := .cond (tp 7) .skip (.exit 0)
def c48_4 : RC := .seq c48_2 c48_3
def o48_5 : List ROp := [
  rq 8 (.move (tp 2)) 3,
  rq 9 (.binOp .add 3 (tp 8) (ki 1) 3) 3,
  rq 2 (.assign (tp 9)) 3]
def c48_5 : RC := .reg [] o48_5
def o48_6 : List ROp := [
  rq 10 (.move (tp 3)) 3,
  rq 11 (.move (tp 2)) 3,
  rq 12 (.binOp .sub 3 (tp 10) (tp 11) 3) 3,
  rq 3 (.assign (tp 12)) 3]
def c48_6 : RC := .reg [] o48_6
def c48_7 : RC := .seq c48_5 c48_6
def c48_8 : RC := .block 1 c48_7
def c48_9 : RC := .seq c48_4 c48_8
def c48_10 : RC := .loop c48_9
def c48_11 : RC := .block 0 c48_10
def c48_12 : RC := .seq c48_1 c48_11
def o48_13 : List ROp := [
  rq 13 (.move (tp 2)) 3,
  rq 14 (.move (tp 3)) 3,
  rq 2 (.assign (tp 13)) 3,
  rq 3 (.assign (tp 14)) 3]
def c48_13 : RC := .reg [] o48_13
def c48_14 : RC := .seq c48_13 .ret
def c48_15 : RC := .seq c48_12 c48_14
def c48_16 : RC := .seq c48_0 c48_15
def o49_0 : List ROp := [
  rq 1 (.box 54 (tp 0)) 0,
  rq 2 (.assign (ki 0)) 3]
def c49_0 : RC := .reg [] o49_0
def o49_1 : List ROp := [
  rq 3 (.assign (ki 0)) 3]
def c49_1 : RC := .reg [] o49_1
def o49_2 : List ROp := [
  rq 6 (.load 54 (tp 1)) 54,
  rq 7 (.move (ki 0)) 3]
def c49_2 : RC := .reg [] o49_2
def o49_3 : List ROp := [
  rq 8 (.binOp .lss 3 (tp 7) (ki 22) 3) 0]
def c49_3 : RC := .reg [] o49_3
def c49_4 : RC := .cond (tp 8) .skip (.exit 0)
def o49_5 : List ROp := [
  rq 9 (.move (tp 7)) 3,
  rq 10 (.index 54 (tp 6) (tp 7)) 3,
  rq 4 (.assign (tp 9)) 3,
  rq 5 (.assign (tp 10)) 3]
def c49_5 : RC := .reg [] o49_5
def o49_6 : List ROp := [
  rq 11 (.move (tp 3)) 3,
  rq 12 (.move (tp 4)) 3,
  rq 13 (.move (tp 5)) 3,
  rq 14 (.binOp .mul 3 (tp 12) (tp 13) 3) 3,
  rq 15 (.binOp .add 3 (tp 11) (tp 14) 3) 3,
  rq 3 (.assign (tp 15)) 3]
def c49_6 : RC := .reg [] o49_6
def c49_7 : RC := .seq c49_5 c49_6
def c49_8 : RC := .block 1 c49_7
def o49_9 : List ROp := [
  rq 16 (.binOp .add 3 (tp 7) (ki 1) 3) 3,
  rq 7 (.move (tp 16)) 3]
def c49_9 : RC := .reg [] o49_9
def c49_10 : RC := .seq c49_8 c49_9
def c49_11 : RC := .seq c49_4 c49_10
def c49_12 : RC := .seq c49_3 c49_11
def c49_13 : RC := .loop c49_12
def c49_14 : RC := .block 0 c49_13
def c49_15 : RC := .seq c49_2 c49_14
def o49_16 : List ROp := [
  rq 17 (.move (tp 3)) 3,
  rq 2 (.assign (tp 17)) 3]
def c49_16 : RC := .reg [] o49_16
def c49_17 : RC := .seq c49_16 .ret
def c49_18 : RC := .seq c49_15 c49_17
def c49_19 : RC := .seq c49_1 c49_18
def c49_20 : RC := .seq c49_0 c49_19
def o57_0 : List ROp := [
  rq 1 (.box 54 (tp 0)) 0,
  rq 2 (.assign (ki 0)) 3,
  rq 3 (.alloc 54) 0]
def c57_0 : RC := .reg [] o57_0
def o57_1 : List ROp := [
  rq 4 (.assign (ki 0)) 3]
def c57_1 : RC := .reg [] o57_1
def o57_2 : List ROp := [
  rq 5 (.load 54 (tp 1)) 54,
  rq 6 (cf 47 #[(tp 5)] #[54]) 4,
  rq 7 (.unOp .not 4 (tp 6)) 4]
def c57_2 : RC := .reg [] o57_2
def o57_3 : List ROp := [
  rq 8 (.load 54 (tp 1)) 54,
  rq 9 (cf 43 #[(tp 8)] #[54]) 54,
  rn (.store 54 (tp 1) (tp 9)) 0]
def c57_3 : RC := .reg [] o57_3
def o57_4 : List ROp := [
  rq 10 (.move (tp 4)) 3,
  rq 11 (.binOp .add 3 (tp 10) (ki 1) 3) 3,
  rq 4 (.assign (tp 11)) 3]
def c57_4 : RC := .reg [] o57_4
def c57_5 : RC := .seq c57_4 (.goto 0)
def c57_6 : RC := .seq c57_3 c57_5
def c57_7 : RC := .cond (tp 7) c57_6 .skip
def c57_8 : RC := .seq c57_2 c57_7
def o57_9 : List ROp := [
  rq 12 (.move (tp 4)) 3,
  rq 13 (.load 54 (tp 1)) 54,
  rq 2 (.assign (tp 12)) 3,
  rn (.store 54 (tp 3) (tp 13)) 0]
def c57_9 : RC := .reg [0, 1, 2, 3] o57_9
def c57_10 : RC := .seq c57_9 .ret
def c57_11 : RC := .seq c57_8 c57_10
def c57_12 : RC := .seq (.label 0) c57_11
def c57_13 : RC := .seq c57_1 c57_12
def o57_14 : List ROp := [
  rq 5 (.load 54 (tp 1)) 54,
  rq 6 (cf 47 #[(tp 5)] #[54]) 4,
  rq 7 (.unOp .not 4 (tp 6)) 4]
def c57_14 : RC := .reg [] o57_14
def o57_15 : List ROp := [
  rq 8 (.load 54 (tp 1)) 54,
  rq 9 (cf 43 #[(tp 8)] #[54]) 54,
  rn (.store 54 (tp 1) (tp 9)) 0]
def c57_15 : RC := .reg [] o57_15
def o57_16 : List ROp := [
  rq 10 (.move (tp 4)) 3,
  rq 11 (.binOp .add 3 (tp 10) (ki 1) 3) 3,
  rq 4 (.assign (tp 11)) 3]
def c57_16 : RC := .reg [] o57_16
def c57_17 : RC := .seq c57_16 (.goto 0)
def c57_18 : RC := .seq c57_15 c57_17
def c57_19 : RC := .cond (tp 7) c57_18 .skip
def c57_20 : RC := .seq c57_14 c57_19
def o57_21 : List ROp := [
  rq 12 (.move (tp 4)) 3,
  rq 13 (.load 54 (tp 1)) 54,
  rq 2 (.assign (tp 12)) 3,
  rn (.store 54 (tp 3) (tp 13)) 0]
def c57_21 : RC := .reg [0, 1, 2, 3] o57_21
def c57_22 : RC := .seq c57_21 .ret
def c57_23 : RC := .seq c57_20 c57_22
def c57_24 : RC := .seq .skip c57_23
def c57_25 : RC := .scope c57_13 0 c57_24
def c57_26 : RC := .seq c57_0 c57_25
def o74_0 : List ROp := [
  rq 1 (.box 54 (tp 0)) 0,
  rq 2 (.assign (ki 0)) 3]
def c74_0 : RC := .reg [] o74_0
def o74_1 : List ROp := [
  rq 3 (.assign (ki 0)) 3]
def c74_1 : RC := .reg [] o74_1
def o74_2 : List ROp := [
  rq 6 (.slice 54 (tp 1) (some (ki 1)) none none) 22,
  rq 7 (cb .len #[(tp 6)] #[22]) 3,
  rq 8 (.move (ki 0)) 3]
def c74_2 : RC := .reg [] o74_2
def o74_3 : List ROp := [
  rq 9 (.binOp .lss 3 (tp 8) (tp 7) 3) 0]
def c74_3 : RC := .reg [] o74_3
def c74_4 : RC := .cond (tp 9) .skip (.exit 0)
def o74_5 : List ROp := [
  rq 10 (.indexAddr 22 (tp 6) (tp 8)) 0,
  rq 11 (.load 3 (tp 10)) 3,
  rq 5 (.assign (tp 11)) 3]
def c74_5 : RC := .reg [] o74_5
def o74_6 : List ROp := [
  rq 12 (.move (tp 3)) 3,
  rq 13 (.move (tp 5)) 3,
  rq 14 (.binOp .add 3 (tp 12) (tp 13) 3) 3,
  rq 3 (.assign (tp 14)) 3]
def c74_6 : RC := .reg [] o74_6
def c74_7 : RC := .seq c74_5 c74_6
def c74_8 : RC := .block 1 c74_7
def o74_9 : List ROp := [
  rq 15 (.binOp .add 3 (tp 8) (ki 1) 3) 3,
  rq 8 (.move (tp 15)) 3]
def c74_9 : RC := .reg [] o74_9
def c74_10 : RC := .seq c74_8 c74_9
def c74_11 : RC := .seq c74_4 c74_10
def c74_12 : RC := .seq c74_3 c74_11
def c74_13 : RC := .loop c74_12
def c74_14 : RC := .block 0 c74_13
def c74_15 : RC := .seq c74_2 c74_14
def o74_16 : List ROp := [
  rq 16 (.move (tp 3)) 3,
  rq 2 (.assign (tp 16)) 3]
def c74_16 : RC := .reg [] o74_16
def c74_17 : RC := .seq c74_16 .ret
def c74_18 : RC := .seq c74_15 c74_17
def c74_19 : RC := .seq c74_1 c74_18
def c74_20 : RC := .seq c74_0 c74_19
def o64_0 : List ROp := [
  rq 4 (.assign (kb false)) 4]
def c64_0 : RC := .reg [] o64_0
def o64_1 : List ROp := [
  rq 6 (.move (tp 0)) 22,
  rq 7 (cb .len #[(tp 6)] #[22]) 3,
  rq 8 (.move (tp 1)) 22,
  rq 9 (cb .len #[(tp 8)] #[22]) 3,
  rq 10 (.binOp .neq 3 (tp 7) (tp 9) 3) 4]
def c64_1 : RC := .reg [] o64_1
def o64_2 : List ROp := [
  rq 4 (.assign (kb false)) 4]
def c64_2 : RC := .reg [] o64_2
def c64_3 : RC := .seq c64_2 .ret
def c64_4 : RC := .cond (tp 10) c64_3 .skip
def c64_5 : RC := .seq c64_1 c64_4
def o64_6 : List ROp := [
  rq 11 (.move (tp 0)) 22,
  rq 12 (cb .len #[(tp 11)] #[22]) 3,
  rq 13 (.move (ki 0)) 3]
def c64_6 : RC := .reg [] o64_6
def o64_7 : List ROp := [
  rq 14 (.binOp .lss 3 (tp 13) (tp 12) 3) 0]
def c64_7 : RC := .reg [] o64_7
def c64_8 : RC := .cond (tp 14) .skip (.exit 0)
def o64_9 : List ROp := [
  rq 15 (.move (tp 13)) 3,
  rq 5 (.assign (tp 15)) 3]
def c64_9 : RC := .reg [] o64_9
def o64_10 : List ROp := [
  rq 16 (.move (tp 0)) 22,
  rq 17 (.move (tp 5)) 3,
  rq 18 (.indexAddr 22 (tp 16) (tp 17)) 0,
  rq 19 (.load 3 (tp 18)) 3,
  rq 20 (.move (tp 1)) 22,
  rq 21 (.move (tp 5)) 3,
  rq 22 (.indexAddr 22 (tp 20) (tp 21)) 0,
  rq 23 (.load 3 (tp 22)) 3,
  rq 24 (.binOp .neq 3 (tp 19) (tp 23) 3) 4]
def c64_10 : RC := .reg [0, 1, 2, 3, 4, 5, 6, 7, 8] o64_10
def o64_11 : List ROp := [
  rq 4 (.assign (kb false)) 4]
def c64_11 : RC := .reg [] o64_11
def c64_12 : RC := .seq c64_11 .ret
def c64_13 : RC := .cond (tp 24) c64_12 .skip
def c64_14 : RC := .seq c64_10 c64_13
def c64_15 : RC := .seq c64_9 c64_14
def c64_16 : RC := .block 1 c64_15
def o64_17 : List ROp := [
  rq 25 (.binOp .add 3 (tp 13) (ki 1) 3) 3,
  rq 13 (.move (tp 25)) 3]
def c64_17 : RC := .reg [] o64_17
def c64_18 : RC := .seq c64_16 c64_17
def c64_19 : RC := .seq c64_8 c64_18
def c64_20 : RC := .seq c64_7 c64_19
def c64_21 : RC := .loop c64_20
def c64_22 : RC := .block 0 c64_21
def c64_23 : RC := .seq c64_6 c64_22
def o64_24 : List ROp := [
  rq 4 (.assign (kb true)) 4]
def c64_24 : RC := .reg [] o64_24
def c64_25 : RC := .seq c64_24 .ret
def c64_26 : RC := .seq c64_23 c64_25
def c64_27 : RC := .seq c64_5 c64_26
def c64_28 : RC := .seq c64_0 c64_27
def o68_0 : List ROp := [
  rq 4 (.assign (ki 0)) 3]
def c68_0 : RC := .reg [] o68_0
def o68_1 : List ROp := [
  rq 9 (.move (tp 0)) 22,
  rq 10 (cb .len #[(tp 9)] #[22]) 3,
  rq 11 (.move (ki 0)) 3]
def c68_1 : RC := .reg [] o68_1
def o68_2 : List ROp := [
  rq 12 (.binOp .lss 3 (tp 11) (tp 10) 3) 0]
def c68_2 : RC := .reg [] o68_2
def c68_3 : RC := .cond (tp 12) .skip (.exit 0)
def o68_4 : List ROp := [
  rq 13 (.move (tp 11)) 3,
  rq 14 (.indexAddr 22 (tp 9) (tp 11)) 0,
  rq 15 (.load 3 (tp 14)) 3,
  rq 5 (.assign (tp 13)) 3,
  rq 6 (.assign (tp 15)) 3]
def c68_4 : RC := .reg [] o68_4
def o68_5 : List ROp := [
  rq 16 (.move (tp 5)) 3,
  rq 17 (.move (tp 1)) 22,
  rq 18 (cb .len #[(tp 17)] #[22]) 3,
  rq 19 (.binOp .geq 3 (tp 16) (tp 18) 3) 4]
def c68_5 : RC := .reg [] o68_5
def o68_6 : List ROp := [
  rq 4 (.assign (ki 1)) 3]
def c68_6 : RC := .reg [] o68_6
def c68_7 : RC := .seq c68_6 .ret
def c68_8 : RC := .cond (tp 19) c68_7 .skip
def c68_9 : RC := .seq c68_5 c68_8
def o68_10 : List ROp := [
  rq 20 (.move (tp 1)) 22,
  rq 21 (.move (tp 5)) 3,
  rq 22 (.indexAddr 22 (tp 20) (tp 21)) 0,
  rq 23 (.load 3 (tp 22)) 3,
  rq 7 (.assign (tp 23)) 3]
def c68_10 : RC := .reg [] o68_10
def o68_11 : List ROp := [
  rq 24 (.move (tp 6)) 3,
  rq 25 (.move (tp 7)) 3,
  rq 26 (cf 82 #[(tp 24), (tp 25)] #[3, 3]) 3,
  rq 8 (.assign (tp 26)) 3]
def c68_11 : RC := .reg [] o68_11
def o68_12 : List ROp := [
  rq 27 (.move (tp 8)) 3,
  rq 28 (.binOp .neq 3 (tp 27) (ki 0) 3) 4]
def c68_12 : RC := .reg [] o68_12
def o68_13 : List ROp := [
  rq 29 (.move (tp 8)) 3,
  rq 4 (.assign (tp 29)) 3]
def c68_13 : RC := .reg [] o68_13
def c68_14 : RC := .seq c68_13 .ret
def c68_15 : RC := .cond (tp 28) c68_14 .skip
def c68_16 : RC := .seq c68_12 c68_15
def c68_17 : RC := .seq c68_11 c68_16
def c68_18 : RC := .seq c68_10 c68_17
def c68_19 : RC := .seq c68_9 c68_18
def c68_20 : RC := .seq c68_4 c68_19
def c68_21 : RC := .block 1 c68_20
def o68_22 : List ROp := [
  rq 30 (.binOp .add 3 (tp 11) (ki 1) 3) 3,
  rq 11 (.move (tp 30)) 3]
def c68_22 : RC := .reg [] o68_22
def c68_23 : RC := .seq c68_21 c68_22
def c68_24 : RC := .seq c68_3 c68_23
def c68_25 : RC := .seq c68_2 c68_24
def c68_26 : RC := .loop c68_25
def c68_27 : RC := .block 0 c68_26
def c68_28 : RC := .seq c68_1 c68_27
def o68_29 : List ROp := [
  rq 31 (.move (tp 0)) 22,
  rq 32 (cb .len #[(tp 31)] #[22]) 3,
  rq 33 (.move (tp 1)) 22,
  rq 34 (cb .len #[(tp 33)] #[22]) 3,
  rq 35 (.binOp .lss 3 (tp 32) (tp 34) 3) 4]
def c68_29 : RC := .reg [] o68_29
def o68_30 : List ROp := [
  rq 4 (.assign (ki (-1))) 3]
def c68_30 : RC := .reg [] o68_30
def c68_31 : RC := .seq c68_30 .ret
def c68_32 : RC := .cond (tp 35) c68_31 .skip
def c68_33 : RC := .seq c68_29 c68_32
def o68_34 : List ROp := [
  rq 4 (.assign (ki 0)) 3]
def c68_34 : RC := .reg [] o68_34
def c68_35 : RC := .seq c68_34 .ret
def c68_36 : RC := .seq c68_33 c68_35
def c68_37 : RC := .seq c68_28 c68_36
def c68_38 : RC := .seq c68_0 c68_37
def o82_0 : List ROp := [
  rq 4 (.assign (ki 0)) 3]
def c82_0 : RC := .reg [] o82_0
def o82_1 : List ROp := [
  rq 7 (.move (tp 0)) 3,
  rq 8 (cf 98 #[(tp 7)] #[3]) 4,
  rq 5 (.assign (tp 8)) 4]
def c82_1 : RC := .reg [] o82_1
def o82_2 : List ROp := [
  rq 9 (.move (tp 1)) 3,
  rq 10 (cf 98 #[(tp 9)] #[3]) 4,
  rq 6 (.assign (tp 10)) 4]
def c82_2 : RC := .reg [] o82_2
def o82_3 : List ROp := [
  rq 11 (.move (tp 5)) 4]
def c82_3 : RC := .reg [] o82_3
def o82_4 : List ROp := [
  rq 12 (.move (tp 6)) 4]
def c82_4 : RC := .reg [] o82_4
def o82_5 : List ROp := [
  rq 4 (.assign (ki 0)) 3]
def c82_5 : RC := .reg [] o82_5
def c82_6 : RC := .seq c82_5 .ret
def c82_7 : RC := .cond (tp 12) c82_6 .skip
def c82_8 : RC := .seq c82_4 c82_7
def o82_9 : List ROp := [
  rq 4 (.assign (ki (-1))) 3]
def c82_9 : RC := .reg [] o82_9
def c82_10 : RC := .seq c82_9 .ret
def c82_11 : RC := .seq c82_8 c82_10
def c82_12 : RC := .cond (tp 11) c82_11 .skip
def c82_13 : RC := .seq c82_3 c82_12
def o82_14 : List ROp := [
  rq 13 (.move (tp 6)) 4]
def c82_14 : RC := .reg [] o82_14
def o82_15 : List ROp := [
  rq 4 (.assign (ki 1)) 3]
def c82_15 : RC := .reg [] o82_15
def c82_16 : RC := .seq c82_15 .ret
def c82_17 : RC := .cond (tp 13) c82_16 .skip
def c82_18 : RC := .seq c82_14 c82_17
def o82_19 : List ROp := [
  rq 14 (.move (tp 0)) 3,
  rq 15 (.move (tp 1)) 3,
  rq 16 (.binOp .lss 3 (tp 14) (tp 15) 3) 4]
def c82_19 : RC := .reg [] o82_19
def o82_20 : List ROp := [
  rq 4 (.assign (ki (-1))) 3]
def c82_20 : RC := .reg [] o82_20
def c82_21 : RC := .seq c82_20 .ret
def c82_22 : RC := .cond (tp 16) c82_21 .skip
def c82_23 : RC := .seq c82_19 c82_22
def o82_24 : List ROp := [
  rq 17 (.move (tp 0)) 3,
  rq 18 (.move (tp 1)) 3,
  rq 19 (.binOp .gtr 3 (tp 17) (tp 18) 3) 4]
def c82_24 : RC := .reg [] o82_24
def o82_25 : List ROp := [
  rq 4 (.assign (ki 1)) 3]
def c82_25 : RC := .reg [] o82_25
def c82_26 : RC := .seq c82_25 .ret
def c82_27 : RC := .cond (tp 19) c82_26 .skip
def c82_28 : RC := .seq c82_24 c82_27
def o82_29 : List ROp := [
  rq 4 (.assign (ki 0)) 3]
def c82_29 : RC := .reg [] o82_29
def c82_30 : RC := .seq c82_29 .ret
def c82_31 : RC := .seq c82_28 c82_30
def c82_32 : RC := .seq c82_23 c82_31
def c82_33 : RC := .seq c82_18 c82_32
def c82_34 : RC := .seq c82_13 c82_33
def c82_35 : RC := .seq c82_2 c82_34
def c82_36 : RC := .seq c82_1 c82_35
def c82_37 : RC := .seq c82_0 c82_36
def o98_0 : List ROp := [
  rq 2 (.assign (kb false)) 4]
def c98_0 : RC := .reg [] o98_0
def o98_1 : List ROp := [
  rq 3 (.move (tp 0)) 3,
  rq 4 (.move (tp 0)) 3,
  rq 5 (.binOp .neq 3 (tp 3) (tp 4) 3) 4,
  rq 2 (.assign (tp 5)) 4]
def c98_1 : RC := .reg [] o98_1
def c98_2 : RC := .seq c98_1 .ret
def c98_3 : RC := .seq c98_0 c98_2
def o105_0 : List ROp := [
  rq 4 (.assign (kb false)) 4]
def c105_0 : RC := .reg [] o105_0
def o105_1 : List ROp := [
  rq 5 (.move (tp 0)) 3,
  rq 6 (cf 98 #[(tp 5)] #[3]) 4,
  rq 7 (.move (tp 6)) 4,
  rg 8 (.move (tp 1)) 3 7 true,
  rg 9 (cf 98 #[(tp 8)] #[3]) 4 7 true,
  rg 10 (.unOp .not 4 (tp 9)) 4 7 true,
  rq 11 (.pick (tp 7) (tp 10) (kb false)) 4,
  rq 12 (.move (tp 11)) 4,
  rg 13 (.move (tp 0)) 3 12 false,
  rg 14 (.move (tp 1)) 3 12 false,
  rg 15 (.binOp .lss 3 (tp 13) (tp 14) 3) 4 12 false,
  rq 16 (.pick (tp 12) (kb true) (tp 15)) 4,
  rq 4 (.assign (tp 16)) 4]
def c105_1 : RC := .reg [] o105_1
def c105_2 : RC := .seq c105_1 .ret
def c105_3 : RC := .seq c105_0 c105_2
end Go.HpA
