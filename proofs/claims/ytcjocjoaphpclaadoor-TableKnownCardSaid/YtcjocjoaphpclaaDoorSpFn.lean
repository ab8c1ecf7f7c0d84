/- Functions: what 'evFn' gives the program's calls give. -/
import Derived.Test.YtcjocjoaphpclaaDoorSpRun
namespace Go.Sp

/-- A function of the program and its slim form. -/
structure FnOk (P : Program) (gl : List Nat) (f : FuncId) (r : RFn) : Prop where
  ok : ∃ fd c, P.funcs[f]? = some fd ∧ fd.body = some c ∧ fd.ntmps = r.n ∧ fd.results.toList = r.results ∧ (fd.name == "runtime.NumGoroutine") = false ∧ Comp c r.body ∧ codeB gl c = true

theorem enter_ok {P : Program} {gl : List Nat} {f : FuncId} {r : RFn} (h : FnOk P gl f r) (as : Array Value) (w : World) : (callFunc f as).run P w = .ok (.enter f as) w := by
  obtain ⟨fd, c, h1, h2, _, _, h5, _⟩ := h.ok
  have h5 : ¬ fd.name = "runtime.NumGoroutine" := by simpa using h5
  simp [callFunc, h1, h2, h5]

def resultOf (tmps : Array Value) : ResultVar → Sem Value
  | .tmp t => pure (tmps.getD t undef)
  | .cell a t => do loadVar t (← asAddr (tmps.getD a undef))

section
variable {P : Program} {tt : TT} (hT : TOk P tt)

include hT in
theorem aresult_ok {H : AHeap} {R : Ren} {w : World} (hs : Sim H R w) {F : Fr} {tmps : Array Value} (ht : ∀ t, VR R (F.get t) (tmps.getD t undef)) {r : ResultVar} {v : Value} (h : aresult tt F H r = some v) :
    ∃ u, (resultOf tmps r).run P w = .ok u w ∧ VR R v u := by
  cases r with
  | tmp t => injection h with h; subst h; exact ⟨_, rfl, ht t⟩
  | cell a t =>
    have h : aload tt H t (F.get a) = some v := h
    have ha := ht a
    obtain ⟨i, hi, h1⟩ := oo_inv h
    cases hp : vPtr (F.get a) with
    | some p =>
      rw [hp, oo_some, pp_eta] at h1
      obtain ⟨o, ho, h3⟩ := oo_inv h1
      rw [vPtr_some hp] at ha
      obtain ⟨c, β, hid, hc'⟩ := ha.ptr_l
      obtain ⟨C, ty, fz, hC, _, hfit, hc⟩ := hs.cells hid ho
      obtain ⟨u, hu, hv⟩ := loadVar_ok hT hi h3 hC hfit hc
      exact ⟨u, by simp [resultOf, hc', asAddr, hu], hv⟩
    | none =>
      rw [hp, oo_none] at h1
      obtain ⟨q, hq, h2⟩ := oo_inv h1
      obtain ⟨c, o, C, hro, hc', hfit, hcr, _⟩ := ha.fp_l hq
      obtain ⟨⟨ty, fz, hC⟩, _⟩ := hs.ro c C hro
      obtain ⟨u, hu, hv⟩ := loadVar_ok hT hi h2 hC hfit hcr
      exact ⟨u, by simp [resultOf, hc', asAddr, hu], hv⟩

include hT in
theorem aresultsL_ok {H : AHeap} {R : Ren} {w : World} (hs : Sim H R w) {F : Fr} {tmps : Array Value} (ht : ∀ t, VR R (F.get t) (tmps.getD t undef)) {rs : List ResultVar} {vs : List Value} (h : aresultsL tt F H rs = some vs) :
    ∃ us, (rs.mapM (resultOf tmps) : Sem (List Value)).run P w = .ok us w ∧ VRL R vs us := by
  induction rs generalizing vs with
  | nil => injection h with h; subst h; exact ⟨[], by simp, .nil⟩
  | cons r rs ih =>
    obtain ⟨v, hv, h1⟩ := oo_inv (show oo (aresult tt F H r) none (fun v => oo (aresultsL tt F H rs) none fun l => some (v :: l)) = some vs from h)
    obtain ⟨l, hl, h2⟩ := oo_inv h1
    injection h2 with h2; subst h2
    obtain ⟨u, hu, huv⟩ := aresult_ok hT hs ht hv
    obtain ⟨us, hus, husv⟩ := ih hl
    exact ⟨u :: us, by simp [List.mapM_cons, hu, hus], .cons huv husv⟩

include hT in
theorem aresults_ok {H : AHeap} {R : Ren} {w : World} (hs : Sim H R w) {F : Fr} {tmps : Array Value} (ht : ∀ t, VR R (F.get t) (tmps.getD t undef)) {fd : Func} {v : Value} (h : aresults tt F H fd.results.toList = some v) :
    ∃ u, (results fd tmps).run P w = .ok u w ∧ VR R v u := by
  obtain ⟨vs, hvs, h1⟩ := oo_inv h
  obtain ⟨us, hus, hl⟩ := aresultsL_ok hT hs ht hvs
  have hrun : (fd.results.mapM (resultOf tmps) : Sem (Array Value)).run P w = .ok us.toArray w := by
    rw [Array.mapM_eq_mapM_toList, Sem.run_map, hus]; rfl
  have hres : (results fd tmps).run P w = .ok (if h : us.toArray.size = 1 then us.toArray[0] else .tuple us.toArray) w := by
    have : results fd tmps = (do let vs ← fd.results.mapM (resultOf tmps); pure (if h : vs.size = 1 then vs[0] else .tuple vs)) := by
      unfold results resultOf; rfl
    rw [this]
    simp only [Sem.run_bind, hrun, Result.andThen_ok, Sem.run_pure]
  refine ⟨_, hres, ?_⟩
  cases vs with
  | nil =>
    injection h1 with h1; subst h1
    rw [hl.unnil]; exact .tuple rfl VRL.nil.2
  | cons a r =>
    cases r with
    | nil =>
      injection h1 with h1; subst h1
      obtain ⟨b, rfl, hb⟩ := hl.un1
      simpa using hb
    | cons b r =>
      injection h1 with h1; subst h1
      have hlen := hl.1
      rw [dif_neg (by simp at hlen ⊢; omega)]
      exact .tuple hl.1 hl.2

include hT in
/-- The interpreter's functions are the program's. -/
theorem evFn_ok {gl : List Nat} {fns : FuncId → Option RFn} (hf : ∀ f r, fns f = some r → FnOk P gl f r) (hm : P.follows .mixedOrders = true) (n : Nat) : CallOk P gl (evFn tt fns n) := by
  induction n with
  | zero => intro g args H v H' h; cases h
  | succ n ih =>
    intro g args H v H' h
    obtain ⟨r, hr, h1⟩ := oo_inv (show oo (fns g) none (fun fn => bb (Nat.ble (len args) fn.n) (endFn tt fn.results (evC tt (evFn tt fns n) n fn.body (Fr.made fn.n args) H)) none) = some (v, H') from h)
    have hfn := hf g r hr
    refine ⟨enter_ok hfn, fun R w args' hs hgl ha => ?_⟩
    obtain ⟨fd, c, e1, e2, e3, e4, _, hcomp, hok⟩ := hfn.ok
    obtain ⟨hle, h2⟩ := bb_inv h1
    have hle := Nat.le_of_ble_eq_true hle
    rw [len_eq] at hle
    obtain ⟨s, hs1, h3⟩ := oo_inv h2
    have hres : aresults tt s.F s.H r.results = some v ∧ s.H = H' ∧ (s.e.exit' = .normal ∨ s.e.exit' = .ret) := by
      obtain ⟨e, F, H2⟩ := s
      cases e with
      | normal => obtain ⟨k1, k2⟩ := keep_some h3; exact ⟨k1, k2.symm, .inl rfl⟩
      | exit j => cases h3
      | ret => obtain ⟨k1, k2⟩ := keep_some h3; exact ⟨k1, k2.symm, .inr rfl⟩
    obtain ⟨hres, rfl, hex⟩ := hres
    refine calls_of_wp e1 e2 ?_
    have hlen := ha.1
    have hsize : ((⟨args'⟩ : Array Value) ++ Array.replicate (fd.ntmps - (⟨args'⟩ : Array Value).size) undef).size = r.n := by simp; omega
    refine evC_ok hT ih hm hcomp n hok (Fr.made r.n args) H R _ w s hs1 hs hgl (by rw [Fr.n_made]; exact hsize.symm) (fun t => ?_) _ fun a' w' R' k1 k2 k3 k4 k5 => ?_
    · rw [Fr.get_made, Array.getD_eq_getD_getElem?]
      show VR R _ (((⟨args'⟩ : Array Value) ++ Array.replicate (fd.ntmps - (⟨args'⟩ : Array Value).size) undef)[t]?.getD undef)
      rw [Array.getElem?_append]
      by_cases hlt : t < args'.length
      · rw [if_pos (by simpa using hlt)]
        obtain ⟨x, hx⟩ : ∃ x, args[t]? = some x := ⟨args[t]'(by omega), by simp⟩
        obtain ⟨y, hy, hv⟩ := ha.get hx
        rw [hx, show (⟨args'⟩ : Array Value)[t]? = some y by simpa using hy]
        exact hv
      · rw [if_neg (by simpa using hlt), List.getElem?_eq_none (by omega), Array.getElem?_replicate]
        exact .any _
    · rw [← e4] at hres
      obtain ⟨u, hu, huv⟩ := aresults_ok hT k5.sim k4 hres
      have : bodyPost P fd (fun e w' => ∃ u R', e = .returned u ∧ VR R' v u ∧ Post H R w s.H R' w') .normal a' w' := ⟨k1, u, hu, u, R', rfl, huv, k5⟩
      rcases hex with h9 | h9 <;> rw [h9] <;> exact this
end
end Go.Sp
