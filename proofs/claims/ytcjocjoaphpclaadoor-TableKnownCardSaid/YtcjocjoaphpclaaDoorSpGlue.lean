/- What a run leaves, in the words of the statements. -/
import Derived.Test.YtcjocjoaphpclaaDoorSpTab
import Derived.RowKit3
import Derived.Lib.LaidTab
namespace Go.Sp
open Go.RowKit

/-- Where the interpreter knows of nothing that can be written, nothing of what was there turns. -/
theorem grown_of {H H' : AHeap} {R R' : Ren} {w w' : World} (hp : Post H R w H' R' w') (himm : ∀ id p, R.f id = some p → (H.get id).immB = true) : Grown w w' := by
  have hk : ∀ c, c < w.heap.size → w'.heap[c]? = w.heap[c]? := fun c hc => hp.frame c hc fun id β h => himm id _ h
  refine ⟨⟨hp.side.1, hp.side.2.1, fun i hi => ?_⟩, hp.side.2.2, hp.grow⟩
  rw [hk i hi]
  cases w.heap[i]? with
  | none => trivial
  | some o => cases o <;> simp

/-- The interpreter's heap where all that is known is some rows that nobody writes. -/
theorem sim_rows {H : AHeap} {R : Ren} {w : World} (hwf : H.wf) (hR : ∀ id c β, R.f id = some (c, β) → id = c ∧ β = 0 ∧ ∃ xs C t fz, H.get id = .cells xs true false [] ∧ w.heap[c]? = some (.cells C t fz) ∧ C.size = R.sz c ∧ xs.length ≤ C.size ∧ CellsR R xs 0 C)
    (hanc : ∀ id, (H.get id).ancOf = []) (hro : ∀ c C, R.ro c = some C → (∃ t fz, w.heap[c]? = some (.cells C t fz))) : Sim H R w := by
  refine ⟨fun id c β h => ?_, fun id c β h => ?_, fun id c β id' β' h h' hne => ?_, fun id a ha => ?_, hwf, fun c C hc => ⟨hro c C hc, fun id β h => ?_⟩⟩
  · obtain ⟨rfl, rfl, xs, C, t, fz, h1, h2, _⟩ := hR id c β h
    exact ⟨hwf.lt (by rw [h1]; simp), (Array.getElem?_eq_some_iff.1 h2).1⟩
  · obtain ⟨rfl, rfl, xs, C, t, fz, h1, h2, h3, h4, h5⟩ := hR id c β h
    rw [h1]
    exact ⟨C, t, fz, h2, h3, by omega, h5, fun e => by cases e⟩
  · exact absurd ((hR id c β h).1.trans (hR id' c β' h').1.symm) hne
  · rw [hanc id] at ha; cases ha
  · obtain ⟨_, _, xs, C, t, fz, h1, _⟩ := hR id c β h
    rw [h1]; rfl

/-- The interpreter's heap that holds one table, at id 0. -/
noncomputable def tabHeap (xs : List Value) : AHeap := (⟨0, .nil, false⟩ : AHeap).push (.cells xs true false [])
noncomputable def tabRen (n : Nat) : Ren := ⟨fun i => if i = 0 then some (0, 0) else none, fun _ => n, fun _ => none⟩

theorem sim_tab {P : Program} {w : World} {name : String} {k : IntKind} {zs : List Int} (h : Lib.TabIs P w name k zs) (hg : P.globalNamed name = some 0) (hne : 0 < zs.length) :
    ∃ n, Sim (tabHeap (zs.map fun z => .int k z)) (tabRen n) w ∧ GlR [0] (tabRen n) := by
  have h0 := h.cell hg 0 hne
  obtain ⟨C, t, fz, hC⟩ : ∃ C t fz, w.heap[0]? = some (.cells C t fz) := by
    unfold World.cell? at h0
    split at h0
    · rename_i c t fz hc; exact ⟨c, t, fz, hc⟩
    · cases h0
  have hcell : ∀ i, i < zs.length → C[i]? = some (.int k (zs.getD i 0)) := fun i hi => by
    have := h.cell hg i hi
    unfold World.cell? at this
    rw [hC] at this
    simpa using this
  have hlen : zs.length ≤ C.size := by
    have := hcell (zs.length - 1) (by omega)
    have := (Array.getElem?_eq_some_iff.1 this).1
    omega
  have hget : ∀ i, (tabHeap (zs.map fun z => .int k z)).get i = if 0 = i then .cells (zs.map fun z => .int k z) true false [] else .dead := fun i => by
    show (AHeap.push ⟨0, .nil, false⟩ _).get i = _
    rw [AHeap.get_push]
    rfl
  refine ⟨C.size, sim_rows (AHeap.wf.push (fun id hid => rfl) _) (fun id c β hid => ?_) (fun id => ?_) (fun c C h => by cases h), fun g hg => by simp at hg; subst hg; rfl⟩
  · simp only [tabRen] at hid
    split at hid
    · rename_i he; subst he
      injection hid with hid; injection hid with e1 e2; subst e1; subst e2
      refine ⟨rfl, rfl, zs.map fun z => .int k z, C, t, fz, by rw [hget, if_pos rfl], hC, rfl, by simpa using hlen, fun i x hx => ?_⟩
      rw [List.getElem?_map] at hx
      have hi : i < zs.length := by
        cases hz : zs[i]? with
        | none => rw [hz] at hx; cases hx
        | some z => exact (List.getElem?_eq_some_iff.1 hz).1
      refine ⟨.int k (zs.getD i 0), by rw [Nat.zero_add]; exact hcell i hi, ?_⟩
      simp [hi] at hx
      rw [← hx]
      simp [hi]
      exact .int k _
    · cases hid
  · rw [hget]; split <;> rfl

/-- A run that the kernel has seen: what the program's call gives. -/
theorem closed_tab {P : Program} {tt : TT} (hT : TOk P tt) {fns : FuncId → Option RFn} (hf : ∀ f r, fns f = some r → FnOk P [0] f r) (hm : P.follows .mixedOrders = true)
    {name : String} {k : IntKind} {zs : List Int} {f : FuncId} {n : Nat} {v : Value}
    (hrun : oo (evFn tt fns n f [] (tabHeap (zs.map fun z => .int k z))) none (fun p => pp p fun v _ => some v) = some v) (hv : plain1 v = true)
    {W : World} (h : Lib.TabIs P W name k zs) (hg : P.globalNamed name = some 0) (hne : 0 < zs.length) : Calls P f #[] W fun e W' => e = .returned v ∧ Grown W W' := by
  obtain ⟨m, hs, hgl⟩ := sim_tab h hg hne
  obtain ⟨q, hq, h1⟩ := oo_inv hrun
  rw [pp_eta] at h1
  injection h1 with h1
  have hc := ((evFn_ok hT hf hm n) f [] _ q.1 q.2 hq).2 _ W [] hs hgl .nil
  refine hc.mono fun e W' ⟨u, R', he, hu, hp⟩ => ⟨?_, grown_of hp fun id p hid => ?_⟩
  · rw [he]
    rw [h1] at hu
    have : u = v := by
      have hvv := hv
      cases v <;> simp [plain1, vv] at hvv
      case bool => exact hu.bool_l
      case int => exact hu.int_l
      case string => exact hu.string_l
      case pointer a => cases a with
        | none => cases hu; rfl
        | some a => simp at hvv
      case slice a l c =>
        cases a with
        | some a => simp at hvv
        | none => simp at hvv; obtain ⟨h1, h2⟩ := hvv; subst h1; subst h2; exact hu.slNil_l
      case map m => cases m with
        | none => exact hu.mapNil_l
        | some m => simp at hvv
      case nilFunc => cases hu; rfl
      case nilIface => cases hu; rfl
    rw [this]
  · simp only [tabRen] at hid
    split at hid
    · rename_i he; subst he
      show AObj.immB ((AHeap.push ⟨0, .nil, false⟩ _).get 0) = true
      rw [AHeap.get_push]; rfl
    · cases hid
end Go.Sp
