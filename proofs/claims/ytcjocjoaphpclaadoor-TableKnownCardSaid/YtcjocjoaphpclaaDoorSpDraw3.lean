/- Regions that may be run in any order: a step of the program. -/
import Derived.Test.YtcjocjoaphpclaaDoorSpDraw2
namespace Go.Sp

section
variable {P : Program} {tt : TT} (hT : TOk P tt) {call : CallF} {gl : List Nat} (hc : CallOk P gl call) {ops : Array Oper} {ows : List (Nat × List Operand)} (hreg : RegOk ops ows)
  (hop : ∀ o ∈ ops.toList, ∀ x ∈ o.op.operands.toList, OperandOk gl x) {H0 : AHeap} {R0 : Ren} {w0 : World} {Ff : Fr} {Hf : AHeap} {d0 : List Deferred} {m0 : Nat} (hs0 : Sim H0 R0 w0) (hgl : GlR gl R0)
  {listed : Array Bool} {done rest : List (Nat × List Operand)} {F : Fr} {H : AHeap} {R : Ren} {a : Act} {w : World} {idOf : Nat → Option Nat} {x : Nat × List Operand}

/-- All that must come before i is listed. -/
def Ready (ops : Array Oper) (listed : Array Bool) (i : Nat) : Prop := ∀ o, ops[i]? = some o → ∀ k ∈ predsOf o, listed[k]? = some true

theorem DInv.anc (inv : DInv P tt call ops ows H0 R0 w0 Ff Hf d0 m0 listed done rest F H R a w idOf) {i k : Nat} (hr : Ready ops listed i) (h : Anc ops k i) : listed[k]? = some true :=
  h.listed (L := fun k => listed[k]? = some true) inv.closed hr

theorem set_false {listed : Array Bool} {i j : Nat} (h : (listed.setIfInBounds i true)[j]? = some false) : j ≠ i ∧ listed[j]? = some false := by
  rw [Array.getElem?_setIfInBounds] at h
  split at h
  · split at h <;> cases h
  · rename_i hne; exact ⟨Ne.symm hne, h⟩
theorem set_true {listed : Array Bool} {i j : Nat} (h : (listed.setIfInBounds i true)[j]? = some true) : j = i ∨ listed[j]? = some true := by
  rw [Array.getElem?_setIfInBounds] at h
  split at h
  · rename_i he; exact .inl he.symm
  · exact .inr h
theorem set_keeps {listed : Array Bool} {i j : Nat} (h : listed[j]? = some true) : (listed.setIfInBounds i true)[j]? = some true := by
  rw [Array.getElem?_setIfInBounds]
  split
  · rename_i he
    subst he
    have : i < listed.size := (Array.getElem?_eq_some_iff.1 h).1
    rw [if_pos this]
  · exact h

theorem closed_set {listed : Array Bool} {i : Nat} (hcl : ∀ (j : Nat), listed[j]? = some true → ∀ o, ops[j]? = some o → ∀ k ∈ predsOf o, listed[k]? = some true) (hr : Ready ops listed i) :
    ∀ (j : Nat), (listed.setIfInBounds i true)[j]? = some true → ∀ o, ops[j]? = some o → ∀ k ∈ predsOf o, (listed.setIfInBounds i true)[k]? = some true := fun j hj o ho k hk => by
  rcases set_true hj with rfl | h
  · exact set_keeps (hr o ho k hk)
  · exact set_keeps (hcl j h o ho k hk)

include hreg in
/-- What a pending operation that is ready names is no result of a pending one. -/
theorem DInv.free (inv : DInv P tt call ops ows H0 R0 w0 Ff Hf d0 m0 listed done rest F H R a w idOf) {i : Nat} (hi : i ∈ done.map (·.1)) (hil : listed[i]? = some false) (hr : Ready ops listed i) {o : Oper} (ho : ops[i]? = some o) :
    ∀ t ∈ namesL ops.toList o, ∀ j ∈ done.map (·.1), listed[j]? = some false → ∀ oj, ops[j]? = some oj → oj.dst ≠ some t := by
  intro t ht j hj hjl oj hoj hd
  obtain ⟨y, hy, rfl⟩ := List.mem_map.1 hi
  obtain ⟨z, hz, rfl⟩ := List.mem_map.1 hj
  have hqi := (inv.pend _ hi hil o ho).1
  have hqj := (inv.pend _ hj hjl oj hoj).1
  obtain ⟨p1, s1, e1⟩ := List.append_of_mem hy
  obtain ⟨oi, hsi⟩ := hreg.step p1 y (s1 ++ rest) (by rw [inv.split, e1]; simp)
  have := hsi.here; rw [ho] at this; injection this with this; subst this
  rw [e1] at hz
  simp only [List.mem_append, List.mem_cons] at hz
  rcases hz with hz | rfl | hz
  · have := (hsi.dsts z.1 (List.mem_map_of_mem hz) oj hoj t hd).2 ht
    have := inv.anc hr this
    rw [hjl] at this; cases this
  · rw [ho] at hoj; injection hoj with hoj; subst hoj
    exact hsi.self hqi t hd ht
  · obtain ⟨p2, s2, e2⟩ := List.append_of_mem hz
    obtain ⟨oz, hsz⟩ := hreg.step (p1 ++ y :: p2) z (s2 ++ rest) (by rw [inv.split, e1, e2]; simp)
    have := hsz.here; rw [hoj] at this; injection this with this; subst this
    have := (hsz.wr y.1 (by simp) o ho t hd ht).1
    rw [hqj] at this; cases this

include hreg in
theorem DInv.other_dst (inv : DInv P tt call ops ows H0 R0 w0 Ff Hf d0 m0 listed done rest F H R a w idOf) {i j : Nat} (hi : i ∈ done.map (·.1)) (hj : j ∈ done.map (·.1)) (hne : j ≠ i) {o oj : Oper} (ho : ops[i]? = some o) (hoj : ops[j]? = some oj) {t : Nat} (hd : o.dst = some t) : oj.dst ≠ some t := by
  intro hdj
  obtain ⟨y, hy, rfl⟩ := List.mem_map.1 hi
  obtain ⟨z, hz, rfl⟩ := List.mem_map.1 hj
  obtain ⟨p1, s1, e1⟩ := List.append_of_mem hy
  obtain ⟨oi, hsi⟩ := hreg.step p1 y (s1 ++ rest) (by rw [inv.split, e1]; simp)
  have := hsi.here; rw [ho] at this; injection this with this; subst this
  rw [e1] at hz
  simp only [List.mem_append, List.mem_cons] at hz
  rcases hz with hz | rfl | hz
  · exact (hsi.dsts z.1 (List.mem_map_of_mem hz) oj hoj t hdj).1 hd
  · exact hne rfl
  · obtain ⟨p2, s2, e2⟩ := List.append_of_mem hz
    obtain ⟨oz, hsz⟩ := hreg.step (p1 ++ y :: p2) z (s2 ++ rest) (by rw [inv.split, e1, e2]; simp)
    have := hsz.here; rw [hoj] at this; injection this with this; subst this
    exact (hsz.dsts y.1 (by simp) o ho t hd).1 hdj

include hT hc hreg hop hs0 hgl in
/-- The program does what the interpreter has done before. -/
theorem DInv.takePend (inv : DInv P tt call ops ows H0 R0 w0 Ff Hf d0 m0 listed done rest F H R a w idOf) {i : Nat} (hi : i ∈ done.map (·.1)) (hil : listed[i]? = some false) (hr : Ready ops listed i)
    {K : Act → World → Prop} {Q : Exit → Act → World → Prop} (hK : ∀ R' a' w', DInv P tt call ops ows H0 R0 w0 Ff Hf d0 m0 (listed.setIfInBounds i true) done rest F H R' a' w' idOf → K a' w') : wpOp P ops Q i K a w := by
  obtain ⟨o, ho⟩ : ∃ o, ops[i]? = some o := by
    have : i < ops.size := by rw [← inv.lsize]; exact (Array.getElem?_eq_some_iff.1 hil).1
    exact ⟨_, Array.getElem?_eq_getElem this⟩
  have hom : o ∈ ops.toList := Array.mem_toList_iff.2 (Array.mem_of_getElem? ho)
  have hfree := inv.free hreg hi hil hr ho
  have hnames : ∀ t ∈ namesL ops.toList o, VR R (F.get t) (a.tmps.getD t undef) := fun t ht => inv.temps t fun j hj hjl oj hoj hd => absurd hd (hfree t ht j hj hjl oj hoj)
  have hopd : ∀ y ∈ o.op.operands.toList, VR R (F.eval y) (a.eval y) := fun y hy => eval_VR (hgl.mono inv.post.le) (hop o hom y hy) fun t e => hnames t (names_operand (e ▸ hy))
  have hwe := fun hk => wanted_eq (W := []) (ops := ops) (o := o) (F := F) (tmps := a.tmps) (R := R) (fun t e => hnames t (names_guard e)) hk
  obtain ⟨hqi, hp⟩ := inv.pend i hi hil o ho
  have fin : ∀ {R' : Ren} {u v : Value} {w' : World}, R.le R' → VR R' v u → (∀ d, o.dst = some d → d < F.n → F.get d = v) → Post H0 R0 w0 H R' w' → (∀ j ∈ done.map (·.1), listed[j]? = some false → j ≠ i → ∀ id, idOf j = some id → R.f id = none → id < H.next → R'.f id = none) →
      K (a.put o.dst u) w' := fun {R' u v w'} hle hv hvd hpost hnone => by
    refine hK R' _ w' ⟨inv.split, by rw [Array.size_setIfInBounds]; exact inv.lsize, inv.run, by rw [put_size]; exact inv.n, by rw [put_size]; exact inv.size, by rw [put_defers]; exact inv.defers, hpost, ?_, closed_set inv.closed hr, ?_, ?_, ?_⟩
    · intro k hk
      have hki : k ≠ i := by
        rintro rfl
        obtain ⟨y, hy, rfl⟩ := List.mem_map.1 hi
        obtain ⟨z, hz, e⟩ := List.mem_map.1 hk
        obtain ⟨p2, s2, e2⟩ := List.append_of_mem hz
        obtain ⟨oz, hsz⟩ := hreg.step (done ++ p2) z s2 (by rw [inv.split, e2]; simp)
        exact hsz.fresh (by rw [e]; simp only [List.map_append, List.mem_append]; exact .inl hi)
      rw [Array.getElem?_setIfInBounds, if_neg (Ne.symm hki)]
      exact inv.unl k hk
    · intro j hj hjl oj hoj
      obtain ⟨hne, hjl⟩ := set_false hjl
      obtain ⟨h1, h2⟩ := inv.pend j hj hjl oj hoj
      refine ⟨h1, h2.heap (fun y _ => Same.refl _ _) (Nat.le_refl _) (fun id _ _ _ Q c β ob h => h) fun id he hlt hn => hnone j hj hjl hne id he hn hlt⟩
    · intro j k hj hk hjl hkl hne id
      exact inv.ids j k hj hk (set_false hjl).2 (set_false hkl).2 hne id
    · intro t ht
      have hFt : F.get t = (F.put o.dst v).get t := by
        by_cases hd : o.dst = some t
        · by_cases hlt : t < F.n
          · rw [hd, Fr.get_put, if_pos ⟨rfl, hlt⟩]; exact hvd t hd hlt
          · rw [put_get_other F fun _ => by omega]
        · rw [put_get_other F fun e => absurd e hd]
      rw [hFt]
      have old : (o.dst = some t → F.n ≤ t) → VR R (F.get t) (a.tmps.getD t undef) := fun hno => inv.temps t fun j hj hjl oj hoj hd => by
        by_cases hji : j = i
        · subst hji
          rw [ho] at hoj; injection hoj with hoj; subst hoj
          exact hno hd
        · exact ht j hj (by rw [Array.getElem?_setIfInBounds, if_neg (Ne.symm hji)]; exact hjl) oj hoj hd
      exact FrR_put inv.n hle hv (fun hd => old fun e => absurd e hd) fun hb => old fun _ => hb
  unfold wpOp
  rw [ho]
  simp only
  generalize hq : idOf i = q at hp
  cases hp with
  | skip hw hv =>
    obtain ⟨hk, hw⟩ := hw
    rw [hwe hk] at hw
    rw [if_neg (by rw [hw]; simp)]
    exact fin R.le_refl undef_VR hv inv.post fun _ _ _ _ _ _ h _ => h
  | @quiet ρ v hw hρ hqq hnb h hv =>
    obtain ⟨hk, hw⟩ := hw
    rw [hwe hk] at hw
    rw [if_pos hw]
    left
    refine oper_wp hT hc inv.post.sim (hgl.mono inv.post.le) (fun y hy => by rw [hρ y hy]; exact hopd y hy) h fun u w' R' hvu hp => ?_
    refine fin hp.le hvu hv (inv.post.trans hp hs0) fun j hj hjl hne id he hn hlt => ?_
    cases hR' : R'.f id with
    | none => rfl
    | some p => rcases hp.new id p hR' with h1 | ⟨_, h1⟩
                · rw [hn] at h1; cases h1
                · omega
  | @new ρ V obj id hw hρ hl hid hmin hR hobj hv =>
    obtain ⟨hk, hw⟩ := hw
    rw [hwe hk] at hw
    rw [if_pos hw]
    left
    obtain ⟨ob, u, n, hrun, hh⟩ := hl R w a.eval fun y hy => by rw [hρ y hy]; exact hopd y hy
    have hob : NoFz ob := (hh (R.ext id w.heap.size 0 n) id (inv.post.ext_le hR) (Ren.ext_new ..) (Ren.ext_sz ..)).2.2
    obtain ⟨hle, hpost⟩ := inv.post.concrete hid hmin hR (ob := ob) (n := n) hob fun Q h1 h2 h3 => hobj _ _ _ _ (hh Q id h1 h2 h3).2.1
    unfold Oper.wp
    rw [hrun]
    refine fin hle (hh _ id hle (Ren.ext_new ..) (Ren.ext_sz ..)).1 hv hpost fun j hj hjl hne id' he hn _ => ?_
    rw [Ren.ext_other]
    · exact hn
    · rintro rfl
      exact inv.ids i j hi hj hil hjl (Ne.symm hne) id' hq he
end
end Go.Sp
