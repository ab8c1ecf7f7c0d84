/- What the check of a region says. -/
import Derived.Test.YtcjocjoaphpclaaDoorSpReg
namespace Go.Sp

theorem memN_iff {x : Nat} {l : List Nat} : memN x l = true ↔ x ∈ l := by
  induction l with
  | nil => exact ⟨fun h => (by cases h), fun h => (by cases h)⟩
  | cons a l ih =>
    show bb (Nat.beq a x) true (memN x l) = true ↔ _
    rw [bb_eq]
    by_cases h : a = x
    · subst h; simp
    · have : Nat.beq a x = false := by rw [Bool.eq_false_iff]; intro h2; exact h (Nat.eq_of_beq_eq_true h2)
      simp [this, ih, Ne.symm h]
theorem anyL_iff {α : Type} {p : α → Bool} {l : List α} : anyL p l = true ↔ ∃ x ∈ l, p x = true := by
  induction l with
  | nil => exact ⟨fun h => (by cases h), fun ⟨_, h, _⟩ => (by cases h)⟩
  | cons a l ih =>
    show bb (p a) true (anyL p l) = true ↔ _
    rw [bb_eq]
    cases hp : p a <;> simp [hp, ih]
@[simp] theorem forceNs_eq {β : Type} (l : List Nat) (k : List Nat → β) : forceNs l k = k l := by
  induction l generalizing k with
  | nil => rfl
  | cons x l ih => show forceN x (fun x => forceNs l fun r => k (x :: r)) = _; rw [forceN_eq, ih]

noncomputable def predsOf (o : Oper) : List Nat := predsL o.after.toList
theorem mem_predsOf {o : Oper} {k : Nat} : k ∈ predsOf o ↔ ∃ e ∈ o.after.toList, Region.binds .any e = true ∧ e.on = k := by
  unfold predsOf
  induction o.after.toList with
  | nil => simp [predsL]
  | cons e l ih =>
    have : predsL (e :: l) = bb (Region.binds .any e) (e.on :: predsL l) (predsL l) := rfl
    rw [this, bb_eq]
    split
    · rename_i h
      simp only [List.mem_cons, ih]
      constructor
      · rintro (rfl | ⟨e', h1, h2⟩)
        · exact ⟨e, .inl rfl, h, rfl⟩
        · exact ⟨e', .inr h1, h2⟩
      · rintro ⟨e', rfl | h1, h2, h3⟩
        · exact .inl h3.symm
        · exact .inr ⟨e', h1, h2, h3⟩
    · rename_i h
      rw [ih]
      constructor
      · rintro ⟨e', h1, h2⟩; exact ⟨e', List.mem_cons_of_mem _ h1, h2⟩
      · rintro ⟨e', h1, h2, h3⟩
        cases h1 with
        | head => exact absurd h2 h
        | tail _ h1 => exact ⟨e', h1, h2, h3⟩

inductive Anc (ops : Array Oper) : Nat → Nat → Prop
  | pred {i k : Nat} {o : Oper} (ho : ops[i]? = some o) (h : k ∈ predsOf o) : Anc ops k i
  | step {i j k : Nat} {o : Oper} (hj : Anc ops j i) (ho : ops[j]? = some o) (h : k ∈ predsOf o) : Anc ops k i

/-- What is listed has all listed that must come before. -/
theorem Anc.listed {ops : Array Oper} {L : Nat → Prop} (hL : ∀ j, L j → ∀ o, ops[j]? = some o → ∀ k ∈ predsOf o, L k) {i k : Nat} (h : Anc ops k i) (hi : ∀ o, ops[i]? = some o → ∀ k ∈ predsOf o, L k) : L k := by
  induction h with
  | pred ho h => exact hi _ ho _ h
  | step hj ho h ih => exact hL _ (ih hi) _ ho _ h

structure StepOk (ops : Array Oper) (pre : List Nat) (i : Nat) (W : List Operand) (o : Oper) : Prop where
  here : ops[i]? = some o
  fresh : i ∉ pre
  topo : ∀ k ∈ predsOf o, k ∈ pre
  chain : ∀ pre1 e mid, pre = pre1 ++ e :: mid → (∀ oe, ops[e]? = some oe → effB oe.op = true) → ∃ k ∈ predsOf o, k ∈ e :: mid
  dsts : ∀ j ∈ pre, ∀ oj, ops[j]? = some oj → ∀ t, oj.dst = some t → o.dst ≠ some t ∧ (t ∈ namesL ops.toList o → Anc ops j i)
  wr : ∀ j ∈ pre, ∀ oj, ops[j]? = some oj → ∀ t, o.dst = some t → t ∈ namesL ops.toList oj → effB o.op = true ∧ (effB oj.op = true ∨ Anc ops j i)
  self : effB o.op = false → ∀ t, o.dst = some t → t ∉ namesL ops.toList o
  watch : effB o.op = true → isAssign o.op = false → ∀ j ∈ pre, ∀ oj, ops[j]? = some oj → effB oj.op = false → Anc ops j i ∨ ∀ x ∈ readsOf oj.op, x ∈ W

structure OIOk (ops : Array Oper) (j : OI) (oj : Oper) : Prop where
  here : ops[j.ix]? = some oj
  dst : j.dst = oj.dst
  names : j.names = namesL ops.toList oj
  eff : j.eff = effB oj.op
  reads : j.reads = readsOf oj.op
  preds : j.preds = predsOf oj

structure DoneR (ops : Array Oper) (pre : List Nat) (done : List OI) (since : Option (List Nat)) : Prop where
  ixs : ∀ i, i ∈ pre ↔ ∃ j ∈ done, j.ix = i
  ok : ∀ j ∈ done, ∃ oj, OIOk ops j oj
  since : ∀ pre1 e mid, pre = pre1 ++ e :: mid → (∀ oe, ops[e]? = some oe → effB oe.op = true) → ∃ l, since = some l ∧ ∀ k ∈ l, k ∈ e :: mid

theorem addAll_mem {l acc : List Nat} {k : Nat} (h : k ∈ addAll l acc) : k ∈ l ∨ k ∈ acc := by
  induction l generalizing acc with
  | nil => exact .inr h
  | cons x l ih =>
    have h : k ∈ addAll l (bb (memN x acc) acc (x :: acc)) := h
    rcases ih h with h1 | h1
    · exact .inl (List.mem_cons_of_mem _ h1)
    · rw [bb_eq] at h1
      split at h1
      · exact .inr h1
      · cases h1 with
        | head => exact .inl (List.mem_cons_self ..)
        | tail _ h1 => exact .inr h1

theorem ancL_Anc {ops : Array Oper} {i : Nat} {done : List OI} (hd : ∀ j ∈ done, ∃ oj, OIOk ops j oj) {acc : List Nat} (ha : ∀ k ∈ acc, Anc ops k i) : ∀ k ∈ ancL done acc, Anc ops k i := by
  induction done generalizing acc with
  | nil => exact ha
  | cons j done ih =>
    have e : ancL (j :: done) acc = bb (memN j.ix acc) (forceNs (addAll j.preds acc) (ancL done)) (ancL done acc) := rfl
    rw [e, bb_eq]
    split
    · rename_i hm
      rw [forceNs_eq]
      refine ih (fun j' h' => hd j' (List.mem_cons_of_mem _ h')) fun k hk => ?_
      rcases addAll_mem hk with h1 | h1
      · obtain ⟨oj, hoj⟩ := hd j (List.mem_cons_self ..)
        rw [hoj.preds] at h1
        exact .step (ha _ (memN_iff.1 hm)) hoj.here h1
      · exact ha k h1
    · exact ih (fun j' h' => hd j' (List.mem_cons_of_mem _ h')) ha

theorem watchOf_mem {anc : List Nat} {done : List OI} {j : OI} (hj : j ∈ done) (he : j.eff = false) (hn : j.ix ∉ anc) {x : Operand} (hx : x ∈ j.reads) : x ∈ watchOf anc done := by
  induction done with
  | nil => cases hj
  | cons a done ih =>
    have e : watchOf anc (a :: done) = bb (orr a.eff (memN a.ix anc)) (watchOf anc done) (appL a.reads (watchOf anc done)) := rfl
    rw [e, bb_eq]
    cases hj with
    | head =>
      have : ¬ (orr j.eff (memN j.ix anc) = true) := by
        rw [orr_eq, he]; simp; rw [Bool.eq_false_iff]; exact fun h => hn (memN_iff.1 h)
      rw [if_neg this, appL_eq]
      exact List.mem_append_left _ hx
    | tail _ hj =>
      split
      · exact ih hj
      · rw [appL_eq]; exact List.mem_append_right _ (ih hj)

theorem regPass_ok {ops : Array Oper} {ord pre : List Nat} {done : List OI} {since : Option (List Nat)} {ows : List (Nat × List Operand)} (hd : DoneR ops pre done since) (h : regPass ops.toList ord done since = some ows) :
    ows.map (·.1) = ord ∧ ∀ pre2 x suf, ows = pre2 ++ x :: suf → ∃ o, StepOk ops (pre ++ pre2.map (·.1)) x.1 x.2 o := by
  induction ord generalizing pre done since ows with
  | nil =>
    injection h with h; subst h
    exact ⟨rfl, fun pre2 x suf e => by cases pre2 <;> cases e⟩
  | cons i ord ih =>
    obtain ⟨o, ho, h1⟩ := oo_inv h
    rw [nthL_eq] at ho
    have ho : ops[i]? = some o := by simpa using ho
    rw [forceNs_eq, forceNs_eq, forceNs_eq, forceB_eq] at h1
    obtain ⟨hc, h2⟩ := bb_inv h1
    obtain ⟨rest, hrest, h3⟩ := oo_inv h2
    injection h3 with h3; subst h3
    simp only [an_eq, Bool.and_eq_true, nt_eq, Bool.not_eq_true', allL_eq, List.all_eq_true] at hc
    obtain ⟨c1, c2, c3, c4, c5⟩ := hc
    have hps : predsL o.after.toList = predsOf o := rfl
    rw [hps] at c2 c3 c4 hrest
    have hanc := ancL_Anc (ops := ops) (i := i) hd.ok (acc := predsOf o) fun k hk => .pred ho hk
    have hstep : StepOk ops pre i (bb (an (effB o.op) (nt (isAssign o.op))) (watchOf (ancL done (predsOf o)) done) []) o := by
      have pair : ∀ j ∈ pre, ∀ oj, ops[j]? = some oj → ∃ q ∈ done, q.ix = j ∧ OIOk ops q oj := fun j hj oj hoj => by
        obtain ⟨q, hq, rfl⟩ := (hd.ixs j).1 hj
        obtain ⟨oq, hoq⟩ := hd.ok q hq
        have := hoq.here; rw [hoj] at this; injection this with this; subst this
        exact ⟨q, hq, rfl, hoq⟩
      refine ⟨ho, ?_, ?_, ?_, ?_, ?_, ?_, ?_⟩
      · intro hi
        obtain ⟨q, hq, hqi⟩ := (hd.ixs i).1 hi
        rw [Bool.eq_false_iff] at c1
        exact c1 (anyL_iff.2 ⟨q, hq, by rw [hqi]; simp⟩)
      · intro k hk
        obtain ⟨q, hq, hqk⟩ := anyL_iff.1 (c2 k hk)
        exact (hd.ixs k).2 ⟨q, hq, Nat.eq_of_beq_eq_true hqk⟩
      · intro pre1 e mid epre heff
        obtain ⟨l, hl, hlm⟩ := hd.since pre1 e mid epre heff
        rw [hl, oo_some] at c3
        obtain ⟨k, hk, hkl⟩ := anyL_iff.1 c3
        exact ⟨k, hk, hlm k (memN_iff.1 hkl)⟩
      · intro j hj oj hoj t ht
        obtain ⟨q, hq, rfl, hqo⟩ := pair j hj oj hoj
        have hp := c4 q hq
        unfold pairOk at hp
        rw [hqo.dst, ht, oo_some] at hp
        simp only [an_eq, Bool.and_eq_true, orr_eq, Bool.or_eq_true, nt_eq, Bool.not_eq_true'] at hp
        obtain ⟨⟨p1, p2⟩, _⟩ := hp
        refine ⟨?_, ?_⟩
        · intro hod
          rw [hod, oo_some] at p1
          simp at p1
        · intro htn
          rcases p2 with p2 | p2
          · rw [Bool.eq_false_iff] at p2; exact absurd (memN_iff.2 htn) p2
          · exact hanc _ (memN_iff.1 p2)
      · intro j hj oj hoj t ht htn
        obtain ⟨q, hq, rfl, hqo⟩ := pair j hj oj hoj
        have hp := c4 q hq
        unfold pairOk at hp
        rw [ht] at hp
        simp only [an_eq, Bool.and_eq_true, oo_some, orr_eq, Bool.or_eq_true, nt_eq, Bool.not_eq_true'] at hp
        obtain ⟨_, p2⟩ := hp
        rw [hqo.names, hqo.eff] at p2
        rcases p2 with p2 | ⟨p2, p3⟩
        · rw [Bool.eq_false_iff] at p2; exact absurd (memN_iff.2 htn) p2
        · exact ⟨p2, p3.imp id fun p => hanc _ (memN_iff.1 p)⟩
      · intro hq t ht htn
        rw [hq, ht, oo_some] at c5
        simp only [orr_eq, Bool.false_or, nt_eq, Bool.not_eq_true'] at c5
        rw [Bool.eq_false_iff] at c5
        exact c5 (memN_iff.2 htn)
      · intro he hna j hj oj hoj hqj
        obtain ⟨q, hq, rfl, hqo⟩ := pair j hj oj hoj
        by_cases hm : q.ix ∈ ancL done (predsOf o)
        · exact .inl (hanc _ hm)
        · right
          intro x hx
          rw [he, hna]
          show x ∈ watchOf _ _
          exact watchOf_mem hq (by rw [hqo.eff]; exact hqj) hm (by rw [hqo.reads]; exact hx)
    have hd' : DoneR ops (pre ++ [i]) (⟨i, o.dst, namesL ops.toList o, effB o.op, readsOf o.op, predsOf o⟩ :: done) (bb (effB o.op) (some [i]) (oo since none fun l => some (i :: l))) := by
      refine ⟨?_, ?_, ?_⟩
      · intro k
        rw [List.mem_append, hd.ixs, List.mem_singleton]
        constructor
        · rintro (⟨q, hq, rfl⟩ | rfl)
          · exact ⟨q, List.mem_cons_of_mem _ hq, rfl⟩
          · exact ⟨_, List.mem_cons_self .., rfl⟩
        · rintro ⟨q, hq, rfl⟩
          cases hq with
          | head => exact .inr rfl
          | tail _ hq => exact .inl ⟨q, hq, rfl⟩
      · intro q hq
        cases hq with
        | head => exact ⟨o, ho, rfl, rfl, rfl, rfl, rfl⟩
        | tail _ hq => exact hd.ok q hq
      · intro pre1 e mid epre heff
        rw [bb_eq]
        by_cases hmid : mid = []
        · subst hmid
          have := List.append_inj_right' epre rfl
          injection this with this; subst this
          rw [if_pos (heff o ho)]
          exact ⟨[i], rfl, fun k hk => hk⟩
        · obtain ⟨m', x, rfl⟩ : ∃ m' x, mid = m' ++ [x] := ⟨mid.dropLast, mid.getLast hmid, (List.dropLast_concat_getLast hmid).symm⟩
          rw [show pre1 ++ e :: (m' ++ [x]) = (pre1 ++ e :: m') ++ [x] by simp] at epre
          have e2 := List.append_inj_right' epre rfl
          injection e2 with e2; subst e2
          have e1 := List.append_inj_left' epre rfl
          obtain ⟨l, hl, hlm⟩ := hd.since pre1 e m' e1 heff
          split
          · exact ⟨[i], rfl, fun k hk => by simp at hk; subst hk; simp⟩
          · rw [hl, oo_some]
            refine ⟨i :: l, rfl, fun k hk => ?_⟩
            cases hk with
            | head => simp
            | tail _ hk =>
              have := hlm k hk
              simp only [List.mem_cons, List.mem_append] at this ⊢
              rcases this with h | h
              · exact .inl h
              · exact .inr (.inl h)
    obtain ⟨r1, r2⟩ := ih hd' hrest
    refine ⟨by simp [r1], fun pre2 x suf e => ?_⟩
    cases pre2 with
    | nil =>
      injection e with e1 e2
      subst e1
      exact ⟨o, by rw [List.map_nil, List.append_nil]; exact hstep⟩
    | cons p pre2 =>
      injection e with e1 e2
      subst e1
      obtain ⟨o', ho'⟩ := r2 pre2 x suf e2
      exact ⟨o', by simpa using ho'⟩

/-- A region that may be run in any order, and the one in which the interpreter runs it. -/
structure RegOk (ops : Array Oper) (ows : List (Nat × List Operand)) : Prop where
  step : ∀ pre x suf, ows = pre ++ x :: suf → ∃ o, StepOk ops (pre.map (·.1)) x.1 x.2 o
  all : ∀ i, i < ops.size → i ∈ ows.map (·.1)

theorem belowAll_iff {p : Nat → Bool} {n : Nat} (h : belowAll p n = true) : ∀ i, i < n → p i = true := by
  induction n with
  | zero => intro i hi; omega
  | succ n ih =>
    have h : an (p n) (belowAll p n) = true := h
    rw [an_eq, Bool.and_eq_true] at h
    intro i hi
    by_cases e : i = n
    · rw [e]; exact h.1
    · exact ih h.2 i (by omega)

theorem regDraw_ok {ops : Array Oper} {ord : List Nat} {l : List ROp} (h : regDraw ops ord = some l) :
    ∃ ows, RegOk ops ows ∧ l = ows.map fun p => ((ops[p.1]?).map fun o => slimL ops.toList o p.2).getD ⟨none, .alloc 0, 0, none, []⟩ := by
  obtain ⟨ows, hows, h1⟩ := oo_inv h
  obtain ⟨hall, h2⟩ := bb_inv h1
  injection h2 with h2
  obtain ⟨r1, r2⟩ := regPass_ok (ops := ops) (pre := []) (done := []) ⟨fun i => by simp, by simp, fun pre1 e mid h => by simp at h⟩ hows
  refine ⟨ows, ⟨fun pre x suf e => by simpa using r2 pre x suf e, fun i hi => ?_⟩, ?_⟩
  · rw [r1]
    exact memN_iff.1 (belowAll_iff hall i (by rw [len_eq]; simpa using hi))
  · rw [← h2, mapL_map]
    apply List.map_congr_left
    intro p _
    rw [pp_eta, nthL_eq]
    simp only [Array.getElem?_toList]
    cases ops[p.1]? <;> rfl
end Go.Sp
