/- The operations, continued: maps. -/
import Derived.Test.YtcjocjoaphpclaaDoorSpOps8
namespace Go.Sp

section
variable {P : Program} {tt : TT} (hT : TOk P tt) {H H' : AHeap} {R : Ren} {w : World}

theorem cellsEq_len {xs ys : List Value} {b : Bool} (h : cellsEq xs ys = some b) : xs.length = ys.length := by
  induction xs generalizing ys b with
  | nil => cases ys with
    | nil => rfl
    | cons => cases h
  | cons x xs ih => cases ys with
    | nil => cases h
    | cons y ys =>
      have h : oo (cellEq x y) none (fun b => oo (cellsEq xs ys) none fun c => some (an b c)) = some b := h
      obtain ⟨p, _, h1⟩ := oo_inv h
      obtain ⟨q, hq, _⟩ := oo_inv h1
      simp [ih hq]

/-- Kinds of keys. -/
inductive KeyK (tt : TT) (kt : TypeId) (k : Value) : Prop
  | int (i : TI) (j : IntKind) (n : Int) (h : tt kt = some i) (hd : i.und = .int j) (e : k = .int j n)
  | bool (i : TI) (b : Bool) (h : tt kt = some i) (hd : i.und = .bool) (e : k = .bool b)
  | string (i : TI) (s : ByteArray) (h : tt kt = some i) (hd : i.und = .string) (e : k = .string s)
  | agg (i : TI) (xs : List Value) (h : tt kt = some i) (zs : List Value) (hf : i.flat = true) (hz : i.zero = some (.agg ⟨zs⟩)) (hl : kindsLike zs xs = true) (ha : isAggT i.und = true) (e : k = .agg ⟨xs⟩)

theorem keyOk_kind {kt : TypeId} {k : Value} (h : keyOk tt kt k = true) : KeyK tt kt k := by
  unfold keyOk at h
  cases hi : tt kt with
  | none => rw [hi] at h; cases h
  | some i =>
    rw [hi, oo_some] at h
    cases hk : vInt k with
    | some p =>
      rw [hk, oo_some] at h
      cases hd : dInt i.und with
      | none => rw [hd] at h; cases h
      | some j =>
        rw [hd, oo_some] at h
        have := intKindEq_iff h
        exact .int i j p.2 hi (dInt_some hd) (by rw [this]; exact vInt_some hk)
    | none =>
      rw [hk, oo_none] at h
      cases ha : vAgg k with
      | some xs =>
        rw [ha, oo_some] at h
        obtain ⟨hag, h⟩ := an_inv h
        obtain ⟨hfl, zs, hz, hlike⟩ := flatLike_some h
        exact .agg i xs hi zs hfl hz hlike hag (vAgg_some ha)
      | none =>
        rw [ha, oo_none] at h
        cases hb : vBool k with
        | some b =>
          rw [hb, oo_some] at h
          exact .bool i b hi (eqKind_bool (Nat.eq_of_beq_eq_true h)) (vBool_some hb)
        | none =>
          rw [hb, oo_none] at h
          cases hs : vStr k with
          | none => rw [hs] at h; cases h
          | some s =>
            rw [hs, oo_some] at h
            exact .string i s hi (isStrT_true h) (vStr_some hs)

include hT in
theorem checkKey_ok {kt : TypeId} {k k' : Value} (hk : KeyK tt kt k) (hv : VR R k k') (e : Bool) : (Instr.checkKey e 10000 kt k').run P w = .ok () w := by
  have main : ∀ n, (∀ xs, k ≠ .agg ⟨xs⟩) → (Instr.checkKey e (n + 1) kt k').run P w = .ok () w := fun n hna => by
    cases hk with
    | int i j m h hd ek =>
      have hu := hT.run_und h w
      subst ek
      rw [hv.int_l, hd] at *
      simp [Instr.checkKey, hu]
    | bool i b h hd ek =>
      have hu := hT.run_und h w
      subst ek
      rw [hv.bool_l, hd] at *
      simp [Instr.checkKey, hu]
    | string i s h hd ek =>
      have hu := hT.run_und h w
      subst ek
      rw [hv.string_l, hd] at *
      simp [Instr.checkKey, hu]
    | agg i xs h zs hf hz hl ha ek => exact absurd ek (hna xs)
  cases hk with
  | agg i xs h zs hf hz hl ha ek =>
    subst ek
    obtain ⟨us, rfl, hr⟩ := hv.agg_l
    exact (hT.flat _ _ _ h hf hz).2.2 us w e (by rw [← hr.1]; exact kindsLike_len hl)
  | int i j m h hd ek => exact main 9999 (fun xs e2 => by rw [ek] at e2; cases e2)
  | bool i b h hd ek => exact main 9999 (fun xs e2 => by rw [ek] at e2; cases e2)
  | string i s h hd ek => exact main 9999 (fun xs e2 => by rw [ek] at e2; cases e2)

def FoundR (R : Ren) (r r' : Option (Nat × Value)) : Prop :=
  match r, r' with
  | none, none => True
  | some p, some q => p.1 = q.1 ∧ VR R p.2 q.2
  | _, _ => False

theorem EntsR.uncons {R : Ren} {e : Ent} {es : List Ent} {Es : List MapEntry} (h : EntsR R (e :: es) Es) : ∃ E Es', Es = E :: Es' ∧ EntR R e E ∧ EntsR R es Es' := by
  cases Es with
  | nil => have := h.1; simp at this
  | cons E Es' => exact ⟨E, Es', rfl, h.2 0 e E rfl rfl, by have := h.1; simpa using this, fun i a b ha hb => h.2 (i + 1) a b (by simpa using ha) (by simpa using hb)⟩
theorem EntsR.unnil {R : Ren} {Es : List MapEntry} (h : EntsR R [] Es) : Es = [] := by
  have := h.1; cases Es with
  | nil => rfl
  | cons => simp at this

theorem findE_cons {k : Value} {e : Ent} {es : List Ent} {i : Nat} {r : Option (Nat × Value)} (h : findE k (e :: es) i = some r) :
    ∃ b, keyEq k e.key = some b ∧ bb b (some (some (i, e.val))) (findE k es (i + 1)) = some r := oo_inv (show oo (keyEq k e.key) none (fun b => bb b (some (some (i, e.val))) (findE k es (i + 1))) = some r from h)

include hT in
theorem findNow_ok {kt : TypeId} {k k' : Value} (hk : KeyK tt kt k) (hna : ∀ xs, k ≠ .agg ⟨xs⟩) (hv : VR R k k') {es : List Ent} {Es : List MapEntry} (hE : EntsR R es Es) {i : Nat} {r : Option (Nat × Value)} (h : findE k es i = some r) :
    ∃ d r', (∀ w : World, (underlying kt).run P w = .ok d w) ∧ Instr.findNow d k' Es i = some r' ∧ FoundR R r r' := by
  have key : ∀ d, (∀ (x x' : Value) (b : Bool), keyEq k x = some b → VR R x x' → Instr.sameNow d k' x' = some b) → ∃ r', Instr.findNow d k' Es i = some r' ∧ FoundR R r r' := fun d hsame => by
    induction es generalizing Es i with
    | nil => rw [hE.unnil]; injection h with h; subst h; exact ⟨none, rfl, trivial⟩
    | cons e es ih =>
      obtain ⟨E, Es', rfl, ⟨h1, h2, _⟩, h3⟩ := hE.uncons
      obtain ⟨b, hb, h4⟩ := findE_cons h
      have hs := hsame _ _ _ hb h1
      cases b with
      | true => injection h4 with h4; subst h4; exact ⟨some (i, E.val), by simp [Instr.findNow, hs], rfl, h2⟩
      | false =>
        obtain ⟨r', hr, hf⟩ := ih h3 h4
        exact ⟨r', by simp [Instr.findNow, hs, hr], hf⟩
  cases hk with
  | int i j n h' hd ek =>
    subst ek
    have := hv.int_l; subst this
    obtain ⟨r', hr, hf⟩ := key (.int j) fun x x' b hb hx => by
      have hb : cellEq (.int j n) x = some b := hb
      obtain ⟨q, hq, h5⟩ := oo_inv (show oo (vInt x) none (fun q => pp q fun j' b => bb (intKindEq j j') (some (ieq n b)) none) = some b from hb)
      rw [pp_eta] at h5
      obtain ⟨h6, h7⟩ := bb_inv h5
      have := vInt_some hq; subst this
      have := hx.int_l; subst this
      have := intKindEq_iff h6; rw [← this]
      simp only [Instr.sameNow, if_true, ← ieq_eq]
      exact h7
    exact ⟨.int j, r', fun w => by rw [hT.run_und h' w, hd], hr, hf⟩
  | bool i c h' hd ek =>
    subst ek
    have := hv.bool_l; subst this
    obtain ⟨r', hr, hf⟩ := key .bool fun x x' b hb hx => by
      have hb : cellEq (.bool c) x = some b := hb
      obtain ⟨q, hq, h5⟩ := oo_inv (show oo (vBool x) none (fun b => some (bq c b)) = some b from hb)
      have := vBool_some hq; subst this
      have := hx.bool_l; subst this
      simp only [Instr.sameNow]
      rw [bq_eq] at h5; exact h5
    exact ⟨.bool, r', fun w => by rw [hT.run_und h' w, hd], hr, hf⟩
  | string i s h' hd ek =>
    subst ek
    have := hv.string_l; subst this
    obtain ⟨r', hr, hf⟩ := key .string fun x x' b hb hx => by
      have hb : cellEq (.string s) x = some b := hb
      obtain ⟨q, hq, h5⟩ := oo_inv (show oo (vStr x) none (fun b => some (s == b)) = some b from hb)
      have := vStr_some hq; subst this
      have := hx.string_l; subst this
      exact h5
    exact ⟨.string, r', fun w => by rw [hT.run_und h' w, hd], hr, hf⟩
  | agg i xs h' zs hf hz hl ha ek => exact absurd ek (hna xs)

include hT in
theorem findKey_ok {kt : TypeId} {k k' : Value} (hk : KeyK tt kt k) (hv : VR R k k') {es : List Ent} {Es : List MapEntry} (hE : EntsR R es Es) {r : Option (Nat × Value)} (h : findE k es 0 = some r) :
    ∃ r', (Instr.findKey kt k' Es).run P w = .ok r' w ∧ FoundR R r r' := by
  by_cases hna : ∀ xs, k ≠ .agg ⟨xs⟩
  · obtain ⟨d, r', hu, hf, hr⟩ := findNow_ok hT hk hna hv hE h
    exact ⟨r', by simp [Instr.findKey, hu, hf], hr⟩
  · have : ∃ xs, k = .agg ⟨xs⟩ := by
      simp only [ne_eq, Classical.not_forall, Classical.not_not] at hna; exact hna
    obtain ⟨xs, rfl⟩ := this
    cases hk with
    | int i j n h' hd ek => cases ek
    | bool i b h' hd ek => cases ek
    | string i s h' hd ek => cases ek
    | agg i ys h' z0 hf hz hl ha ek =>
      cases ek
      obtain ⟨us, rfl, hr⟩ := hv.agg_l
      have hfl := (hT.flat _ _ _ h' hf hz).1
      have key : ∀ (es : List Ent) (Es : List MapEntry) (j : Nat) (r : Option (Nat × Value)), EntsR R es Es → findE (.agg ⟨xs⟩) es j = some r →
          ∃ r', (Instr.findAsking kt (.agg ⟨us⟩) Es j).run P w = .ok r' w ∧ FoundR R r r' := by
        intro es
        induction es with
        | nil => intro Es j r hE h; rw [hE.unnil]; injection h with h; subst h; exact ⟨none, rfl, trivial⟩
        | cons e es ih =>
          intro Es j r hE h
          obtain ⟨E, Es', rfl, ⟨h1, h2, _⟩, h3⟩ := hE.uncons
          obtain ⟨b, hb, h4⟩ := findE_cons h
          obtain ⟨zs, hzs, h5⟩ := oo_inv (show oo (vAgg e.key) none (fun ys => cellsEq xs ys) = some b from hb)
          have hke := vAgg_some hzs
          rw [hke] at h1
          obtain ⟨vs, hEk, hvs⟩ := h1.agg_l
          have he := hfl us vs b w (kindsLike_VRL hl hr) (cellsEq_VRL h5 hr hvs)
          cases b with
          | true => injection h4 with h4; subst h4; exact ⟨some (j, E.val), by simp [Instr.findAsking, hEk, he], rfl, h2⟩
          | false =>
            obtain ⟨r', hrr, hf'⟩ := ih Es' (j + 1) r h3 h4
            exact ⟨r', by simp [Instr.findAsking, hEk, he, hrr], hf'⟩
      have hu := hT.run_und h' w
      have hnow : ∀ d, isAggT d = true → ∀ Es : List MapEntry, Instr.findNow d (.agg ⟨us⟩) Es 0 = none ∨ Es = [] := fun d hd Es => by
        cases Es with
        | nil => exact .inr rfl
        | cons E Es' => left; cases d <;> simp [isAggT, dd] at hd <;> simp [Instr.findNow, Instr.sameNow]
      rcases hnow i.und ha Es with h9 | h9
      · obtain ⟨r', hrr, hf'⟩ := key es Es 0 r hE h
        exact ⟨r', by simp [Instr.findKey, hu, h9, hrr], hf'⟩
      · subst h9
        have : es = [] := List.eq_nil_of_length_eq_zero hE.1
        subst this
        injection h with h; subst h
        exact ⟨none, by simp [Instr.findKey, hu, Instr.findNow], trivial⟩

theorem Sim.map (hs : Sim H R w) {id c : Nat} (hid : R.f id = some (c, 0)) {o : MapObj} (ho : oMap (H.get id) = some o) : ∃ Es, w.heap[c]? = some (.map Es o.clock) ∧ EntsR R o.es Es.toList := by
  have h := hs.obj id c 0 hid
  rw [oMap_some ho] at h
  exact h.2
theorem run_getObj_map {c : Nat} {Es : Array MapEntry} {cl : Nat} (h : w.heap[c]? = some (.map Es cl)) : (getObj c).run P w = .ok (.map Es cl) w := by
  simp [getObj, Sem.run, h]
theorem run_setObj_map {c : Nat} {Es : Array MapEntry} {cl : Nat} (h : w.heap[c]? = some (.map Es cl)) (o : Obj) : (setObj c o).run P w = .ok () { w with heap := w.heap.setIfInBounds c o } := by
  simp [setObj, Sem.run, h]

theorem mapOfK_some {β : Type} {t : TypeId} {k : TypeId → TypeId → Option β} {r : β} (h : mapOfK tt t k = some r) : ∃ i kt et, tt t = some i ∧ i.und = .map kt et ∧ k kt et = some r := by
  obtain ⟨i, hi, h1⟩ := oo_inv h
  obtain ⟨p, hp, h2⟩ := oo_inv h1
  rw [pp_eta] at h2
  exact ⟨i, p.1, p.2, hi, dMap_some hp, h2⟩

theorem okV_ok {ok b : Bool} {x y v : Value} (h : okV ok x b = some v) (hv : VR R x y) : VR R v (if ok then .tuple #[y, .bool b] else y) := by
  injection h with h; subst h
  cases ok
  · exact hv
  · exact .tuple rfl (VRL.cons hv (.cons (.bool b) .nil)).2

include hT in
theorem alookup_ok (hs : Sim H R w) {t : TypeId} {m k m' k' v : Value} {ok : Bool} (h : alookup tt H t m k ok = some v) (hm : VR R m m') (hk : VR R k k') : ∃ u, (Instr.lookup t m' k' ok).run P w = .ok u w ∧ VR R v u := by
  obtain ⟨i, kt, et, hi, hd, h1⟩ := mapOfK_some h
  obtain ⟨hko, h2⟩ := bb_inv h1
  obtain ⟨r, hr, h3⟩ := oo_inv h2
  obtain ⟨mo, hmo, h4⟩ := oo_inv hr
  have hu := hT.run_und hi w
  rw [hd] at hu
  have hkk := keyOk_kind hko
  have := vMap_some hmo; subst this
  have fin : ∀ (Es : Array MapEntry) (r' : Option (Nat × Value)), FoundR R r r' → (Instr.findKey kt k' Es.toList).run P w = .ok r' w →
      ((m' = .map none ∧ Es = #[]) ∨ ∃ c cl, m' = .map (some c) ∧ w.heap[c]? = some (.map Es cl)) →
      ∃ u, (Instr.lookup t m' k' ok).run P w = .ok u w ∧ VR R v u := fun Es r' hf hfk hes => by
    have hck := checkKey_ok (w := w) hT hkk hk Es.isEmpty
    cases r with
    | none =>
      cases r' with
      | some q => exact hf.elim
      | none =>
        obtain ⟨z, hz, h5⟩ := oo_inv (show oo (zeroOf tt et) none (fun z => okV ok z false) = some v from h3)
        obtain ⟨ie, hie, hiz⟩ := zeroOf_some hz
        have hzr := hT.run_zero hie hiz w
        refine ⟨if ok then .tuple #[z, .bool false] else z, ?_, okV_ok h5 (plain_VR (hT.plain _ _ _ hie hiz))⟩
        rcases hes with ⟨rfl, rfl⟩ | ⟨c, cl, rfl, hE⟩
        · simp only [Instr.lookup, Sem.run_bind, hu, Result.andThen_ok, hck, hfk, hzr, Sem.run_pure]
        · simp only [Instr.lookup, Sem.run_bind, hu, Result.andThen_ok, run_getObj_map hE, hck, hfk, hzr, Sem.run_pure]
    | some p =>
      cases r' with
      | none => exact hf.elim
      | some q =>
        have h5 : okV ok p.2 true = some v := by rw [oo_some, pp_eta] at h3; exact h3
        refine ⟨if ok then .tuple #[q.2, .bool true] else q.2, ?_, okV_ok h5 hf.2⟩
        rcases hes with ⟨rfl, rfl⟩ | ⟨c, cl, rfl, hE⟩
        · simp only [Instr.lookup, Sem.run_bind, hu, Result.andThen_ok, hck, hfk, Sem.run_pure]
        · simp only [Instr.lookup, Sem.run_bind, hu, Result.andThen_ok, run_getObj_map hE, hck, hfk, Sem.run_pure]
  cases mo with
  | none =>
    have := hm.mapNil_l; subst this
    simp only [oo_none] at h4
    injection h4 with h4; subst h4
    exact fin #[] none trivial (by
      obtain ⟨r', hr', hf'⟩ := findKey_ok (w := w) (es := []) (Es := []) (r := none) hT hkk hk ⟨rfl, by simp⟩ rfl
      cases r' with
      | none => exact hr'
      | some => exact hf'.elim) (.inl ⟨rfl, rfl⟩)
  | some id =>
    simp only [oo_some] at h4
    obtain ⟨o, ho, h5⟩ := oo_inv h4
    obtain ⟨c, hid, rfl⟩ := hm.map_l
    obtain ⟨Es, hE, hEs⟩ := hs.map hid ho
    obtain ⟨r', hr', hf'⟩ := findKey_ok (w := w) hT hkk hk hEs h5
    exact fin Es r' hf' hr' (.inr ⟨c, o.clock, rfl, hE⟩)

theorem cellEq_bits {x y : Value} (h : cellEq x y = some true) (n : Nat) : Instr.sameBits n y x = true := by
  cases x <;> simp only [cellEq, vv] at h <;> try (cases h; done)
  case bool a =>
    obtain ⟨c, hc, h1⟩ := oo_inv h
    have := vBool_some hc; subst this
    rw [bq_eq] at h1; injection h1 with h1
    have : a = c := by simpa using h1
    subst this; cases n <;> simp [Instr.sameBits]
  case int k a =>
    obtain ⟨q, hq, h1⟩ := oo_inv h
    rw [pp_eta] at h1
    obtain ⟨h2, h3⟩ := bb_inv h1
    have := vInt_some hq; subst this
    have := intKindEq_iff h2
    rw [ieq_eq] at h3; injection h3 with h3
    have h4 : a = q.2 := by simpa using h3
    rw [this, h4]; cases n <;> simp [Instr.sameBits]
  case string a =>
    obtain ⟨c, hc, h1⟩ := oo_inv h
    have := vStr_some hc; subst this
    injection h1 with h1
    have : a = c := (Go.MapKept.bytes_beq a c).mp h1
    subst this; cases n <;> (simp only [Instr.sameBits]; exact h1)
theorem keyEq_bits {x y : Value} (h : keyEq x y = some true) : Instr.sameBits 10000 y x = true := by
  unfold keyEq at h
  cases hx : vAgg x with
  | none => rw [hx, oo_none] at h; exact cellEq_bits h _
  | some xs =>
    rw [hx, oo_some] at h
    obtain ⟨ys, hy, h1⟩ := oo_inv h
    have := vAgg_some hx; subst this
    have := vAgg_some hy; subst this
    have key : ∀ (xs ys : List Value), cellsEq xs ys = some true → ((ys.zip xs).all fun (p : Value × Value) => Instr.sameBits 9999 p.1 p.2) = true := by
      intro xs
      induction xs with
      | nil => intro ys h; cases ys with
        | nil => rfl
        | cons => cases h
      | cons x xs ih =>
        intro ys h
        cases ys with
        | nil => cases h
        | cons y ys =>
          have h : oo (cellEq x y) none (fun b => oo (cellsEq xs ys) none fun c => some (an b c)) = some true := h
          obtain ⟨p, hp, h1⟩ := oo_inv h
          obtain ⟨q, hq, h2⟩ := oo_inv h1
          injection h2 with h2
          obtain ⟨rfl, rfl⟩ := an_inv h2
          simp only [List.zip_cons_cons, List.all_cons, Bool.and_eq_true]
          exact ⟨cellEq_bits hp _, ih ys hq⟩
    have hl := cellsEq_len h1
    show ((⟨ys⟩ : Array Value).size == (⟨xs⟩ : Array Value).size && ((⟨ys⟩ : Array Value).toList.zip (⟨xs⟩ : Array Value).toList).all fun (x, y) => Instr.sameBits 9999 x y) = true
    simp only [Bool.and_eq_true]
    exact ⟨by simp [hl], key xs ys h1⟩

theorem keyEq_VR {R : Ren} {x y x' y' : Value} {b : Bool} (h : keyEq x y = some b) (hx : VR R x x') (hy : VR R y y') : keyEq x' y' = some b := by
  unfold keyEq at h ⊢
  cases ha : vAgg x with
  | some xs =>
    rw [ha, oo_some] at h
    obtain ⟨ys, hys, h1⟩ := oo_inv h
    have := vAgg_some ha; subst this
    have := vAgg_some hys; subst this
    obtain ⟨us, rfl, h2⟩ := hx.agg_l
    obtain ⟨vs, rfl, h3⟩ := hy.agg_l
    exact cellsEq_VRL h1 h2 h3
  | none =>
    rw [ha, oo_none] at h
    have : vAgg x' = none := by cases hx <;> first | rfl | (simp [vAgg, vv] at ha; done) | (cases h)
    rw [this, oo_none]
    exact cellEq_VR h hx hy

theorem findE_found {k : Value} {es : List Ent} {i j : Nat} {v : Value} (h : findE k es i = some (some (j, v))) : i ≤ j ∧ ∃ e, es[j - i]? = some e ∧ keyEq k e.key = some true ∧ e.val = v := by
  induction es generalizing i with
  | nil => injection h with h; cases h
  | cons e es ih =>
    obtain ⟨b, hb, h1⟩ := findE_cons h
    cases b with
    | true => injection h1 with h1; injection h1 with h1; injection h1 with h1 h2; subst h1; subst h2; exact ⟨Nat.le_refl _, e, by simp, hb, rfl⟩
    | false =>
      obtain ⟨h2, e', h3, h4, h5⟩ := ih h1
      refine ⟨by omega, e', ?_, h4, h5⟩
      rw [show j - i = (j - (i + 1)) + 1 by omega, List.getElem?_cons_succ]; exact h3

theorem modL_get {α : Type} (f : α → α) (i : Nat) (l : List α) (j : Nat) : (modL f i l)[j]? = if j = i then (l[j]?).map f else l[j]? := by
  induction i generalizing l j with
  | zero => cases l with
    | nil => show ([] : List α)[j]? = _; simp
    | cons a l => show (f a :: l)[j]? = _; cases j <;> simp
  | succ i ih => cases l with
    | nil => show ([] : List α)[j]? = _; simp
    | cons a l =>
      show (a :: modL f i l)[j]? = _
      cases j with
      | zero => simp
      | succ j => simp [ih]
theorem modL_length {α : Type} (f : α → α) (i : Nat) (l : List α) : (modL f i l).length = l.length := by
  induction i generalizing l with
  | zero => cases l with
    | nil => rfl
    | cons a l => rfl
  | succ i ih => cases l with
    | nil => rfl
    | cons a l => show (a :: modL f i l).length = _; simp [ih]
theorem EntsR.modify {R : Ren} {es : List Ent} {Es : Array MapEntry} (h : EntsR R es Es.toList) (i : Nat) {f : Ent → Ent} {g : MapEntry → MapEntry} (hfg : ∀ e E, es[i]? = some e → Es[i]? = some E → EntR R e E → EntR R (f e) (g E)) :
    EntsR R (modL f i es) (Es.modify i g).toList := by
  refine ⟨by rw [modL_length]; simpa using h.1, fun j e E he hE => ?_⟩
  rw [modL_get] at he
  rw [Array.getElem?_toList, Array.getElem?_modify] at hE
  split at he
  · rename_i hj
    subst hj
    rw [if_pos rfl] at hE
    cases h1 : es[j]? with
    | none => rw [h1] at he; cases he
    | some e0 =>
      cases h2 : Es[j]? with
      | none => rw [h2] at hE; cases hE
      | some E0 =>
        rw [h1] at he; rw [h2] at hE
        injection he with he; injection hE with hE
        subst he; subst hE
        exact hfg e0 E0 h1 h2 (h.2 j e0 E0 h1 (by simpa using h2))
  · rename_i hj
    rw [if_neg (Ne.symm hj)] at hE
    exact h.2 j e E he (by simpa using hE)
theorem EntsR.push {R : Ren} {es : List Ent} {Es : Array MapEntry} (h : EntsR R es Es.toList) {e : Ent} {E : MapEntry} (he : EntR R e E) : EntsR R (appL es [e]) (Es.push E).toList := by
  rw [appL_eq]
  refine ⟨by simpa using h.1, fun j a A ha hA => ?_⟩
  have hl : es.length = Es.size := by simpa using h.1
  by_cases hj : j < es.length
  · rw [List.getElem?_append_left hj] at ha
    rw [Array.toList_push, List.getElem?_append_left (by simpa using (by omega : j < Es.size))] at hA
    exact h.2 j a A ha hA
  · rw [List.getElem?_append_right (by omega)] at ha
    rw [Array.toList_push, List.getElem?_append_right (by simp; omega)] at hA
    simp only [Array.length_toList] at hA
    rw [← hl] at hA
    cases hd : j - es.length with
    | zero => rw [hd] at ha hA; simp at ha hA; subst ha; subst hA; exact he
    | succ n => rw [hd] at ha; simp at ha

theorem liveMap_some {m : Value} {p : Nat × MapObj} (h : liveMap H m = some p) : m = .map (some p.1) ∧ oMap (H.get p.1) = some p.2 := by
  obtain ⟨mo, hmo, h1⟩ := oo_inv h
  obtain ⟨id, rfl, h2⟩ := oo_inv h1
  obtain ⟨o, ho, h3⟩ := oo_inv h2
  injection h3 with h3; subst h3
  exact ⟨vMap_some hmo, ho⟩

theorem stays_ok {R : Ren} {k k' : Value} {e : Ent} {E : MapEntry} (hk : VR R k k') (he : VR R e.key E.key) (h : keyEq k e.key = some true) : (Instr.keyThatStays E.key k').run P w = .ok k' w := by
  have := keyEq_bits (keyEq_VR h hk he)
  simp [Instr.keyThatStays, this]

include hT in
theorem amapUpdate_ok (hs : Sim H R w) {t : TypeId} {m k x m' k' x' : Value} (h : amapUpdate tt H t m k x = some H') (hm : VR R m m') (hk : VR R k k') (hx : VR R x x') :
    ∃ w', (Instr.mapUpdate t m' k' x').run P w = .ok () w' ∧ Post H R w H' R w' := by
  obtain ⟨i, kt, et, hi, hd, h1⟩ := mapOfK_some h
  obtain ⟨p, hp, h2⟩ := oo_inv h1
  rw [pp_eta] at h2
  obtain ⟨hko, h3⟩ := bb_inv h2
  obtain ⟨r, hr, h4⟩ := oo_inv h3
  obtain ⟨hme, ho⟩ := liveMap_some hp
  subst hme
  obtain ⟨c, hid, rfl⟩ := hm.map_l
  obtain ⟨Es, hE, hEs⟩ := hs.map hid ho
  have hu := hT.run_und hi w
  rw [hd] at hu
  have hkk := keyOk_kind hko
  have hck := checkKey_ok (w := w) hT hkk hk false
  obtain ⟨r', hr', hf⟩ := findKey_ok (w := w) hT hkk hk hEs hr
  cases r with
  | none =>
    cases r' with
    | some => exact hf.elim
    | none =>
      simp only [oo_none] at h4
      injection h4 with h4; subst h4
      refine ⟨_, ?_, post_map hs (oMap_some ho) hid (hEs.push (E := { key := k', val := x', born := p.2.clock }) ⟨hk, hx, rfl⟩)⟩
      simp only [Instr.mapUpdate, Sem.run_bind, hu, Result.andThen_ok, run_getObj_map hE, hck, hr', run_setObj_map hE]
  | some q =>
    cases r' with
    | none => exact hf.elim
    | some q' =>
      rw [oo_some, pp_eta] at h4
      injection h4 with h4; subst h4
      obtain ⟨hle, e, he, hke, _⟩ := findE_found hr
      rw [Nat.sub_zero] at he
      have hq : q.1 = q'.1 := hf.1
      have hlt : q.1 < Es.size := by
        have := (List.getElem?_eq_some_iff.1 he).1
        rw [← Array.length_toList, ← hEs.1]; exact this
      have hEe : Es.toList[q.1]? = some Es[q.1] := by simp [hlt]
      have hst := stays_ok (P := P) (w := w) hk (hEs.2 q.1 e _ he hEe).1 hke
      refine ⟨_, ?_, post_map hs (oMap_some ho) hid (hEs.modify q.1 (f := fun e => ⟨k, x, e.born⟩) (g := fun E => { E with key := k', val := x' }) fun e E _ _ h9 => ⟨hk, hx, h9.2.2⟩)⟩
      have hget : Es[q'.1]? = some Es[q.1] := by rw [← hq]; simp [hlt]
      simp only [Instr.mapUpdate, Sem.run_bind, hu, Result.andThen_ok, run_getObj_map hE, hck, hr', hget, Option.map_some, Option.getD_some, hst, run_setObj_map hE]
      rw [hq]

include hT in
theorem amapEntry_ok (hs : Sim H R w) {t : TypeId} {m k m' k' v : Value} (h : amapEntry tt H t m k = some (v, H')) (hm : VR R m m') (hk : VR R k k') :
    ∃ u w' R', (Instr.mapEntry t m' k').run P w = .ok u w' ∧ VR R' v u ∧ Post H R w H' R' w' := by
  obtain ⟨i, kt, et, hi, hd, h1⟩ := mapOfK_some h
  obtain ⟨p, hp, h2⟩ := oo_inv h1
  rw [pp_eta] at h2
  obtain ⟨hko, h3⟩ := bb_inv h2
  obtain ⟨r, hr, h4⟩ := oo_inv h3
  obtain ⟨hme, ho⟩ := liveMap_some hp
  subst hme
  obtain ⟨c, hid, rfl⟩ := hm.map_l
  obtain ⟨Es, hE, hEs⟩ := hs.map hid ho
  have hu := hT.run_und hi w
  rw [hd] at hu
  have hkk := keyOk_kind hko
  have hck := checkKey_ok (w := w) hT hkk hk false
  obtain ⟨r', hr', hf⟩ := findKey_ok (w := w) hT hkk hk hEs hr
  cases r with
  | none =>
    cases r' with
    | some => exact hf.elim
    | none =>
      simp only [oo_none] at h4
      obtain ⟨z, hz, h5⟩ := oo_inv h4
      injection h5 with h5; injection h5 with e1 e2; subst e1; subst e2
      obtain ⟨ie, hie, hiz⟩ := zeroOf_some hz
      have hzr := hT.run_zero hie hiz w
      have hzv : VR R z z := plain_VR (hT.plain _ _ _ hie hiz)
      refine ⟨.tuple #[z, goInt p.2.clock], _, R, ?_, .tuple rfl (VRL.cons hzv (.cons (.int _ _) .nil)).2, post_map hs (oMap_some ho) hid (hEs.push (E := { key := k', val := z, born := p.2.clock }) ⟨hk, hzv, rfl⟩)⟩
      simp only [Instr.mapEntry, Sem.run_bind, hu, Result.andThen_ok, run_getObj_map hE, hck, hr', hzr, run_setObj_map hE, Sem.run_pure]
  | some q =>
    cases r' with
    | none => exact hf.elim
    | some q' =>
      rw [oo_some, pp_eta] at h4
      obtain ⟨e, he, h5⟩ := oo_inv h4
      rw [nthL_eq] at he
      injection h5 with h5; injection h5 with e1 e2; subst e1; subst e2
      obtain ⟨hle, e', he', hke, _⟩ := findE_found hr
      rw [Nat.sub_zero, he] at he'
      injection he' with he'; subst he'
      have hq : q.1 = q'.1 := hf.1
      have hlt : q.1 < Es.size := by
        have := (List.getElem?_eq_some_iff.1 he).1
        rw [← Array.length_toList, ← hEs.1]; exact this
      obtain ⟨E0, hE0⟩ : ∃ E0, Es[q.1]? = some E0 := ⟨Es[q.1], by simp [hlt]⟩
      have hEe : Es.toList[q.1]? = some E0 := by simpa using hE0
      have hee := hEs.2 q.1 e _ he hEe
      have hst := stays_ok (P := P) (w := w) hk hee.1 hke
      have hget : Es[q'.1]? = some E0 := by rw [← hq]; exact hE0
      refine ⟨.tuple #[q'.2, goInt E0.born], _, R, ?_, .tuple rfl (VRL.cons hf.2 (.cons (by rw [hee.2.2]; exact .int _ _) .nil)).2, post_map hs (oMap_some ho) hid (hEs.modify q.1 (f := fun e => ⟨k, e.val, e.born⟩) (g := fun E => { E with key := k' }) fun e E _ _ h9 => ⟨hk, h9.2.1, h9.2.2⟩)⟩
      simp only [Instr.mapEntry, Sem.run_bind, hu, Result.andThen_ok, run_getObj_map hE, hck, hr', hget, Option.map_some, Option.getD_some, hst, run_setObj_map hE, Sem.run_pure]
      rw [hq]

theorem bornAt_found {s : Nat} {es : List Ent} {i j : Nat} (h : bornAt s es i = some j) {Es : List MapEntry} (hE : EntsR R es Es) : i ≤ j ∧ Es.findIdx? (fun e => (e.born : Int) == (s : Int)) = some (j - i) := by
  induction es generalizing i Es with
  | nil => cases h
  | cons e es ih =>
    obtain ⟨E, Es', rfl, h1, h2⟩ := hE.uncons
    have h : bb (Nat.beq e.born s) (some i) (bornAt s es (i + 1)) = some j := h
    rw [bb_eq] at h
    split at h
    · rename_i hb
      have hb := Nat.eq_of_beq_eq_true hb
      injection h with h; subst h
      refine ⟨Nat.le_refl _, ?_⟩
      have : ((E.born : Int) == (s : Int)) = true := by rw [← h1.2.2, hb]; simp
      simp [List.findIdx?_cons, this]
    · rename_i hb
      have hne : ¬ ((E.born : Int) = (s : Int)) := by
        intro e2
        apply hb
        rw [h1.2.2]
        have h9 : E.born = s := by omega
        rw [h9]
        simp
      obtain ⟨h3, h4⟩ := ih h h2
      refine ⟨by omega, ?_⟩
      simp only [List.findIdx?_cons, h4]
      simp [hne]
      omega

theorem aentryStore_ok (hs : Sim H R w) {t : TypeId} {m s x m' s' x' : Value} (h : aentryStore H m s x = some H') (hm : VR R m m') (hsv : VR R s s') (hx : VR R x x') :
    ∃ w', (Instr.entryStore t m' s' x').run P w = .ok () w' ∧ Post H R w H' R w' := by
  obtain ⟨p, hp, h1⟩ := oo_inv h
  rw [pp_eta] at h1
  obtain ⟨n, hn, h2⟩ := oo_inv h1
  obtain ⟨j, hj, h3⟩ := oo_inv h2
  injection h3 with h3; subst h3
  obtain ⟨hme, ho⟩ := liveMap_some hp
  subst hme
  obtain ⟨c, hid, rfl⟩ := hm.map_l
  obtain ⟨Es, hE, hEs⟩ := hs.map hid ho
  obtain ⟨kd, rfl⟩ := hsv.nat_l hn
  obtain ⟨_, hfi⟩ := bornAt_found hj hEs
  rw [Nat.sub_zero] at hfi
  have hfi' : Es.findIdx? (fun e => (e.born : Int) == (n : Int)) = some j := by
    obtain ⟨l⟩ := Es
    simpa using hfi
  refine ⟨_, ?_, post_map hs (oMap_some ho) hid (hEs.modify j (f := fun e => ⟨e.key, x, e.born⟩) (g := fun E => { E with val := x' }) fun e E _ _ h9 => ⟨h9.1, hx, h9.2.2⟩)⟩
  simp only [Instr.entryStore, Sem.run_bind, run_getObj_map hE, Result.andThen_ok, asInt, asIntOf, Sem.run_pure, hfi', run_setObj_map hE]

include hT in
theorem aclearMap_ok (hs : Sim H R w) {t ty : TypeId} {x x' : Value} (h : aclearMap tt H t x = some H') (hx : VR R x x') : ∃ u w', (Builtin.clear_ #[t] ty #[x']).run P w = .ok u w' ∧ u = .tuple #[] ∧ Post H R w H' R w' := by
  obtain ⟨i, kt, et, hi, hd, h1⟩ := mapOfK_some h
  obtain ⟨mo, hmo, h2⟩ := oo_inv h1
  have := vMap_some hmo; subst this
  have hu := hT.run_und hi w
  rw [hd] at hu
  cases mo with
  | none =>
    injection h2 with h2; subst h2
    rw [hx.mapNil_l]
    exact ⟨_, w, by simp [Builtin.clear_, hu], rfl, .refl hs⟩
  | some id =>
    simp only [oo_some] at h2
    obtain ⟨o, ho, h3⟩ := oo_inv h2
    injection h3 with h3; subst h3
    obtain ⟨c, hid, rfl⟩ := hx.map_l
    obtain ⟨Es, hE, hEs⟩ := hs.map hid ho
    refine ⟨_, _, ?_, rfl, post_map (Es' := #[]) hs (oMap_some ho) hid ⟨rfl, by simp⟩⟩
    simp [Builtin.clear_, hu, run_getObj_map hE, run_setObj_map hE]

include hT in
theorem aclear_ok (hs : Sim H R w) {t ty : TypeId} {x x' : Value} (h : aclear tt H t x = some H') (hx : VR R x x') : ∃ u w', (Builtin.clear_ #[t] ty #[x']).run P w = .ok u w' ∧ u = .tuple #[] ∧ Post H R w H' R w' := by
  have h : oo (vSl x) (aclearMap tt H t x) (fun s => oo (elemOf tt t) none fun ie => oo ie.zero none fun z =>
    bb (an (Nat.beq (len (cellsOf z)) ie.size) (nt (Nat.beq s.len 0))) (awrite H s.id s.off (zeroRow (cellsOf z) s.len)) none) = some H' := h
  cases hsl : vSl x with
  | none => rw [hsl, oo_none] at h; exact aclearMap_ok hT hs h hx
  | some sv =>
    rw [hsl, oo_some] at h
    obtain ⟨ie, hie, h1⟩ := oo_inv h
    obtain ⟨z, hz, h2⟩ := oo_inv h1
    obtain ⟨hc, hw⟩ := bb_inv h2
    obtain ⟨is, e, his, hd, hte⟩ := elemOf_some hie
    have hu := hT.run_und his w
    rw [hd] at hu
    have hzr := hT.run_zero hte hz w
    have hpz := hT.plain _ _ _ hte hz
    simp only [an_eq, nt_eq, Bool.and_eq_true] at hc
    have h0 : sv.len ≠ 0 := fun e => by rw [e] at hc; exact absurd hc.2 (by decide)
    rcases hx.sl_l hsl with ⟨c, β, cap, hid, rfl, _⟩ | ⟨c, o, rfl, k0, _⟩ | ⟨rfl, k0, _⟩
    · obtain ⟨C, t, hC, hcf, hone, hpost⟩ := post_write hs hw hid (zeroRow_VRL (cellsOf_plain hpz) sv.len)
      have hst := run_storeCells_at P c (β + sv.off) t _ 0 C w hC (by simpa using hcf) hone
      refine ⟨_, _, ?_, rfl, hpost⟩
      simp only [Nat.add_zero] at hst
      simp only [Builtin.clear_]
      simp [hu, hzr, zeroCells_eq, hst]
    · exact absurd k0 h0
    · exact absurd k0 h0

theorem delL_eq {α : Type} (i : Nat) (l : List α) : delL i l = l.eraseIdx i := by
  induction i generalizing l with
  | zero => cases l <;> rfl
  | succ i ih =>
    cases l with
    | nil => rfl
    | cons a r =>
      show a :: delL i r = _
      rw [ih]; rfl

theorem EntsR.erase {R : Ren} {es : List Ent} {Es : List MapEntry} (h : EntsR R es Es) (i : Nat) : EntsR R (es.eraseIdx i) (Es.eraseIdx i) := by
  induction i generalizing es Es with
  | zero =>
    cases es with
    | nil => rw [h.unnil]; exact ⟨rfl, by simp⟩
    | cons e es => obtain ⟨E, Es', rfl, _, h2⟩ := h.uncons; exact h2
  | succ i ih =>
    cases es with
    | nil => rw [h.unnil]; exact ⟨rfl, by simp⟩
    | cons e es =>
      obtain ⟨E, Es', rfl, h1, h2⟩ := h.uncons
      have h3 := ih h2
      refine ⟨by simp [h3.1], fun j a A ha hA => ?_⟩
      cases j with
      | zero =>
        simp at ha hA; subst ha; subst hA; exact h1
      | succ j => exact h3.2 j a A (by simpa using ha) (by simpa using hA)

include hT in
theorem adelete_ok (hs : Sim H R w) {t ty : TypeId} {m k m' k' : Value} (h : adelete tt H t m k = some H') (hm : VR R m m') (hk : VR R k k') :
    ∃ u w', (Builtin.delete_ #[t] ty #[m', k']).run P w = .ok u w' ∧ u = .tuple #[] ∧ Post H R w H' R w' := by
  obtain ⟨i, kt, et, hi, hd, h1⟩ := mapOfK_some h
  obtain ⟨p, hp, h2⟩ := oo_inv h1
  rw [pp_eta] at h2
  obtain ⟨hko, h3⟩ := bb_inv h2
  obtain ⟨r, hr, h4⟩ := oo_inv h3
  obtain ⟨hme, ho⟩ := liveMap_some hp
  subst hme
  obtain ⟨c, hid, rfl⟩ := hm.map_l
  obtain ⟨Es, hE, hEs⟩ := hs.map hid ho
  have hu := hT.run_und hi w
  rw [hd] at hu
  have hkk := keyOk_kind hko
  have hck := checkKey_ok (w := w) hT hkk hk Es.isEmpty
  obtain ⟨r', hr', hf⟩ := findKey_ok (w := w) hT hkk hk hEs hr
  cases r with
  | none =>
    cases r' with
    | some => exact hf.elim
    | none =>
      simp only [oo_none] at h4
      injection h4 with h4; subst h4
      refine ⟨_, _, ?_, rfl, post_map hs (oMap_some ho) hid (Es' := Es) hEs⟩
      simp [Builtin.delete_, hu, run_getObj_map hE, hck, hr', run_setObj_map hE]
  | some q =>
    cases r' with
    | none => exact hf.elim
    | some q' =>
      rw [oo_some, pp_eta] at h4
      injection h4 with h4; subst h4
      have hq : q.1 = q'.1 := hf.1
      obtain ⟨hle, e, he, hke, _⟩ := findE_found hr
      rw [Nat.sub_zero] at he
      have hlt : q.1 < Es.size := by
        have := (List.getElem?_eq_some_iff.1 he).1
        rw [← Array.length_toList, ← hEs.1]; exact this
      have hlist : (Es.eraseIdxIfInBounds q'.1).toList = Es.toList.eraseIdx q.1 := by
        rw [← hq]
        simp [Array.eraseIdxIfInBounds, hlt]
      refine ⟨_, _, ?_, rfl, post_map hs (oMap_some ho) hid (Es' := Es.eraseIdxIfInBounds q'.1) (by rw [hlist, delL_eq]; exact hEs.erase q.1)⟩
      simp [Builtin.delete_, hu, run_getObj_map hE, hck, hr', run_setObj_map hE]
end
end Go.Sp
