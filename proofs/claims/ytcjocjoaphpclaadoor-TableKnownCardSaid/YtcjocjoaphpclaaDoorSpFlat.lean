/- Flat types: arrays and structs of integers, bools and strings; their equality is that of their cells. -/
import Derived.Test.YtcjocjoaphpclaaDoorSpFn
import Derived.ChangeKeysEq
namespace Go.Sp

def FlFs (p : TypeId → List Value → Prop) : List Field → Nat → List Value → Prop
  | [], _, zs => zs = []
  | f :: r, off, zs => f.name ≠ "_" ∧ f.offset = off ∧ ∃ z1 z2, zs = z1 ++ z2 ∧ p f.type z1 ∧ FlFs p r (off + z1.length) z2

/-- A type is flat: 'zs' are the cells of its zero value. -/
def Fl (P : Program) : Nat → TypeId → List Value → Prop
  | 0, _, _ => False
  | d + 1, t, zs => P.cellsOf t = zs.length ∧ (
    ((∃ k, P.underlying t = some (.int k)) ∧ (∃ k n, zs = [.int k n])) ∨ (P.underlying t = some .bool ∧ ∃ b, zs = [.bool b]) ∨ (P.underlying t = some .string ∧ ∃ s, zs = [.string s]) ∨
    (∃ l e z1, P.underlying t = some (.array l e) ∧ Fl P d e z1 ∧ zs = zeroRow z1 l) ∨
    (∃ fs, P.underlying t = some (.struct fs) ∧ P.stoodInHeld t = false ∧ FlFs (Fl P d) fs.toList 0 zs))

theorem kindsLike_split {z1 z2 xs : List Value} (h : kindsLike (z1 ++ z2) xs = true) : kindsLike z1 (xs.take z1.length) = true ∧ kindsLike z2 (xs.drop z1.length) = true := by
  induction z1 generalizing xs with
  | nil => exact ⟨rfl, h⟩
  | cons z z1 ih => cases xs with
    | nil => cases h
    | cons x xs =>
      obtain ⟨h3, h4⟩ := an_inv (show an (kindLike z x) (kindsLike (z1 ++ z2) xs) = true from h)
      obtain ⟨h5, h6⟩ := ih h4
      exact ⟨by show an (kindLike z x) (kindsLike z1 (xs.take z1.length)) = true; rw [h3, h5]; rfl, h6⟩

theorem cellsEq_split {n : Nat} {xs ys : List Value} {b : Bool} (h : cellsEq xs ys = some b) : ∃ p q, cellsEq (xs.take n) (ys.take n) = some p ∧ cellsEq (xs.drop n) (ys.drop n) = some q ∧ b = (p && q) := by
  induction xs generalizing ys b n with
  | nil => cases ys with
    | nil => refine ⟨true, true, ?_, ?_, ?_⟩ <;> first | (simp; rfl) | (injection h with h; simp [← h])
    | cons y ys => cases h
  | cons x xs ih => cases ys with
    | nil => cases h
    | cons y ys =>
      cases n with
      | zero => exact ⟨true, b, rfl, h, by simp⟩
      | succ n =>
        obtain ⟨p, hp, h1⟩ := oo_inv (show oo (cellEq x y) none (fun b => oo (cellsEq xs ys) none fun c => some (an b c)) = some b from h)
        obtain ⟨q, hq, h2⟩ := oo_inv h1
        obtain ⟨p', q', h3, h4, rfl⟩ := ih (n := n) hq
        injection h2 with h2
        refine ⟨an p p', q', ?_, h4, ?_⟩
        · show oo (cellEq x y) none (fun b => oo (cellsEq (xs.take n) (ys.take n)) none fun c => some (an b c)) = _
          rw [hp, oo_some, h3, oo_some]
        · rw [← h2]; simp [an_eq, Bool.and_assoc]

section
variable {P : Program}

theorem isAgg_run {t : TypeId} {d : TypeDesc} (h : P.underlying t = some d) (w : World) : (isAgg t).run P w = .ok (isAggT d) w := by
  simp only [isAgg, Sem.run_bind, run_underlying h, Result.andThen_ok]
  cases d <;> rfl

/-- A value of a type, by its cells. -/
def Boxed (P : Program) (t : TypeId) (zs : List Value) (v : Value) : Prop := ∃ d, P.underlying t = some d ∧ ((isAggT d = true ∧ v = .agg ⟨zs⟩) ∨ (isAggT d = false ∧ zs = [v]))

theorem Fl.info {d : Nat} {t : TypeId} {zs : List Value} (h : Fl P d t zs) : ∃ k i, P.underlying t = some k ∧ P.info? t = some i ∧ P.cellsOf t = zs.length := by
  cases d with
  | zero => exact h.elim
  | succ d =>
    obtain ⟨hc, h⟩ := h
    have : ∃ k, P.underlying t = some k := by
      rcases h with ⟨⟨k, h⟩, _⟩ | ⟨h, _⟩ | ⟨h, _⟩ | ⟨l, e, z1, h, _⟩ | ⟨fs, h, _⟩ <;> exact ⟨_, h⟩
    obtain ⟨k, hk⟩ := this
    obtain ⟨i, hi⟩ := info_of_underlying hk
    exact ⟨k, i, hk, hi, hc⟩

theorem Fl.part {d : Nat} {t : TypeId} {zs : List Value} (h : Fl P d t zs) {xs : List Value} {off : Nat} (hle : off + zs.length ≤ xs.length) (w : World) :
    ∃ v, (Go.part t ⟨xs⟩ off).run P w = .ok v w ∧ Boxed P t ((xs.drop off).take zs.length) v := by
  obtain ⟨k, i, hk, hi, hc⟩ := h.info
  by_cases ha : isAggT k = true
  · refine ⟨.agg ⟨(xs.drop off).take zs.length⟩, ?_, k, hk, .inl ⟨ha, rfl⟩⟩
    simp only [Go.part, Sem.run_bind, isAgg_run hk, ha, Result.andThen_ok, if_true, run_sizeOf w hi, Sem.run_pure, hc]
    congr 2
    simp [List.extract_toArray, List.extract_eq_take_drop]
  · have ha : isAggT k = false := by simpa using ha
    have hn : zs.length = 1 := by
      cases d with
      | zero => exact h.elim
      | succ d =>
        rcases h.2 with ⟨_, _, _, h⟩ | ⟨_, _, h⟩ | ⟨_, _, h⟩ | ⟨l, e, z1, h, _⟩ | ⟨fs, h, _⟩
        · rw [h]; rfl
        · rw [h]; rfl
        · rw [h]; rfl
        · rw [hk] at h; cases h; cases ha
        · rw [hk] at h; cases h; cases ha
    rw [hn] at hle ⊢
    have hlt : off < xs.length := by omega
    refine ⟨xs[off], ?_, k, hk, .inr ⟨ha, ?_⟩⟩
    · simp only [Go.part, Sem.run_bind, isAgg_run hk, ha, Result.andThen_ok, Bool.false_eq_true, if_false]
      simp [List.getElem?_eq_getElem hlt]
    · rw [List.drop_eq_getElem_cons hlt]; rfl

theorem zeroRow_len (z : List Value) (n : Nat) : (zeroRow z n).length = n * z.length := by
  induction n with
  | zero => show ([] : List Value).length = _; simp
  | succ n ih => show (appL z (zeroRow z n)).length = _; rw [appL_eq, List.length_append, ih, Nat.succ_mul]; omega

theorem eqItems_ok {d : Nat} {e : TypeId} {z1 : List Value} (he : Fl P d e z1) {D : Nat}
    (ih : ∀ (xs ys : List Value) (x y : Value) (b : Bool) (w : World), kindsLike z1 xs = true → Boxed P e xs x → Boxed P e ys y → cellsEq xs ys = some b → (Op.equalIn D e x y).run P w = .ok b w) (w : World) :
    ∀ (k i : Nat) (xs ys : List Value) (b : Bool), xs.length = (i + k) * z1.length → kindsLike (zeroRow z1 k) (xs.drop (i * z1.length)) = true → cellsEq (xs.drop (i * z1.length)) (ys.drop (i * z1.length)) = some b → ys.length = xs.length →
      (Op.eqItems D e z1.length ⟨xs⟩ ⟨ys⟩ (List.range' i k)).run P w = .ok b w := by
  intro k
  induction k with
  | zero =>
    intro i xs ys b hl _ h hy
    rw [List.drop_eq_nil_of_le (by simp at hl; omega), List.drop_eq_nil_of_le (by simp at hl; omega)] at h
    injection h with h; subst h
    simp [Op.eqItems]
  | succ k ihk =>
    intro i xs ys b hl hk h hy
    have e1 : (i + (k + 1)) * z1.length = i * z1.length + z1.length + k * z1.length := by rw [Nat.add_mul, Nat.succ_mul]; omega
    have hl' := hl
    rw [e1] at hl'
    obtain ⟨x, hx, bx⟩ := he.part (xs := xs) (off := i * z1.length) (by omega) w
    obtain ⟨y, hy', byy⟩ := he.part (xs := ys) (off := i * z1.length) (by omega) w
    obtain ⟨p, q, h1, h2, rfl⟩ := cellsEq_split (n := z1.length) h
    have hk : kindsLike (z1 ++ zeroRow z1 k) (xs.drop (i * z1.length)) = true := by have := hk; rwa [show zeroRow z1 (k + 1) = appL z1 (zeroRow z1 k) from rfl, appL_eq] at this
    obtain ⟨hk1, hk2⟩ := kindsLike_split hk
    rw [List.drop_drop] at hk2
    rw [List.drop_drop, List.drop_drop] at h2
    have hrun := ih _ _ x y p w hk1 bx byy h1
    simp only [List.range', Op.eqItems, Sem.run_bind, hx, hy', hrun, Result.andThen_ok]
    cases p with
    | false => simp
    | true =>
      simp only [Bool.true_and, if_true]
      have e2 : (i + 1) * z1.length = i * z1.length + z1.length := by rw [Nat.succ_mul]
      refine ihk (i + 1) xs ys q (by rw [hl]; congr 1; omega) (by rw [e2]; exact hk2) ?_ hy
      rw [e2]
      exact h2

theorem run_equalIn_struct' (D : Nat) {t : TypeId} {fs : Array Field} (xs ys : Array Value) (hu : P.underlying t = some (.struct fs)) (hst : P.stoodInHeld t = false) (w : World) :
    (Op.equalIn (D + 1) t (.agg xs) (.agg ys)).run P w = (Op.eqFields D xs ys fs.toList).run P w := by
  have hf : P.fieldsOf t = fs := by unfold Program.fieldsOf; rw [hu]
  have := run_equalIn_struct w D t xs ys (by rw [hf]; exact hu) hst
  rw [this, hf]

theorem eqFields_ok {d : Nat} {D : Nat}
    (ih : ∀ (t : TypeId) (zs : List Value), Fl P d t zs → ∀ (xs ys : List Value) (x y : Value) (b : Bool) (w : World), kindsLike zs xs = true → Boxed P t xs x → Boxed P t ys y → cellsEq xs ys = some b → (Op.equalIn D t x y).run P w = .ok b w) (w : World) :
    ∀ (fs : List Field) (off : Nat) (zs xs ys : List Value) (b : Bool), FlFs (Fl P d) fs off zs → kindsLike zs (xs.drop off) = true → off ≤ xs.length → cellsEq (xs.drop off) (ys.drop off) = some b → ys.length = xs.length →
      (Op.eqFields D ⟨xs⟩ ⟨ys⟩ fs).run P w = .ok b w := by
  intro fs
  induction fs with
  | nil =>
    intro off zs xs ys b hf hk ho h hy
    have hf : zs = [] := hf
    subst hf
    have hl := kindsLike_len hk
    simp only [List.length_drop, List.length_nil] at hl
    rw [List.drop_eq_nil_of_le (by omega), List.drop_eq_nil_of_le (by omega)] at h
    injection h with h; subst h
    simp [Op.eqFields]
  | cons f fs ihf =>
    intro off zs xs ys b hf hk ho h hy
    obtain ⟨h1, h2, z1, z2, rfl, h3, h4⟩ := hf
    have hl := kindsLike_len hk
    simp only [List.length_drop, List.length_append] at hl
    obtain ⟨x, hx, bx⟩ := h3.part (xs := xs) (off := off) (by omega) w
    obtain ⟨y, hy', byy⟩ := h3.part (xs := ys) (off := off) (by omega) w
    obtain ⟨p, q, g1, g2, rfl⟩ := cellsEq_split (n := z1.length) h
    obtain ⟨hk1, hk2⟩ := kindsLike_split hk
    rw [List.drop_drop] at hk2
    rw [List.drop_drop, List.drop_drop] at g2
    have hrun := ih f.type z1 h3 _ _ x y p w hk1 bx byy g1
    simp only [Op.eqFields, if_pos h1, Sem.run_bind, h2, hx, hy', hrun, Result.andThen_ok]
    cases p with
    | false => simp
    | true =>
      simp only [Bool.not_true, Bool.false_eq_true, if_false, Sem.run_pure, Result.andThen_ok, Bool.true_and]
      exact ihf _ z2 xs ys q h4 hk2 (by omega) g2 hy

theorem Fl.equal {d : Nat} : ∀ {t : TypeId} {zs : List Value}, Fl P d t zs → ∀ (D : Nat) (xs ys : List Value) (x y : Value) (b : Bool) (w : World), kindsLike zs xs = true → Boxed P t xs x → Boxed P t ys y → cellsEq xs ys = some b →
    (Op.equalIn (D + d) t x y).run P w = .ok b w := by
  induction d with
  | zero => intro t zs h; exact h.elim
  | succ d ih =>
    intro t zs h D xs ys x y b w hn hx hy hb
    obtain ⟨kx, hkx, hx⟩ := hx
    obtain ⟨ky, hky, hy⟩ := hy
    rw [hkx] at hky; cases hky
    have hlen := cellsEq_len hb
    have hlz := kindsLike_len hn
    have leaf : isAggT kx = false → xs = [x] ∧ ys = [y] ∧ cellEq x y = some b := fun hag => by
      rcases hx with ⟨h', _⟩ | ⟨_, rfl⟩
      · rw [hag] at h'; cases h'
      rcases hy with ⟨h', _⟩ | ⟨_, rfl⟩
      · rw [hag] at h'; cases h'
      obtain ⟨p, hp, h1⟩ := oo_inv (show oo (cellEq x y) none (fun b => oo (cellsEq [] []) none fun c => some (an b c)) = some b from hb)
      have h1 : some (an p true) = some b := h1
      injection h1 with h1
      have hpb : p = b := by simpa [an_eq] using h1
      exact ⟨rfl, rfl, by rw [hp, hpb]⟩
    have agg : isAggT kx = true → x = .agg ⟨xs⟩ ∧ y = .agg ⟨ys⟩ := fun hag => by
      rcases hx with ⟨_, h1⟩ | ⟨h', _⟩
      · rcases hy with ⟨_, h2⟩ | ⟨h', _⟩
        · exact ⟨h1, h2⟩
        · rw [hag] at h'; cases h'
      · rw [hag] at h'; cases h'
    show (Op.equalIn ((D + d) + 1) t x y).run P w = _
    rcases h.2 with ⟨⟨k, hu⟩, _, _, rfl⟩ | ⟨hu, _, rfl⟩ | ⟨hu, _, rfl⟩ | ⟨l, e, z1, hu, he, rfl⟩ | ⟨fs, hu, hst, hf⟩
    · rw [hkx] at hu; cases hu
      obtain ⟨rfl, rfl, hc⟩ := leaf rfl
      obtain ⟨h3, _⟩ := an_inv (show an (isS (vInt x)) _ = true from hn)
      cases hv : vInt x with
      | none => rw [hv] at h3; cases h3
      | some p =>
        have := vInt_some hv; subst this
        obtain ⟨q, hq, h5⟩ := oo_inv (show oo (vInt y) none (fun q => pp q fun j b => bb (intKindEq p.1 j) (some (ieq p.2 b)) none) = some b from hc)
        rw [pp_eta] at h5
        obtain ⟨h6, h7⟩ := bb_inv h5
        have := vInt_some hq; subst this
        have := intKindEq_iff h6
        rw [← this, run_equalIn_int w (D + d) t p.1 k p.2 q.2 hkx]
        injection h7 with h7
        rw [← h7, ieq_eq]
    · rw [hkx] at hu; cases hu
      obtain ⟨rfl, rfl, hc⟩ := leaf rfl
      obtain ⟨h3, _⟩ := an_inv (show an (isS (vBool x)) _ = true from hn)
      cases hv : vBool x with
      | none => rw [hv] at h3; cases h3
      | some p =>
        have := vBool_some hv; subst this
        obtain ⟨q, hq, h5⟩ := oo_inv (show oo (vBool y) none (fun b => some (bq p b)) = some b from hc)
        have := vBool_some hq; subst this
        rw [run_equalIn_bool w (D + d) t p q hkx]
        injection h5 with h5
        rw [← h5]; cases p <;> cases q <;> rfl
    · rw [hkx] at hu; cases hu
      obtain ⟨rfl, rfl, hc⟩ := leaf rfl
      obtain ⟨h3, _⟩ := an_inv (show an (isS (vStr x)) _ = true from hn)
      cases hv : vStr x with
      | none => rw [hv] at h3; cases h3
      | some p =>
        have := vStr_some hv; subst this
        obtain ⟨q, hq, h5⟩ := oo_inv (show oo (vStr y) none (fun b => some (p == b)) = some b from hc)
        have := vStr_some hq; subst this
        rw [run_equalIn_string w (D + d) t p q hkx]
        injection h5 with h5
        rw [← h5, beq_toListBytes]
    · rw [hkx] at hu; cases hu
      obtain ⟨rfl, rfl⟩ := agg rfl
      obtain ⟨k, i, hk, hi, hc⟩ := he.info
      rw [run_equalIn_array (d := D + d) w ⟨xs⟩ ⟨ys⟩ hkx hi, List.range_eq_range', hc]
      exact eqItems_ok he (fun xs ys x y b w hk bx byy hb => ih he D xs ys x y b w hk bx byy hb) w l 0 xs ys b (by rw [hlz, zeroRow_len, Nat.zero_add]) (by simpa using hn) (by simpa using hb) hlen.symm
    · rw [hkx] at hu; cases hu
      obtain ⟨rfl, rfl⟩ := agg rfl
      rw [run_equalIn_struct' (D + d) ⟨xs⟩ ⟨ys⟩ hkx hst w]
      exact eqFields_ok (fun t zs hf xs ys x y b w hk bx byy hb => ih hf D xs ys x y b w hk bx byy hb) w fs.toList 0 zs xs ys b hf (by simpa using hn) (Nat.zero_le _) (by simpa using hb) hlen.symm

theorem forIn_ok {α : Type} {l : List α} {f : α → Unit → Sem (ForInStep Unit)} {w : World} (h : ∀ a ∈ l, (f a ()).run P w = .ok (.yield ()) w) : (forIn l () f).run P w = .ok () w := by
  induction l with
  | nil => simp
  | cons a l ih =>
    simp only [List.forIn_cons, Sem.run_bind, h a (by simp), Result.andThen_ok]
    exact ih fun b hb => h b (by simp [hb])

theorem Fl.check {d : Nat} : ∀ {t : TypeId} {zs : List Value}, Fl P d t zs → ∀ (e : Bool) (D : Nat) (xs : List Value) (x : Value) (w : World), xs.length = zs.length → Boxed P t xs x →
    (Instr.checkKey e (D + d) t x).run P w = .ok () w := by
  induction d with
  | zero => intro t zs h; exact h.elim
  | succ d ih =>
    intro t zs h e D xs x w hn hx
    obtain ⟨kx, hkx, hx⟩ := hx
    have agg : isAggT kx = true → x = .agg ⟨xs⟩ := fun hag => by
      rcases hx with ⟨_, h1⟩ | ⟨h', _⟩
      · exact h1
      · rw [hag] at h'; cases h'
    show (Instr.checkKey e ((D + d) + 1) t x).run P w = _
    rcases h.2 with ⟨⟨k, hu⟩, _⟩ | ⟨hu, _⟩ | ⟨hu, _⟩ | ⟨l, el, z1, hu, he, rfl⟩ | ⟨fs, hu, hst, hf⟩
    · simp [Instr.checkKey, run_underlying hu]
    · simp [Instr.checkKey, run_underlying hu]
    · simp [Instr.checkKey, run_underlying hu]
    · rw [hkx] at hu; cases hu
      obtain rfl := agg rfl
      obtain ⟨k, i, hk, hi, hc⟩ := he.info
      rw [zeroRow_len] at hn
      simp only [Instr.checkKey, Sem.run_bind, run_underlying hkx, Result.andThen_ok, Std.Legacy.Range.forIn_eq_forIn_range', Std.Legacy.Range.size, Nat.sub_zero, Nat.add_one_sub_one, Nat.div_one]
      have hall : ∀ j ∈ List.range' 0 l, (do let n ← sizeOf el; let v ← Go.part el ⟨xs⟩ (j * n); Instr.checkKey e (D + d) el v; pure (ForInStep.yield PUnit.unit) : Sem (ForInStep PUnit)).run P w = .ok (.yield ()) w := fun j hj => by
        have hj : j < l := by simpa using hj
        have hle : j * z1.length + z1.length ≤ xs.length := by
          rw [hn, ← Nat.succ_mul]; exact Nat.mul_le_mul_right _ hj
        obtain ⟨v, hv, bv⟩ := he.part (xs := xs) (off := j * z1.length) hle w
        have := ih he e D _ v w (by simp; omega) bv
        simp [run_sizeOf w hi, hc, hv, this]
      rw [forIn_ok hall]; rfl
    · rw [hkx] at hu; cases hu
      obtain rfl := agg rfl
      have main : ∀ (fs : List Field) (off : Nat) (zs : List Value), FlFs (Fl P d) fs off zs → off + zs.length = xs.length → ∀ f ∈ fs, ∃ v, (Go.part f.type ⟨xs⟩ f.offset).run P w = .ok v w ∧ (Instr.checkKey e (D + d) f.type v).run P w = .ok () w := by
        intro fs
        induction fs with
        | nil => intro _ _ _ _ f hf; cases hf
        | cons g gs ihg =>
          intro off zs hf hl f hfm
          obtain ⟨h1, h2, z1, z2, rfl, h3, h4⟩ := hf
          simp only [List.length_append] at hl
          rcases List.mem_cons.1 hfm with rfl | hm
          · obtain ⟨v, hv, bv⟩ := h3.part (xs := xs) (off := off) (by omega) w
            exact ⟨v, by rw [h2]; exact hv, ih h3 e D _ v w (by simp; omega) bv⟩
          · exact ihg _ _ h4 (by omega) f hm
      simp only [Instr.checkKey, Sem.run_bind, run_underlying hkx, Result.andThen_ok]
      rw [← Array.forIn_toList]
      have hall : ∀ f ∈ fs.toList, (if f.name ≠ "_" then do let v ← Go.part f.type ⟨xs⟩ f.offset; Instr.checkKey e (D + d) f.type v; pure (ForInStep.yield PUnit.unit) else pure (ForInStep.yield PUnit.unit) : Sem (ForInStep PUnit)).run P w = .ok (.yield ()) w := fun f hfm => by
        by_cases hne : f.name ≠ "_"
        · obtain ⟨v, hv, hc⟩ := main fs.toList 0 zs hf (by omega) f hfm
          simp [hne, hv, hc]
        · simp [hne]
      rw [forIn_ok hall]; rfl

theorem Fl.ok {d : Nat} {t : TypeId} {zs : List Value} (h : Fl P d t zs) (hd : d ≤ 10000) (hag : ∃ k, P.underlying t = some k ∧ isAggT k = true) (hg : P.eqGuardType P.depth t = false) : FlatOk P t zs := by
  obtain ⟨k, hk, ha⟩ := hag
  refine ⟨fun xs ys b w hl hb => ?_, hg, fun xs w e hl => ?_⟩
  · have := h.equal (10000 - d) xs ys (.agg ⟨xs⟩) (.agg ⟨ys⟩) b w hl ⟨k, hk, .inl ⟨ha, rfl⟩⟩ ⟨k, hk, .inl ⟨ha, rfl⟩⟩ hb
    rwa [Nat.sub_add_cancel hd] at this
  · have := h.check e (10000 - d) xs (.agg ⟨xs⟩) w hl ⟨k, hk, .inl ⟨ha, rfl⟩⟩
    rwa [Nat.sub_add_cancel hd] at this
end
end Go.Sp
