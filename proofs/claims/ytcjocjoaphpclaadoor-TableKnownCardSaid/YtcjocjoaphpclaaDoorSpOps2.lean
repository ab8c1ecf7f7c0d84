/- The operations, continued: equality, parts, loads and stores, addresses. -/
import Derived.Test.YtcjocjoaphpclaaDoorSpOps
namespace Go.Sp

theorem cellEq_VR {R R' : Ren} {x y x' y' : Value} {b : Bool} (h : cellEq x y = some b) (hx : VR R x x') (hy : VR R' y y') : cellEq x' y' = some b := by
  cases x <;> simp only [cellEq, vv] at h <;> try (cases h; done)
  case bool a => obtain ⟨c, hc, _⟩ := oo_inv h; have := vBool_some hc; subst this; rw [hx.bool_l, hy.bool_l]; exact h
  case int k a => obtain ⟨c, hc, _⟩ := oo_inv h; have := vInt_some hc; subst this; rw [hx.int_l, hy.int_l]; exact h
  case string a => obtain ⟨c, hc, _⟩ := oo_inv h; have := vStr_some hc; subst this; rw [hx.string_l, hy.string_l]; exact h
theorem cellsEq_VRL {R R' : Ren} {xs ys xs' ys' : List Value} {b : Bool} (h : cellsEq xs ys = some b) (hx : VRL R xs xs') (hy : VRL R' ys ys') : cellsEq xs' ys' = some b := by
  induction xs generalizing ys xs' ys' b with
  | nil =>
    rw [hx.unnil]
    cases ys with
    | nil => rw [hy.unnil]; exact h
    | cons y ys => exact absurd h (by intro h; cases h)
  | cons x xs ih =>
    obtain ⟨u, us, rfl, h1, h2⟩ := hx.uncons
    cases ys with
    | nil => exact absurd h (by intro h; cases h)
    | cons y ys =>
      obtain ⟨z, zs, rfl, h3, h4⟩ := hy.uncons
      have h : oo (cellEq x y) none (fun b => oo (cellsEq xs ys) none fun c => some (an b c)) = some b := h
      obtain ⟨p, hp, h⟩ := oo_inv h
      obtain ⟨q, hq, h⟩ := oo_inv h
      show oo (cellEq u z) none (fun b => oo (cellsEq us zs) none fun c => some (an b c)) = some b
      rw [cellEq_VR hp h1 h3, oo_some, ih hq h2 h4]
      exact h

section
variable {P : Program} {tt : TT} (hT : TOk P tt) {H : AHeap} {R : Ren} {w : World}

/-- The look at a value of the model. -/
noncomputable def vNilC (v : Value) : Option (Nat × Bool) :=
  vv v (fun _ => none) (fun _ _ => none) (fun _ => none) (fun a => some (4, nt (isS a))) (fun a _ _ => some (2, nt (isS a))) (fun m => some (5, nt (isS m))) (fun _ _ _ => some (6, false)) (some (6, true)) (fun _ _ => none) none (fun _ => none) (fun _ => none) none
theorem nilF_some {sz n fl : Nat} {cs : List Value} {b : Nat × Bool} (h : vNil (.iface sz (.agg ⟨.slice none n fl :: cs⟩)) = some b) : (fl = 2 ∧ (2, true) = b) ∨ (fl ≠ 2 ∧ 1 ≤ n ∧ (2, false) = b) := by
  have h : bb (Nat.beq fl 2) (some (2, true)) (bb (Nat.ble 1 n) (some (2, false)) none) = some b := h
  rw [bb_eq] at h
  split at h
  · rename_i hb
    injection h with h
    exact .inl ⟨Nat.eq_of_beq_eq_true hb, h⟩
  · rename_i hb
    obtain ⟨h1, h2⟩ := bb_inv h
    injection h2 with h2
    exact .inr ⟨fun e => hb (by rw [e]; rfl), Nat.le_of_ble_eq_true h1, h2⟩
theorem nilS_some {a : Addr} {l c : Nat} {b : Nat × Bool} (h : vNil (.slice (some a) l c) = some b) : 2 ≤ c ∧ (2, false) = b := by
  obtain ⟨h1, h2⟩ := bb_inv (show bb (Nat.ble 2 c) (some (2, false)) none = some b from h)
  injection h2 with h2
  exact ⟨Nat.le_of_ble_eq_true h1, h2⟩
theorem vNil_VR {R : Ren} {x x' : Value} {b : Nat × Bool} (h : vNil x = some b) (hx : VR R x x') : vNilC x' = some b := by
  cases hx
  case any => cases h
  case fs hfl _ _ _ _ _ =>
    rcases nilF_some h with ⟨h1, _⟩ | ⟨_, _, h1⟩
    · exact absurd h1 (by assumption)
    · rw [← h1]; rfl
  case fsN =>
    rcases nilF_some h with ⟨_, h1⟩ | ⟨_, h1, _⟩
    · rw [← h1]; rfl
    · omega
  case fsE =>
    rcases nilF_some h with ⟨h1, _⟩ | ⟨_, h1, _⟩
    · exact absurd h1 (by assumption)
    · omega
  case sl => obtain ⟨_, h1⟩ := nilS_some h; rw [← h1]; rfl
  case slE h0 => obtain ⟨h1, _⟩ := nilS_some h; omega
  case slN h0 => obtain ⟨h1, _⟩ := nilS_some h; omega
  case fp => exact h
  all_goals first | exact h | (simp [vNil, vNilC, vv] at h ⊢; exact h)

theorem eqKind_bool {d : TypeDesc} (h : eqKind d = 1) : d = .bool := by
  cases d <;> first | rfl | (simp [eqKind, dd] at h)
theorem run_equal_of {t : TypeId} {x y : Value} {b : Bool} (h : ∀ d, (Op.equalIn (d + 1) t x y).run P w = .ok b w) : (Op.equal t x y).run P w = .ok b w := h 9999

theorem equal_nil {t : TypeId} {d : TypeDesc} (hu : P.underlying t = some d) {x y : Value} {p q : Nat × Bool} {b : Bool} (hp : vNilC x = some p) (hq : vNilC y = some q) (h1 : p.1 = eqKind d) (h2 : q.1 = eqKind d)
    (h : bb p.2 (some q.2) (bb q.2 (some false) none) = some b) : (Op.equal t x y).run P w = .ok b w := by
  have hrun := run_underlying hu
  refine run_equal_of fun n => ?_
  cases x <;> simp only [vNilC, vv] at hp <;> (try (cases hp; done)) <;> cases y <;> simp only [vNilC, vv] at hq <;> (try (cases hq; done)) <;> (injection hp with hp; injection hq with hq; subst hp; subst hq; simp only at h1 h2 h) <;>
    (try (exfalso; omega)) <;> cases d <;> (try (exfalso; simp [eqKind, dd] at h1; done)) <;> simp only [Op.equalIn, Sem.run_bind, hrun, Result.andThen_ok]
  case pointer.pointer.pointer a c e => cases a <;> cases c <;> simp at h ⊢ <;> exact h
  case slice.slice.slice a _ _ c _ _ e => cases a <;> cases c <;> simp at h ⊢ <;> exact h
  case map.map.map a c k e => cases a <;> cases c <;> simp at h ⊢ <;> exact h
  case func.func.func => simp at h
  all_goals (simp at h ⊢; try exact h)

theorem eqV_any {t : TypeId} {y : Value} : eqV tt t (.iface 0 .nilIface) y = none := by
  unfold eqV
  cases tt t with
  | none => rfl
  | some i =>
    rw [oo_some, bb_eq]
    split
    · rfl
    · rw [bb_eq]; split <;> rfl

include hT in
theorem eqV_ok {t : TypeId} {x y x' y' : Value} {b : Bool} (h : eqV tt t x y = some b) (hx : VR R x x') (hy : VR R y y') :
    (Op.equal t x' y').run P w = .ok b w ∧ ((∀ a c, ¬ (x' = .agg a ∧ y' = .agg c)) ∨ P.eqGuardType P.depth t = false) ∧ ¬ (x' = .nilIface ∧ y' = .nilIface) := by
  obtain ⟨i, hi, h⟩ := oo_inv h
  have hu := hT.und hi
  rw [bb_eq] at h
  split at h
  · rename_i hk
    obtain ⟨a, ha, h⟩ := oo_inv h
    obtain ⟨c, hc, h⟩ := oo_inv h
    have := vBool_some ha; subst this
    have := vBool_some hc; subst this
    rw [hx.bool_l, hy.bool_l]
    injection h with h; subst h
    have hd : i.und = .bool := eqKind_bool (Nat.eq_of_beq_eq_true hk)
    refine ⟨?_, .inl (by simp), by simp⟩
    rw [hd] at hu
    refine run_equal_of fun d => ?_
    simp only [Op.equalIn, Sem.run_bind, run_underlying hu, Result.andThen_ok]
    simp
  · rw [bb_eq] at h
    split at h
    · rename_i hk
      obtain ⟨xs, hxs, h5⟩ := oo_inv h
      obtain ⟨ys, hys, h6⟩ := oo_inv h5
      obtain ⟨hc, h7⟩ := bb_inv h6
      clear h h5 h6
      obtain ⟨hfl, zs, hz, hlike⟩ := flatLike_some hc
      have := vAgg_some hxs; subst this
      have := vAgg_some hys; subst this
      obtain ⟨us, rfl, h1⟩ := hx.agg_l
      obtain ⟨vs, rfl, h2⟩ := hy.agg_l
      have hf := hT.flat t i zs hi hfl hz
      exact ⟨hf.1 us vs b w (kindsLike_VRL hlike h1) (cellsEq_VRL h7 h1 h2), .inr hf.2.1, by simp⟩
    · obtain ⟨p, hp, h⟩ := oo_inv h
      obtain ⟨q, hq, h⟩ := oo_inv h
      obtain ⟨hc, h⟩ := bb_inv h
      simp only [an_eq, Bool.and_eq_true] at hc
      have hp' := vNil_VR hp hx
      have hq' := vNil_VR hq hy
      refine ⟨equal_nil hu hp' hq' (Nat.eq_of_beq_eq_true hc.1) (Nat.eq_of_beq_eq_true hc.2) h, .inl ?_, ?_⟩
      · rintro a c ⟨rfl, _⟩; simp [vNilC, vv] at hp'
      · rintro ⟨rfl, _⟩; simp [vNilC, vv] at hp'

theorem astr_ok {op : BinOp} {a b : ByteArray} {v : Value} (h : astr op a b = some v) (t : TypeId) : (binOp op t (.string a) (.string b)).run P w = .ok v w ∧ plain1 v = true := by
  unfold astr at h
  rw [bb_eq] at h
  split at h
  · rename_i ha
    obtain ⟨hs, h⟩ := bb_inv h
    injection h with h; subst h
    have : op = .add := by cases op <;> first | rfl | (exact absurd ha (by decide))
    subst this
    have hs := Nat.le_of_ble_eq_true hs
    have hmax : IntKind.i64.max = 9223372036854775807 := rfl
    have hle : ¬ (((a.size + b.size : Nat) : Int) > IntKind.i64.max) := by rw [hmax]; omega
    refine ⟨?_, rfl⟩
    simp only [binOp, Op.stringOp]
    rw [if_neg hle]; rfl
  · obtain ⟨r, hr, h1⟩ := oo_inv h
    injection h1 with h1; subst h1
    refine ⟨?_, rfl⟩
    cases op <;> simp [rel, BinOp.pick] at hr <;> simp [binOp, Op.stringOp, hr]

theorem plain1_iv (k : IntKind) (n : Int) : plain1 (.int k n) = true := rfl
theorem aintF_plain {op : BinOp} {k : IntKind} {x y : Int} {v : Value} (h : aintF op k x y = some v) : plain1 v = true := by
  cases op <;> simp only [aintF, BinOp.pick, iv, bv] at h
  case quo => have h := (bb_inv' h).2; injection h with h; subst h; rfl
  case rem => have h := (bb_inv' h).2; injection h with h; subst h; rfl
  case shl => cases h
  case shr => cases h
  all_goals (injection h with h; subst h; rfl)

include hT in
theorem abin_ok {op : BinOp} {t : TypeId} {x y x' y' v : Value} (h : abin tt op t x y = some v) (hx : VR R x x') (hy : VR R y y') (xo yo : Operand) :
    (do eqGuard op t xo yo x' y'; binOp op t x' y' : Sem Value).run P w = .ok v w ∧ plain1 v = true := by
  unfold abin at h
  cases hi : vInt x with
  | some p =>
    rw [hi, oo_some, pp_eta] at h
    obtain ⟨q, hq, h0⟩ := oo_inv h
    rw [pp_eta] at h0
    have e1 := vInt_some hi
    have e2 := vInt_some hq
    subst e1; subst e2
    clear h
    have h := h0
    clear h0
    rw [hx.int_l, hy.int_l]
    have hg : (eqGuard op t xo yo (.int p.1 p.2) (.int q.1 q.2)).run P w = .ok () w := by
      cases op <;> simp [eqGuard]
    rw [Sem.run_bind, hg, Result.andThen_ok]
    rw [bb_eq] at h
    split at h
    · rename_i hs
      refine ⟨ashift_ok h hs t, ?_⟩
      unfold ashift at h
      cases hq2 : q.2 with
      | ofNat n => rw [hq2] at h; simp only [ii_ofNat, iv] at h; injection h with h; subst h; rfl
      | negSucc n => rw [hq2] at h; simp at h
    · rename_i hs
      obtain ⟨hk, h⟩ := bb_inv h
      have hk := intKindEq_iff hk
      rw [← hk]
      exact ⟨aintF_ok h (by simpa using hs) t, aintF_plain h⟩
  | none =>
    rw [hi, oo_none] at h
    cases hs : vStr x with
    | some a =>
      rw [hs, oo_some] at h
      obtain ⟨b, hb, h⟩ := oo_inv h
      have e1 := vStr_some hs
      have e2 := vStr_some hb
      subst e1; subst e2
      rw [hx.string_l, hy.string_l]
      have hg : (eqGuard op t xo yo (.string a) (.string b)).run P w = .ok () w := by
        cases op <;> simp [eqGuard]
      rw [Sem.run_bind, hg, Result.andThen_ok]
      exact astr_ok h t
    | none =>
      rw [hs, oo_none] at h
      obtain ⟨wt, hw, h⟩ := oo_inv h
      obtain ⟨b, hb, h⟩ := oo_inv h
      obtain ⟨h1, h2, h3⟩ := eqV_ok (w := w) hT hb hx hy
      have hg : (eqGuard op t xo yo x' y').run P w = .ok () w := by
        unfold eqGuard
        cases x' <;> cases y' <;> first
          | (exact absurd ⟨rfl, rfl⟩ h3)
          | (cases op <;> simp; done)
          | (rcases h2 with h2 | h2
             · exact absurd ⟨rfl, rfl⟩ (h2 _ _)
             · cases op <;> simp [h2])
      rw [Sem.run_bind, hg, Result.andThen_ok]
      have hany : x ≠ .iface 0 .nilIface := fun e => by subst e; rw [eqV_any] at hb; cases hb
      have hni : ∀ k n, x' ≠ .int k n := fun k n e => by subst e; cases hx <;> first | exact hany rfl | (simp [vInt, vv] at hi)
      have hns : ∀ s, x' ≠ .string s := fun s e => by subst e; cases hx <;> first | exact hany rfl | (simp [vStr, vv] at hs)
      have hop : op = .eql ∧ wt = true ∨ op = .neq ∧ wt = false := by cases op <;> simp [eqWant, BinOp.pick] at hw <;> simp [hw]
      injection h with h
      subst h
      refine ⟨?_, rfl⟩
      have hnf : ∀ k n, x' ≠ .float k n := fun k n e => by subst e; cases hx; exact hany rfl
      have hnc : ∀ k n m, x' ≠ .complex k n m := fun k n m e => by subst e; cases hx; exact hany rfl
      rcases hop with ⟨rfl, rfl⟩ | ⟨rfl, rfl⟩
      · have : binOp .eql t x' y' = (do pure (.bool (← Op.equal t x' y'))) := by
          cases x' <;> first | rfl | (exact absurd rfl (hni _ _)) | (exact absurd rfl (hns _)) | (exact absurd rfl (hnf _ _)) | (exact absurd rfl (hnc _ _ _)) | (cases y' <;> rfl)
        rw [this]; simp [h1]
      · have : binOp .neq t x' y' = (do pure (.bool (!(← Op.equal t x' y')))) := by
          cases x' <;> first | rfl | (exact absurd rfl (hni _ _)) | (exact absurd rfl (hns _)) | (exact absurd rfl (hnf _ _)) | (exact absurd rfl (hnc _ _ _)) | (cases y' <;> rfl)
        rw [this]; simp [h1]

theorem aun_ok {op : UnOp} {x x' v : Value} (h : aun op x = some v) (hx : VR R x x') : (Op.unary op x').run P w = .ok v w ∧ plain1 v = true := by
  cases op <;> simp only [aun] at h
  · obtain ⟨p, hp, h⟩ := oo_inv h
    rw [pp_eta] at h
    have := vInt_some hp; subst this
    rw [hx.int_l]
    injection h with h; subst h
    refine ⟨?_, rfl⟩
    rw [wrapF_eq, show Int.sub (Int.ofNat 0) p.2 = 0 - p.2 from rfl]
    simp [Op.unary, Op.intArith]
  · obtain ⟨p, hp, h⟩ := oo_inv h
    rw [pp_eta] at h
    have := vInt_some hp; subst this
    rw [hx.int_l]
    injection h with h; subst h
    refine ⟨?_, rfl⟩
    rw [axor_eq]
    simp [Op.unary, Op.intBits, axorS]
  · obtain ⟨p, hp, h⟩ := oo_inv h
    have := vBool_some hp; subst this
    rw [hx.bool_l]
    injection h with h; subst h
    refine ⟨?_, rfl⟩
    simp [Op.unary]
  · cases h

theorem dInt_some {d : TypeDesc} {k : IntKind} (h : dInt d = some k) : d = .int k := by cases d <;> simp [dInt, dd] at h; subst h; rfl
theorem dSl_some {d : TypeDesc} {k : Nat} (h : dSl d = some k) : d = .slice k := by cases d <;> simp [dSl, dd] at h; subst h; rfl
theorem dArr_some {d : TypeDesc} {k : Nat × Nat} (h : dArr d = some k) : d = .array k.1 k.2 := by cases d <;> simp [dArr, dd] at h; subst h; rfl
theorem dMap_some {d : TypeDesc} {k : Nat × Nat} (h : dMap d = some k) : d = .map k.1 k.2 := by cases d <;> simp [dMap, dd] at h; subst h; rfl
theorem dStruct_some {d : TypeDesc} {k : Array Field} (h : dStruct d = some k) : d = .struct k := by cases d <;> simp [dStruct, dd] at h; subst h; rfl
theorem isStrT_true {d : TypeDesc} (h : isStrT d = true) : d = .string := by cases d <;> first | rfl | (simp [isStrT, dd] at h)

include hT in
theorem aconv_ok {s d : TypeId} {x x' v : Value} (h : aconv tt s d x = some v) (hx : VR R x x') : (convert s d x').run P w = .ok v w ∧ plain1 v = true := by
  obtain ⟨si, hsi, h1⟩ := oo_inv h
  obtain ⟨di, hdi, h2⟩ := oo_inv h1
  clear h h1
  have hus := hT.run_und hsi w
  have hud := hT.run_und hdi w
  cases hi : vInt x with
  | some p =>
    rw [hi, oo_some, pp_eta] at h2
    obtain ⟨k, hk, h3⟩ := oo_inv h2
    have := vInt_some hi; subst this
    rw [hx.int_l]
    have hdk := dInt_some hk
    rw [hdk] at hud
    injection h3 with h3; subst h3
    rw [wrapF_eq]
    refine ⟨?_, rfl⟩
    simp only [convert, Sem.run_bind, hus, hud, Result.andThen_ok]
    cases si.und <;> simp [Conv.intToInt]
  | none =>
    rw [hi, oo_none] at h2
    obtain ⟨b, hb, h3⟩ := oo_inv h2
    obtain ⟨hc, h4⟩ := bb_inv h3
    have := vStr_some hb; subst this
    rw [hx.string_l]
    obtain ⟨hc1, hc2⟩ := an_inv hc
    rw [isStrT_true hc1] at hus
    rw [isStrT_true hc2] at hud
    injection h4 with h4; subst h4
    refine ⟨?_, rfl⟩
    simp [convert, hus, hud]
end
end Go.Sp
