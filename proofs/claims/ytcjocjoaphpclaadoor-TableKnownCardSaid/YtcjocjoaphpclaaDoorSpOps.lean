/- The operations: what the interpreter reckons, the model's run does. -/
import Derived.Test.YtcjocjoaphpclaaDoorSpStep
namespace Go.Sp

theorem bb_inv {β : Type} {c : Bool} {t : Option β} {v : β} (h : bb c t none = some v) : c = true ∧ t = some v := by
  cases c with
  | false => cases h
  | true => exact ⟨rfl, h⟩
theorem bb_inv' {β : Type} {c : Bool} {t : Option β} {v : β} (h : bb c none t = some v) : c = false ∧ t = some v := by
  cases c with
  | true => cases h
  | false => exact ⟨rfl, h⟩
theorem pp_eta {α β γ : Type} (p : α × β) (k : α → β → γ) : pp p k = k p.1 p.2 := by cases p; rfl
theorem an_inv {a b : Bool} (h : an a b = true) : a = true ∧ b = true := by simpa using h

/-- A flat type: 'zs' are the cells of its zero value. -/
def FlatOk (P : Program) (t : TypeId) (zs : List Value) : Prop :=
  (∀ (xs ys : List Value) (b : Bool) (w : World), kindsLike zs xs = true → cellsEq xs ys = some b → (Op.equal t (.agg ⟨xs⟩) (.agg ⟨ys⟩)).run P w = .ok b w) ∧
  P.eqGuardType P.depth t = false ∧
  (∀ (xs : List Value) (w : World) (e : Bool), xs.length = zs.length → (Instr.checkKey e 10000 t (.agg ⟨xs⟩)).run P w = .ok () w)

theorem kindLike_VR {R : Ren} {z x u : Value} (h : kindLike z x = true) (hv : VR R x u) : kindLike z u = true := by
  cases z <;> simp only [kindLike, vv] at h ⊢ <;> try (cases h; done)
  case bool => cases hb : vBool x with
    | none => rw [hb] at h; cases h
    | some b => have := vBool_some hb; subst this; rw [hv.bool_l]; rfl
  case int => cases hb : vInt x with
    | none => rw [hb] at h; cases h
    | some b => have := vInt_some hb; subst this; rw [hv.int_l]; rfl
  case string => cases hb : vStr x with
    | none => rw [hb] at h; cases h
    | some b => have := vStr_some hb; subst this; rw [hv.string_l]; rfl
theorem kindsLike_VRL {R : Ren} {zs xs us : List Value} (h : kindsLike zs xs = true) (hv : VRL R xs us) : kindsLike zs us = true := by
  induction zs generalizing xs us with
  | nil => cases xs with
    | nil => rw [hv.unnil]; rfl
    | cons x xs => cases h
  | cons z zs ih => cases xs with
    | nil => cases h
    | cons x xs =>
      obtain ⟨u, us, rfl, h1, h2⟩ := hv.uncons
      obtain ⟨h3, h4⟩ := an_inv (show an (kindLike z x) (kindsLike zs xs) = true from h)
      show an (kindLike z u) (kindsLike zs us) = true
      rw [kindLike_VR h3 h1, ih h4 h2]; rfl
theorem kindsLike_len {zs xs : List Value} (h : kindsLike zs xs = true) : xs.length = zs.length := by
  induction zs generalizing xs with
  | nil => cases xs with
    | nil => rfl
    | cons x xs => cases h
  | cons z zs ih => cases xs with
    | nil => cases h
    | cons x xs => obtain ⟨_, h4⟩ := an_inv (show an (kindLike z x) (kindsLike zs xs) = true from h); simp [ih h4]
theorem flatLike_some {i : TI} {xs : List Value} (h : flatLike i xs = true) : i.flat = true ∧ ∃ zs, i.zero = some (.agg ⟨zs⟩) ∧ kindsLike zs xs = true := by
  obtain ⟨h1, h2⟩ := an_inv h
  refine ⟨h1, ?_⟩
  cases hz : i.zero with
  | none => rw [hz] at h2; cases h2
  | some z =>
    rw [hz] at h2
    cases ha : vAgg z with
    | none => rw [show oo (some z) false (fun z => oo (vAgg z) false fun zs => kindsLike zs xs) = oo (vAgg z) false fun zs => kindsLike zs xs from rfl, ha] at h2; cases h2
    | some zs =>
      rw [show oo (some z) false (fun z => oo (vAgg z) false fun zs => kindsLike zs xs) = oo (vAgg z) false fun zs => kindsLike zs xs from rfl, ha] at h2
      exact ⟨zs, by rw [vAgg_some ha], h2⟩

structure TOk (P : Program) (tt : TT) : Prop where
  ok : ∀ t i, tt t = some i → P.underlying t = some i.und ∧ ∃ inf, P.info? t = some inf ∧ inf.size = i.size ∧ inf.bytes = i.bytes ∧ inf.zero = i.zero
  plain : ∀ t i z, tt t = some i → i.zero = some z → plainB z = true
  flat : ∀ t i zs, tt t = some i → i.flat = true → i.zero = some (.agg ⟨zs⟩) → FlatOk P t zs

section
variable {P : Program} {tt : TT} (hT : TOk P tt)
include hT
theorem TOk.und {t : TypeId} {i : TI} (h : tt t = some i) : P.underlying t = some i.und := (hT.ok t i h).1
theorem TOk.run_und {t : TypeId} {i : TI} (h : tt t = some i) (w : World) : (underlying t).run P w = .ok i.und w := by
  simp [underlying, hT.und h]
theorem TOk.run_size {t : TypeId} {i : TI} (h : tt t = some i) (w : World) : (sizeOf t).run P w = .ok i.size w := by
  obtain ⟨_, inf, h1, h2, _⟩ := hT.ok t i h
  simp [sizeOf, typeInfo, h1, h2]
theorem TOk.run_bytes {t : TypeId} {i : TI} (h : tt t = some i) (w : World) : ∃ inf : TypeInfo, (typeInfo t).run P w = .ok inf w ∧ inf.size = i.size ∧ inf.bytes = i.bytes ∧ inf.zero = i.zero := by
  obtain ⟨_, inf, h1, h2, h3, h4⟩ := hT.ok t i h
  exact ⟨inf, by simp [typeInfo, h1], h2, h3, h4⟩
theorem TOk.run_zero {t : TypeId} {i : TI} (h : tt t = some i) {z : Value} (hz : i.zero = some z) (w : World) : (zeroValue t).run P w = .ok z w := by
  obtain ⟨_, inf, h1, _, _, h4⟩ := hT.ok t i h
  simp [zeroValue, typeInfo, h1, h4, hz]
theorem TOk.run_isAgg {t : TypeId} {i : TI} (h : tt t = some i) (w : World) : (isAgg t).run P w = .ok (isAggT i.und) w := by
  have := hT.run_und h w
  simp only [isAgg, Sem.run_bind, this, Result.andThen_ok]
  cases i.und <;> rfl
end

/-- What an operation's run comes to. -/
def OpOk (H : AHeap) (R : Ren) (w : World) (r : Result Next) (v : Value) (H' : AHeap) : Prop :=
  ∃ nx u w' R', r = .ok nx w' ∧ (nx = .value u ∨ (nx = .skip ∧ u = undef)) ∧ VR R' v u ∧ Post H R w H' R' w'

section
variable {P : Program} {tt : TT} {H H' : AHeap} {R R' : Ren} {w w' : World} {v : Value}
theorem OpOk.value {s : Sem Value} {u : Value} (hr : s.run P w = .ok u w') (hv : VR R' v u) (hp : Post H R w H' R' w') : OpOk H R w ((do pure (.value (← s)) : Sem Next).run P w) v H' :=
  ⟨.value u, u, w', R', by simp [hr], .inl rfl, hv, hp⟩
theorem OpOk.quiet {s : Sem Value} {u : Value} (hs : Sim H R w) (hr : s.run P w = .ok u w) (hv : VR R v u) : OpOk H R w ((do pure (.value (← s)) : Sem Next).run P w) v H :=
  OpOk.value hr hv (.refl hs)
theorem OpOk.unit {s : Sem Unit} (hr : s.run P w = .ok () w') (hp : Post H R w H' R' w') : OpOk H R w ((do s; pure .skip : Sem Next).run P w) undef H' :=
  ⟨.skip, undef, w', R', by simp [hr], .inr ⟨rfl, rfl⟩, undef_VR, hp⟩
end

/-- Integers. -/
theorem wrap_i64_pos (m : Nat) (h : m ≤ 9223372036854775807) : IntKind.wrap .i64 (m : Int) = m := IntWalk.i64_in _ (by omega)
theorem wrap_i64_neg (m : Nat) (h : m ≤ 9223372036854775807) : IntKind.wrap .i64 (-((m : Int) + 1)) = -((m : Int) + 1) := IntWalk.i64_in _ (by omega)
theorem wrap_u (k : IntKind) (hk : k.signed = false) (n : Int) : k.wrap n = n % (2 ^ k.bits : Int) := by
  simp only [IntKind.wrap, hk, Bool.false_and, Bool.false_eq_true, if_false]
section
variable (f : IntKind → Int → Int) (m : Nat)
theorem wrapG_i8 (n : Int) : wrapG f .i8 n = f .i8 n := rfl
theorem wrapG_i16 (n : Int) : wrapG f .i16 n = f .i16 n := rfl
theorem wrapG_i32 (n : Int) : wrapG f .i32 n = f .i32 n := rfl
theorem wrapG_i64 : wrapG f .i64 (Int.ofNat m) = bb (Nat.ble m 9223372036854775807) (Int.ofNat m) (f .i64 (Int.ofNat m)) := rfl
theorem wrapG_i64n : wrapG f .i64 (Int.negSucc m) = bb (Nat.ble m 9223372036854775807) (Int.negSucc m) (f .i64 (Int.negSucc m)) := rfl
theorem wrapG_u8 : wrapG f .u8 (Int.ofNat m) = ((m % 256 : Nat) : Int) := rfl
theorem wrapG_u8n : wrapG f .u8 (Int.negSucc m) = f .u8 (Int.negSucc m) := rfl
theorem wrapG_u16 : wrapG f .u16 (Int.ofNat m) = ((m % 65536 : Nat) : Int) := rfl
theorem wrapG_u16n : wrapG f .u16 (Int.negSucc m) = f .u16 (Int.negSucc m) := rfl
theorem wrapG_u32 : wrapG f .u32 (Int.ofNat m) = ((m % 4294967296 : Nat) : Int) := rfl
theorem wrapG_u32n : wrapG f .u32 (Int.negSucc m) = f .u32 (Int.negSucc m) := rfl
theorem wrapG_u64 : wrapG f .u64 (Int.ofNat m) = ((m % 18446744073709551616 : Nat) : Int) := rfl
theorem wrapG_u64n : wrapG f .u64 (Int.negSucc m) = f .u64 (Int.negSucc m) := rfl
end
theorem wrap_mod8 (m : Nat) : ((m % 256 : Nat) : Int) = IntKind.wrap .u8 (Int.ofNat m) := by rw [wrap_u _ rfl]; show _ = (m : Int) % (2 ^ 8 : Int); omega
theorem wrap_mod16 (m : Nat) : ((m % 65536 : Nat) : Int) = IntKind.wrap .u16 (Int.ofNat m) := by rw [wrap_u _ rfl]; show _ = (m : Int) % (2 ^ 16 : Int); omega
theorem wrap_mod32 (m : Nat) : ((m % 4294967296 : Nat) : Int) = IntKind.wrap .u32 (Int.ofNat m) := by rw [wrap_u _ rfl]; show _ = (m : Int) % (2 ^ 32 : Int); omega
theorem wrap_mod64 (m : Nat) : ((m % 18446744073709551616 : Nat) : Int) = IntKind.wrap .u64 (Int.ofNat m) := by rw [wrap_u _ rfl]; show _ = (m : Int) % (2 ^ 64 : Int); omega
theorem wrapF_eq (k : IntKind) (n : Int) : wrapF k n = k.wrap n := by
  unfold wrapF
  cases k with
  | i8 => exact wrapG_i8 _ _
  | i16 => exact wrapG_i16 _ _
  | i32 => exact wrapG_i32 _ _
  | i64 =>
    cases n with
    | ofNat m =>
      rw [wrapG_i64, bb_eq]
      split
      · rename_i h; exact (wrap_i64_pos m (Nat.le_of_ble_eq_true h)).symm
      · rfl
    | negSucc m =>
      rw [wrapG_i64n, bb_eq]
      split
      · rename_i h; rw [Int.negSucc_eq]; exact (wrap_i64_neg m (Nat.le_of_ble_eq_true h)).symm
      · rfl
  | u8 => cases n with
    | ofNat m => rw [wrapG_u8]; exact wrap_mod8 m
    | negSucc m => exact wrapG_u8n _ _
  | u16 => cases n with
    | ofNat m => rw [wrapG_u16]; exact wrap_mod16 m
    | negSucc m => exact wrapG_u16n _ _
  | u32 => cases n with
    | ofNat m => rw [wrapG_u32]; exact wrap_mod32 m
    | negSucc m => exact wrapG_u32n _ _
  | u64 => cases n with
    | ofNat m => rw [wrapG_u64]; exact wrap_mod64 m
    | negSucc m => exact wrapG_u64n _ _
theorem ieq_eq (x y : Int) : ieq x y = (x == y) := by
  cases x <;> cases y <;> simp only [ieq, ii_ofNat, ii_negSucc] <;> rw [Bool.eq_iff_iff] <;> simp <;> omega
theorem ilt_eq (x y : Int) : ilt x y = decide (x < y) := by
  cases x <;> cases y <;> simp only [ilt, ii_ofNat, ii_negSucc] <;> rw [Bool.eq_iff_iff] <;> simp [Nat.blt_eq] <;> omega
theorem intKindEq_iff {a b : IntKind} (h : intKindEq a b = true) : a = b := by
  cases a <;> cases b <;> first | rfl | (exact absurd h (by decide))
theorem intKindEq_self (a : IntKind) : intKindEq a a = true := by cases a <;> rfl

theorem bitsMax_pow (k : IntKind) : ∃ p, bitsMax k + 1 = 2 ^ p ∧ p ≤ k.bits := by
  cases k
  · exact ⟨7, rfl, by decide⟩
  · exact ⟨15, rfl, by decide⟩
  · exact ⟨31, rfl, by decide⟩
  · exact ⟨63, rfl, by decide⟩
  · exact ⟨8, rfl, by decide⟩
  · exact ⟨16, rfl, by decide⟩
  · exact ⟨32, rfl, by decide⟩
  · exact ⟨64, rfl, by decide⟩
theorem wrap_small (k : IntKind) (n : Nat) (h : n ≤ bitsMax k) : k.wrap (n : Int) = n := by
  cases k <;> simp only [bitsMax] at h
  · exact IntWalk.i8_in _ (by omega)
  · exact IntWalk.i16_in _ (by omega)
  · exact IntWalk.i32_in _ (by omega)
  · exact IntWalk.i64_in _ (by omega)
  · exact IntWalk.u8_in _ (by omega)
  · exact IntWalk.u16_in _ (by omega)
  · exact IntWalk.u32_in _ (by omega)
  · exact IntWalk.u64_in _ (by omega)
theorem ofInt_small (k : IntKind) (n : Nat) (h : n ≤ bitsMax k) : (BitVec.ofInt k.bits (n : Int)).toNat = n := by
  obtain ⟨p, hp, hk⟩ := bitsMax_pow k
  have : n < 2 ^ k.bits := Nat.lt_of_lt_of_le (show n < 2 ^ p by omega) (Nat.pow_le_pow_right (by decide) hk)
  rw [BitVec.ofInt_natCast, BitVec.toNat_ofNat]
  exact Nat.mod_eq_of_lt this
theorem bothIn_iff {k : IntKind} {a b : Nat} (h : bothIn k a b = true) : a ≤ bitsMax k ∧ b ≤ bitsMax k := by
  obtain ⟨h1, h2⟩ := an_inv h
  exact ⟨Nat.le_of_ble_eq_true h1, Nat.le_of_ble_eq_true h2⟩
theorem aand_eq (k : IntKind) (x y : Int) : aand k x y = aandS k x y := by
  cases x <;> cases y <;> simp only [aand, ii_ofNat, ii_negSucc, bb_eq]
  split
  · rename_i a b h
    obtain ⟨ha, hb⟩ := bothIn_iff h
    unfold aandS
    simp only [Int.ofNat_eq_natCast]
    rw [BitVec.toNat_and, ofInt_small k a ha, ofInt_small k b hb, wrap_small]
    · rfl
    · exact Nat.le_trans Nat.and_le_left ha
  · rfl
theorem aor_eq (k : IntKind) (x y : Int) : aor k x y = aorS k x y := by
  cases x <;> cases y <;> simp only [aor, ii_ofNat, ii_negSucc, bb_eq]
  split
  · rename_i a b h
    obtain ⟨ha, hb⟩ := bothIn_iff h
    unfold aorS
    simp only [Int.ofNat_eq_natCast]
    rw [BitVec.toNat_or, ofInt_small k a ha, ofInt_small k b hb, wrap_small]
    · rfl
    · obtain ⟨p, hp, _⟩ := bitsMax_pow k
      have := Nat.or_lt_two_pow (show a < 2 ^ p by omega) (show b < 2 ^ p by omega)
      omega
  · rfl
theorem axor_eq (k : IntKind) (x y : Int) : axor k x y = axorS k x y := by
  cases x <;> cases y <;> simp only [axor, ii_ofNat, ii_negSucc, bb_eq]
  split
  · rename_i a b h
    obtain ⟨ha, hb⟩ := bothIn_iff h
    unfold axorS
    simp only [Int.ofNat_eq_natCast]
    rw [BitVec.toNat_xor, ofInt_small k a ha, ofInt_small k b hb, wrap_small]
    · rfl
    · obtain ⟨p, hp, _⟩ := bitsMax_pow k
      have := Nat.xor_lt_two_pow (show a < 2 ^ p by omega) (show b < 2 ^ p by omega)
      omega
  · rfl
theorem aandNot_eq (k : IntKind) (x y : Int) : aandNot k x y = aandNotS k x y := by
  cases x <;> cases y <;> simp only [aandNot, ii_ofNat, ii_negSucc, bb_eq]
  split
  · rename_i a b h
    obtain ⟨ha, hb⟩ := bothIn_iff h
    unfold aandNotS
    simp only [Int.ofNat_eq_natCast]
    have e : ∀ u v : BitVec k.bits, u &&& ~~~v = u ^^^ (u &&& v) := fun u v => by
      apply BitVec.eq_of_getLsbD_eq
      intro i hi
      simp [hi]
      generalize u[i] = p; generalize v[i] = q
      cases p <;> cases q <;> rfl
    rw [e, BitVec.toNat_xor, BitVec.toNat_and, ofInt_small k a ha, ofInt_small k b hb, wrap_small]
    · rfl
    · obtain ⟨p, hp, _⟩ := bitsMax_pow k
      have h1 : a &&& b ≤ a := Nat.and_le_left
      have := Nat.xor_lt_two_pow (show a < 2 ^ p by omega) (show a &&& b < 2 ^ p by omega)
      omega
  · rfl

theorem shlI_eq (k : IntKind) (x : Int) (n : Nat) : shlI k x n = k.wrap (x * 2 ^ (min n k.bits)) := by
  cases x with
  | ofNat a =>
    show wrapF k (.ofNat (a * 2 ^ (Nat.min n k.bits))) = _
    rw [wrapF_eq]
    congr 1
    all_goals (simp only [Int.ofNat_eq_natCast]; try (push_cast; rfl))
  | negSucc a => rfl
theorem shrI_eq (k : IntKind) (x : Int) (n : Nat) : shrI k x n = x.fdiv (2 ^ (min n k.bits)) := by
  cases x with
  | ofNat a =>
    show Int.ofNat (a / 2 ^ (Nat.min n k.bits)) = _
    rw [Int.fdiv_eq_ediv_of_nonneg _ (by exact Int.le_of_lt (Int.pow_pos (by decide)))]
    all_goals (simp only [Int.ofNat_eq_natCast]; try (push_cast; rfl))
  | negSucc a => rfl

section
variable {P : Program} {w : World}
theorem aintF_ok {op : BinOp} {k : IntKind} {x y : Int} {v : Value} (h : aintF op k x y = some v) (hn : isShift op = false) (t : TypeId) :
    (binOp op t (.int k x) (.int k y)).run P w = .ok v w := by
  cases op <;> simp only [aintF, BinOp.pick, iv, bv, nt_eq, aand_eq, aor_eq, axor_eq, aandNot_eq, ieq_eq, ilt_eq, wrapF_eq] at h
  case quo =>
    have h := bb_inv' h
    obtain ⟨h1, h2⟩ := h
    injection h2 with h2; subst h2
    have : y ≠ 0 := by simpa using h1
    simp [binOp, Op.intDiv, this]
  case rem =>
    have h := bb_inv' h
    obtain ⟨h1, h2⟩ := h
    injection h2 with h2; subst h2
    have : y ≠ 0 := by simpa using h1
    simp [binOp, Op.intDiv, this]
  case shl => cases h
  case shr => cases h
  all_goals
    injection h with h; subst h
    simp [binOp, Op.intArith, Op.intBits, Op.intCmp, aandS, aorS, axorS, aandNotS]
  all_goals first | rfl | (rw [Bool.eq_iff_iff]; simp; done) | (rw [Bool.eq_iff_iff]; simp; omega) | skip
theorem ashift_ok {op : BinOp} {k j : IntKind} {x y : Int} {v : Value} (h : ashift op k x y = some v) (hn : isShift op = true) (t : TypeId) :
    (binOp op t (.int k x) (.int j y)).run P w = .ok v w := by
  cases y with
  | negSucc n => simp [ashift] at h
  | ofNat n =>
    have hneg : ¬ ((n : Int) < 0) := by omega
    cases op <;> simp [isShift, BinOp.pick] at hn
    · simp [ashift, isShl, BinOp.pick, iv, shlI_eq] at h
      subst h
      simp [binOp, Op.shift, hneg]
    · simp [ashift, isShl, BinOp.pick, iv, shrI_eq] at h
      subst h
      simp [binOp, Op.shift, hneg]
end
end Go.Sp
