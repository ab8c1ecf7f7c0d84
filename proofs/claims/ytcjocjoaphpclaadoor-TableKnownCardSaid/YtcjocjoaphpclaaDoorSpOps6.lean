/- The operations, continued: append and copy whole, len, cap, min, max, make. -/
import Derived.Test.YtcjocjoaphpclaaDoorSpOps5
namespace Go.Sp

section
variable {P : Program} {tt : TT} (hT : TOk P tt) {H H' : AHeap} {R : Ren} {w : World}

theorem elemOf_some {t : TypeId} {ie : TI} (h : elemOf tt t = some ie) : ∃ i e, tt t = some i ∧ i.und = .slice e ∧ tt e = some ie := by
  obtain ⟨i, hi, h1⟩ := oo_inv h
  obtain ⟨e, he, h2⟩ := oo_inv h1
  exact ⟨i, e, hi, dSl_some he, h2⟩

theorem zeroRow_length (z : List Value) (n : Nat) : (zeroRow z n).length = n * z.length := by
  induction n with
  | zero => show ([] : List Value).length = 0 * z.length; simp
  | succ n ih => show (appL z (zeroRow z n)).length = _; simp [ih, Nat.add_mul]; omega
theorem zeroRow_get (z : List Value) (hz : 0 < z.length) (n i : Nat) (hi : i < n * z.length) : (zeroRow z n)[i]? = z[i % z.length]? := by
  induction n generalizing i with
  | zero => simp at hi
  | succ n ih =>
    show (appL z (zeroRow z n))[i]? = _
    rw [appL_eq]
    by_cases h : i < z.length
    · rw [List.getElem?_append_left h, Nat.mod_eq_of_lt h]
    · have e : i % z.length = (i - z.length) % z.length := Nat.mod_eq_sub_mod (by omega)
      have h2 : i < n * z.length + z.length := by rw [← Nat.succ_mul]; exact hi
      rw [List.getElem?_append_right (by omega), ih _ (by omega), e]
theorem zeroCells_eq (z : Array Value) (n : Nat) : (Builtin.zeroCells z n).toList = zeroRow z.toList n := by
  apply List.ext_getElem?
  intro i
  by_cases hi : i < n * z.size
  · have hz : 0 < z.size := Nat.pos_of_ne_zero fun e => by rw [e] at hi; simp at hi
    rw [zeroRow_get _ (by simpa using hz) _ _ (by simpa using hi)]
    have hm : i % z.size < z.size := Nat.mod_lt _ hz
    simp [Builtin.zeroCells, hi, hm]
  · rw [List.getElem?_eq_none (by simp [Builtin.zeroCells]; omega), List.getElem?_eq_none (by rw [zeroRow_length]; simp; omega)]
theorem zeroRow_VRL {R : Ren} {z z' : List Value} (h : VRL R z z') (n : Nat) : VRL R (zeroRow z n) (zeroRow z' n) := by
  induction n with
  | zero => exact .nil
  | succ n ih => show VRL R (appL z _) (appL z' _); rw [appL_eq, appL_eq]; exact h.append ih

/-- The length of any slice is the model's. -/
theorem slLen2_VR {R : Ren} {x x' : Value} {n : Nat} (h : slLen2 x = some n) (hx : VR R x x') : ∃ a c, x' = .slice a n c := by
  unfold slLen2 at h
  cases hl : slLen x with
  | some m =>
    rw [hl, oo_some] at h
    injection h with h; subst h
    obtain ⟨a, c, rfl⟩ := slLen_some hl
    cases hx <;> exact ⟨_, _, rfl⟩
  | none =>
    rw [hl, oo_none] at h
    obtain ⟨f, hf, h1⟩ := oo_inv h
    injection h1 with h1; subst h1
    rcases hx.fs_l hf with ⟨k, _, rfl⟩ | ⟨_, k, _, c, o, rfl⟩ | ⟨c, o, cap, C, hro, rfl, _⟩
    · rw [k]; exact ⟨_, _, rfl⟩
    · rw [k]; exact ⟨_, _, rfl⟩
    · exact ⟨_, _, rfl⟩

/-- The cells of what is appended, in the model. -/
theorem sliceCells_ok (hs : Sim H R w) {sz n : Nat} {x x' : Value} {new : List Value} (h : sliceCells H sz n x = some new) (hx : VR R x x') (hlen : slLen2 x = some n ∨ ∃ m, slLen2 x = some m ∧ n ≤ m) :
    new.length = n * sz ∧ ∃ zs, VRL R new zs ∧ ∀ w2 : World, w2.heap = w.heap → (Builtin.firstCells sz n x').run P w2 = .ok zs.toArray w2 := by
  unfold sliceCells at h
  cases hsl : vSl x with
  | none =>
    rw [hsl, oo_none] at h
    cases hf : vFs x with
    | some f =>
      rw [hf, oo_some, bb_eq] at h
      split at h
      · rename_i h0
        have h0 := Nat.eq_of_beq_eq_true h0
        subst h0
        injection h with h; subst h
        refine ⟨by simp, [], .nil, fun w2 _ => ?_⟩
        rcases hx.fs_l hf with ⟨_, _, rfl⟩ | ⟨_, _, _, c, o, rfl⟩ | ⟨c, o, cap, C, hro, rfl, _⟩ <;> simp [Builtin.firstCells, loadCells, loadCellsFrom]
      · rename_i h0
        have h0 : n ≠ 0 := fun e => h0 (by rw [e]; rfl)
        obtain ⟨hc, h2⟩ := bb_inv h
        obtain ⟨hc1, hc2⟩ := an_inv hc
        have hc1 := Nat.eq_of_beq_eq_true hc1
        have hc2 := Nat.le_of_ble_eq_true hc2
        injection h2 with h2; subst h2
        simp only [takeL_eq]
        rcases hx.fs_l hf with ⟨k, _⟩ | ⟨_, k, _⟩ | ⟨c, o, cap, C, hro, rfl, hn, k1, k2, k3, hfit, hcr, hcl⟩
        · omega
        · omega
        · obtain ⟨⟨ty, fz, hC⟩, _⟩ := hs.ro c C hro
          have hmul : n * sz ≤ f.cs.length := by rw [hn, hc1]; exact Nat.mul_le_mul_right _ hc2
          have hst := stretch hcr hfit 0 (n * sz) (by omega)
          simp only [List.drop_zero, Nat.add_zero] at hst
          refine ⟨by simp; omega, _, hst, fun w2 hw2 => ?_⟩
          simp only [Builtin.firstCells]
          exact run_stretch (by rw [hw2]; exact hC) (by omega)
    | none =>
    rw [hf, oo_none] at h
    obtain ⟨hn, h1⟩ := bb_inv h
    injection h1 with h1; subst h1
    have := isNilSl_true hn; subst this
    have hn0 : n = 0 := by rcases hlen with h | ⟨m, h, hm⟩ <;> (simp [slLen2, slLen, vv] at h; omega)
    subst hn0
    rw [hx.slNil_l]
    exact ⟨by simp, [], .nil, fun w2 _ => by simp [run_firstCells_none]⟩
  | some sv =>
    rw [hsl, oo_some] at h
    have h : bb (Nat.beq n 0) (some []) (oo (oCells (H.get sv.id)) none fun o => bb (an (Nat.beq sv.sz sz) (Nat.ble (sv.off + n * sz) (len o.xs))) (some (takeL (n * sz) (dropL sv.off o.xs))) none) = some new := h
    have hlen' : n ≤ sv.len := by
      have e := vSl_some hsl
      rcases hlen with h | ⟨m, h, hm⟩ <;> (rw [e] at h; simp [slLen2, slLen, vv] at h; omega)
    rw [bb_eq] at h
    split at h
    · rename_i h0
      have h0 := Nat.eq_of_beq_eq_true h0
      subst h0
      injection h with h; subst h
      refine ⟨by simp, [], .nil, fun w2 _ => ?_⟩
      rcases hx.sl_l hsl with ⟨c, β, cap, hid, rfl, _⟩ | ⟨c, o, rfl, _⟩ | ⟨rfl, _⟩ <;> simp [Builtin.firstCells, loadCells, loadCellsFrom]
    · rename_i h0
      have h0 : n ≠ 0 := fun e => h0 (by rw [e]; rfl)
      obtain ⟨o, ho, h1⟩ := oo_inv h
      obtain ⟨hc, h2⟩ := bb_inv h1
      obtain ⟨hc1, hc2⟩ := an_inv hc
      have hc1 := Nat.eq_of_beq_eq_true hc1
      simp only [len_eq] at hc2
      have hc2 := Nat.le_of_ble_eq_true hc2
      injection h2 with h2; subst h2
      simp only [takeL_eq, dropL_eq]
      rcases hx.sl_l hsl with ⟨c, β, cap, hid, rfl, _⟩ | ⟨c, o2, rfl, k0, _⟩ | ⟨rfl, k0, _⟩
      · obtain ⟨C, t, fz, hC, hsz, hcf, hcr⟩ := hs.cells hid ho
        refine ⟨by simp; omega, _, stretch hcr hcf sv.off (n * sz) hc2, fun w2 hw2 => ?_⟩
        simp only [Builtin.firstCells]
        exact run_stretch (by rw [hw2]; exact hC) (by omega)
      · omega
      · omega

include hT in
theorem aappend_ok (hs : Sim H R w) {st xt ty : TypeId} {s x s' x' v : Value} (h : aappend tt H st xt s x = some (v, H')) (hsv : VR R s s') (hxv : VR R x x') :
    ∃ u w' R', (Builtin.append_ #[st, xt] ty #[s', x']).run P w = .ok u w' ∧ VR R' v u ∧ Post H R w H' R' w' := by
  obtain ⟨ie, hie, h1⟩ := oo_inv h
  obtain ⟨z, hz, h2⟩ := oo_inv h1
  obtain ⟨hc, h3⟩ := bb_inv h2
  obtain ⟨hc1, hb⟩ := an_inv hc
  simp only [len_eq] at hc1
  have hzs := Nat.eq_of_beq_eq_true hc1
  rw [Nat.blt_eq] at hb
  obtain ⟨ix, hix, h4⟩ := oo_inv h3
  obtain ⟨is, e, his, hd, hte⟩ := elemOf_some hie
  have hu := hT.run_und his w
  rw [hd] at hu
  have hux := hT.run_und hix w
  have hsz := hT.run_size hte w
  cases hdx : dSl ix.und with
  | some e2 =>
    rw [hdx, oo_some] at h4
    obtain ⟨n, hn, h5⟩ := oo_inv h4
    obtain ⟨new, hnew, h6⟩ := oo_inv h5
    rw [dSl_some hdx] at hux
    obtain ⟨hnl, zs, hzv, hrun⟩ := sliceCells_ok (P := P) hs hnew hxv (.inl hn)
    have hlen : (Builtin.lenOf x').run P w = .ok n w := by
      obtain ⟨a, c, rfl⟩ := slLen2_VR hn hxv
      simp [Builtin.lenOf]
    obtain ⟨base, sLen, sCap, rfl, u, w', R', hr, hv, hp⟩ := append_core (zeros := false) (appended := Builtin.firstCells ie.size n x') (x := x') hT hs hte hz hzs hb hsv hzv hnl h6 hrun
    refine ⟨u, w', R', ?_, hv, hp⟩
    rw [← hr]
    simp only [Builtin.append_, appendTail, Sem.run_bind, hu, hsz, Result.andThen_ok, List.getElem?_cons_zero, List.getElem?_cons_succ, hux, Sem.run_pure, hlen, Bool.false_eq_true, if_false, Bool.not_false, if_true, List.getElem?_toArray]
    try rfl
  | none =>
    rw [hdx, oo_none] at h4
    obtain ⟨k, hk, h5⟩ := oo_inv h4
    obtain ⟨n, hn, h6⟩ := oo_inv h5
    obtain ⟨hmax, h7⟩ := bb_inv h6
    obtain ⟨hmax, hroomy⟩ := an_inv hmax
    have hmax := Nat.le_of_ble_eq_true hmax
    have hroomy := Nat.le_of_ble_eq_true hroomy
    rw [dInt_some hk] at hux
    obtain ⟨j, rfl⟩ := hxv.nat_l hn
    have hpz := hT.plain _ _ _ hte hz
    have hzv : VRL R (zeroRow (cellsOf z) n) (zeroRow z.cells.toList n) := zeroRow_VRL (cellsOf_plain hpz) n
    have hzlen : z.cells.size = ie.size := by
      rw [← Array.length_toList, ← (cellsOf_plain (R := R) hpz).1]; exact hzs
    have hwrap : IntKind.i64.wrap (n : Int) = n := IntWalk.i64_in _ (by omega)
    obtain ⟨inf, hinf, _, hbt, _⟩ := hT.run_bytes hte w
    have hbig : ¬ ((n : Int) * (inf.bytes : Int) > 2 ^ 48) := by
      rw [hbt]
      have h9 : n * ie.bytes ≤ (4 * n + 4096) * ie.bytes := Nat.mul_le_mul_right _ (by omega)
      have h8 : ((n * ie.bytes : Nat) : Int) = (n : Int) * (ie.bytes : Int) := by push_cast; rfl
      rw [← h8]
      omega
    have hneg : ¬ ((n : Int) < 0) := by omega
    have happ : ∀ w2 : World, w2.heap = w.heap → (if n * ie.size = 0 then (pure #[] : Sem (Array Value)) else do pure (Builtin.zeroCells (← zeroValue e).cells n)).run P w2 = .ok (zeroRow z.cells.toList n).toArray w2 := fun w2 _ => by
      split
      · rename_i h0
        have : zeroRow z.cells.toList n = [] := List.eq_nil_of_length_eq_zero (by rw [zeroRow_length]; simpa [hzlen] using h0)
        rw [this]; rfl
      · have := hT.run_zero hte hz w2
        simp only [Sem.run_bind, this, Result.andThen_ok, Sem.run_pure]
        rw [← zeroCells_eq]
    obtain ⟨base, sLen, sCap, rfl, u, w', R', hr, hv, hp⟩ := append_core (zeros := true) (x := .int j n) hT hs hte hz hzs hb hsv hzv (by rw [zeroRow_length, hzs]) h7 happ
    refine ⟨u, w', R', ?_, hv, hp⟩
    rw [← hr]
    simp only [Builtin.append_, appendTail, Sem.run_bind, hu, hsz, Result.andThen_ok, List.getElem?_cons_zero, List.getElem?_cons_succ, hux, Sem.run_pure, Bool.false_eq_true, if_false, Bool.not_true, if_true, List.getElem?_toArray, asInt, asIntOf, hwrap, hneg, hinf, hbig, Int.toNat_natCast]
    try rfl

theorem copy_min (a b : Nat) : Nat.min a b ≤ a ∧ Nat.min a b ≤ b := ⟨Nat.min_le_left a b, Nat.min_le_right a b⟩

include hT in
theorem acopy_ok (hs : Sim H R w) {dt xt ty : TypeId} {d x d' x' v : Value} (h : acopy tt H dt d x = some (v, H')) (hdv : VR R d d') (hxv : VR R x x') :
    ∃ u w' R', (Builtin.copy_ #[dt, xt] ty #[d', x']).run P w = .ok u w' ∧ VR R' v u ∧ Post H R w H' R' w' := by
  obtain ⟨ie, hie, h1⟩ := oo_inv h
  obtain ⟨n, hn, h2⟩ := oo_inv h1
  obtain ⟨is, e, his, hd, hte⟩ := elemOf_some hie
  have hu := hT.run_und his w
  rw [hd] at hu
  have hsz := hT.run_size hte w
  have hlen : (Builtin.lenOf x').run P w = .ok n w := by
    obtain ⟨a, c, rfl⟩ := slLen2_VR hn hxv
    simp [Builtin.lenOf]
  cases hsl : vSl d with
  | none =>
    rw [hsl, oo_none] at h2
    obtain ⟨hnil, h3⟩ := bb_inv h2
    obtain ⟨new, hnew, h4⟩ := oo_inv h3
    injection h4 with h4; injection h4 with e1 e2; subst e1; subst e2
    have := isNilSl_true hnil; subst this
    rw [hdv.slNil_l]
    obtain ⟨hnl, zs, hzv, hrun⟩ := sliceCells_ok (P := P) hs hnew hxv (.inr ⟨n, hn, Nat.zero_le _⟩)
    refine ⟨.int .i64 0, w, R, ?_, .int _ _, .refl hs⟩
    have hr := hrun w rfl
    simp [Builtin.copy_, hu, hsz, hlen, hr, goInt]
  | some sv =>
    rw [hsl, oo_some] at h2
    have h2 : oo (sliceCells H ie.size (Nat.min n sv.len) x) none (fun new => bb (Nat.beq sv.sz ie.size) (bb (Nat.beq (Nat.min n sv.len) 0) (some (gi 0, H)) (oo (awrite H sv.id sv.off new) none fun H' => some (gi (Nat.min n sv.len), H'))) none) = some (v, H') := h2
    obtain ⟨new, hnew, h3⟩ := oo_inv h2
    obtain ⟨hc, h4⟩ := bb_inv h3
    obtain ⟨hnl, zs, hzv, hrun⟩ := sliceCells_ok (P := P) hs hnew hxv (.inr ⟨n, hn, (copy_min n sv.len).1⟩)
    have hr := hrun w rfl
    rw [bb_eq] at h4
    split at h4
    · rename_i h0
      have h0 := Nat.eq_of_beq_eq_true h0
      injection h4 with h4; injection h4 with e1 e2; subst e1; subst e2
      have hz0 : zs = [] := List.eq_nil_of_length_eq_zero (by rw [← hzv.1, hnl, h0]; simp)
      subst hz0
      refine ⟨.int .i64 0, w, R, ?_, .int _ _, .refl hs⟩
      rcases hdv.sl_l hsl with ⟨c, β, cap, hid, rfl, _⟩ | ⟨c, o, rfl, k0, _⟩ | ⟨rfl, k0, _⟩
      · rw [h0] at hr
        simp [Builtin.copy_, hu, hsz, hlen, h0, hr, goInt, storeCells]
      · rw [h0] at hr
        rw [k0] at h0
        simp [Builtin.copy_, hu, hsz, hlen, h0, hr, goInt, storeCells]
      · rw [h0] at hr
        rw [k0] at h0
        simp [Builtin.copy_, hu, hsz, hlen, h0, hr, goInt]
    · rename_i h0
      have h0 : Nat.min n sv.len ≠ 0 := fun e => h0 (by rw [e]; rfl)
      obtain ⟨H1, hw, h5⟩ := oo_inv h4
      injection h5 with h5; injection h5 with e1 e2; subst e1; subst e2
      rcases hdv.sl_l hsl with ⟨c, β, cap, hid, rfl, k1, k2, k3, k4⟩ | ⟨c, o, rfl, k0, _⟩ | ⟨rfl, k0, _⟩
      · obtain ⟨C, t, hC, hcf, hone, hpost⟩ := post_write hs hw hid hzv
        have hst := run_storeCells_at P c (β + sv.off) t zs 0 C w hC (by simpa using hcf) hone
        refine ⟨_, _, R, ?_, .int .i64 (.ofNat (Nat.min n sv.len)), hpost⟩
        simp only [Nat.add_zero] at hst
        simp [Builtin.copy_, hu, hsz, hlen, hr, hst, goInt]
      · rw [k0] at h0; exact absurd (Nat.min_zero n) h0
      · rw [k0] at h0; exact absurd (Nat.min_zero n) h0

include hT in
theorem alen_ok (hs : Sim H R w) {t ty : TypeId} {x x' v : Value} (h : alen tt H t x = some v) (hx : VR R x x') : (Builtin.len_ #[t] ty #[x']).run P w = .ok v w ∧ plain1 v = true := by
  obtain ⟨i, hi, h1⟩ := oo_inv h
  have hu := hT.run_und hi w
  cases hd : dSl i.und with
  | some e =>
    rw [hd, oo_some] at h1
    obtain ⟨n, hn, h2⟩ := oo_inv h1
    injection h2 with h2; subst h2
    obtain ⟨a, c, rfl⟩ := slLen2_VR hn hx
    rw [dSl_some hd] at hu
    refine ⟨?_, rfl⟩
    simp [Builtin.len_, hu, goInt, gi]
  | none =>
    rw [hd, oo_none] at h1
    cases hd2 : dArr i.und with
    | some p =>
      rw [hd2, oo_some] at h1
      injection h1 with h1; subst h1
      rw [dArr_some hd2] at hu
      refine ⟨?_, rfl⟩
      simp [Builtin.len_, hu, goInt, gi]
    | none =>
      rw [hd2, oo_none] at h1
      cases hd3 : dMap i.und with
      | some p =>
        rw [hd3, oo_some] at h1
        obtain ⟨m, hm, h2⟩ := oo_inv h1
        have := vMap_some hm; subst this
        rw [dMap_some hd3] at hu
        cases m with
        | none =>
          simp only [oo_none] at h2
          injection h2 with h2; subst h2
          rw [hx.mapNil_l]
          exact ⟨by simp [Builtin.len_, hu, goInt, gi], rfl⟩
        | some id =>
          simp only [oo_some] at h2
          obtain ⟨o, ho, h3⟩ := oo_inv h2
          injection h3 with h3; subst h3
          obtain ⟨c, hid, rfl⟩ := hx.map_l
          have hob := hs.obj id c 0 hid
          rw [oMap_some ho] at hob
          obtain ⟨_, Es, hE, hl, _⟩ := hob
          refine ⟨?_, rfl⟩
          simp [Builtin.len_, hu, goInt, gi, getObj, Sem.run, hE, hl]
      | none =>
        rw [hd3, oo_none] at h1
        obtain ⟨hstr, h2⟩ := bb_inv h1
        obtain ⟨s, hss, h3⟩ := oo_inv h2
        injection h3 with h3; subst h3
        have := vStr_some hss; subst this
        rw [hx.string_l]
        rw [isStrT_true hstr] at hu
        exact ⟨by simp [Builtin.len_, hu, goInt, gi], rfl⟩

include hT in
theorem acap_ok {t ty : TypeId} {x x' v : Value} (h : acap tt t x = some v) (hx : VR R x x') : (Builtin.cap_ #[t] ty #[x']).run P w = .ok v w ∧ plain1 v = true := by
  obtain ⟨i, hi, h1⟩ := oo_inv h
  have hu := hT.run_und hi w
  obtain ⟨e, hd, h2⟩ := oo_inv h1
  rw [dSl_some hd] at hu
  cases hsl : vSl x with
  | none =>
    rw [hsl, oo_none] at h2
    cases hf : vFs x with
    | some f =>
      rw [hf, oo_some] at h2
      obtain ⟨hc, h3⟩ := bb_inv h2
      rw [orr_eq, Bool.or_eq_true] at hc
      injection h3 with h3; subst h3
      refine ⟨?_, rfl⟩
      rcases hx.fs_l hf with ⟨k, _, rfl⟩ | ⟨_, k, _, c, o, rfl⟩ | ⟨c, o, cap, C, hro, rfl, _, _, k2, k3, _⟩
      · simp [Builtin.cap_, hu, goInt, gi, k]
      · simp [Builtin.cap_, hu, goInt, gi, k]
      · have h1 : f.fl = 1 := by
          rcases hc with h9 | h9
          · exact Nat.eq_of_beq_eq_true h9
          · exact absurd (Nat.eq_of_beq_eq_true h9) k3
        simp [Builtin.cap_, hu, goInt, gi, k2 h1]
    | none =>
    rw [hf, oo_none] at h2
    obtain ⟨hn, h3⟩ := bb_inv h2
    injection h3 with h3; subst h3
    have := isNilSl_true hn; subst this
    rw [hx.slNil_l]
    exact ⟨by simp [Builtin.cap_, hu, goInt, gi], rfl⟩
  | some s =>
    rw [hsl, oo_some] at h2
    obtain ⟨hc, h3⟩ := bb_inv (show bb (Nat.beq (s.cap % 2) 1) (some (gi (s.cap / 2))) none = some v from h2)
    have hc := Nat.eq_of_beq_eq_true hc
    injection h3 with h3; subst h3
    refine ⟨?_, rfl⟩
    rcases hx.sl_l hsl with ⟨c, β, cap, hid, rfl, k1, k2, k3, k4⟩ | ⟨c, o, rfl, k0, k00⟩ | ⟨rfl, k0, k00⟩
    · simp [Builtin.cap_, hu, goInt, gi, k3 hc]
    · simp [Builtin.cap_, hu, goInt, gi, k00]
    · simp [Builtin.cap_, hu, goInt, gi, k00]

theorem aminmax_ok {isMax : Bool} {k : IntKind} {l l' : List Value} {a : Int} {v : Value} (h : aminmax isMax k l a = some v) (hl : VRL R l l') :
    (l'.foldlM (if isMax then Builtin.max2 else Builtin.min2) (.int k a)).run P w = .ok v w ∧ plain1 v = true := by
  induction l generalizing a l' with
  | nil =>
    rw [hl.unnil]
    have h : iv k a = some v := h
    injection h with h; subst h
    exact ⟨rfl, rfl⟩
  | cons y l ih =>
    obtain ⟨y', r', rfl, hy, hr⟩ := hl.uncons
    have h : oo (vInt y) none (fun p => pp p fun _ b => aminmax isMax k l (bb isMax (bb (ilt a b) b a) (bb (ilt b a) b a))) = some v := h
    obtain ⟨p, hp, h1⟩ := oo_inv h
    rw [pp_eta] at h1
    have := vInt_some hp; subst this
    rw [hy.int_l]
    have := ih h1 hr
    cases isMax
    · simp only [List.foldlM_cons, Sem.run_bind, Bool.false_eq_true, if_false, Builtin.min2, Sem.run_pure, Result.andThen_ok] at this ⊢
      simp only [bb_false, bb_eq, ilt_eq, decide_eq_true_eq] at this
      exact this
    · simp only [List.foldlM_cons, Sem.run_bind, if_true, Builtin.max2, Sem.run_pure, Result.andThen_ok] at this ⊢
      simp only [bb_true, bb_eq, ilt_eq, decide_eq_true_eq] at this
      exact this
end
end Go.Sp
