/- The operations, continued: slices. -/
import Derived.Test.YtcjocjoaphpclaaDoorSpOps3
namespace Go.Sp

section
variable {P : Program} {tt : TT} (hT : TOk P tt) {H : AHeap} {R : Ren} {w : World}

/-- An optional bound, and the model's. -/
def OptR (R : Ren) (x x' : Option Value) : Prop := match x, x' with
  | none, none => True
  | some a, some b => VR R a b
  | _, _ => False

theorem anat_some {v : Value} {m n : Nat} (h : anat v m = some n) : (∃ k, v = .int k n) ∧ n ≤ m := by
  obtain ⟨i, hi, h1⟩ := oo_inv h
  obtain ⟨hc, h2⟩ := bb_inv h1
  injection h2 with h2; subst h2
  exact ⟨vNat_some hi, Nat.le_of_ble_eq_true hc⟩
theorem sliceBound_ok {v v' : Value} {m n y : Nat} (h : anat v m = some n) (hv : VR R v v') (hy : m ≤ y) (code : BoundsCode) : (Instr.sliceBound v' y code).run P w = .ok n w := by
  obtain ⟨⟨k, rfl⟩, hle⟩ := anat_some h
  rw [hv.int_l]
  have : n ≤ y := by omega
  simp [Instr.sliceBound, asIntOf, this]

theorem abounds_some {β : Type} {lo hi mx : Option Value} {len cap : Nat} {k : Nat → Nat → Nat → Option β} {r : β} (h : aboundsK lo hi mx len cap k = some r) :
    ∃ l h' m, anatO mx cap cap = some m ∧ (mx.isSome = true → hi.isSome = true) ∧ anatO hi len m = some h' ∧ anatO lo 0 h' = some l ∧ k l h' m = some r := by
  obtain ⟨m, hm, h1⟩ := oo_inv h
  obtain ⟨h', hh, h2⟩ := oo_inv h1
  obtain ⟨l, hl, h3⟩ := oo_inv h2
  obtain ⟨hc, hh⟩ := bb_inv' hh
  refine ⟨l, h', m, hm, ?_, hh, hl, h3⟩
  intro hmx
  simp only [isS_eq, an_eq, nt_eq, hmx, Bool.true_and, Bool.not_eq_false'] at hc
  exact hc

theorem anatO_le {v : Option Value} {d m n : Nat} (h : anatO v d m = some n) (hd : d ≤ m) : n ≤ m := by
  cases v with
  | none => simp [anatO] at h; omega
  | some v => exact (anat_some h).2

theorem sliceBounds_ok {lo hi mx lo' hi' mx' : Option Value} {isS : Bool} {ln cap cap' l h m : Nat} (hlo : OptR R lo lo') (hhi : OptR R hi hi') (hmx : OptR R mx mx') (hcap : cap ≤ cap') (hln : ln ≤ cap')
    (h1 : anatO mx cap cap = some m) (h2 : mx.isSome = true → hi.isSome = true) (h3 : anatO hi ln m = some h) (h4 : anatO lo 0 h = some l) :
    (Instr.sliceBounds isS ln cap' lo' hi' mx').run P w = .ok (l, h, bb mx.isSome m cap') w := by
  unfold Instr.sliceBounds
  cases mx with
  | none =>
    cases mx' with
    | some => exact hmx.elim
    | none =>
      simp [anatO] at h1; subst h1
      cases hi with
      | none =>
        cases hi' with
        | some => exact hhi.elim
        | none =>
          simp [anatO] at h3; subst h3
          cases lo with
          | none => cases lo' with
            | some => exact hlo.elim
            | none => simp [anatO] at h4; subst h4; simp
          | some lo => cases lo' with
            | none => exact hlo.elim
            | some lo' =>
              have := sliceBound_ok (P := P) (w := w) h4 hlo (Nat.le_refl _) .sliceB
              simp [this]
      | some hi => cases hi' with
        | none => exact hhi.elim
        | some hi' =>
          have e1 := sliceBound_ok (P := P) (w := w) (y := cap') h3 hhi hcap (if isS then .sliceAcap else .sliceAlen)
          cases lo with
          | none => cases lo' with
            | some => exact hlo.elim
            | none => simp [anatO] at h4; subst h4; simp [e1]
          | some lo => cases lo' with
            | none => exact hlo.elim
            | some lo' =>
              have := sliceBound_ok (P := P) (w := w) h4 hlo (Nat.le_refl _) .sliceB
              simp [this, e1]
  | some mx => cases mx' with
    | none => exact hmx.elim
    | some mx' =>
      have e0 := sliceBound_ok (P := P) (w := w) (y := cap') h1 hmx hcap (if isS then .slice3Acap else .slice3Alen)
      cases hi with
      | none => exact absurd (h2 rfl) (by simp)
      | some hi => cases hi' with
        | none => exact hhi.elim
        | some hi' =>
          have e1 := sliceBound_ok (P := P) (w := w) (y := m) h3 hhi (Nat.le_refl _) .slice3B
          cases lo with
          | none => cases lo' with
            | some => exact hlo.elim
            | none => simp [anatO] at h4; subst h4; simp [e1, e0]
          | some lo => cases lo' with
            | none => exact hlo.elim
            | some lo' =>
              have := sliceBound_ok (P := P) (w := w) h4 hlo (Nat.le_refl _) .slice3C
              simp [this, e1, e0]

theorem sliceAt_half (m : Nat) (e : Bool) : (2 * m + bb e 1 0) / 2 = m := by cases e <;> simp [bb] <;> omega
theorem sliceAt_odd (m : Nat) (e : Bool) : (2 * m + bb e 1 0) % 2 = 1 ↔ e = true := by cases e <;> simp [bb] <;> omega

include hT in
theorem asliceArr_ok (hs : Sim H R w) {t n e : Nat} {i : TI} (hi : tt t = some i) (hd : i.und = .array n e) {x x' v : Value} {lo hi' mx lo' hi'' mx' : Option Value}
    (h : asliceArr tt H n e x lo hi' mx = some v) (hx : VR R x x') (hlo : OptR R lo lo') (hhi : OptR R hi' hi'') (hmx : OptR R mx mx') : ∃ u, (Instr.sliceAt t x' lo' hi'' mx').run P w = .ok u w ∧ VR R v u := by
  obtain ⟨p, hp, h1⟩ := oo_inv h
  rw [pp_eta] at h1
  obtain ⟨ie, hie, h2⟩ := oo_inv h1
  obtain ⟨o, ho, h3⟩ := oo_inv h2
  obtain ⟨l, hh, m, b1, b2, b3, b4, h4⟩ := abounds_some h3
  obtain ⟨hfit, h5⟩ := bb_inv h4
  injection h5 with h5; subst h5
  have := vPtr_some hp; subst this
  obtain ⟨c, β, hid, rfl⟩ := hx.ptr_l
  obtain ⟨C, ty, fz, hC, hsz, hcf, hc⟩ := hs.cells hid ho
  simp only [len_eq] at hfit
  have hfit := Nat.le_of_ble_eq_true hfit
  have hu := hT.run_und hi w
  rw [hd] at hu
  have hb := sliceBounds_ok (P := P) (w := w) (isS := false) hlo hhi hmx (Nat.le_refl n) (Nat.le_refl n) b1 b2 b3 b4
  have hm : bb mx.isSome m n = m := by
    cases mx with
    | none => simp [anatO] at b1; exact b1
    | some mx => rfl
  rw [hm] at hb
  have hmn := anatO_le b1 (Nat.le_refl n)
  have hhm : hh ≤ m := by
    cases hi' with
    | none => cases mx with
      | none => simp [anatO] at b1 b3; omega
      | some mx => exact absurd (b2 rfl) (by simp)
    | some hi' => exact (anat_some b3).2
  have hlh := anatO_le b4 (Nat.zero_le _)
  have hrun : (Instr.sliceAt t (.pointer (some ⟨c, β + p.2, none⟩)) lo' hi'' mx').run P w =
      .ok (.slice (some (if m = l then ⟨c, β + p.2, none⟩ else ⟨c, β + p.2 + l * ie.size, none⟩)) (hh - l) (m - l)) w := by
    simp [Instr.sliceAt, hu, Instr.sureAddr, hb, hT.run_size hie w, add_plain]
  refine ⟨_, hrun, ?_⟩
  unfold sliceAt
  by_cases hml : m = l
  · subst hml
    have : hh - m = 0 := by omega
    rw [if_pos rfl, this, Nat.sub_self]
    exact .slE (by simp [bb])
  · rw [if_neg hml, Nat.add_assoc]
    have hmul : (m - l) * ie.size + l * ie.size ≤ n * ie.size := by
      rw [← Nat.add_mul]; exact Nat.mul_le_mul_right _ (by omega)
    exact .sl hid (by rw [sliceAt_half]; omega) (by rw [sliceAt_half]; omega) (fun _ => by rw [sliceAt_half]) (by omega)

include hT in
theorem asliceFs_ok {t e : Nat} {i ie : TI} (hi : tt t = some i) (hd : i.und = .slice e) (hie : tt e = some ie) {x x' v : Value} {f : FsV} (hf : vFs x = some f) {lo hi' mx lo' hi'' mx' : Option Value}
    (h : asliceFs ie f lo hi' mx = some v) (hx : VR R x x') (hlo : OptR R lo lo') (hhi : OptR R hi' hi'') (hmx : OptR R mx mx') : ∃ u, (Instr.sliceAt t x' lo' hi'' mx').run P w = .ok u w ∧ VR R v u := by
  have hu := hT.run_und hi w
  rw [hd] at hu
  unfold asliceFs at h
  rw [bb_eq] at h
  split at h
  · rename_i h2
    have h2 := Nat.eq_of_beq_eq_true h2
    obtain ⟨l, hh, m, b1, b2, b3, b4, h3⟩ := abounds_some h
    injection h3 with h3; subst h3
    have hb := sliceBounds_ok (P := P) (w := w) (isS := true) hlo hhi hmx (Nat.le_refl 0) (Nat.le_refl 0) b1 b2 b3 b4
    have hm0 : m = 0 := by have := anatO_le b1 (Nat.le_refl 0); omega
    subst hm0
    have hh0 : hh = 0 := by
      cases hi' with
      | none => simp [anatO] at b3; omega
      | some hi' => have := (anat_some b3).2; omega
    subst hh0
    have hl0 : l = 0 := by have := anatO_le b4 (Nat.le_refl 0); omega
    subst hl0
    have hbb : bb mx.isSome 0 0 = 0 := by cases mx.isSome <;> rfl
    rw [hbb] at hb
    rcases hx.fs_l hf with ⟨_, _, rfl⟩ | ⟨h9, _⟩ | ⟨_, _, _, _, _, _, _, _, _, h9, _⟩
    · refine ⟨.slice none 0 0, ?_, .fsN _ _⟩
      simp [Instr.sliceAt, Instr.slice, hu, hb, hT.run_size hie w]
    · exact absurd h2 h9
    · exact absurd h2 h9
  · rename_i h2
    have h2 : f.fl ≠ 2 := fun e => h2 (by rw [e]; rfl)
    obtain ⟨hz, h3⟩ := bb_inv h
    have hz := Nat.eq_of_beq_eq_true hz
    obtain ⟨l, hh, m, b1, b2, b3, b4, h4⟩ := abounds_some h3
    injection h4 with h4; subst h4
    simp only [takeL_eq, dropL_eq]
    have hlh := anatO_le b4 (Nat.zero_le _)
    have hmc := anatO_le b1 (Nat.le_refl _)
    have hhm : hh ≤ m := by
      cases hi' with
      | none => cases mx with
        | none => simp [anatO] at b1 b3; omega
        | some mx => exact absurd (b2 rfl) (by simp)
      | some hi' => exact (anat_some b3).2
    have hflag : ∀ b : Bool, bb b 1 0 ≠ 2 := fun b => by cases b <;> simp
    rcases hx.fs_l hf with ⟨h0, hcs, rfl⟩ | ⟨_, h0, hcs, c, o, rfl⟩ | ⟨c, o, cap, C, hro, rfl, hn, k1, k2, k3, hfit, hcr, hcl⟩
    · rw [h0] at b1 b3 hmc
      have hb := sliceBounds_ok (P := P) (w := w) (isS := true) hlo hhi hmx (cap' := 0) (by omega) (by omega) b1 b2 b3 b4
      have hm0 : m = 0 := by omega
      subst hm0
      have hh0 : hh = 0 := by omega
      subst hh0
      have hl0 : l = 0 := by omega
      subst hl0
      have hbb : bb mx.isSome 0 0 = 0 := by cases mx.isSome <;> rfl
      rw [hbb] at hb
      refine ⟨.slice none 0 0, ?_, ?_⟩
      · simp [Instr.sliceAt, Instr.slice, hu, hb, hT.run_size hie w]
      · rw [hcs]; simp; exact .fsN _ _
    · rw [h0] at b1 b3 hmc
      have hb := sliceBounds_ok (P := P) (w := w) (isS := true) hlo hhi hmx (cap' := 0) (by omega) (by omega) b1 b2 b3 b4
      have hm0 : m = 0 := by omega
      subst hm0
      have hh0 : hh = 0 := by omega
      subst hh0
      have hl0 : l = 0 := by omega
      subst hl0
      have hbb : bb mx.isSome 0 0 = 0 := by cases mx.isSome <;> rfl
      rw [hbb] at hb
      refine ⟨.slice (some ⟨c, o, none⟩) 0 0, ?_, ?_⟩
      · simp [Instr.sliceAt, Instr.slice, hu, hb, hT.run_size hie w]
      · rw [hcs]; simp; exact .fsE (hflag _)
    · have hb := sliceBounds_ok (P := P) (w := w) (isS := true) hlo hhi hmx k1 k1 b1 b2 b3 b4
      generalize hM : bb mx.isSome m cap = M at hb
      have hMm : m ≤ M := by
        cases mx with
        | none => simp [anatO] at b1; simp at hM; omega
        | some mx => simp at hM; omega
      have hMe : (orr (isS mx) (Nat.beq f.fl 1)) = true → M = m := fun he => by
        cases mx with
        | none =>
          simp [anatO] at b1
          simp at hM he
          have := k2 he
          omega
        | some mx => simp at hM; omega
      have hrun : (Instr.sliceAt t (.slice (some ⟨c, o, none⟩) f.n cap) lo' hi'' mx').run P w =
          .ok (.slice (some (if M = l then ⟨c, o, none⟩ else ⟨c, o + l * f.sz, none⟩)) (hh - l) (M - l)) w := by
        simp [Instr.sliceAt, Instr.slice, hu, hb, hT.run_size hie w, hz, add_plain]
        split <;> rfl
      refine ⟨_, hrun, ?_⟩
      by_cases hml : M = l
      · have e1 : hh - l = 0 := by omega
        rw [if_pos hml, e1, hml, Nat.sub_self]
        simp
        exact .fsE (hflag _)
      · rw [if_neg hml]
        have hmul : (hh - l) * f.sz + l * f.sz ≤ f.n * f.sz := by
          rw [← Nat.add_mul]; exact Nat.mul_le_mul_right _ (by omega)
        refine .mkFs hro (by simp; omega) (by omega) (fun he => ?_) (hflag _) (by simp; omega) (hcr.part _ _) (fun x hx => hcl x (List.mem_of_mem_drop (List.mem_of_mem_take hx)))
        cases hb9 : an (Nat.beq hh m) (orr (isS mx) (Nat.beq f.fl 1)) with
        | false => rw [hb9] at he; simp at he
        | true =>
          obtain ⟨g1, g2⟩ := an_inv hb9
          have g1 := Nat.eq_of_beq_eq_true g1
          have := hMe g2
          omega

include hT in
theorem asliceSl_ok {t e : Nat} {i : TI} (hi : tt t = some i) (hd : i.und = .slice e) {x x' v : Value} {lo hi' mx lo' hi'' mx' : Option Value}
    (h : asliceSl tt e x lo hi' mx = some v) (hx : VR R x x') (hlo : OptR R lo lo') (hhi : OptR R hi' hi'') (hmx : OptR R mx mx') : ∃ u, (Instr.sliceAt t x' lo' hi'' mx').run P w = .ok u w ∧ VR R v u := by
  obtain ⟨ie, hie, h1⟩ := oo_inv h
  have hu := hT.run_und hi w
  rw [hd] at hu
  cases hsl : vSl x with
  | none =>
    rw [hsl, oo_none] at h1
    cases hf : vFs x with
    | some f => rw [hf, oo_some] at h1; exact asliceFs_ok hT hi hd hie hf h1 hx hlo hhi hmx
    | none =>
    rw [hf, oo_none] at h1
    obtain ⟨hnil, h2⟩ := bb_inv h1
    obtain ⟨l, hh, m, b1, b2, b3, b4, h3⟩ := abounds_some h2
    injection h3 with h3; subst h3
    have := isNilSl_true hnil; subst this
    rw [hx.slNil_l]
    have hb := sliceBounds_ok (P := P) (w := w) (isS := true) hlo hhi hmx (Nat.le_refl 0) (Nat.le_refl 0) b1 b2 b3 b4
    have hm0 : m = 0 := by have := anatO_le b1 (Nat.le_refl 0); omega
    subst hm0
    have hh0 : hh = 0 := by
      cases hi' with
      | none => simp [anatO] at b3; omega
      | some hi' => have := (anat_some b3).2; omega
    subst hh0
    have hl0 : l = 0 := by have := anatO_le b4 (Nat.le_refl 0); omega
    subst hl0
    have hbb : bb mx.isSome 0 0 = 0 := by cases mx.isSome <;> rfl
    rw [hbb] at hb
    refine ⟨.slice none 0 0, ?_, .slNil⟩
    simp [Instr.sliceAt, Instr.slice, hu, hb, hT.run_size hie w]
  | some s =>
    rw [hsl, oo_some] at h1
    obtain ⟨hz, h2⟩ := bb_inv (show bb (Nat.beq ie.size s.sz) (aboundsK lo hi' mx s.len (s.cap / 2) fun l h m => some (sliceAt s.id (s.off + l * s.sz) s.sz (h - l) (m - l) (orr (isS mx) (Nat.beq (s.cap % 2) 1)))) none = some v from h1)
    have hz := Nat.eq_of_beq_eq_true hz
    obtain ⟨l, hh, m, b1, b2, b3, b4, h3⟩ := abounds_some h2
    injection h3 with h3; subst h3
    have hlh := anatO_le b4 (Nat.zero_le _)
    have hmc := anatO_le b1 (Nat.le_refl _)
    rcases hx.sl_l hsl with ⟨c, β, cap, hid, rfl, k1, k2, k3, k4⟩ | ⟨c, o, rfl, h0, h00⟩ | ⟨rfl, h0, h00⟩
    · have hb := sliceBounds_ok (P := P) (w := w) (isS := true) hlo hhi hmx k2 (Nat.le_trans k1 k2) b1 b2 b3 b4
      have hhm : hh ≤ m := by
        cases hi' with
        | none => cases mx with
          | none => simp [anatO] at b1 b3; omega
          | some mx => exact absurd (b2 rfl) (by simp)
        | some hi' => exact (anat_some b3).2
      generalize hM : bb mx.isSome m cap = M at hb
      have hMm : m ≤ M ∧ M ≤ cap := by
        cases mx with
        | none => simp [anatO] at b1; simp at hM; omega
        | some mx => simp at hM; omega
      have hMe : (orr (isS mx) (Nat.beq (s.cap % 2) 1)) = true → M = m := fun he => by
        cases mx with
        | none =>
          simp [anatO] at b1
          simp at hM he
          have := k3 he
          omega
        | some mx => simp at hM; omega
      have hrun : (Instr.sliceAt t (.slice (some ⟨c, β + s.off, none⟩) s.len cap) lo' hi'' mx').run P w =
          .ok (.slice (some (if M = l then ⟨c, β + s.off, none⟩ else ⟨c, β + s.off + l * s.sz, none⟩)) (hh - l) (M - l)) w := by
        simp [Instr.sliceAt, Instr.slice, hu, hb, hT.run_size hie w, hz, add_plain]
        split <;> rfl
      refine ⟨_, hrun, ?_⟩
      unfold sliceAt
      by_cases hml : M = l
      · have e1 : hh - l = 0 := by omega
        have e2 : m - l = 0 := by omega
        rw [if_pos hml, e1, hml, Nat.sub_self, e2]
        exact .slE (by cases (orr (isS mx) (Nat.beq (s.cap % 2) 1)) <;> simp [bb])
      · rw [if_neg hml, Nat.add_assoc]
        have hmul : (M - l) * s.sz + l * s.sz ≤ cap * s.sz := by
          rw [← Nat.add_mul]; exact Nat.mul_le_mul_right _ (by omega)
        exact .sl hid (by rw [sliceAt_half]; omega) (by rw [sliceAt_half]; omega) (fun ho => by rw [sliceAt_half]; rw [sliceAt_odd] at ho; have := hMe ho; omega) (by omega)
    · have hb := sliceBounds_ok (P := P) (w := w) (isS := true) hlo hhi hmx (cap' := 0) (by omega) (by omega) b1 b2 b3 b4
      rw [h0] at hb
      have hm0 : m = 0 := by omega
      subst hm0
      have hh0 : hh = 0 := by
        cases hi' with
        | none => simp [anatO] at b3; omega
        | some hi' => have := (anat_some b3).2; omega
      subst hh0
      have hl0 : l = 0 := by omega
      subst hl0
      have hbb : bb mx.isSome 0 0 = 0 := by cases mx.isSome <;> rfl
      rw [hbb] at hb
      refine ⟨.slice (some ⟨c, o, none⟩) 0 0, ?_, ?_⟩
      · simp [Instr.sliceAt, Instr.slice, hu, hb, hT.run_size hie w]
      · exact .slE (by cases (orr (isS mx) (Nat.beq (s.cap % 2) 1)) <;> simp [bb])
    · have hb := sliceBounds_ok (P := P) (w := w) (isS := true) hlo hhi hmx (cap' := 0) (by omega) (by omega) b1 b2 b3 b4
      rw [h0] at hb
      have hm0 : m = 0 := by omega
      subst hm0
      have hh0 : hh = 0 := by
        cases hi' with
        | none => simp [anatO] at b3; omega
        | some hi' => have := (anat_some b3).2; omega
      subst hh0
      have hl0 : l = 0 := by omega
      subst hl0
      have hbb : bb mx.isSome 0 0 = 0 := by cases mx.isSome <;> rfl
      rw [hbb] at hb
      refine ⟨.slice none 0 0, ?_, ?_⟩
      · simp [Instr.sliceAt, Instr.slice, hu, hb, hT.run_size hie w]
      · exact .slN (by cases (orr (isS mx) (Nat.beq (s.cap % 2) 1)) <;> simp [bb])

include hT in
theorem aslice_ok (hs : Sim H R w) {t : Nat} {x x' v : Value} {lo hi mx lo' hi' mx' : Option Value}
    (h : aslice tt H t x lo hi mx = some v) (hx : VR R x x') (hlo : OptR R lo lo') (hhi : OptR R hi hi') (hmx : OptR R mx mx') : ∃ u, (Instr.sliceAt t x' lo' hi' mx').run P w = .ok u w ∧ VR R v u := by
  obtain ⟨i, hti, h1⟩ := oo_inv h
  cases hd : dSl i.und with
  | some e =>
    rw [hd, oo_some] at h1
    exact asliceSl_ok hT hti (dSl_some hd) h1 hx hlo hhi hmx
  | none =>
    rw [hd, oo_none] at h1
    cases hd2 : dArr i.und with
    | some p =>
      rw [hd2, oo_some, pp_eta] at h1
      exact asliceArr_ok hT hs hti (dArr_some hd2) h1 hx hlo hhi hmx
    | none =>
      rw [hd2, oo_none] at h1
      obtain ⟨hstr, h2⟩ := bb_inv h1
      obtain ⟨s, hss, h3⟩ := oo_inv h2
      obtain ⟨hnm, h4⟩ := bb_inv' h3
      obtain ⟨l, hh, m, b1, b2, b3, b4, h5⟩ := abounds_some h4
      injection h5 with h5; subst h5
      have := vStr_some hss; subst this
      rw [hx.string_l]
      have hu := hT.run_und hti w
      rw [isStrT_true hstr] at hu
      have hmn : mx = none := by cases mx with
        | none => rfl
        | some mx => simp at hnm
      subst hmn
      cases mx' with
      | some => exact hmx.elim
      | none =>
        have hb := sliceBounds_ok (P := P) (w := w) (isS := false) (mx := none) (mx' := none) hlo hhi trivial (Nat.le_refl s.size) (Nat.le_refl s.size) b1 b2 b3 b4
        refine ⟨.string (s.extract l hh), ?_, .string _⟩
        simp [Instr.sliceAt, Instr.slice, hu, hb]
end
end Go.Sp
