/- Frames, operands, guards, one operation's wp; regions that are run in the text's order. -/
import Derived.Test.YtcjocjoaphpclaaDoorSpReg2
namespace Go.Sp

/-- An operand that is written in the code. -/
def OperandOk (gl : List Nat) : Operand → Prop
  | .const v => plainB v = true
  | .global g => g ∈ gl
  | _ => True

theorem eval_VR {gl : List Nat} {R : Ren} (hg : GlR gl R) {F : Fr} {a : Act} {x : Operand} (hx : OperandOk gl x) (ht : ∀ t, x = .tmp t → VR R (F.get t) (a.tmps.getD t undef)) : VR R (F.eval x) (a.eval x) := by
  cases x with
  | tmp t => exact ht t rfl
  | const v => exact plain_VR hx
  | global g => simpa [Fr.eval, Act.eval] using VR.ptr (off := 0) (hg g hx)
  | func f => exact .func _ rfl VRL.nil.2 rfl VRL.nil.2

theorem mem_tmpsL {l : List Operand} {t : Nat} : t ∈ tmpsL l ↔ .tmp t ∈ l := by
  induction l with
  | nil => simp [tmpsL]
  | cons x l ih =>
    cases x with
    | tmp u =>
      show t ∈ u :: tmpsL l ↔ _
      simp only [List.mem_cons, ih, Operand.tmp.injEq]
    | const v => show t ∈ tmpsL l ↔ _; simp [ih]
    | global g => show t ∈ tmpsL l ↔ _; simp [ih]
    | func f => show t ∈ tmpsL l ↔ _; simp [ih]
theorem names_operand {ops : List Oper} {o : Oper} {t : Nat} (h : .tmp t ∈ o.op.operands.toList) : t ∈ namesL ops o := by
  unfold namesL
  cases gdT ops o with
  | none => exact mem_tmpsL.2 h
  | some g => exact List.mem_cons_of_mem _ (mem_tmpsL.2 h)
theorem names_guard {ops : List Oper} {o : Oper} {t : Nat} (h : gdT ops o = some t) : t ∈ namesL ops o := by
  unfold namesL; rw [h]; exact List.mem_cons_self ..

theorem dstL_eq (ops : Array Oper) (j : Nat) : dstL ops.toList j = (ops[j]?).bind (·.dst) := by
  unfold dstL; rw [nthL_eq]; simp only [Array.getElem?_toList]; cases ops[j]? <;> rfl

theorem vBool_VR {R : Ren} {x y : Value} (h : VR R x y) (hd : isDead x = false) : vBool x = vBool y := by
  cases h <;> first | rfl | (cases hd)

/-- Is the operation wanted: with the interpreter and with the model. -/
theorem wanted_eq {R : Ren} {ops : Array Oper} {o : Oper} {W : List Operand} {F : Fr} {tmps : Array Value} (h : ∀ t, gdT ops.toList o = some t → VR R (F.get t) (tmps.getD t undef)) (hk : (slimL ops.toList o W).gdOk F = true) :
    (slimL ops.toList o W).wanted F = Region.wanted o (yielded ops tmps) := by
  unfold ROp.gdOk slimL at hk
  unfold ROp.wanted slimL Region.wanted yielded
  cases hg : o.guard with
  | none => rfl
  | some p =>
    obtain ⟨j, want⟩ := p
    simp only [oo_some, pp_mk]
    rw [dstL_eq]
    have hgd : gdT ops.toList o = (ops[j]?).bind (·.dst) := by unfold gdT; rw [hg, oo_some, pp_mk, dstL_eq]
    cases hd : (ops[j]?).bind (·.dst) with
    | none => simp
    | some t =>
      rw [hgd, hd] at h
      have hv := h t rfl
      have hdead : isDead (F.get t) = false := by
        rw [hg] at hk
        simp only [oo_some, pp_mk] at hk
        rw [dstL_eq, hd] at hk
        exact nt_false hk
      rw [oo_some, vBool_VR hv hdead]
      simp only [Option.bind_some]
      rw [Array.getD_eq_getD_getElem?]
      cases htm : tmps[t]? with
      | none => rfl
      | some x =>
        simp only [Option.getD_some]
        cases x <;> first | (rename_i b; cases b <;> cases want <;> rfl) | rfl

theorem FrR_put {R R' : Ren} {F : Fr} {a : Act} (hn : F.n = a.tmps.size) (hle : R.le R') {d : Option Nat} {v u : Value} (hv : VR R' v u) {t : Nat} (ht : d ≠ some t → VR R (F.get t) (a.tmps.getD t undef)) (hb : F.n ≤ t → VR R (F.get t) (a.tmps.getD t undef)) :
    VR R' ((F.put d v).get t) ((a.put d u).tmps.getD t undef) := by
  cases d with
  | none => exact (ht (by simp)).mono hle
  | some d =>
    rw [Fr.get_put]
    show VR R' _ ((a.tmps.setIfInBounds d u).getD t undef)
    rw [Array.getD_eq_getD_getElem?, Array.getElem?_setIfInBounds]
    by_cases hdt : d = t
    · subst hdt
      by_cases hlt : d < F.n
      · have : d < a.tmps.size := by omega
        simp [hlt, this]; exact hv
      · have : ¬ d < a.tmps.size := by omega
        have h1 := (hb (by omega)).mono hle
        rw [Array.getD_eq_getD_getElem?, Array.getElem?_eq_none (by omega)] at h1
        simp [hlt, this]; exact h1
    · have h1 := (ht (by simp [hdt])).mono hle
      rw [Array.getD_eq_getD_getElem?] at h1
      simp [hdt]; simpa using h1

theorem put_size (a : Act) (d : Option Nat) (u : Value) : (a.put d u).tmps.size = a.tmps.size := by cases d <;> simp [Act.put]
theorem put_defers (a : Act) (d : Option Nat) (u : Value) : (a.put d u).defers = a.defers := by cases d <;> rfl

section
variable {P : Program} {tt : TT} (hT : TOk P tt) {call : CallF} {gl : List Nat} (hc : CallOk P gl call)
include hT hc

/-- One operation. -/
theorem oper_wp {H H1 : AHeap} {R : Ren} {w : World} (hs : Sim H R w) (hgl : GlR gl R) {a : Act} {ρ : Operand → Value} {o : Oper} (hρ : ∀ x ∈ o.op.operands.toList, VR R (ρ x) (a.eval x)) {v : Value}
    (h : aop o.op tt call ρ H = some (v, H1)) {next : Act → World → Prop} {Q : Exit → Act → World → Prop}
    (hn : ∀ u w' R', VR R' v u → Post H R w H1 R' w' → next (a.put o.dst u) w') : o.wp P a w next Q := by
  rcases aop_ok hT hc hs hgl hρ h with ⟨nx, u, w', R', hr, hnx, hv, hp⟩ | ⟨g, args, hr, hcalls⟩
  · unfold Oper.wp
    rw [hr]
    rcases hnx with rfl | ⟨rfl, rfl⟩
    · exact hn u w' R' hv hp
    · exact hn _ w' R' hv hp
  · unfold Oper.wp
    rw [hr, Oper.upon_enter]
    refine hcalls.mono fun e w' he => ?_
    obtain ⟨u, R', rfl, hv, hp⟩ := he
    exact hn u w' R' hv hp

omit hT hc in
theorem evOps_cons {r : ROp} {os : List ROp} {F Ff : Fr} {H Hf : AHeap} (h : evOps tt call (r :: os) F H = some (Ff, Hf)) :
    r.gdOk F = true ∧ ((r.wanted F = true ∧ ∃ v H1, aop r.op tt call F.eval H = some (v, H1) ∧ (∀ x ∈ r.watch, Same H H1 (F.eval x)) ∧ evOps tt call os (F.put r.dst v) H1 = some (Ff, Hf)) ∨
    (r.wanted F = false ∧ evOps tt call os (F.put r.dst undef) H = some (Ff, Hf))) := by
  obtain ⟨hk, h⟩ := bb_inv (show bb (r.gdOk F) (bb (r.wanted F) _ _) none = some (Ff, Hf) from h)
  refine ⟨hk, ?_⟩
  have h : bb (r.wanted F)
      (oo (aop r.op tt call F.eval H) none fun p => pp p fun v H' => forceWL H v fun v => forceH H' fun H' =>
        bb (allL (fun x => sameAt H H' (F.eval x)) r.watch) (F.putK r.dst v fun F => evOps tt call os F H') none)
      (F.putK r.dst undef fun F => evOps tt call os F H) = some (Ff, Hf) := h
  rw [bb_eq] at h
  split at h
  · rename_i hw
    left
    obtain ⟨p, hp, h1⟩ := oo_inv h
    rw [pp_eta, forceWL_eq, forceH_eq] at h1
    obtain ⟨hall, h2⟩ := bb_inv h1
    rw [Fr.putK_eq] at h2
    rw [allL_eq, List.all_eq_true] at hall
    exact ⟨hw, p.1, p.2, hp, fun x hx => sameAt_Same (hall x hx), h2⟩
  · rename_i hw
    right
    rw [Fr.putK_eq] at h
    exact ⟨by simpa using hw, h⟩

/-- A region in the text's order. -/
theorem plain_ok {ops : Array Oper} (hop : ∀ o ∈ ops.toList, ∀ x ∈ o.op.operands.toList, OperandOk gl x) {Ff : Fr} {Hf : AHeap} {Q : Exit → Act → World → Prop} (n : Nat) :
    ∀ (i : Nat) (F : Fr) (H : AHeap) (R : Ren) (a : Act) (w : World), i + n = ops.size → evOps tt call (mapL (fun o => slimL ops.toList o []) (ops.toList.drop i)) F H = some (Ff, Hf) →
      Sim H R w → GlR gl R → F.n = a.tmps.size → (∀ t, VR R (F.get t) (a.tmps.getD t undef)) →
      (∀ a' w' R', a'.defers = a.defers → a'.tmps.size = a.tmps.size → (∀ t, VR R' (Ff.get t) (a'.tmps.getD t undef)) → Post H R w Hf R' w' → Q .normal a' w') →
      wpOps P ops Q (List.range' i n) a w := by
  induction n with
  | zero =>
    intro i F H R a w hi h hs hgl hn ht hQ
    rw [List.drop_eq_nil_of_le (by simp; omega)] at h
    injection h with h; injection h with e1 e2; subst e1; subst e2
    exact hQ a w R rfl rfl ht (.refl hs)
  | succ n ih =>
    intro i F H R a w hi h hs hgl hn ht hQ
    have hlt : i < ops.size := by omega
    have hoi : ops[i]? = some ops[i] := by simp [hlt]
    have hd : ops.toList.drop i = ops[i] :: ops.toList.drop (i + 1) := by
      rw [List.drop_eq_getElem_cons (by simpa using hlt)]; simp
    rw [hd] at h
    have hmem : ops[i] ∈ ops.toList := by simp
    obtain ⟨hk, hcons⟩ := evOps_cons h
    have hw := wanted_eq (W := []) (o := ops[i]) (ops := ops) (F := F) (tmps := a.tmps) (R := R) (fun t _ => ht t) hk
    rw [List.range'_succ]
    simp only [wpOps, hoi]
    rcases hcons with ⟨hwt, v, H1, hop1, _, hrest⟩ | ⟨hwf, hrest⟩
    · rw [hw] at hwt
      rw [if_pos hwt]
      left
      refine oper_wp hT hc hs hgl (ρ := F.eval) (fun x hx => eval_VR hgl (hop _ hmem x hx) fun t _ => ht t) hop1 fun u w' R' hv hp => ?_
      refine ih (i + 1) _ H1 R' (a.put (ops[i]).dst u) w' (by omega) hrest hp.sim (hgl.mono hp.le) (by rw [put_size]; simpa [slimL] using hn) (fun t => FrR_put hn hp.le hv (fun _ => ht t) fun _ => ht t) fun a' w2 R2 hd hsz ht' hp' => ?_
      exact hQ a' w2 R2 (by rw [hd, put_defers]) (by rw [hsz, put_size]) ht' (hp.trans hp' hs)
    · rw [hw] at hwf
      rw [if_neg (by rw [hwf]; simp)]
      refine ih (i + 1) _ H R (a.put (ops[i]).dst undef) w (by omega) hrest hs hgl (by rw [put_size]; simpa [slimL] using hn) (fun t => FrR_put hn R.le_refl undef_VR (fun _ => ht t) fun _ => ht t) fun a' w2 R2 hd hsz ht' hp' => ?_
      exact hQ a' w2 R2 (by rw [hd, put_defers]) (by rw [hsz, put_size]) ht' hp'
end
end Go.Sp
