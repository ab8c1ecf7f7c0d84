/- Code and functions: what the interpreter gives the program gives. -/
import Derived.Test.YtcjocjoaphpclaaDoorSpDraw5
import Derived.LoopN
namespace Go.Sp

def Ex.exit' : Ex → Exit
  | .normal => .normal
  | .exit id => .exit id
  | .ret => .ret

noncomputable def opdB (gl : List Nat) (x : Operand) : Bool := Operand.rec (motive := fun _ => Bool) (fun _ => true) (fun v => plainB v) (fun g => memN g gl) (fun _ => true) x
noncomputable def opsB (gl : List Nat) (l : List Oper) : Bool := allL (fun o => allL (opdB gl) o.op.operands.toList) l
noncomputable def codeB (gl : List Nat) (c : Code) : Bool :=
  Code.rec (motive := fun _ => Bool) true (fun _ ops _ => opsB gl ops.toList) (fun _ _ a b => an a b) (fun x _ _ a b => an (opdB gl x) (an a b)) (fun _ _ b => b) (fun _ b => b) (fun _ _ _ _ _ _ => false)
    (fun _ => true) (fun _ _ => false) (fun _ => false) (fun _ => false) true (fun _ => false) c

theorem opdB_ok {gl : List Nat} {x : Operand} (h : opdB gl x = true) : OperandOk gl x := by
  cases x with
  | tmp => trivial
  | const v => exact h
  | global g => exact memN_iff.1 h
  | func => trivial
theorem opsB_ok {gl : List Nat} {ops : Array Oper} (h : opsB gl ops.toList = true) : ∀ o ∈ ops.toList, ∀ x ∈ o.op.operands.toList, OperandOk gl x := fun o ho x hx => by
  unfold opsB at h
  rw [allL_eq, List.all_eq_true] at h
  have := h o ho
  rw [allL_eq, List.all_eq_true] at this
  exact opdB_ok (this x hx)

theorem onNormal_some {r : EvR} {k : Fr → AHeap → EvR} {s : EvS} (h : onNormal r k = some s) :
    (∃ F H, r = some ⟨.normal, F, H⟩ ∧ k F H = some s) ∨ (r = some s ∧ s.e.exit' ≠ .normal) := by
  obtain ⟨q, hq, h1⟩ := oo_inv h
  obtain ⟨e, F, H⟩ := q
  cases e with
  | normal => exact .inl ⟨F, H, hq, h1⟩
  | exit j => injection h1 with h1; subst h1; exact .inr ⟨hq, by simp [Ex.exit']⟩
  | ret => injection h1 with h1; subst h1; exact .inr ⟨hq, by simp [Ex.exit']⟩

theorem unblock_some {id : Nat} {r : EvR} {s : EvS} (h : unblock id r = some s) :
    ∃ q, r = some q ∧ q.F = s.F ∧ q.H = s.H ∧ ((s.e = .normal ∧ (q.e = .normal ∨ q.e = .exit id)) ∨ (s.e = q.e ∧ q.e ≠ .exit id)) := by
  obtain ⟨q, hq, h1⟩ := oo_inv h
  obtain ⟨e, F, H⟩ := q
  cases e with
  | normal => injection h1 with h1; subst h1; exact ⟨_, hq, rfl, rfl, .inl ⟨rfl, .inl rfl⟩⟩
  | ret => injection h1 with h1; subst h1; exact ⟨_, hq, rfl, rfl, .inr ⟨rfl, by simp⟩⟩
  | exit j =>
    have h1 : bb (Nat.beq j id) (some ⟨.normal, F, H⟩) (some ⟨.exit j, F, H⟩) = some s := h1
    rw [bb_eq] at h1
    split at h1
    · rename_i hj
      have := Nat.eq_of_beq_eq_true hj
      injection h1 with h1; subst h1; subst this
      exact ⟨_, hq, rfl, rfl, .inl ⟨rfl, .inr rfl⟩⟩
    · rename_i hj
      injection h1 with h1; subst h1
      exact ⟨_, hq, rfl, rfl, .inr ⟨rfl, by intro e; injection e with e; subst e; simp at hj⟩⟩

section
variable {P : Program} {tt : TT} (hT : TOk P tt) {call : CallF} {gl : List Nat} (hc : CallOk P gl call) (hm : P.follows .mixedOrders = true)

def Goes (P : Program) (gl : List Nat) (c : Code) (run : Fr → AHeap → EvR) : Prop :=
  ∀ (F : Fr) (H : AHeap) (R : Ren) (a : Act) (w : World) (s : EvS), run F H = some s → Sim H R w → GlR gl R → F.n = a.tmps.size → (∀ t, VR R (F.get t) (a.tmps.getD t undef)) →
    ∀ Q : Exit → Act → World → Prop, (∀ a' w' R', a'.defers = a.defers → a'.tmps.size = a.tmps.size → F.n = s.F.n → (∀ t, VR R' (s.F.get t) (a'.tmps.getD t undef)) → Post H R w s.H R' w' → Q s.e.exit' a' w') → c.wp P Q a w

theorem evOps_n {os : List ROp} {F Ff : Fr} {H Hf : AHeap} (h : evOps tt call os F H = some (Ff, Hf)) : F.n = Ff.n := by
  induction os generalizing F H with
  | nil => injection h with h; injection h with e1 e2; subst e1; rfl
  | cons r os ih =>
    rcases (evOps_cons h).2 with ⟨_, v, H1, _, _, h1⟩ | ⟨_, h1⟩
    · rw [← ih h1, Fr.n_put]
    · rw [← ih h1, Fr.n_put]

theorem regR_some {r : Option (Fr × AHeap)} {s : EvS} (h : regR r = some s) : r = some (s.F, s.H) ∧ s.e = .normal := by
  obtain ⟨p, hp, h1⟩ := oo_inv h
  rw [pp_eta] at h1
  injection h1 with h1; subst h1
  exact ⟨hp, rfl⟩

include hT hc hm in
theorem evC_ok {c : Code} {rc : RC} (hcomp : Comp c rc) (fuel : Nat) (hok : codeB gl c = true) : Goes P gl c (evC tt call fuel rc) := by
  induction hcomp with
  | skip =>
    intro F H R a w s h hs hgl hn ht Q hQ
    injection h with h; subst h
    exact wp_skip (hQ a w R rfl rfl rfl ht (.refl hs))
  | plain id ops =>
    intro F H R a w s h hs hgl hn ht Q hQ
    obtain ⟨h1, he⟩ := regR_some h
    rw [he] at hQ
    refine wp_region ?_
    rw [List.range_eq_range']
    exact plain_ok hT hc (opsB_ok hok) ops.size 0 F H R a w (by omega) (by rw [List.drop_zero]; exact h1) hs hgl hn ht fun a' w' R' k1 k2 k3 k4 => hQ a' w' R' k1 k2 (evOps_n h1) k3 k4
  | draw id hl =>
    intro F H R a w s h hs hgl hn ht Q hQ
    obtain ⟨h1, he⟩ := regR_some h
    rw [he] at hQ
    exact draw_ok hT hc (opsB_ok hok) hl h1 hs hgl hn ht hm id fun a' w' R' k1 k2 k3 k4 => hQ a' w' R' k1 k2 (evOps_n h1) k3 k4
  | @seq ca cb x y ha hb iha ihb =>
    intro F H R a w s h hs hgl hn ht Q hQ
    have hok' : an (codeB gl ca) (codeB gl cb) = true := hok
    rw [an_eq, Bool.and_eq_true] at hok'
    refine wp_seq ?_
    rcases onNormal_some (show onNormal (evC tt call fuel x F H) (evC tt call fuel y) = some s from h) with ⟨F1, H1, h1, h2⟩ | ⟨h1, hne⟩
    · refine iha hok'.1 F H R a w _ h1 hs hgl hn ht _ fun a1 w1 R1 k1 k2 k3 k4 k5 => ?_
      show (Code.wp P cb Q a1 w1)
      refine ihb hok'.2 F1 H1 R1 a1 w1 s h2 k5.sim (hgl.mono k5.le) (by rw [k2, ← hn]; exact k3.symm) k4 Q fun a2 w2 R2 j1 j2 j3 j4 j5 => hQ a2 w2 R2 (by rw [j1, k1]) (by rw [j2, k2]) (k3.trans j3) j4 (k5.trans j5 hs)
    · refine iha hok'.1 F H R a w s h1 hs hgl hn ht _ fun a1 w1 R1 k1 k2 k3 k4 k5 => ?_
      have := hQ a1 w1 R1 k1 k2 k3 k4 k5
      revert this hne
      cases s.e <;> intro hne this
      · exact absurd rfl hne
      · exact this
      · exact this
  | @cond c ca cb x y ha hb iha ihb =>
    intro F H R a w s h hs hgl hn ht Q hQ
    have hok' : an (opdB gl c) (an (codeB gl ca) (codeB gl cb)) = true := hok
    simp only [an_eq, Bool.and_eq_true] at hok'
    obtain ⟨t, htb, h1⟩ := oo_inv (show oo (vBool (F.eval c)) none (fun t => bb t (evC tt call fuel x F H) (evC tt call fuel y F H)) = some s from h)
    have hv := eval_VR hgl (opdB_ok hok'.1) (F := F) (a := a) fun t _ => ht t
    rw [vBool_some htb] at hv
    cases t with
    | true => exact wp_cond_true hv.bool_l (iha hok'.2.1 F H R a w s h1 hs hgl hn ht Q hQ)
    | false => exact wp_cond_false hv.bool_l (ihb hok'.2.2 F H R a w s h1 hs hgl hn ht Q hQ)
  | @block id cb y hb ihb =>
    intro F H R a w s h hs hgl hn ht Q hQ
    obtain ⟨q, hq, e1, e2, e3⟩ := unblock_some (show unblock id (evC tt call fuel y F H) = some s from h)
    refine wp_block ?_
    refine ihb hok F H R a w q hq hs hgl hn ht _ fun a1 w1 R1 k1 k2 k3 k4 k5 => ?_
    have := hQ a1 w1 R1 k1 k2 (by rw [← e1]; exact k3) (by rw [← e1]; exact k4) (by rw [← e2]; exact k5)
    rcases e3 with ⟨h1, h2 | h2⟩ | ⟨h1, h2⟩
    · rw [h1] at this; rw [h2]; exact this
    · rw [h1] at this; rw [h2]; simpa [Exit.inBlock, Ex.exit'] using this
    · rw [h1] at this
      revert this h2
      cases q.e with
      | normal => intro this _; exact this
      | ret => intro this _; exact this
      | exit j =>
        intro this h2
        have hji : j ≠ id := fun e => h2 (by rw [e])
        simpa [Exit.inBlock, Ex.exit', hji] using this
  | @loop cb y hb ihb =>
    intro F H R a w s h hs hgl hn ht Q hQ
    have h : evLoop (evC tt call fuel y) fuel F H = some s := h
    refine wp_loop_rounds fuel ?_
    have key : ∀ n (F : Fr) (H : AHeap) (R : Ren) (a : Act) (w : World), evLoop (evC tt call fuel y) n F H = some s → Sim H R w → GlR gl R → F.n = a.tmps.size → (∀ t, VR R (F.get t) (a.tmps.getD t undef)) →
        (∀ a' w' R', a'.defers = a.defers → a'.tmps.size = a.tmps.size → F.n = s.F.n → (∀ t, VR R' (s.F.get t) (a'.tmps.getD t undef)) → Post H R w s.H R' w' → Q s.e.exit' a' w') → Code.rounds P cb Q n a w := by
      intro n
      induction n with
      | zero => intro F H R a w h; cases h
      | succ n ih =>
        intro F H R a w h hs hgl hn ht hQ
        rw [rounds_succ]
        rcases onNormal_some (show onNormal (evC tt call fuel y F H) (evLoop (evC tt call fuel y) n) = some s from h) with ⟨F1, H1, h1, h2⟩ | ⟨h1, hne⟩
        · refine ihb hok F H R a w _ h1 hs hgl hn ht _ fun a1 w1 R1 k1 k2 k3 k4 k5 => ?_
          exact ih F1 H1 R1 a1 w1 h2 k5.sim (hgl.mono k5.le) (by rw [k2, ← hn]; exact k3.symm) k4 fun a2 w2 R2 j1 j2 j3 j4 j5 => hQ a2 w2 R2 (by rw [j1, k1]) (by rw [j2, k2]) (k3.trans j3) j4 (k5.trans j5 hs)
        · refine ihb hok F H R a w s h1 hs hgl hn ht _ fun a1 w1 R1 k1 k2 k3 k4 k5 => ?_
          have := hQ a1 w1 R1 k1 k2 k3 k4 k5
          revert this hne
          cases s.e <;> intro hne this
          · exact absurd rfl hne
          · exact this
          · exact this
    exact key fuel F H R a w h hs hgl hn ht hQ
  | exit id =>
    intro F H R a w s h hs hgl hn ht Q hQ
    injection h with h; subst h
    exact wp_exit (hQ a w R rfl rfl rfl ht (.refl hs))
  | ret =>
    intro F H R a w s h hs hgl hn ht Q hQ
    injection h with h; subst h
    exact wp_ret (hQ a w R rfl rfl rfl ht (.refl hs))
end
end Go.Sp
