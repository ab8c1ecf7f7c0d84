/- Made from wip. -/
import Derived.Test.YtenlanbdolnhhaaSpDraw5x
import Derived.LoopN
import Derived.ScopeJumps

namespace Go.Sp

def Ex.exit':Ex→Exit
 | .normal=>.normal
 | .exit id=>.exit id
 | .ret=>.ret
 | .goto l=>.goto l

noncomputable def opdB (gl:List Nat) (x:Operand):Bool:=Operand.rec (motive:=fun _=>Bool) (fun _=>true) (fun v=>plainB v) (fun g=>memN g gl) (fun _=>true) x
noncomputable def opsB (gl:List Nat) (l:List Oper):Bool:=allL (fun o=>allL (opdB gl) o.op.operands.toList) l
noncomputable def codeB (gl:List Nat) (c:Code):Bool:=
 Code.rec (motive := fun _ => Bool) true (fun _ ops _ => opsB gl ops.toList) (fun _ _ a b => an a b) (fun x _ _ a b => an (opdB gl x) (an a b)) (fun _ _ b => b) (fun _ b => b) (fun _ _ _ _ _ _ => false)
  (fun _=>true) (fun _ b=>b) (fun _=>true) (fun _=>true) true (fun _=>false) c

theorem opdB_ok {gl:List Nat} {x:Operand} (h:opdB gl x=true):OperandOk gl x:=by
 cases x with
 | tmp=>trivial
 | const v=>exact h
 | global g=>exact memN_iff.1 h
 | func=>trivial
theorem opsB_ok {gl:List Nat} {ops:Array Oper} (h:opsB gl ops.toList=true):∀ o∈ops.toList,∀ x∈o.op.operands.toList,OperandOk gl x:=fun o ho x hx=>by
 unfold opsB at h
 rw[allL_eq,List.all_eq_true] at h
 have:=h o ho
 rw[allL_eq,List.all_eq_true] at this
 exact opdB_ok (this x hx)

theorem onNormal_some {r:EvR} {k:Fr→AHeap→EvR} {s:EvS} (h:onNormal r k=some s) :
 (∃ F H,r=some ⟨.normal,F,H⟩∧k F H=some s)∨(r=some s∧s.e.exit' ≠ .normal):=by
 obtain⟨q,hq,h1⟩:=oo_inv h
 obtain⟨e,F,H⟩:=q
 cases e with
 | normal=>exact .inl ⟨F,H,hq,h1⟩
 | exit j=>injection h1 with h1;subst h1;exact .inr ⟨hq,by simp[Ex.exit']⟩
 | ret=>injection h1 with h1;subst h1;exact .inr ⟨hq,by simp[Ex.exit']⟩
 | goto j=>injection h1 with h1;subst h1;exact .inr ⟨hq,by simp[Ex.exit']⟩

theorem unblock_some {id:Nat} {r:EvR} {s:EvS} (h:unblock id r=some s) :
 ∃ q,r=some q∧q.F=s.F∧q.H=s.H∧((s.e = .normal∧(q.e = .normal∨q.e = .exit id))∨(s.e=q.e∧q.e ≠ .exit id)):=by
 obtain⟨q,hq,h1⟩:=oo_inv h
 obtain⟨e,F,H⟩:=q
 cases e with
 | normal=>injection h1 with h1;subst h1;exact⟨_,hq,rfl,rfl,.inl ⟨rfl,.inl rfl⟩⟩
 | ret=>injection h1 with h1;subst h1;exact⟨_,hq,rfl,rfl,.inr ⟨rfl,by simp⟩⟩
 | goto j=>injection h1 with h1;subst h1;exact⟨_,hq,rfl,rfl,.inr ⟨rfl,by simp⟩⟩
 | exit j =>
  have h1:bb (Nat.beq j id) (some ⟨.normal,F,H⟩) (some ⟨.exit j,F,H⟩)=some s:=h1
  rw[bb_eq] at h1
  split at h1
  ·rename_i hj
   have:=Nat.eq_of_beq_eq_true hj
   injection h1 with h1;subst h1;subst this
   exact⟨_,hq,rfl,rfl,.inl ⟨rfl,.inr rfl⟩⟩
  ·rename_i hj
   injection h1 with h1;subst h1
   exact⟨_,hq,rfl,rfl,.inr ⟨rfl,by intro e;injection e with e;subst e;simp at hj⟩⟩

def Jn (P:Program) (l:Nat) (rest:Code) (Q:Exit→Act→World→Prop):Nat→Act→World→Prop
 | 0,_,_=>False
 | n+1,a,w=>rest.wp P (Exit.jump l (Jn P l rest Q n) Q) a w

theorem wp_scope_n {P:Program} {c rest:Code} {l:Nat} {Q:Exit→Act→World→Prop} (hf:findLabel c l=some rest) (n:Nat) {a:Act} {w:World}
 (first:c.wp P (Exit.jump l (Jn P l rest Q n) Q) a w):(Code.scope c).wp P Q a w:=by
 intro b k cs
 have hg:gotoIn l (.inScope c::k)=some (.code rest :: .inScope c::k):=by simp[gotoIn,hf]
 have key:∀ n a w,Jn P l rest Q n a w→∃ e a' w',Q e a' w'∧Arrives P (lone (b.at a (.code rest :: .inScope c::k)) cs w) b k cs e a' w':=by
  intro n
  induction n with
  | zero=>intro a w h;exact h.elim
  | succ n ih =>
   intro a w h
   obtain⟨e,a1,w1,hq,harr⟩:=(show rest.wp P (Exit.jump l (Jn P l rest Q n) Q) a w from h) b (.inScope c::k) cs
   cases e with
   | normal=>exact⟨.normal,a1,w1,hq,Steps.trans harr (.one step_inScope)⟩
   | exit id=>exact⟨.exit id,a1,w1,hq,fun k' hk=>harr k' (by simp[exitTo,hk])⟩
   | goto l' =>
    obtain⟨rfl,hJ⟩:=hq
    obtain⟨e2,a2,w2,hq2,harr2⟩:=ih a1 w1 hJ
    exact⟨e2,a2,w2,hq2,.of_steps (harr _ hg) harr2⟩
   | ret=>exact⟨_,a1,w1,hq,harr⟩
   | panic ch=>exact⟨_,a1,w1,hq,harr⟩
   | outgrown=>exact⟨_,a1,w1,hq,harr⟩
 obtain⟨e,a1,w1,hq,harr⟩:=first b (.inScope c::k) cs
 cases e with
 | normal=>exact⟨.normal,a1,w1,hq,.head step_scope (Steps.trans harr (.one step_inScope))⟩
 | exit id=>exact⟨.exit id,a1,w1,hq,fun k' hk=>.head step_scope (harr k' (by simp[exitTo,hk]))⟩
 | goto l' =>
  obtain⟨rfl,hJ⟩:=hq
  obtain⟨e2,a2,w2,hq2,harr2⟩:=key _ a1 w1 hJ
  exact⟨e2,a2,w2,hq2,.of_steps (.head step_scope (harr _ hg)) harr2⟩
 | ret=>exact⟨_,a1,w1,hq,.of_steps (.one step_scope) harr⟩
 | panic ch=>exact⟨_,a1,w1,hq,.of_steps (.one step_scope) harr⟩
 | outgrown=>exact⟨_,a1,w1,hq,.of_steps (.one step_scope) harr⟩

theorem codeB_find {gl:List Nat} {c rest:Code} {l:Nat} (hf:findLabel c l=some rest) (h:codeB gl c=true):codeB gl rest=true:=by
 induction c generalizing rest with
 | seq a b iha ihb =>
  have h':an (codeB gl a) (codeB gl b)=true:=h
  rw[an_eq,Bool.and_eq_true] at h'
  unfold findLabel at hf
  cases ha:findLabel a l with
  | none=>rw[ha] at hf;exact ihb hf h'.2
  | some r =>
   rw[ha] at hf
   injection hf with hf;subst hf
   show an (codeB gl r) (codeB gl b)=true
   rw[an_eq,Bool.and_eq_true]
   exact⟨iha ha h'.1,h'.2⟩
 | label l' =>
  unfold findLabel at hf
  split at hf
  ·injection hf with hf;subst hf;rfl
  ·cases hf
 | _=>cases hf

section
variable {P:Program} {tt:TT} (hT:TOk P tt) {call:CallF} {gl:List Nat} (hc:CallOk P gl call) (hm:P.follows .mixedOrders=true)

def Goes (P:Program) (gl:List Nat) (c:Code) (run:Fr→AHeap→EvR):Prop:=
 ∀ (F : Fr) (H : AHeap) (R : Ren) (a : Act) (w : World) (s : EvS), run F H = some s → Sim H R w → GlR gl R → F.n = a.tmps.size → (∀ t, VR R (F.get t) (a.tmps.getD t undef)) →
  ∀ Q:Exit→Act→World→Prop,(∀ a' w' R',a'.defers=a.defers→a'.tmps.size=a.tmps.size→F.n=s.F.n→(∀ t,VR R' (s.F.get t) (a'.tmps.getD t undef))→Post H R w s.H R' w'→Q s.e.exit' a' w')→c.wp P Q a w

theorem evOps_n {os:List ROp} {F Ff:Fr} {H Hf:AHeap} (h:evOps tt call os F H=some (Ff,Hf)):F.n=Ff.n:=by
 induction os generalizing F H with
 | nil=>injection h with h;injection h with e1 e2;subst e1;rfl
 | cons r os ih =>
  rcases(evOps_cons h).2 with⟨_,v,H1,_,_,h1⟩ | ⟨_,h1⟩
  ·rw[←ih h1,Fr.n_put]
  ·rw[←ih h1,Fr.n_put]

theorem regR_some {r:Option (Fr×AHeap)} {s:EvS} (h:regR r=some s):r=some (s.F,s.H)∧s.e = .normal:=by
 obtain⟨p,hp,h1⟩:=oo_inv h
 rw[pp_eta] at h1
 injection h1 with h1;subst h1
 exact⟨hp,rfl⟩

include hT hc hm in
theorem evC_ok {c:Code} {rc:RC} (hcomp:Comp c rc) (fuel:Nat) (hok:codeB gl c=true):Goes P gl c (evC tt call fuel rc):=by
 induction hcomp with
 | skip =>
  intro F H R a w s h hs hgl hn ht Q hQ
  injection h with h;subst h
  exact wp_skip (hQ a w R rfl rfl rfl ht (.refl hs))
 | plain id ops =>
  intro F H R a w s h hs hgl hn ht Q hQ
  obtain⟨h1,he⟩:=regR_some h
  rw[he] at hQ
  refine wp_region ?_
  rw[List.range_eq_range']
  exact plain_ok hT hc (opsB_ok hok) ops.size 0 F H R a w (by omega) (by rw[List.drop_zero];exact h1) hs hgl hn ht fun a' w' R' k1 k2 k3 k4=>hQ a' w' R' k1 k2 (evOps_n h1) k3 k4
 | draw id hl =>
  intro F H R a w s h hs hgl hn ht Q hQ
  obtain⟨h1,he⟩:=regR_some h
  rw[he] at hQ
  exact draw_ok hT hc (opsB_ok hok) hl h1 hs hgl hn ht hm id fun a' w' R' k1 k2 k3 k4=>hQ a' w' R' k1 k2 (evOps_n h1) k3 k4
 | @seq ca cb x y ha hb iha ihb =>
  intro F H R a w s h hs hgl hn ht Q hQ
  have hok':an (codeB gl ca) (codeB gl cb)=true:=hok
  rw[an_eq,Bool.and_eq_true] at hok'
  refine wp_seq ?_
  rcases onNormal_some (show onNormal (evC tt call fuel x F H) (evC tt call fuel y)=some s from h) with⟨F1,H1,h1,h2⟩ | ⟨h1,hne⟩
  ·refine iha hok'.1 F H R a w _ h1 hs hgl hn ht _ fun a1 w1 R1 k1 k2 k3 k4 k5=>?_
   show (Code.wp P cb Q a1 w1)
   refine ihb hok'.2 F1 H1 R1 a1 w1 s h2 k5.sim (hgl.mono k5.le) (by rw[k2,←hn];exact k3.symm) k4 Q fun a2 w2 R2 j1 j2 j3 j4 j5=>hQ a2 w2 R2 (by rw[j1,k1]) (by rw[j2,k2]) (k3.trans j3) j4 (k5.trans j5 hs)
  ·refine iha hok'.1 F H R a w s h1 hs hgl hn ht _ fun a1 w1 R1 k1 k2 k3 k4 k5=>?_
   have:=hQ a1 w1 R1 k1 k2 k3 k4 k5
   revert this hne
   cases s.e <;> intro hne this
   ·exact absurd rfl hne
   ·exact this
   ·exact this
   ·exact this
 | @cond c ca cb x y ha hb iha ihb =>
  intro F H R a w s h hs hgl hn ht Q hQ
  have hok':an (opdB gl c) (an (codeB gl ca) (codeB gl cb))=true:=hok
  simp only[an_eq,Bool.and_eq_true] at hok'
  obtain⟨t,htb,h1⟩:=oo_inv (show oo (vBool (F.eval c)) none (fun t=>bb t (evC tt call fuel x F H) (evC tt call fuel y F H))=some s from h)
  have hv:=eval_VR hgl (opdB_ok hok'.1) (F:=F) (a:=a) fun t _=>ht t
  rw[vBool_some htb] at hv
  cases t with
  | true=>exact wp_cond_true hv.bool_l (iha hok'.2.1 F H R a w s h1 hs hgl hn ht Q hQ)
  | false=>exact wp_cond_false hv.bool_l (ihb hok'.2.2 F H R a w s h1 hs hgl hn ht Q hQ)
 | @block id cb y hb ihb =>
  intro F H R a w s h hs hgl hn ht Q hQ
  obtain⟨q,hq,e1,e2,e3⟩:=unblock_some (show unblock id (evC tt call fuel y F H)=some s from h)
  refine wp_block ?_
  refine ihb hok F H R a w q hq hs hgl hn ht _ fun a1 w1 R1 k1 k2 k3 k4 k5=>?_
  have:=hQ a1 w1 R1 k1 k2 (by rw[←e1];exact k3) (by rw[←e1];exact k4) (by rw[←e2];exact k5)
  rcases e3 with⟨h1,h2 | h2⟩ | ⟨h1,h2⟩
  ·rw[h1] at this;rw[h2];exact this
  ·rw[h1] at this;rw[h2];simpa [Exit.inBlock,Ex.exit'] using this
  ·rw[h1] at this
   revert this h2
   cases q.e with
   | normal=>intro this _;exact this
   | ret=>intro this _;exact this
   | goto j=>intro this _;exact this
   | exit j =>
    intro this h2
    have hji:j≠id:=fun e=>h2 (by rw[e])
    simpa [Exit.inBlock,Ex.exit',hji] using this
 | @loop cb y hb ihb =>
  intro F H R a w s h hs hgl hn ht Q hQ
  have h:evLoop (evC tt call fuel y) fuel F H=some s:=h
  refine wp_loop_rounds fuel ?_
  have key : ∀ n (F : Fr) (H : AHeap) (R : Ren) (a : Act) (w : World), evLoop (evC tt call fuel y) n F H = some s → Sim H R w → GlR gl R → F.n = a.tmps.size → (∀ t, VR R (F.get t) (a.tmps.getD t undef)) →
   (∀ a' w' R',a'.defers=a.defers→a'.tmps.size=a.tmps.size→F.n=s.F.n→(∀ t,VR R' (s.F.get t) (a'.tmps.getD t undef))→Post H R w s.H R' w'→Q s.e.exit' a' w')→Code.rounds P cb Q n a w:=by
   intro n
   induction n with
   | zero=>intro F H R a w h;cases h
   | succ n ih =>
    intro F H R a w h hs hgl hn ht hQ
    rw[rounds_succ]
    rcases onNormal_some (show onNormal (evC tt call fuel y F H) (evLoop (evC tt call fuel y) n)=some s from h) with⟨F1,H1,h1,h2⟩ | ⟨h1,hne⟩
    ·refine ihb hok F H R a w _ h1 hs hgl hn ht _ fun a1 w1 R1 k1 k2 k3 k4 k5=>?_
     exact ih F1 H1 R1 a1 w1 h2 k5.sim (hgl.mono k5.le) (by rw[k2,←hn];exact k3.symm) k4 fun a2 w2 R2 j1 j2 j3 j4 j5=>hQ a2 w2 R2 (by rw[j1,k1]) (by rw[j2,k2]) (k3.trans j3) j4 (k5.trans j5 hs)
    ·refine ihb hok F H R a w s h1 hs hgl hn ht _ fun a1 w1 R1 k1 k2 k3 k4 k5=>?_
     have:=hQ a1 w1 R1 k1 k2 k3 k4 k5
     revert this hne
     cases s.e <;> intro hne this
     ·exact absurd rfl hne
     ·exact this
     ·exact this
     ·exact this
  exact key fuel F H R a w h hs hgl hn ht hQ
 | exit id =>
  intro F H R a w s h hs hgl hn ht Q hQ
  injection h with h;subst h
  exact wp_exit (hQ a w R rfl rfl rfl ht (.refl hs))
 | ret =>
  intro F H R a w s h hs hgl hn ht Q hQ
  injection h with h;subst h
  exact wp_ret (hQ a w R rfl rfl rfl ht (.refl hs))
 | label l =>
  intro F H R a w s h hs hgl hn ht Q hQ
  injection h with h;subst h
  exact wp_label (hQ a w R rfl rfl rfl ht (.refl hs))
 | goto l =>
  intro F H R a w s h hs hgl hn ht Q hQ
  injection h with h;subst h
  exact wp_goto (hQ a w R rfl rfl rfl ht (.refl hs))
 | @scope cb rest x y l hb hf hr ihb ihr =>
  intro F H R a w s h hs hgl hn ht Q hQ
  have h:evScope l (evC tt call fuel y) fuel (evC tt call fuel x F H)=some s:=h
  have hokr:codeB gl rest=true:=codeB_find hf hok
  have key : ∀ (c : Code) (rc : RC), Goes P gl c (evC tt call fuel rc) → ∀ n (F : Fr) (H : AHeap) (R : Ren) (a : Act) (w : World), evScope l (evC tt call fuel y) (n + 1) (evC tt call fuel rc F H) = some s → Sim H R w → GlR gl R → F.n = a.tmps.size → (∀ t, VR R (F.get t) (a.tmps.getD t undef)) →
   (∀ a' w' R',a'.defers=a.defers→a'.tmps.size=a.tmps.size→F.n=s.F.n→(∀ t,VR R' (s.F.get t) (a'.tmps.getD t undef))→Post H R w s.H R' w'→Q s.e.exit' a' w')→c.wp P (Exit.jump l (Jn P l rest Q n) Q) a w:=by
   intro c rc hgo n
   induction n generalizing c rc with
   | zero =>
    intro F H R a w h hs hgl hn ht hQ
    obtain⟨q,hq,h1⟩:=oo_inv (show oo (evC tt call fuel rc F H) none _=some s from h)
    obtain⟨e,F1,H1⟩:=q
    refine hgo F H R a w _ hq hs hgl hn ht _ fun a1 w1 R1 k1 k2 k3 k4 k5=>?_
    cases e with
    | normal=>injection h1 with h1;subst h1;exact hQ a1 w1 R1 k1 k2 k3 k4 k5
    | exit j=>injection h1 with h1;subst h1;exact hQ a1 w1 R1 k1 k2 k3 k4 k5
    | ret=>injection h1 with h1;subst h1;exact hQ a1 w1 R1 k1 k2 k3 k4 k5
    | goto j =>
     have h1:bb (Nat.beq j l) none none=some s:=h1
     rw[bb_eq] at h1
     split at h1 <;> cases h1
   | succ n ih =>
    intro F H R a w h hs hgl hn ht hQ
    obtain⟨q,hq,h1⟩:=oo_inv (show oo (evC tt call fuel rc F H) none _=some s from h)
    obtain⟨e,F1,H1⟩:=q
    refine hgo F H R a w _ hq hs hgl hn ht _ fun a1 w1 R1 k1 k2 k3 k4 k5=>?_
    cases e with
    | normal=>injection h1 with h1;subst h1;exact hQ a1 w1 R1 k1 k2 k3 k4 k5
    | exit j=>injection h1 with h1;subst h1;exact hQ a1 w1 R1 k1 k2 k3 k4 k5
    | ret=>injection h1 with h1;subst h1;exact hQ a1 w1 R1 k1 k2 k3 k4 k5
    | goto j =>
     have h1:bb (Nat.beq j l) (evScope l (evC tt call fuel y) (n+1) (evC tt call fuel y F1 H1)) none=some s:=h1
     rw[bb_eq] at h1
     split at h1
     ·rename_i hj
      have:=Nat.eq_of_beq_eq_true hj
      refine⟨this,?_⟩
      exact ih rest y (ihr hokr) F1 H1 R1 a1 w1 h1 k5.sim (hgl.mono k5.le) (by rw[k2,←hn];exact k3.symm) k4 fun a2 w2 R2 j1 j2 j3 j4 j5=>hQ a2 w2 R2 (by rw[j1,k1]) (by rw[j2,k2]) (k3.trans j3) j4 (k5.trans j5 hs)
     ·cases h1
  cases fuel with
  | zero=>cases h
  | succ n=>exact wp_scope_n hf n (key cb x (ihb hok) n F H R a w h hs hgl hn ht hQ)
end
end Go.Sp
