/- Made from wip. -/
import Derived.Test.YtciohfkjabeooaaGreatDoorSpDraw5x
import Derived.LoopN
import Derived.ScopeJumps

namespace Go.Sp

def Ex.exit':Ex→Exit
 | .normal=>.normal
 | .exit id=>.exit id
 | .ret=>.ret
 | .goto l=>.goto l

noncomputable def Y9 (gl:List Nat) (x:Operand):Bool:=Operand.rec (motive:=fun _=>Bool) (fun _=>true) (fun v=>Ee v) (fun g=>ED g gl) (fun _=>true) x
noncomputable def qQ (gl:List Nat) (l:List Oper):Bool:=Au (fun o=>Au (Y9 gl) o.op.operands.toList) l
noncomputable def AU (gl:List Nat) (c:Code):Bool:=
 Code.rec (motive := fun _ => Bool) true (fun _ ops _ => qQ gl ops.toList) (fun _ _ a b => an a b) (fun x _ _ a b => an (Y9 gl x) (an a b)) (fun _ _ b => b) (fun _ b => b) (fun _ _ _ _ _ _ => false)
  (fun _=>true) (fun _ b=>b) (fun _=>true) (fun _=>true) true (fun _=>false) c

theorem M3 {gl:List Nat} {x:Operand} (h:Y9 gl x=true):CP gl x:=by
 cases x with
 | tmp=>trivial
 | const v=>exact h
 | global g=>exact CS.1 h
 | func=>trivial
theorem Jq {gl:List Nat} {ops:Array Oper} (h:qQ gl ops.toList=true):∀ o∈ops.toList,∀ x∈o.op.operands.toList,CP gl x:=fun o ho x hx=>by
 unfold qQ at h
 rw[Bh,List.all_eq_true] at h
 have:=h o ho
 rw[Bh,List.all_eq_true] at this
 exact M3 (this x hx)

theorem JI {r:Kl} {k:Fr→Aa→Kl} {s:EvS} (h:IK r k=some s) :
 (∃ F H,r=some ⟨.normal,F,H⟩∧k F H=some s)∨(r=some s∧s.e.exit' ≠ .normal):=by
 obtain⟨q,hq,h1⟩:=Ab h
 obtain⟨e,F,H⟩:=q
 cases e with
 | normal=>exact .inl ⟨F,H,hq,h1⟩
 | exit j=>injection h1 with h1;subst h1;exact .inr ⟨hq,by simp[Ex.exit']⟩
 | ret=>injection h1 with h1;subst h1;exact .inr ⟨hq,by simp[Ex.exit']⟩
 | goto j=>injection h1 with h1;subst h1;exact .inr ⟨hq,by simp[Ex.exit']⟩

theorem Rv {id:Nat} {r:Kl} {s:EvS} (h:Q4 id r=some s) :
 ∃ q,r=some q∧q.F=s.F∧q.H=s.H∧((s.e = .normal∧(q.e = .normal∨q.e = .exit id))∨(s.e=q.e∧q.e ≠ .exit id)):=by
 obtain⟨q,hq,h1⟩:=Ab h
 obtain⟨e,F,H⟩:=q
 cases e with
 | normal=>injection h1 with h1;subst h1;exact⟨_,hq,rfl,rfl,.inl ⟨rfl,.inl rfl⟩⟩
 | ret=>injection h1 with h1;subst h1;exact⟨_,hq,rfl,rfl,.inr ⟨rfl,by simp⟩⟩
 | goto j=>injection h1 with h1;subst h1;exact⟨_,hq,rfl,rfl,.inr ⟨rfl,by simp⟩⟩
 | exit j =>
  have h1:bb (Nat.beq j id) (some ⟨.normal,F,H⟩) (some ⟨.exit j,F,H⟩)=some s:=h1
  rw[BL] at h1
  split at h1
  ·rename_i hj
   have:=Nat.eq_of_beq_eq_true hj
   injection h1 with h1;subst h1;subst this
   exact⟨_,hq,rfl,rfl,.inl ⟨rfl,.inr rfl⟩⟩
  ·rename_i hj
   injection h1 with h1;subst h1
   exact⟨_,hq,rfl,rfl,.inr ⟨rfl,by intro e;injection e with e;subst e;simp at hj⟩⟩

def Jn (P:Program) (l:Nat) (rest:Code) (Q:Exit→Act→World→Prop):Nat→Act→World→Prop
 | 0,_,_=>False
 | n+1,a,w=>rest.wp P (Exit.jump l (Jn P l rest Q n) Q) a w

theorem NQ {P:Program} {c rest:Code} {l:Nat} {Q:Exit→Act→World→Prop} (hf:findLabel c l=some rest) (n:Nat) {a:Act} {w:World}
 (first:c.wp P (Exit.jump l (Jn P l rest Q n) Q) a w):(Code.scope c).wp P Q a w:=by
 intro b k cs
 have hg:gotoIn l (.inScope c::k)=some (.code rest :: .inScope c::k):=by simp[gotoIn,hf]
 have key:∀ n a w,Jn P l rest Q n a w→∃ e a' w',Q e a' w'∧Arrives P (lone (b.at a (.code rest :: .inScope c::k)) cs w) b k cs e a' w':=by
  intro n
  induction n with
  | zero=>intro a w h;exact h.elim
  | succ n ih =>
   intro a w h
   obtain⟨e,a1,w1,hq,harr⟩:=(show rest.wp P (Exit.jump l (Jn P l rest Q n) Q) a w from h) b (.inScope c::k) cs
   cases e with
   | normal=>exact⟨.normal,a1,w1,hq,Steps.trans harr (.one step_inScope)⟩
   | exit id=>exact⟨.exit id,a1,w1,hq,fun k' hk=>harr k' (by simp[exitTo,hk])⟩
   | goto l' =>
    obtain⟨rfl,hJ⟩:=hq
    obtain⟨e2,a2,w2,hq2,harr2⟩:=ih a1 w1 hJ
    exact⟨e2,a2,w2,hq2,.of_steps (harr _ hg) harr2⟩
   | ret=>exact⟨_,a1,w1,hq,harr⟩
   | panic ch=>exact⟨_,a1,w1,hq,harr⟩
   | outgrown=>exact⟨_,a1,w1,hq,harr⟩
 obtain⟨e,a1,w1,hq,harr⟩:=first b (.inScope c::k) cs
 cases e with
 | normal=>exact⟨.normal,a1,w1,hq,.head step_scope (Steps.trans harr (.one step_inScope))⟩
 | exit id=>exact⟨.exit id,a1,w1,hq,fun k' hk=>.head step_scope (harr k' (by simp[exitTo,hk]))⟩
 | goto l' =>
  obtain⟨rfl,hJ⟩:=hq
  obtain⟨e2,a2,w2,hq2,harr2⟩:=key _ a1 w1 hJ
  exact⟨e2,a2,w2,hq2,.of_steps (.head step_scope (harr _ hg)) harr2⟩
 | ret=>exact⟨_,a1,w1,hq,.of_steps (.one step_scope) harr⟩
 | panic ch=>exact⟨_,a1,w1,hq,.of_steps (.one step_scope) harr⟩
 | outgrown=>exact⟨_,a1,w1,hq,.of_steps (.one step_scope) harr⟩

theorem NR {gl:List Nat} {c rest:Code} {l:Nat} (hf:findLabel c l=some rest) (h:AU gl c=true):AU gl rest=true:=by
 induction c generalizing rest with
 | seq a b iha ihb =>
  have h':an (AU gl a) (AU gl b)=true:=h
  rw[CF,Bool.and_eq_true] at h'
  unfold findLabel at hf
  cases ha:findLabel a l with
  | none=>rw[ha] at hf;exact ihb hf h'.2
  | some r =>
   rw[ha] at hf
   injection hf with hf;subst hf
   show an (AU gl r) (AU gl b)=true
   rw[CF,Bool.and_eq_true]
   exact⟨iha ha h'.1,h'.2⟩
 | label l' =>
  unfold findLabel at hf
  split at hf
  ·injection hf with hf;subst hf;rfl
  ·cases hf
 | _=>cases hf

section
variable {P:Program} {tt:TT} (hT:Jm P tt) {call:A8} {gl:List Nat} (hc:CO P gl call) (hm:P.follows .mixedOrders=true)

def Goes (P:Program) (gl:List Nat) (c:Code) (run:Fr→Aa→Kl):Prop:=
 ∀ (F : Fr) (H : Aa) (R : Ren) (a : Act) (w : World) (s : EvS), run F H = some s → Ck H R w → JH gl R → F.n = a.tmps.size → (∀ t, VR R (F.get t) (a.tmps.getD t undef)) →
  ∀ Q:Exit→Act→World→Prop,(∀ a' w' R',a'.defers=a.defers→a'.tmps.size=a.tmps.size→F.n=s.F.n→(∀ t,VR R' (s.F.get t) (a'.tmps.getD t undef))→Ba H R w s.H R' w'→Q s.e.exit' a' w')→c.wp P Q a w

theorem Ik {os:List Fs} {F Ff:Fr} {H Hf:Aa} (h:BD tt call os F H=some (Ff,Hf)):F.n=Ff.n:=by
 induction os generalizing F H with
 | nil=>injection h with h;injection h with e1 e2;subst e1;rfl
 | cons r os ih =>
  rcases(Gc h).2 with⟨_,v,H1,_,_,h1⟩ | ⟨_,h1⟩
  ·rw[←ih h1,Fr.n_put]
  ·rw[←ih h1,Fr.n_put]

theorem Qc {r:Option (Fr×Aa)} {s:EvS} (h:Ab2 r=some s):r=some (s.F,s.H)∧s.e = .normal:=by
 obtain⟨p,hp,h1⟩:=Ab h
 rw[Bg] at h1
 injection h1 with h1;subst h1
 exact⟨hp,rfl⟩

include hT hc hm in
theorem aX {c:Code} {rc:RC} (hcomp:Fx c rc) (fuel:Nat) (hok:AU gl c=true):Goes P gl c (MZ tt call fuel rc):=by
 induction hcomp with
 | skip =>
  intro F H R a w s h hs hgl hn ht Q hQ
  injection h with h;subst h
  exact wp_skip (hQ a w R rfl rfl rfl ht (.refl hs))
 | plain id ops =>
  intro F H R a w s h hs hgl hn ht Q hQ
  obtain⟨h1,he⟩:=Qc h
  rw[he] at hQ
  refine wp_region ?_
  rw[List.range_eq_range']
  exact Ky hT hc (Jq hok) ops.size 0 F H R a w (by omega) (by rw[List.drop_zero];exact h1) hs hgl hn ht fun a' w' R' k1 k2 k3 k4=>hQ a' w' R' k1 k2 (Ik h1) k3 k4
 | draw id hl =>
  intro F H R a w s h hs hgl hn ht Q hQ
  obtain⟨h1,he⟩:=Qc h
  rw[he] at hQ
  exact XC hT hc (Jq hok) hl h1 hs hgl hn ht hm id fun a' w' R' k1 k2 k3 k4=>hQ a' w' R' k1 k2 (Ik h1) k3 k4
 | @seq ca cb x y ha hb iha ihb =>
  intro F H R a w s h hs hgl hn ht Q hQ
  have hok':an (AU gl ca) (AU gl cb)=true:=hok
  rw[CF,Bool.and_eq_true] at hok'
  refine wp_seq ?_
  rcases JI (show IK (MZ tt call fuel x F H) (MZ tt call fuel y)=some s from h) with⟨F1,H1,h1,h2⟩ | ⟨h1,hne⟩
  ·refine iha hok'.1 F H R a w _ h1 hs hgl hn ht _ fun a1 w1 R1 k1 k2 k3 k4 k5=>?_
   show (Code.wp P cb Q a1 w1)
   refine ihb hok'.2 F1 H1 R1 a1 w1 s h2 k5.sim (hgl.mono k5.le) (by rw[k2,←hn];exact k3.symm) k4 Q fun a2 w2 R2 j1 j2 j3 j4 j5=>hQ a2 w2 R2 (by rw[j1,k1]) (by rw[j2,k2]) (k3.trans j3) j4 (k5.trans j5 hs)
  ·refine iha hok'.1 F H R a w s h1 hs hgl hn ht _ fun a1 w1 R1 k1 k2 k3 k4 k5=>?_
   have:=hQ a1 w1 R1 k1 k2 k3 k4 k5
   revert this hne
   cases s.e <;> intro hne this
   ·exact absurd rfl hne
   ·exact this
   ·exact this
   ·exact this
 | @cond c ca cb x y ha hb iha ihb =>
  intro F H R a w s h hs hgl hn ht Q hQ
  have hok':an (Y9 gl c) (an (AU gl ca) (AU gl cb))=true:=hok
  simp only[CF,Bool.and_eq_true] at hok'
  obtain⟨t,htb,h1⟩:=Ab (show oo (Bf (F.eval c)) none (fun t=>bb t (MZ tt call fuel x F H) (MZ tt call fuel y F H))=some s from h)
  have hv:=GQ hgl (M3 hok'.1) (F:=F) (a:=a) fun t _=>ht t
  rw[BV htb] at hv
  cases t with
  | true=>exact wp_cond_true hv.bool_l (iha hok'.2.1 F H R a w s h1 hs hgl hn ht Q hQ)
  | false=>exact wp_cond_false hv.bool_l (ihb hok'.2.2 F H R a w s h1 hs hgl hn ht Q hQ)
 | @block id cb y hb ihb =>
  intro F H R a w s h hs hgl hn ht Q hQ
  obtain⟨q,hq,e1,e2,e3⟩:=Rv (show Q4 id (MZ tt call fuel y F H)=some s from h)
  refine wp_block ?_
  refine ihb hok F H R a w q hq hs hgl hn ht _ fun a1 w1 R1 k1 k2 k3 k4 k5=>?_
  have:=hQ a1 w1 R1 k1 k2 (by rw[←e1];exact k3) (by rw[←e1];exact k4) (by rw[←e2];exact k5)
  rcases e3 with⟨h1,h2 | h2⟩ | ⟨h1,h2⟩
  ·rw[h1] at this;rw[h2];exact this
  ·rw[h1] at this;rw[h2];simpa [Exit.inBlock,Ex.exit'] using this
  ·rw[h1] at this
   revert this h2
   cases q.e with
   | normal=>intro this _;exact this
   | ret=>intro this _;exact this
   | goto j=>intro this _;exact this
   | exit j =>
    intro this h2
    have hji:j≠id:=fun e=>h2 (by rw[e])
    simpa [Exit.inBlock,Ex.exit',hji] using this
 | @loop cb y hb ihb =>
  intro F H R a w s h hs hgl hn ht Q hQ
  have h:Q5 (MZ tt call fuel y) fuel F H=some s:=h
  refine wp_loop_rounds fuel ?_
  have key : ∀ n (F : Fr) (H : Aa) (R : Ren) (a : Act) (w : World), Q5 (MZ tt call fuel y) n F H = some s → Ck H R w → JH gl R → F.n = a.tmps.size → (∀ t, VR R (F.get t) (a.tmps.getD t undef)) →
   (∀ a' w' R',a'.defers=a.defers→a'.tmps.size=a.tmps.size→F.n=s.F.n→(∀ t,VR R' (s.F.get t) (a'.tmps.getD t undef))→Ba H R w s.H R' w'→Q s.e.exit' a' w')→Code.rounds P cb Q n a w:=by
   intro n
   induction n with
   | zero=>intro F H R a w h;cases h
   | succ n ih =>
    intro F H R a w h hs hgl hn ht hQ
    rw[rounds_succ]
    rcases JI (show IK (MZ tt call fuel y F H) (Q5 (MZ tt call fuel y) n)=some s from h) with⟨F1,H1,h1,h2⟩ | ⟨h1,hne⟩
    ·refine ihb hok F H R a w _ h1 hs hgl hn ht _ fun a1 w1 R1 k1 k2 k3 k4 k5=>?_
     exact ih F1 H1 R1 a1 w1 h2 k5.sim (hgl.mono k5.le) (by rw[k2,←hn];exact k3.symm) k4 fun a2 w2 R2 j1 j2 j3 j4 j5=>hQ a2 w2 R2 (by rw[j1,k1]) (by rw[j2,k2]) (k3.trans j3) j4 (k5.trans j5 hs)
    ·refine ihb hok F H R a w s h1 hs hgl hn ht _ fun a1 w1 R1 k1 k2 k3 k4 k5=>?_
     have:=hQ a1 w1 R1 k1 k2 k3 k4 k5
     revert this hne
     cases s.e <;> intro hne this
     ·exact absurd rfl hne
     ·exact this
     ·exact this
     ·exact this
  exact key fuel F H R a w h hs hgl hn ht hQ
 | exit id =>
  intro F H R a w s h hs hgl hn ht Q hQ
  injection h with h;subst h
  exact wp_exit (hQ a w R rfl rfl rfl ht (.refl hs))
 | ret =>
  intro F H R a w s h hs hgl hn ht Q hQ
  injection h with h;subst h
  exact wp_ret (hQ a w R rfl rfl rfl ht (.refl hs))
 | label l =>
  intro F H R a w s h hs hgl hn ht Q hQ
  injection h with h;subst h
  exact wp_label (hQ a w R rfl rfl rfl ht (.refl hs))
 | goto l =>
  intro F H R a w s h hs hgl hn ht Q hQ
  injection h with h;subst h
  exact wp_goto (hQ a w R rfl rfl rfl ht (.refl hs))
 | @scope cb rest x y l hb hf hr ihb ihr =>
  intro F H R a w s h hs hgl hn ht Q hQ
  have h:MX l (MZ tt call fuel y) fuel (MZ tt call fuel x F H)=some s:=h
  have hokr:AU gl rest=true:=NR hf hok
  have key : ∀ (c : Code) (rc : RC), Goes P gl c (MZ tt call fuel rc) → ∀ n (F : Fr) (H : Aa) (R : Ren) (a : Act) (w : World), MX l (MZ tt call fuel y) (n + 1) (MZ tt call fuel rc F H) = some s → Ck H R w → JH gl R → F.n = a.tmps.size → (∀ t, VR R (F.get t) (a.tmps.getD t undef)) →
   (∀ a' w' R',a'.defers=a.defers→a'.tmps.size=a.tmps.size→F.n=s.F.n→(∀ t,VR R' (s.F.get t) (a'.tmps.getD t undef))→Ba H R w s.H R' w'→Q s.e.exit' a' w')→c.wp P (Exit.jump l (Jn P l rest Q n) Q) a w:=by
   intro c rc hgo n
   induction n generalizing c rc with
   | zero =>
    intro F H R a w h hs hgl hn ht hQ
    obtain⟨q,hq,h1⟩:=Ab (show oo (MZ tt call fuel rc F H) none _=some s from h)
    obtain⟨e,F1,H1⟩:=q
    refine hgo F H R a w _ hq hs hgl hn ht _ fun a1 w1 R1 k1 k2 k3 k4 k5=>?_
    cases e with
    | normal=>injection h1 with h1;subst h1;exact hQ a1 w1 R1 k1 k2 k3 k4 k5
    | exit j=>injection h1 with h1;subst h1;exact hQ a1 w1 R1 k1 k2 k3 k4 k5
    | ret=>injection h1 with h1;subst h1;exact hQ a1 w1 R1 k1 k2 k3 k4 k5
    | goto j =>
     have h1:bb (Nat.beq j l) none none=some s:=h1
     rw[BL] at h1
     split at h1 <;> cases h1
   | succ n ih =>
    intro F H R a w h hs hgl hn ht hQ
    obtain⟨q,hq,h1⟩:=Ab (show oo (MZ tt call fuel rc F H) none _=some s from h)
    obtain⟨e,F1,H1⟩:=q
    refine hgo F H R a w _ hq hs hgl hn ht _ fun a1 w1 R1 k1 k2 k3 k4 k5=>?_
    cases e with
    | normal=>injection h1 with h1;subst h1;exact hQ a1 w1 R1 k1 k2 k3 k4 k5
    | exit j=>injection h1 with h1;subst h1;exact hQ a1 w1 R1 k1 k2 k3 k4 k5
    | ret=>injection h1 with h1;subst h1;exact hQ a1 w1 R1 k1 k2 k3 k4 k5
    | goto j =>
     have h1:bb (Nat.beq j l) (MX l (MZ tt call fuel y) (n+1) (MZ tt call fuel y F1 H1)) none=some s:=h1
     rw[BL] at h1
     split at h1
     ·rename_i hj
      have:=Nat.eq_of_beq_eq_true hj
      refine⟨this,?_⟩
      exact ih rest y (ihr hokr) F1 H1 R1 a1 w1 h1 k5.sim (hgl.mono k5.le) (by rw[k2,←hn];exact k3.symm) k4 fun a2 w2 R2 j1 j2 j3 j4 j5=>hQ a2 w2 R2 (by rw[j1,k1]) (by rw[j2,k2]) (k3.trans j3) j4 (k5.trans j5 hs)
     ·cases h1
  cases fuel with
  | zero=>cases h
  | succ n=>exact NQ hf n (key cb x (ihb hok) n F H R a w h hs hgl hn ht hQ)
end
end Go.Sp
