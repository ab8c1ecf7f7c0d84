/- Regions that may be run in any order. -/
import Derived.Test.YtciohfkjabeooaaGreatDoorSpFramex
import Derived.Orders

namespace Go.Sp

theorem Ba.absPush {H0 H:Aa} {R0 R:Ren} {w0 w:World} (hp:Ba H0 R0 w0 H R w) {obj:AJ} (hanc:obj.ancOf=[]):Ba H0 R0 w0 (H.push obj) R w:=by
 have hs:=hp.sim
 have hget:∀ id,id < H.next→(H.push obj).get id=H.get id:=fun id h=>by rw[Aa.get_push,if_neg (by omega)]
 refine⟨hp.le,hp.new,⟨?_,?_,?_,?_,hs.wf.push obj,fun c C hc=>⟨(hs.ro c C hc).1,fun id β h=>by rw[hget id (hs.dom id c β h).1];exact(hs.ro c C hc).2 id β h⟩⟩,by have:=hp.next;simp;omega,hp.grow,hp.frame,?_,?_,hp.fresh,hp.side,hp.rofresh⟩
 ·intro id c β h;have:=hs.dom id c β h;simp;omega
 ·intro id c β h;rw[hget id (hs.dom id c β h).1];exact hs.obj id c β h
 ·intro id c β id' β' h h' hne hw
  rw[hget id (hs.dom id c β h).1] at hw ⊢
  rw [hget id' (hs.dom id' c β' h').1]
  exact hs.sep id c β id' β' h h' hne hw
 ·intro id a ha
  have key:a < H.next∧(H.get a).immB=false∧(H.get a).writable=false:=by
   rw[Aa.get_push] at ha
   split at ha
   ·rw[hanc] at ha;cases ha
   ·exact hs.anc id a ha
  rw[hget a key.1]
  exact⟨by simp;omega,key.2⟩
 ·intro id hid hr;rw[hget id (Nat.lt_of_lt_of_le hid hp.next)];exact hp.calm id hid hr
 ·intro id hid him;rw[hget id (Nat.lt_of_lt_of_le hid hp.next)];exact hp.imm id hid him

theorem Ba.ext_le {H0 H:Aa} {R0 R:Ren} {w0 w:World} (hp:Ba H0 R0 w0 H R w) {k n:Nat} (hR:R.f k=none):R.le (R.ext k w.heap.size 0 n):=⟨fun id c β h=>by
 have hd:=hp.sim.dom id c β h
 have hne:id≠k:=fun e=>by rw[e,hR] at h;cases h
 refine⟨?_,?_⟩
 ·rw[Ren.ext_other _ hne];exact h
 ·simp[Ren.ext];omega,fun _ _ h=>h⟩

theorem Ba.concrete {H0 H:Aa} {R0 R:Ren} {w0 w:World} (hp:Ba H0 R0 w0 H R w) {k:Nat} (hk:k < H.next) (hmin:H0.next≤k) (hR:R.f k=none) {ob:Obj} {n:Nat} (hob:Rl ob)
 (hobj:∀ Q,R.le Q→Q.f k=some (w.heap.size,0)→Q.sz w.heap.size=n→FH Q (H.get k) w.heap.size 0 (some ob)) :
 R.le (R.ext k w.heap.size 0 n)∧Ba H0 R0 w0 H (R.ext k w.heap.size 0 n) (w.alloc ob):=by
 have hs:=hp.sim
 have hne:∀ id p,R.f id=some p→id≠k:=fun id p h e=>by rw[e,hR] at h;cases h
 have hle:R.le (R.ext k w.heap.size 0 n):=⟨fun id c β h=>by
  have hd:=hs.dom id c β h
  refine⟨?_,?_⟩
  ·rw[Ren.ext_other _ (hne id _ h)];exact h
  ·simp[Ren.ext];omega,fun _ _ h=>h⟩
 have back:∀ id p,(R.ext k w.heap.size 0 n).f id=some p→(id=k∧p=(w.heap.size,0))∨(id≠k∧R.f id=some p):=fun id p h=>by
  by_cases hid:id=k
  ·subst hid;rw[Ren.ext_new] at h;exact .inl ⟨rfl,by injection h with h;exact h.symm⟩
  ·rw[Ren.ext_other _ hid] at h;exact .inr ⟨hid,h⟩
 have hR0:R0.f k=none:=by
  cases h:R0.f k with
  | none=>rfl
  | some p=>have:=(hp.le k p.1 p.2 h).1;rw[hR] at this;cases this
 refine⟨hle,⟨fun id c β h=>?_,hp.le.ro⟩,?_,⟨?_,?_,?_,hs.anc,hs.wf,fun c C hc=>?_⟩,hp.next,by have:=hp.grow;simp;omega,?_,hp.calm,hp.imm,?_,⟨hp.side.1,hp.side.2.1,fun a ha=>(Kr w hob a).trans (hp.side.2.2 a ha)⟩,hp.rofresh⟩
 ·have h1:=hp.le id c β h
  have h2:=hle id c β h1.1
  exact⟨h2.1,h2.2.trans h1.2⟩
 ·intro id p h
  rcases back id p h with⟨rfl,_⟩ | ⟨_,h1⟩
  ·exact .inr ⟨hR0,hmin⟩
  ·exact hp.new id p h1
 ·intro id c β h
  rcases back id _ h with⟨rfl,e⟩ | ⟨_,h1⟩
  ·cases e;simp;exact hk
  ·have:=hs.dom id c β h1;simp;omega
 ·intro id c β h
  rcases back id _ h with⟨rfl,e⟩ | ⟨_,h1⟩
  ·cases e
   rw[JB]
   exact hobj _ hle (Ren.ext_new _ _ _ _ _) (Ren.ext_sz _ _ _ _ _)
  ·rw[DF _ _ (hs.dom id c β h1).2]
   exact(hs.obj id c β h1).mono hle (hle id c β h1).2
 ·intro id c β id' β' h h' hne' hw
  rcases back id _ h with⟨rfl,e⟩ | ⟨_,h1⟩
  ·cases e
   rcases back id' _ h' with⟨rfl,_⟩ | ⟨_,h1'⟩
   ·exact absurd rfl hne'
   ·have:=(hs.dom id' _ _ h1').2;omega
  ·rcases back id' _ h' with⟨rfl,e⟩ | ⟨_,h1'⟩
   ·cases e;have:=(hs.dom id _ _ h1).2;omega
   ·exact hs.sep id c β id' β' h1 h1' hne' hw
 ·obtain⟨⟨t,fz,h1⟩,h2⟩:=hs.ro c C hc
  have hlt:=(Array.getElem?_eq_some_iff.1 h1).1
  refine⟨⟨t,fz,by rw[DF _ _ hlt];exact h1⟩,fun id β h=>?_⟩
  rcases back id _ h with⟨rfl,e⟩ | ⟨_,h3⟩
  ·cases e;omega
  ·exact h2 id β h3
 ·intro c hc hall
  rw[DF _ _ (Nat.lt_of_lt_of_le hc hp.grow)]
  exact hp.frame c hc hall
 ·intro id c β h hr
  rcases back id _ h with⟨rfl,e⟩ | ⟨_,h1⟩
  ·cases e;exact .inl hp.grow
  ·exact hp.fresh id c β h1 hr

theorem NN {op:Op} {x:Operand} (h:x∈Ea op):x∈op.operands.toList:=by
 cases op <;> simp only[Ea] at h <;> first | (cases h;done) | skip
 case load t a=>simpa [Op.operands] using h
 case lookup t m k ok=>simp at h;subst h;simp[Op.operands]
 case slice t y lo hi mx=>simp at h;subst h;simp[Op.operands]
 case call c=>
  obtain⟨cal,args,ts⟩:=c
  cases cal with
  | value=>cases h
  | invoke=>cases h
  | builtin b =>
   cases b <;> simp only[Ea] at h <;> first | (cases h;done) | skip
   simp only[Op.operands,Call.operands]
   simpa using h

theorem FT {ops:List Oper} {o:Oper} {W:List Operand} {F F':Fr} (h:∀ t∈Dv ops o,F'.get t=F.get t):(Ct ops o W).wanted F'=(Ct ops o W).wanted F:=by
 unfold Fs.wanted Ct
 cases hg:o.guard with
 | none=>rfl
 | some p =>
  obtain⟨j,want⟩:=p
  simp only[Ac,GJ]
  have hgd:jG ops o=Tz ops j:=by unfold jG;rw[hg,Ac,GJ]
  cases hd:Tz ops j with
  | none=>rfl
  | some t=>rw[Ac,Ac,h t (GR (by rw[hgd,hd]))]
theorem Ij {ops:List Oper} {o:Oper} {W:List Operand} {F F':Fr} (h:∀ t∈Dv ops o,F'.get t=F.get t):(Ct ops o W).gdOk F'=(Ct ops o W).gdOk F:=by
 unfold Fs.gdOk Ct
 cases hg:o.guard with
 | none=>rfl
 | some p =>
  obtain⟨j,want⟩:=p
  simp only[Ac,GJ]
  have hgd:jG ops o=Tz ops j:=by unfold jG;rw[hg,Ac,GJ]
  cases hd:Tz ops j with
  | none=>rfl
  | some t=>rw[Ac,Ac,h t (GR (by rw[hgd,hd]))]
theorem J5 {ops:List Oper} {o:Oper} {F F':Fr} (h:∀ t∈Dv ops o,F'.get t=F.get t) {x:Operand} (hx:x∈o.op.operands.toList):F'.eval x=F.eval x:=by
 cases x with
 | tmp t=>exact h t (G8 hx)
 | const v=>rfl
 | global g=>rfl
 | func f=>rfl

inductive El (P : Program) (tt : TT) (call : A8) (ops : Array Oper) (base : Nat) (F : Fr) (H : Aa) (R : Ren) (o : Oper) : Option Nat → Prop
 | skip (hw:(Ct ops.toList o []).gdOk F=true∧(Ct ops.toList o []).wanted F=false) (hv:∀ d,o.dst=some d→d < F.n→F.get d=undef):El P tt call ops base F H R o none
 | quiet {ρ : Operand → Value} {v : Value} (hw : (Ct ops.toList o []).gdOk F = true ∧ (Ct ops.toList o []).wanted F = true) (hρ : ∀ x ∈ o.op.operands.toList, ρ x = F.eval x) (hq : Ie o.op = false) (hn : aQ o.op = false)
  (h:S9 o.op tt call ρ H=some (v,H)) (hv:∀ d,o.dst=some d→d < F.n→F.get d=v):El P tt call ops base F H R o none
 | new {ρ : Operand → Value} {V : Nat → Value} {obj : AJ} {id : Nat} (hw : (Ct ops.toList o []).gdOk F = true ∧ (Ct ops.toList o []).wanted F = true) (hρ : ∀ x ∈ o.op.operands.toList, ρ x = F.eval x)
  (hl:Xx P o ρ V obj) (hid:id < H.next) (hmin:base≤id) (hR:R.f id=none) (hobj:∀ Q c β ob,FH Q obj c β ob→FH Q (H.get id) c β ob)
  (hv:∀ d,o.dst=some d→d < F.n→F.get d=V id):El P tt call ops base F H R o (some id)

section
variable {P:Program} {tt:TT} {call:A8} {ops:Array Oper} {base:Nat} {F F':Fr} {H H':Aa} {R R':Ren} {o:Oper} {q:Option Nat}

theorem El.frame (h:El P tt call ops base F H R o q) (hF:∀ t∈Dv ops.toList o,F'.get t=F.get t) (hd:∀ d,o.dst=some d→F'.get d=F.get d) (hn:F'.n=F.n):El P tt call ops base F' H R o q:=by
 cases h with
 | skip hw hv=>exact .skip ⟨by rw[Ij hF];exact hw.1,by rw[FT hF];exact hw.2⟩ fun d h1 h2=>by rw[hd d h1];exact hv d h1 (hn ▸ h2)
 | quiet hw hρ hq hnb h hv=>exact .quiet ⟨by rw[Ij hF];exact hw.1,by rw[FT hF];exact hw.2⟩ (fun x hx=>by rw[J5 hF hx];exact hρ x hx) hq hnb h fun d h1 h2=>by rw[hd d h1];exact hv d h1 (hn ▸ h2)
 | new hw hρ hl hid hmin hR hobj hv=>exact .new ⟨by rw[Ij hF];exact hw.1,by rw[FT hF];exact hw.2⟩ (fun x hx=>by rw[J5 hF hx];exact hρ x hx) hl hid hmin hR hobj fun d h1 h2=>by rw[hd d h1];exact hv d h1 (hn ▸ h2)

theorem El.heap (h:El P tt call ops base F H R o q) (hsame:∀ x∈Ea o.op,Same H H' (F.eval x)) (hnx:H.next≤H'.next)
 (hcalm:∀ id,q=some id→id < H.next→R.f id=none→∀ (Q:Ren) (c β:Nat) (ob:Option Obj),FH Q (H.get id) c β ob→FH Q (H'.get id) c β ob) (hR':∀ id,q=some id→id < H.next→R.f id=none→R'.f id=none):El P tt call ops base F H' R' o q:=by
 cases h with
 | skip hw hv=>exact .skip hw hv
 | quiet hw hρ hq hnb h hv =>
  refine .quiet hw hρ hq hnb ((NK hq hnb h).2 H' fun x hx=>?_) hv
  rw[hρ x (NN hx)];exact hsame x hx
 | new hw hρ hl hid hmin hR hobj hv =>
  exact .new hw hρ hl (Nat.lt_of_lt_of_le hid hnx) hmin (hR' _ rfl hid hR) (fun Q c β ob h1=>hcalm _ rfl hid hR Q c β ob (hobj Q c β ob h1)) hv
end
end Go.Sp
namespace Go.Sp

noncomputable def Ru (ops:Array Oper) (p:Nat×List Operand):Fs:=((ops[p.1]?).map fun o=>Ct ops.toList o p.2).getD ⟨none,.alloc 0,0,none,[]⟩
theorem Qa {ops:Array Oper} {p:Nat×List Operand} {o:Oper} (h:ops[p.1]?=some o):Ru ops p=Ct ops.toList o p.2:=by unfold Ru;rw[h];rfl

theorem Ci (F:Fr) {d:Option Nat} {v:Value} {t:Nat} (h:d=some t→F.n≤t):(F.put d v).get t=F.get t:=by
 cases d with
 | none=>rfl
 | some d =>
  rw[Fr.get_put,if_neg]
  rintro⟨rfl,h2⟩
  have:=h rfl;omega

structure Fy (P : Program) (tt : TT) (call : A8) (ops : Array Oper) (ows : List (Nat × List Operand)) (H0 : Aa) (R0 : Ren) (w0 : World) (Ff : Fr) (Hf : Aa) (d0 : List Deferred) (m0 : Nat)
 (listed:Array Bool) (done rest:List (Nat×List Operand)) (F:Fr) (H:Aa) (R:Ren) (a:Act) (w:World) (idOf:Nat→Option Nat):Prop where
 split:ows=done++rest
 lsize:listed.size=ops.size
 run:BD tt call (rest.map (Ru ops)) F H=some (Ff,Hf)
 n:F.n=a.tmps.size
 size:a.tmps.size=m0
 defers:a.defers=d0
 post:Ba H0 R0 w0 H R w
 unl:∀ i∈rest.map (·.1),listed[i]?=some false
 closed:∀ (i:Nat),listed[i]?=some true→∀ o,ops[i]?=some o→∀ k∈CL o,listed[k]?=some true
 pend:∀ i∈done.map (·.1),listed[i]?=some false→∀ o,ops[i]?=some o→Ie o.op=false∧El P tt call ops H0.next F H R o (idOf i)
 ids:∀ (i j:Nat),i∈done.map (·.1)→j∈done.map (·.1)→listed[i]?=some false→listed[j]?=some false→i≠j→∀ id,idOf i=some id→idOf j≠some id
 temps:∀ (t:Nat),(∀ i∈done.map (·.1),listed[i]?=some false→∀ o,ops[i]?=some o→o.dst=some t→F.n≤t)→VR R (F.get t) (a.tmps.getD t undef)

section
variable {P : Program} {tt : TT} (hT : Jm P tt) {call : A8} {gl : List Nat} (hc : CO P gl call) {ops : Array Oper} {ows : List (Nat × List Operand)} (hreg : TB ops ows)
 (hop:∀ o∈ops.toList,∀ x∈o.op.operands.toList,CP gl x) {H0:Aa} {R0:Ren} {w0:World} {Ff:Fr} {Hf:Aa} {d0:List Deferred} {m0:Nat} (hs0:Ck H0 R0 w0) (hgl:JH gl R0)
 {listed:Array Bool} {done rest:List (Nat×List Operand)} {F:Fr} {H:Aa} {R:Ren} {a:Act} {w:World} {idOf:Nat→Option Nat} {x:Nat×List Operand}

theorem El.id_lt {base:Nat} {o:Oper} {id:Nat} (h:El P tt call ops base F H R o (some id)):id < H.next:=by cases h;assumption
include hreg in
theorem Fy.stepOk (inv:Fy P tt call ops ows H0 R0 w0 Ff Hf d0 m0 listed done (x::rest) F H R a w idOf):∃ o,Ro ops (done.map (·.1)) x.1 x.2 o:=hreg.step done x rest inv.split

include hT hreg in
theorem Fy.advance (inv:Fy P tt call ops ows H0 R0 w0 Ff Hf d0 m0 listed done (x::rest) F H R a w idOf) {o:Oper} (ho:ops[x.1]?=some o) (hq:Ie o.op=false) :
 ∃ F' H' idOf',Fy P tt call ops ows H0 R0 w0 Ff Hf d0 m0 listed (done++[x]) rest F' H' R a w idOf':=by
 obtain⟨o',hst⟩:=inv.stepOk hreg
 have:=hst.here;rw[ho] at this;injection this with this;subst this
 have hrun:=inv.run
 rw[List.map_cons,Qa ho] at hrun
 have hxl:listed[x.1]?=some false:=inv.unl x.1 (by simp)
 have hname:∀ j∈done.map (·.1),∀ oj,ops[j]?=some oj→∀ t∈Dv ops.toList oj,o.dst≠some t:=fun j hj oj hoj t ht e=>by
  have:=(hst.wr j hj oj hoj t e ht).1;rw[hq] at this;cases this
 have hdst:∀ j∈done.map (·.1),∀ oj,ops[j]?=some oj→∀ t,oj.dst=some t→o.dst≠some t:=fun j hj oj hoj t ht=>(hst.dsts j hj oj hoj t ht).1
 have hself:∀ t∈Dv ops.toList o,o.dst≠some t:=fun t ht e=>hst.self hq t e ht
 have hfr:∀ (v:Value) j,j∈done.map (·.1)→∀ oj,ops[j]?=some oj→∀ {base H R q},El P tt call ops base F H R oj q→El P tt call ops base (F.put o.dst v) H R oj q:=fun v j hj oj hoj base H R q h=>
  h.frame (fun t ht=>Ci F fun e=>absurd e (hname j hj oj hoj t ht)) (fun t ht=>Ci F fun e=>absurd e (hdst j hj oj hoj t ht)) (Fr.n_put ..)
 have htemps:∀ (v:Value) (t:Nat),(∀ i∈(done++[x]).map (·.1),listed[i]?=some false→∀ o2,ops[i]?=some o2→o2.dst=some t→(F.put o.dst v).n≤t)→VR R ((F.put o.dst v).get t) (a.tmps.getD t undef):=fun v t ht=>by
  rw[Ci F fun e=>by have:=ht x.1 (by simp) hxl o ho e;rwa [Fr.n_put] at this]
  exact inv.temps t fun i hi hil oi hoi e=>by have:=ht i (by simp at hi ⊢;exact .inl hi) hil oi hoi e;rwa [Fr.n_put] at this
 have hw':∀ v,(Ct ops.toList o []).wanted (F.put o.dst v)=(Ct ops.toList o x.2).wanted F:=fun v=>
  FT (W:=[]) fun t ht=>Ci F fun e=>absurd e (hself t ht)
 have hg':∀ v,(Ct ops.toList o []).gdOk (F.put o.dst v)=(Ct ops.toList o x.2).gdOk F:=fun v=>
  Ij (W:=[]) fun t ht=>Ci F fun e=>absurd e (hself t ht)
 have hev:∀ v,∀ y∈o.op.operands.toList,F.eval y=(F.put o.dst v).eval y:=fun v y hy=>(J5 (fun t ht=>Ci F fun e=>absurd e (hself t ht)) hy).symm
 have hval:∀ (v:Value) d,o.dst=some d→d < (F.put o.dst v).n→(F.put o.dst v).get d=v:=fun v d hd hlt=>by
  rw[Fr.n_put] at hlt;rw[hd,Fr.get_put,if_pos ⟨rfl,hlt⟩]
 have hmem:∀ {i},i∈(done++[x]).map (·.1)→i∈done.map (·.1)∨i=x.1:=fun h=>by simpa [or_comm,eq_comm] using h
 obtain⟨hk,hcons⟩:=Gc hrun
 rcases hcons with⟨hwt,v,H1,hop1,_,hrest⟩ | ⟨hwf,hrest⟩
 ·by_cases hnb:aQ o.op=true
  ·obtain⟨V,obj,rfl,rfl,hanc,hl⟩:=kC hT hop1 hnb
   have hnx:=inv.post.sim.none_of_next
   refine⟨F.put o.dst (V H.next),H.push obj,fun k=>if k=x.1 then some H.next else idOf k,?_⟩
   refine⟨by rw[inv.split];simp,inv.lsize,hrest,by rw[Fr.n_put];exact inv.n,inv.size,inv.defers,inv.post.absPush hanc,fun i hi=>inv.unl i (by simp at hi ⊢;exact .inr hi),inv.closed,?_,?_,htemps (V H.next)⟩
   ·intro i hi hil oi hoi
    rcases hmem hi with hi | rfl
    ·have hne:i≠x.1:=fun e=>hst.fresh (e ▸ hi)
     obtain⟨h1,h2⟩:=inv.pend i hi hil oi hoi
     refine⟨h1,?_⟩
     rw[if_neg hne]
     refine(hfr _ i hi oi hoi h2).heap (fun y _=>Same.push inv.post.sim.wf obj _) (by simp) (fun id _ hid _ Q c β ob h=>?_) fun id _ _ h=>h
     rw[Aa.get_push,if_neg (by omega)];exact h
    ·rw[ho] at hoi;injection hoi with hoi;subst hoi
     refine⟨hq,?_⟩
     rw[if_pos rfl]
     exact .new ⟨by rw[hg'];exact hk,by rw[hw'];exact hwt⟩ (hev _) hl (by simp) inv.post.next hnx (fun Q c β ob h=>by rw[Aa.get_push,if_pos rfl];exact h) (hval _)
   ·intro i j hi hj hil hjl hne id hidi hidj
    rcases hmem hi with hi | rfl
    ·have hni:i≠x.1:=fun e=>hst.fresh (e ▸ hi)
     rw[if_neg hni] at hidi
     rcases hmem hj with hj | rfl
     ·have hnj:j≠x.1:=fun e=>hst.fresh (e ▸ hj)
      rw[if_neg hnj] at hidj
      exact inv.ids i j hi hj hil hjl hne id hidi hidj
     ·rw[if_pos rfl] at hidj
      injection hidj with hidj;subst hidj
      obtain⟨oi,hoi⟩:∃ oi,ops[i]?=some oi:=by
       have:i < ops.size:=by rw[←inv.lsize];exact(Array.getElem?_eq_some_iff.1 hil).1
       exact⟨_,Array.getElem?_eq_getElem this⟩
      have:=(inv.pend i hi hil oi hoi).2
      rw[hidi] at this
      have:=this.id_lt;omega
    ·rw[if_pos rfl] at hidi
     injection hidi with hidi;subst hidi
     rcases hmem hj with hj | rfl
     ·have hnj:j≠x.1:=fun e=>hst.fresh (e ▸ hj)
      rw[if_neg hnj] at hidj
      obtain⟨oj,hoj⟩:∃ oj,ops[j]?=some oj:=by
       have:j < ops.size:=by rw[←inv.lsize];exact(Array.getElem?_eq_some_iff.1 hjl).1
       exact⟨_,Array.getElem?_eq_getElem this⟩
      have:=(inv.pend j hj hjl oj hoj).2
      rw[hidj] at this
      have:=this.id_lt;omega
     ·exact hne rfl
  ·have hnb:aQ o.op=false:=by simpa using hnb
   obtain⟨rfl,hst2⟩:=NK hq hnb hop1
   refine⟨F.put o.dst v,H1,fun k=>if k=x.1 then none else idOf k,?_⟩
   refine⟨by rw[inv.split];simp,inv.lsize,hrest,by rw[Fr.n_put];exact inv.n,inv.size,inv.defers,inv.post,fun i hi=>inv.unl i (by simp at hi ⊢;exact .inr hi),inv.closed,?_,?_,htemps v⟩
   ·intro i hi hil oi hoi
    rcases hmem hi with hi | rfl
    ·have hne:i≠x.1:=fun e=>hst.fresh (e ▸ hi)
     obtain⟨h1,h2⟩:=inv.pend i hi hil oi hoi
     refine⟨h1,?_⟩
     rw[if_neg hne]
     exact hfr _ i hi oi hoi h2
    ·rw[ho] at hoi;injection hoi with hoi;subst hoi
     refine⟨hq,?_⟩
     rw[if_pos rfl]
     exact .quiet ⟨by rw[hg'];exact hk,by rw[hw'];exact hwt⟩ (hev _) hq hnb hop1 (hval _)
   ·intro i j hi hj hil hjl hne id hidi hidj
    split at hidi
    ·cases hidi
    ·split at hidj
     ·cases hidj
     ·rename_i h1 h2
      exact inv.ids i j ((hmem hi).resolve_right h1) ((hmem hj).resolve_right h2) hil hjl hne id hidi hidj
 ·refine⟨F.put o.dst undef,H,fun k=>if k=x.1 then none else idOf k,?_⟩
  refine⟨by rw[inv.split];simp,inv.lsize,hrest,by rw[Fr.n_put];exact inv.n,inv.size,inv.defers,inv.post,fun i hi=>inv.unl i (by simp at hi ⊢;exact .inr hi),inv.closed,?_,?_,htemps undef⟩
  ·intro i hi hil oi hoi
   rcases hmem hi with hi | rfl
   ·have hne:i≠x.1:=fun e=>hst.fresh (e ▸ hi)
    obtain⟨h1,h2⟩:=inv.pend i hi hil oi hoi
    refine⟨h1,?_⟩
    rw[if_neg hne]
    exact hfr _ i hi oi hoi h2
   ·rw[ho] at hoi;injection hoi with hoi;subst hoi
    refine⟨hq,?_⟩
    rw[if_pos rfl]
    exact .skip ⟨by rw[hg'];exact hk,by rw[hw'];exact hwf⟩ (hval _)
  ·intro i j hi hj hil hjl hne id hidi hidj
   split at hidi
   ·cases hidi
   ·split at hidj
    ·cases hidj
    ·rename_i h1 h2
     exact inv.ids i j ((hmem hi).resolve_right h1) ((hmem hj).resolve_right h2) hil hjl hne id hidi hidj
end
end Go.Sp
namespace Go.Sp

section
variable {P : Program} {tt : TT} (hT : Jm P tt) {call : A8} {gl : List Nat} (hc : CO P gl call) {ops : Array Oper} {ows : List (Nat × List Operand)} (hreg : TB ops ows)
 (hop:∀ o∈ops.toList,∀ x∈o.op.operands.toList,CP gl x) {H0:Aa} {R0:Ren} {w0:World} {Ff:Fr} {Hf:Aa} {d0:List Deferred} {m0:Nat} (hs0:Ck H0 R0 w0) (hgl:JH gl R0)
 {listed:Array Bool} {done rest:List (Nat×List Operand)} {F:Fr} {H:Aa} {R:Ren} {a:Act} {w:World} {idOf:Nat→Option Nat} {x:Nat×List Operand}

def Ready (ops:Array Oper) (listed:Array Bool) (i:Nat):Prop:=∀ o,ops[i]?=some o→∀ k∈CL o,listed[k]?=some true

theorem Fy.anc (inv:Fy P tt call ops ows H0 R0 w0 Ff Hf d0 m0 listed done rest F H R a w idOf) {i k:Nat} (hr:Ready ops listed i) (h:ZU ops k i):listed[k]?=some true:=
 h.listed (L:=fun k=>listed[k]?=some true) inv.closed hr

theorem F3 {listed:Array Bool} {i j:Nat} (h:(listed.setIfInBounds i true)[j]?=some false):j≠i∧listed[j]?=some false:=by
 rw[Array.getElem?_setIfInBounds] at h
 split at h
 ·split at h <;> cases h
 ·rename_i hne;exact⟨Ne.symm hne,h⟩
theorem aW {listed:Array Bool} {i j:Nat} (h:(listed.setIfInBounds i true)[j]?=some true):j=i∨listed[j]?=some true:=by
 rw[Array.getElem?_setIfInBounds] at h
 split at h
 ·rename_i he;exact .inl he.symm
 ·exact .inr h
theorem Qb {listed:Array Bool} {i j:Nat} (h:listed[j]?=some true):(listed.setIfInBounds i true)[j]?=some true:=by
 rw[Array.getElem?_setIfInBounds]
 split
 ·rename_i he
  subst he
  have:i < listed.size:=(Array.getElem?_eq_some_iff.1 h).1
  rw[if_pos this]
 ·exact h

theorem NP {listed:Array Bool} {i:Nat} (hcl:∀ (j:Nat),listed[j]?=some true→∀ o,ops[j]?=some o→∀ k∈CL o,listed[k]?=some true) (hr:Ready ops listed i) :
 ∀ (j:Nat),(listed.setIfInBounds i true)[j]?=some true→∀ o,ops[j]?=some o→∀ k∈CL o,(listed.setIfInBounds i true)[k]?=some true:=fun j hj o ho k hk=>by
 rcases aW hj with rfl | h
 ·exact Qb (hr o ho k hk)
 ·exact Qb (hcl j h o ho k hk)

include hreg in
theorem Fy.free (inv:Fy P tt call ops ows H0 R0 w0 Ff Hf d0 m0 listed done rest F H R a w idOf) {i:Nat} (hi:i∈done.map (·.1)) (hil:listed[i]?=some false) (hr:Ready ops listed i) {o:Oper} (ho:ops[i]?=some o) :
 ∀ t∈Dv ops.toList o,∀ j∈done.map (·.1),listed[j]?=some false→∀ oj,ops[j]?=some oj→oj.dst≠some t:=by
 intro t ht j hj hjl oj hoj hd
 obtain⟨y,hy,rfl⟩:=List.mem_map.1 hi
 obtain⟨z,hz,rfl⟩:=List.mem_map.1 hj
 have hqi:=(inv.pend _ hi hil o ho).1
 have hqj:=(inv.pend _ hj hjl oj hoj).1
 obtain⟨p1,s1,e1⟩:=List.append_of_mem hy
 obtain⟨oi,hsi⟩:=hreg.step p1 y (s1++rest) (by rw[inv.split,e1];simp)
 have:=hsi.here;rw[ho] at this;injection this with this;subst this
 rw[e1] at hz
 simp only[List.mem_append,List.mem_cons] at hz
 rcases hz with hz | rfl | hz
 ·have:=(hsi.dsts z.1 (List.mem_map_of_mem hz) oj hoj t hd).2 ht
  have:=inv.anc hr this
  rw[hjl] at this;cases this
 ·rw[ho] at hoj;injection hoj with hoj;subst hoj
  exact hsi.self hqi t hd ht
 ·obtain⟨p2,s2,e2⟩:=List.append_of_mem hz
  obtain⟨oz,hsz⟩:=hreg.step (p1++y::p2) z (s2++rest) (by rw[inv.split,e1,e2];simp)
  have:=hsz.here;rw[hoj] at this;injection this with this;subst this
  have:=(hsz.wr y.1 (by simp) o ho t hd ht).1
  rw[hqj] at this;cases this

include hT hc hreg hop hs0 hgl in
theorem Fy.takePend (inv:Fy P tt call ops ows H0 R0 w0 Ff Hf d0 m0 listed done rest F H R a w idOf) {i:Nat} (hi:i∈done.map (·.1)) (hil:listed[i]?=some false) (hr:Ready ops listed i)
 {K:Act→World→Prop} {Q:Exit→Act→World→Prop} (hK:∀ R' a' w',Fy P tt call ops ows H0 R0 w0 Ff Hf d0 m0 (listed.setIfInBounds i true) done rest F H R' a' w' idOf→K a' w'):wpOp P ops Q i K a w:=by
 obtain⟨o,ho⟩:∃ o,ops[i]?=some o:=by
  have:i < ops.size:=by rw[←inv.lsize];exact(Array.getElem?_eq_some_iff.1 hil).1
  exact⟨_,Array.getElem?_eq_getElem this⟩
 have hom:o∈ops.toList:=Array.mem_toList_iff.2 (Array.mem_of_getElem? ho)
 have hfree:=inv.free hreg hi hil hr ho
 have hnames:∀ t∈Dv ops.toList o,VR R (F.get t) (a.tmps.getD t undef):=fun t ht=>inv.temps t fun j hj hjl oj hoj hd=>absurd hd (hfree t ht j hj hjl oj hoj)
 have hopd:∀ y∈o.op.operands.toList,VR R (F.eval y) (a.eval y):=fun y hy=>GQ (hgl.mono inv.post.le) (hop o hom y hy) fun t e=>hnames t (G8 (e ▸ hy))
 have hwe:=fun hk=>Jp (W:=[]) (ops:=ops) (o:=o) (F:=F) (tmps:=a.tmps) (R:=R) (fun t e=>hnames t (GR e)) hk
 obtain⟨hqi,hp⟩:=inv.pend i hi hil o ho
 have fin : ∀ {R' : Ren} {u v : Value} {w' : World}, R.le R' → VR R' v u → (∀ d, o.dst = some d → d < F.n → F.get d = v) → Ba H0 R0 w0 H R' w' → (∀ j ∈ done.map (·.1), listed[j]? = some false → j ≠ i → ∀ id, idOf j = some id → R.f id = none → id < H.next → R'.f id = none) →
  K (a.put o.dst u) w':=fun {R' u v w'} hle hv hvd hpost hnone=>by
  refine hK R' _ w' ⟨inv.split,by rw[Array.size_setIfInBounds];exact inv.lsize,inv.run,by rw[CU];exact inv.n,by rw[CU];exact inv.size,by rw[put_defers];exact inv.defers,hpost,?_,NP inv.closed hr,?_,?_,?_⟩
  ·intro k hk
   have hki:k≠i:=by
    rintro rfl
    obtain⟨y,hy,rfl⟩:=List.mem_map.1 hi
    obtain⟨z,hz,e⟩:=List.mem_map.1 hk
    obtain⟨p2,s2,e2⟩:=List.append_of_mem hz
    obtain⟨oz,hsz⟩:=hreg.step (done++p2) z s2 (by rw[inv.split,e2];simp)
    exact hsz.fresh (by rw[e];simp only[List.map_append,List.mem_append];exact .inl hi)
   rw[Array.getElem?_setIfInBounds,if_neg (Ne.symm hki)]
   exact inv.unl k hk
  ·intro j hj hjl oj hoj
   obtain⟨hne,hjl⟩:=F3 hjl
   obtain⟨h1,h2⟩:=inv.pend j hj hjl oj hoj
   refine⟨h1,h2.heap (fun y _=>Same.refl _ _) (Nat.le_refl _) (fun id _ _ _ Q c β ob h=>h) fun id he hlt hn=>hnone j hj hjl hne id he hn hlt⟩
  ·intro j k hj hk hjl hkl hne id
   exact inv.ids j k hj hk (F3 hjl).2 (F3 hkl).2 hne id
  ·intro t ht
   have hFt:F.get t=(F.put o.dst v).get t:=by
    by_cases hd:o.dst=some t
    ·by_cases hlt:t < F.n
     ·rw[hd,Fr.get_put,if_pos ⟨rfl,hlt⟩];exact hvd t hd hlt
     ·rw[Ci F fun _=>by omega]
    ·rw[Ci F fun e=>absurd e hd]
   rw[hFt]
   have old:(o.dst=some t→F.n≤t)→VR R (F.get t) (a.tmps.getD t undef):=fun hno=>inv.temps t fun j hj hjl oj hoj hd=>by
    by_cases hji:j=i
    ·subst hji
     rw[ho] at hoj;injection hoj with hoj;subst hoj
     exact hno hd
    ·exact ht j hj (by rw[Array.getElem?_setIfInBounds,if_neg (Ne.symm hji)];exact hjl) oj hoj hd
   exact GU inv.n hle hv (fun hd=>old fun e=>absurd e hd) fun hb=>old fun _=>hb
 unfold wpOp
 rw[ho]
 simp only
 generalize hq:idOf i=q at hp
 cases hp with
 | skip hw hv =>
  obtain⟨hk,hw⟩:=hw
  rw[hwe hk] at hw
  rw[if_neg (by rw[hw];simp)]
  exact fin R.le_refl IL hv inv.post fun _ _ _ _ _ _ h _=>h
 | @quiet ρ v hw hρ hqq hnb h hv =>
  obtain⟨hk,hw⟩:=hw
  rw[hwe hk] at hw
  rw[if_pos hw]
  left
  refine M0 hT hc inv.post.sim (hgl.mono inv.post.le) (fun y hy=>by rw[hρ y hy];exact hopd y hy) h fun u w' R' hvu hp=>?_
  refine fin hp.le hvu hv (inv.post.trans hp hs0) fun j hj hjl hne id he hn hlt=>?_
  cases hR':R'.f id with
  | none=>rfl
  | some p => rcases hp.new id p hR' with h1 | ⟨_, h1⟩
              ·rw[hn] at h1;cases h1
              ·omega
 | @new ρ V obj id hw hρ hl hid hmin hR hobj hv =>
  obtain⟨hk,hw⟩:=hw
  rw[hwe hk] at hw
  rw[if_pos hw]
  left
  obtain⟨ob,u,n,hrun,hh⟩:=hl R w a.eval fun y hy=>by rw[hρ y hy];exact hopd y hy
  have hob:Rl ob:=(hh (R.ext id w.heap.size 0 n) id (inv.post.ext_le hR) (Ren.ext_new ..) (Ren.ext_sz ..)).2.2
  obtain⟨hle,hpost⟩:=inv.post.concrete hid hmin hR (ob:=ob) (n:=n) hob fun Q h1 h2 h3=>hobj _ _ _ _ (hh Q id h1 h2 h3).2.1
  unfold Oper.wp
  rw[hrun]
  refine fin hle (hh _ id hle (Ren.ext_new ..) (Ren.ext_sz ..)).1 hv hpost fun j hj hjl hne id' he hn _=>?_
  rw[Ren.ext_other]
  ·exact hn
  ·rintro rfl
   exact inv.ids i j hi hj hil hjl (Ne.symm hne) id' hq he
end
end Go.Sp
namespace Go.Sp

theorem VB {tt:TT} {call:A8} {ρ:Operand→Value} {H H1:Aa} {op:Op} {v:Value} (ha:IU op=true) (h:S9 op tt call ρ H=some (v,H1)):H1=H:=by
 cases op <;> first | (cases ha;done) | skip
 injection h with h;injection h with e1 e2;exact e2.symm

section
variable {P : Program} {tt : TT} (hT : Jm P tt) {call : A8} {gl : List Nat} (hc : CO P gl call) {ops : Array Oper} {ows : List (Nat × List Operand)} (hreg : TB ops ows)
 (hop:∀ o∈ops.toList,∀ x∈o.op.operands.toList,CP gl x) {H0:Aa} {R0:Ren} {w0:World} {Ff:Fr} {Hf:Aa} {d0:List Deferred} {m0:Nat} (hs0:Ck H0 R0 w0) (hgl:JH gl R0)
 {listed:Array Bool} {done rest:List (Nat×List Operand)} {F:Fr} {H:Aa} {R:Ren} {a:Act} {w:World} {idOf:Nat→Option Nat} {x:Nat×List Operand}

include hT hc hreg hop hs0 hgl in
theorem Fy.takeHead (inv:Fy P tt call ops ows H0 R0 w0 Ff Hf d0 m0 listed done (x::rest) F H R a w idOf) {o:Oper} (ho:ops[x.1]?=some o) (he:Ie o.op=true) (hr:Ready ops listed x.1)
 {K:Act→World→Prop} {Q:Exit→Act→World→Prop} (hK:∀ F' H' R' a' w',Fy P tt call ops ows H0 R0 w0 Ff Hf d0 m0 (listed.setIfInBounds x.1 true) (done++[x]) rest F' H' R' a' w' idOf→K a' w'):wpOp P ops Q x.1 K a w:=by
 obtain⟨o',hst⟩:=inv.stepOk hreg
 have:=hst.here;rw[ho] at this;injection this with this;subst this
 have hom:o∈ops.toList:=Array.mem_toList_iff.2 (Array.mem_of_getElem? ho)
 have hrun:=inv.run
 rw[List.map_cons,Qa ho] at hrun
 have hunl:∀ j∈done.map (·.1),listed[j]?=some false→¬ ZU ops j x.1:=fun j _ hjl h=>by have:=inv.anc hr h;rw[hjl] at this;cases this
 have hnames:∀ t∈Dv ops.toList o,VR R (F.get t) (a.tmps.getD t undef):=fun t ht=>inv.temps t fun j hj hjl oj hoj hd=>absurd ((hst.dsts j hj oj hoj t hd).2 ht) (hunl j hj hjl)
 have hopd:∀ y∈o.op.operands.toList,VR R (F.eval y) (a.eval y):=fun y hy=>GQ (hgl.mono inv.post.le) (hop o hom y hy) fun t e=>hnames t (G8 (e ▸ hy))
 obtain⟨hk,hcons⟩:=Gc hrun
 have hwe:=Jp (W:=x.2) (ops:=ops) (o:=o) (F:=F) (tmps:=a.tmps) (R:=R) (fun t e=>hnames t (GR e)) hk
 have hxl:listed[x.1]?=some false:=inv.unl x.1 (by simp)
 have hmem:∀ {i},i∈(done++[x]).map (·.1)→i∈done.map (·.1)∨i=x.1:=fun h=>by simpa [or_comm,eq_comm] using h
 have fin : ∀ {R' : Ren} {u v : Value} {H1 : Aa} {w' : World}, R.le R' → VR R' v u → Ba H0 R0 w0 H1 R' w' → BD tt call (rest.map (Ru ops)) (F.put o.dst v) H1 = some (Ff, Hf) →
  (∀ j∈done.map (·.1),listed[j]?=some false→∀ oj,ops[j]?=some oj→El P tt call ops H0.next F H1 R' oj (idOf j))→K (a.put o.dst u) w':=fun {R' u v H1 w'} hle hv hpost hrest hpd=>by
  refine hK (F.put o.dst v) H1 R' _ w' ⟨by rw[inv.split];simp,by rw[Array.size_setIfInBounds];exact inv.lsize,hrest,by rw[CU,Fr.n_put];exact inv.n,by rw[CU];exact inv.size,by rw[put_defers];exact inv.defers,hpost,?_,NP inv.closed hr,?_,?_,?_⟩
  ·intro k hk
   have hki:k≠x.1:=by
    rintro rfl
    obtain⟨z,hz,e⟩:=List.mem_map.1 hk
    obtain⟨p2,s2,e2⟩:=List.append_of_mem hz
    obtain⟨oz,hsz⟩:=hreg.step (done++x::p2) z s2 (by rw[inv.split,e2];simp)
    exact hsz.fresh (by rw[e];simp)
   rw[Array.getElem?_setIfInBounds,if_neg (Ne.symm hki)]
   exact inv.unl k (List.mem_cons_of_mem _ hk)
  ·intro j hj hjl oj hoj
   obtain⟨hne,hjl⟩:=F3 hjl
   have hj:=(hmem hj).resolve_right hne
   have hqj:=(inv.pend j hj hjl oj hoj).1
   refine⟨hqj,(hpd j hj hjl oj hoj).frame (fun t ht=>Ci F fun e=>?_) (fun t ht=>Ci F fun e=>?_) (Fr.n_put ..)⟩
   ·rcases(hst.wr j hj oj hoj t e ht).2 with h1 | h1
    ·rw[hqj] at h1;cases h1
    ·exact absurd h1 (hunl j hj hjl)
   ·exact absurd e (hst.dsts j hj oj hoj t ht).1
  ·intro j k hj hk hjl hkl hne id
   obtain⟨hnj,hjl⟩:=F3 hjl
   obtain⟨hnk,hkl⟩:=F3 hkl
   exact inv.ids j k ((hmem hj).resolve_right hnj) ((hmem hk).resolve_right hnk) hjl hkl hne id
  ·intro t ht
   have old:VR R (F.get t) (a.tmps.getD t undef):=inv.temps t fun j hj hjl oj hoj hd=>by
    have hjx:j≠x.1:=fun e=>hst.fresh (e ▸ hj)
    have:=ht j (by simp at hj ⊢;exact .inl hj) (by rw[Array.getElem?_setIfInBounds,if_neg (Ne.symm hjx)];exact hjl) oj hoj hd
    rwa [Fr.n_put] at this
   exact GU inv.n hle hv (fun _=>old) fun _=>old
 unfold wpOp
 rw[ho]
 simp only
 rcases hcons with⟨hwt,v,H1,hop1,hsame,hrest⟩ | ⟨hwf,hrest⟩
 ·rw[hwe] at hwt
  rw[if_pos hwt]
  left
  refine M0 hT hc inv.post.sim (hgl.mono inv.post.le) hopd hop1 fun u w' R' hvu hp=>?_
  refine fin hp.le hvu (inv.post.trans hp hs0) hrest fun j hj hjl oj hoj=>?_
  obtain⟨hqj,hpj⟩:=inv.pend j hj hjl oj hoj
  refine hpj.heap (fun y hy=>?_) hp.next (fun id _ hlt hn=>hp.calm id hlt hn) fun id _ hlt hn=>?_
  ·cases has:IU o.op with
   | true=>rw[VB has hop1];exact Same.refl _ _
   | false =>
    rcases hst.watch he has j hj oj hoj hqj with h1 | h1
    ·exact absurd h1 (hunl j hj hjl)
    ·exact hsame y (h1 y hy)
  ·cases hR':R'.f id with
   | none=>rfl
   | some p =>
    rcases hp.new id p hR' with h1 | ⟨_,h1⟩
    ·rw[hn] at h1;cases h1
    ·omega
 ·rw[hwe] at hwf
  rw[if_neg (by rw[hwf];simp)]
  exact fin R.le_refl IL inv.post hrest fun j hj hjl oj hoj=>(inv.pend j hj hjl oj hoj).2

include hT hreg in
theorem Fy.ahead (n:Nat):∀ {done rest:List (Nat×List Operand)} {F:Fr} {H:Aa} {idOf:Nat→Option Nat},rest.length=n→Fy P tt call ops ows H0 R0 w0 Ff Hf d0 m0 listed done rest F H R a w idOf →
 ∃ done rest F H idOf,Fy P tt call ops ows H0 R0 w0 Ff Hf d0 m0 listed done rest F H R a w idOf∧∀ x r,rest=x::r→∃ o,ops[x.1]?=some o∧Ie o.op=true:=by
 induction n with
 | zero =>
  intro done rest F H idOf hn inv
  have:rest=[]:=List.eq_nil_of_length_eq_zero hn
  subst this
  exact⟨done,[],F,H,idOf,inv,fun x r h=>by cases h⟩
 | succ n ih =>
  intro done rest F H idOf hn inv
  cases rest with
  | nil=>cases hn
  | cons x rest =>
   obtain⟨o,hst⟩:=inv.stepOk hreg
   cases he:Ie o.op with
   | true=>exact⟨done,x::rest,F,H,idOf,inv,fun y r h=>by injection h with h1 h2;subst h1;exact⟨o,hst.here,he⟩⟩
   | false =>
    obtain⟨F',H',idOf',inv'⟩:=inv.advance hT hreg hst.here he
    exact ih (by simpa using hn) inv'

theorem LC {listed:Array Bool} {i:Nat} (hl:listed.size=ops.size):i∈Region.ready .any ops listed↔listed[i]?=some false∧Ready ops listed i:=by
 unfold Region.ready Ready
 simp only[List.mem_filter,List.mem_range,Bool.and_eq_true,Bool.not_eq_true']
 constructor
 ·rintro⟨hi,hl1,hr⟩
  have hli:i < listed.size:=by omega
  have h1:listed[i]?=some false:=by
   rw[Array.getD_eq_getD_getElem?,Array.getElem?_eq_getElem hli] at hl1
   rw[Array.getElem?_eq_getElem hli];simpa using hl1
  refine⟨h1,fun o ho k hk=>?_⟩
  rw[ho] at hr
  simp only[Option.map_some,Option.getD_some,Array.all_eq_true',←Array.mem_toList_iff] at hr
  obtain⟨e,hem,hb,rfl⟩:=Mo.1 hk
  have:=hr e hem
  rw[hb] at this
  simp only[Bool.not_true,Bool.false_or] at this
  rw[Array.getD_eq_getD_getElem?] at this
  cases hh:listed[e.on]? with
  | none=>rw[hh] at this;cases this
  | some b=>rw[hh] at this;simp at this;rw[this]
 ·rintro⟨h1,hr⟩
  have hli:i < listed.size:=(Array.getElem?_eq_some_iff.1 h1).1
  have hi:i < ops.size:=by omega
  refine⟨hi,by rw[Array.getD_eq_getD_getElem?,h1];rfl,?_⟩
  have ho:ops[i]?=some ops[i]:=Array.getElem?_eq_getElem hi
  rw[ho]
  simp only[Option.map_some,Option.getD_some,Array.all_eq_true',←Array.mem_toList_iff]
  intro e hem
  cases hb:Region.binds .any e with
  | false=>rfl
  | true =>
   have:=hr _ ho e.on (Mo.2 ⟨e,hem,hb,rfl⟩)
   rw[Array.getD_eq_getD_getElem?,this];rfl
end
end Go.Sp
namespace Go.Sp

theorem VC {α:Type} (p:α→Prop) (l:List α) (h:∃ x∈l,p x):∃ pre x suf,l=pre++x::suf∧p x∧∀ y∈pre,¬ p y:=by
 induction l with
 | nil=>obtain⟨x,hx,_⟩:=h;cases hx
 | cons a l ih =>
  by_cases ha:p a
  ·exact⟨[],a,l,rfl,ha,fun y hy=>by cases hy⟩
  ·obtain⟨x,hx,hpx⟩:=h
   cases hx with
   | head=>exact absurd hpx ha
   | tail _ hx =>
    obtain⟨pre,y,suf,e,hy,hall⟩:=ih ⟨x,hx,hpx⟩
    exact⟨a::pre,y,suf,by rw[e];rfl,hy,fun z hz=>by cases hz with
     | head=>exact ha
     | tail _ hz=>exact hall z hz⟩

theorem Y8 {l:List Bool} {i:Nat} (h:l[i]?=some false):(l.set i true).count false+1=l.count false:=by
 induction l generalizing i with
 | nil=>cases h
 | cons a l ih =>
  cases i with
  | zero =>
   simp at h;subst h
   simp
  | succ i =>
   have:=ih (i:=i) (by simpa using h)
   simp only[List.set_cons_succ,List.count_cons]
   omega

section
variable {P : Program} {tt : TT} (hT : Jm P tt) {call : A8} {gl : List Nat} (hc : CO P gl call) {ops : Array Oper} {ows : List (Nat × List Operand)} (hreg : TB ops ows)
 (hop:∀ o∈ops.toList,∀ x∈o.op.operands.toList,CP gl x) {H0:Aa} {R0:Ren} {w0:World} {Ff:Fr} {Hf:Aa} {d0:List Deferred} {m0:Nat} (hs0:Ck H0 R0 w0) (hgl:JH gl R0)
 {listed:Array Bool} {done rest:List (Nat×List Operand)} {F:Fr} {H:Aa} {R:Ren} {a:Act} {w:World} {idOf:Nat→Option Nat} {x:Nat×List Operand}

include hreg in
theorem Fy.none_left (inv:Fy P tt call ops ows H0 R0 w0 Ff Hf d0 m0 listed done rest F H R a w idOf) (hn:Region.ready .any ops listed=[]):∀ (i:Nat),listed[i]?≠some false:=by
 intro i hi
 have hlt:i < ops.size:=by rw[←inv.lsize];exact(Array.getElem?_eq_some_iff.1 hi).1
 obtain⟨z,hz,rfl⟩:=List.mem_map.1 (hreg.all i hlt)
 obtain⟨pre,x,suf,e,hx,hall⟩:=VC (fun z:Nat×List Operand=>listed[z.1]?=some false) ows ⟨z,hz,hi⟩
 obtain⟨o,hst⟩:=hreg.step pre x suf e
 have:x.1∈Region.ready .any ops listed:=(LC inv.lsize).2 ⟨hx,fun o' ho' k hk=>by
  rw[hst.here] at ho';injection ho' with ho';subst ho'
  obtain⟨y,hy,rfl⟩:=List.mem_map.1 (hst.topo k hk)
  have hyn:=hall y hy
  have hyo:y.1 < ops.size:=by
   obtain⟨p1,s1,e1⟩:=List.append_of_mem hy
   obtain⟨oy,hsy⟩:=hreg.step p1 y (s1++x::suf) (by rw[e,e1];simp)
   exact(Array.getElem?_eq_some_iff.1 hsy.here).1
  have hyl:y.1 < listed.size:=by rw[inv.lsize];exact hyo
  rw[Array.getElem?_eq_getElem hyl] at hyn ⊢
  cases hb:listed[y.1] with
  | true=>rfl
  | false=>rw[hb] at hyn;exact absurd rfl hyn⟩
 rw[hn] at this;cases this

theorem Fy.finish (inv:Fy P tt call ops ows H0 R0 w0 Ff Hf d0 m0 listed done rest F H R a w idOf) (hn:∀ (i:Nat),listed[i]?≠some false) {Q:Exit→Act→World→Prop}
 (hQ:∀ a' w' R',a'.defers=d0→a'.tmps.size=m0→(∀ t,VR R' (Ff.get t) (a'.tmps.getD t undef))→Ba H0 R0 w0 Hf R' w'→Q .normal a' w'):Q .normal a w:=by
 cases rest with
 | cons x rest=>exact absurd (inv.unl x.1 (by simp)) (hn x.1)
 | nil =>
  have:=inv.run
  injection this with this;injection this with e1 e2;subst e1;subst e2
  exact hQ a w R inv.defers inv.size (fun t=>inv.temps t fun i _ hil=>absurd hil (hn i)) inv.post

include hT hc hreg hop hs0 hgl in
theorem Fy.any {Q:Exit→Act→World→Prop} (hQ:∀ a' w' R',a'.defers=d0→a'.tmps.size=m0→(∀ t,VR R' (Ff.get t) (a'.tmps.getD t undef))→Ba H0 R0 w0 Hf R' w'→Q .normal a' w') (fuel:Nat) :
 ∀ {listed : Array Bool} {done rest : List (Nat × List Operand)} {F : Fr} {H : Aa} {R : Ren} {a : Act} {w : World} {idOf : Nat → Option Nat},
  Fy P tt call ops ows H0 R0 w0 Ff Hf d0 m0 listed done rest F H R a w idOf→listed.toList.count false≤fuel→wpAny P .any ops Q fuel listed a w:=by
 induction fuel with
 | zero =>
  intro listed done rest F H R a w idOf inv hcnt
  have hn:∀ (i:Nat),listed[i]?≠some false:=fun i hi=>by
   have:false∈listed.toList:=List.mem_of_getElem? (by simpa using hi)
   have:=List.count_pos_iff.2 this
   omega
  refine⟨?_,inv.finish hn hQ⟩
  cases hr:Region.ready .any ops listed with
  | nil=>rfl
  | cons i r=>exact absurd ((LC inv.lsize).1 (by rw[hr];exact List.mem_cons_self ..)).1 (hn i)
 | succ fuel ih =>
  intro listed done rest F H R a w idOf inv hcnt
  refine⟨fun hr=>inv.finish (inv.none_left hreg hr) hQ,fun i hi=>?_⟩
  obtain⟨hil,hrd⟩:=(LC inv.lsize).1 hi
  obtain⟨done,rest,F,H,idOf,inv,hhead⟩:=Fy.ahead hT hreg rest.length rfl inv
  have hcnt':(listed.setIfInBounds i true).toList.count false≤fuel:=by
   have:=Y8 (l:=listed.toList) (i:=i) (by simpa using hil)
   rw[Array.toList_setIfInBounds];omega
  have hlt:i < ops.size:=by rw[←inv.lsize];exact(Array.getElem?_eq_some_iff.1 hil).1
  have himem:=hreg.all i hlt
  rw[inv.split,List.map_append,List.mem_append] at himem
  rcases himem with him | him
  ·exact inv.takePend hT hc hreg hop hs0 hgl him hil hrd fun R' a' w' inv'=>ih inv' hcnt'
  ·cases rest with
   | nil=>cases him
   | cons x rest =>
    obtain⟨o,ho,he⟩:=hhead x rest rfl
    by_cases hix:i=x.1
    ·subst hix
     exact inv.takeHead hT hc hreg hop hs0 hgl ho he hrd fun F' H' R' a' w' inv'=>ih inv' hcnt'
    ·exfalso
     have him:i∈rest.map (·.1):=by
      simp only[List.map_cons,List.mem_cons] at him;exact him.resolve_left hix
     obtain⟨z,hz,rfl⟩:=List.mem_map.1 him
     obtain⟨p2,s2,e2⟩:=List.append_of_mem hz
     obtain⟨oz,hsz⟩:=hreg.step (done++x::p2) z s2 (by rw[inv.split,e2];simp)
     obtain⟨k,hk,hkm⟩:=hsz.chain (done.map (·.1)) x.1 (p2.map (·.1)) (by simp) fun oe hoe=>by rw[ho] at hoe;injection hoe with hoe;subst hoe;exact he
     have h1:=hrd oz hsz.here k hk
     have h2:=inv.unl k (by rw[e2];simp only[List.map_cons,List.map_append,List.mem_cons,List.mem_append] at hkm ⊢;rcases hkm with h | h;exact .inl h;exact .inr (.inl h))
     rw[h2] at h1;cases h1
end

theorem XC {P:Program} {tt:TT} (hT:Jm P tt) {call:A8} {gl:List Nat} (hc:CO P gl call) {ops:Array Oper} (hop:∀ o∈ops.toList,∀ x∈o.op.operands.toList,CP gl x)
 {ord:List Nat} {l:List Fs} (hl:Kw ops ord=some l) {F Ff:Fr} {H Hf:Aa} {R:Ren} {a:Act} {w:World} (hrun:BD tt call l F H=some (Ff,Hf)) (hs:Ck H R w) (hgl:JH gl R)
 (hn:F.n=a.tmps.size) (ht:∀ t,VR R (F.get t) (a.tmps.getD t undef)) {Q:Exit→Act→World→Prop} (hm:P.follows .mixedOrders=true) (id:Nat)
 (hQ:∀ a' w' R',a'.defers=a.defers→a'.tmps.size=a.tmps.size→(∀ t,VR R' (Ff.get t) (a'.tmps.getD t undef))→Ba H R w Hf R' w'→Q .normal a' w'):(Code.region id ops true).wp P Q a w:=by
 obtain⟨ows,hreg,e⟩:=VA hl
 refine wp_region_any hm ?_
 have hs':Ck H R { w with drawn:=w.drawn+1 }:=hs.of_heap rfl
 have hin:∀ i,i∈ows.map (·.1)→i < ops.size:=fun i hi=>by
  obtain⟨z,hz,rfl⟩:=List.mem_map.1 hi
  obtain⟨p,s,e⟩:=List.append_of_mem hz
  obtain⟨o,ho⟩:=hreg.step p z s e
  exact(Array.getElem?_eq_some_iff.1 ho.here).1
 refine Fy.any (gl := gl) (ows := ows) (H0 := H) (R0 := R) (w0 := { w with drawn := w.drawn + 1 }) (Ff := Ff) (Hf := Hf) (d0 := a.defers) (m0 := a.tmps.size) hT hc hreg hop hs' hgl (Q := Q)
  (fun a' w' R' h1 h2 h3 h4=>hQ a' w' R' h1 h2 h3 (h4.from_heap rfl rfl rfl)) ops.size (done:=[]) (rest:=ows) (F:=F) (H:=H) (R:=R) (idOf:=fun _=>none) ?_ ?_
 ·refine⟨rfl,by simp,?_,hn,rfl,rfl,.refl hs',fun i hi=>by simp[hin i hi],fun i hi=>?_,fun i hi=>(by cases hi),fun i j hi=>(by cases hi),fun t _=>ht t⟩
  ·rw[←hrun,e];rfl
  ·simp[Array.getElem?_replicate] at hi
 ·simp
end Go.Sp
