/- Made from wip. -/
import Derived.Test.YtciohfkjabeooaaGreatDoorSpNextx
import Derived.ChangeArms
import Derived.ChangeBears

namespace Go.Sp

def PG (v v':Value):Prop:=∀ (R:Ren) (u:Value),VR R v u→VR R v' u
theorem PG.refl (v:Value):PG v v:=fun _ _ h=>h
theorem PG.nil (sz fl:Nat) (h3:fl≠3:=by decide):PG (.slice none 0 0) (FP sz 0 fl []):=fun _ _ h=>by rw[h.slNil_l];exact .fsN sz fl h3
def XF:List Value→List Value→Prop
 | [],[]=>True
 | v::r,v'::r'=>PG v v'∧XF r r'
 | _,_=>False
theorem XF.vrl {l l':List Value} (h:XF l l') {R:Ren}:∀ {us:List Value},Cf R l us→Cf R l' us:=by
 induction l generalizing l' with
 | nil => cases l' with
  | nil=>exact fun h=>h
  | cons=>exact h.elim
 | cons v r ih => cases l' with
  | nil=>exact h.elim
  | cons v' r' =>
   intro us hv
   obtain⟨u,us',rfl,h1,h2⟩:=hv.uncons
   exact .cons (h.1 R u h1) (ih h.2 h2)
theorem PG.agg {l l':List Value} (h:XF l l'):PG (.agg ⟨l⟩) (.agg ⟨l'⟩):=fun _ _ hv=>by
 cases hv with
 | agg hl hx=>have:=h.vrl ⟨hl,hx⟩;exact .agg this.1 this.2

def FU (n0:Nat) (H:Aa) (v:Value) (H1:Aa) (v':Value):Prop:=
 ∀ (H0:Aa) (R0:Ren) (w0:World) (R:Ren) (w:World) (u:Value),Ck H0 R0 w0→H0.next≤n0→Ba H0 R0 w0 H R w→VR R v u→∃ R',R.le R'∧R'.f=R.f∧Ba H0 R0 w0 H1 R' w∧VR R' v' u
theorem FU.weak {n0:Nat} {H:Aa} {v v':Value} (h:PG v v'):FU n0 H v H v':=fun _ _ _ R _ _ _ _ hp hv=>⟨R,R.le_refl,rfl,hp,h _ _ hv⟩
theorem FU.refl (n0:Nat) (H:Aa) (v:Value):FU n0 H v H v:=.weak (.refl v)
theorem FU.frz {n0:Nat} {H H1:Aa} {v v':Value} (m:Nat) (ex c:Bool) (hn:Nat.ble n0 m=true) (h:Cq m ex v H=bb c (some (v',H1)) none) (hc:c=true):FU n0 H v H1 v':=fun H0 R0 w0 R w u hs hn0 hp hv=>by
 rw[hc] at h
 exact Gg h hs (Nat.le_trans hn0 (Nat.le_of_ble_eq_true hn)) hp hv
theorem FU.thaw {n0:Nat} {H:Aa} (id sz:Nat):FU n0 H (.slice none 0 0) (H.push (.cells [] false false [])) (.slice (some ⟨id,0,some sz⟩) 0 0):=fun H0 R0 w0 R w u _ _ hp hv=>
 ⟨R,R.le_refl,rfl,hp.absPush rfl,by rw[hv.slNil_l];exact .slN rfl⟩
inductive Mr (n0 : Nat) : Aa → List Value → Aa → List Value → Prop
 | nil (H:Aa):Mr n0 H [] H []
 | cons {H Hm H1:Aa} {v v':Value} {r r':List Value} (h:FU n0 H v Hm v') (hr:Mr n0 Hm r H1 r'):Mr n0 H (v::r) H1 (v'::r')
theorem Mr.vrl {n0:Nat} {H H1:Aa} {l l':List Value} (h:Mr n0 H l H1 l') {H0:Aa} {R0:Ren} {w0 w:World} (hs:Ck H0 R0 w0) (hn:H0.next≤n0) :
 ∀ {R:Ren} {us:List Value},Ba H0 R0 w0 H R w→Cf R l us→∃ R',R.le R'∧R'.f=R.f∧Ba H0 R0 w0 H1 R' w∧Cf R' l' us:=by
 induction h with
 | nil H=>exact fun {R} {us} hp hv=>⟨R,R.le_refl,rfl,hp,hv⟩
 | cons h _ ih =>
  intro R us hp hv
  obtain⟨u,us',rfl,h1,h2⟩:=hv.uncons
  obtain⟨R1,k1,k0,k2,k3⟩:=h H0 R0 w0 R w u hs hn hp h1
  obtain⟨R2,j1,j0,j2,j3⟩:=ih k2 (h2.mono k1)
  exact⟨R2,Ren.le_trans k1 j1,j0.trans k0,j2,.cons (k3.mono j1) j3⟩
theorem FU.agg {n0:Nat} {H H1:Aa} {l l':List Value} (h:Mr n0 H l H1 l'):FU n0 H (.agg ⟨l⟩) H1 (.agg ⟨l'⟩):=fun _ _ _ _ _ _ hs hn hp hv=>by
 obtain⟨us,rfl,hl⟩:=hv.agg_l
 obtain⟨R',k1,k0,k2,k3⟩:=h.vrl hs hn hp hl
 exact⟨R',k1,k0,k2,.agg k3.1 k3.2⟩
theorem Ba.setCell {H0 H1:Aa} {R0 R':Ren} {w0 w:World} (hp:Ba H0 R0 w0 H1 R' w) {id j:Nat} {xs:List Value} {imm spent:Bool} {anc:List Nat} {v':Value} (hn:H0.next≤id) (h1:H1.get id = .cells xs imm spent anc)
 (hv:∀ c β,R'.f id=some (c,β)→∀ C t fz,w.heap[c]?=some (.cells C t fz)→∃ u,C[β+j]?=some u∧VR R' v' u):Ba H0 R0 w0 (H1.set id (.cells (xs.set j v') imm spent anc)) R' w:=by
 have hs:=hp.sim
 have hget:∀ i,(H1.set id (.cells (xs.set j v') imm spent anc)).get i=if id=i then .cells (xs.set j v') imm spent anc else H1.get i:=fun i=>Aa.get_set _ _ _ _
 have hwr:∀ i,((H1.set id (.cells (xs.set j v') imm spent anc)).get i).writable=(H1.get i).writable:=fun i=>by
  rw[hget];split
  ·rename_i he;rw[←he,h1];rfl
  ·rfl
 have himm:∀ i,((H1.set id (.cells (xs.set j v') imm spent anc)).get i).immB=(H1.get i).immB:=fun i=>by
  rw[hget];split
  ·rename_i he;rw[←he,h1];rfl
  ·rfl
 have hanc:∀ i,((H1.set id (.cells (xs.set j v') imm spent anc)).get i).ancOf=(H1.get i).ancOf:=fun i=>by
  rw[hget];split
  ·rename_i he;rw[←he,h1];rfl
  ·rfl
 have hsize:∀ i,((H1.set id (.cells (xs.set j v') imm spent anc)).get i).size=(H1.get i).size:=fun i=>by
  rw[hget];split
  ·rename_i he;rw[←he,h1];simp[AJ.size]
  ·rfl
 have hkeep:∀ i,i < H0.next→(H1.set id (.cells (xs.set j v') imm spent anc)).get i=H1.get i:=fun i hi=>by rw[hget,if_neg (by omega)]
 refine ⟨hp.le, hp.new, ⟨fun i c β h => by rw [Aa.next_set]; exact hs.dom i c β h, fun i c β h => ?_, fun i c β i' β' h h' hne hw => ?_, fun i a ha => ?_, fun i hi => ?_, fun c C h => ⟨(hs.ro c C h).1, fun i β h' => by rw [hwr]; exact (hs.ro c C h).2 i β h'⟩⟩,
  by rw[Aa.next_set];exact hp.next,hp.grow,hp.frame,fun i hi hr Q c β ob h=>by rw[hkeep i hi];exact hp.calm i hi hr Q c β ob h,fun i hi h=>by rw[hkeep i hi];exact hp.imm i hi h,hp.fresh,hp.side,hp.rofresh⟩
 ·rw[hget]
  split
  ·rename_i he;subst he
   have ho:=hs.obj id c β h
   rw[h1] at ho
   obtain⟨C,t,fz,k1,k2,k3,k4,k5⟩:=ho
   refine⟨C,t,fz,k1,k2,by simpa using k3,fun i x hx=>?_,k5⟩
   rw[List.getElem?_set] at hx
   split at hx
   ·rename_i hji
    split at hx
    ·injection hx with hx;subst hx
     obtain⟨u,g1,g2⟩:=hv c β h C t fz k1
     rw[←hji];exact⟨u,g1,g2⟩
    ·cases hx
   ·exact k4 i x hx
  ·exact hs.obj i c β h
 ·rw[hwr] at hw
  rcases hs.sep i c β i' β' h h' hne hw with h9 | ⟨h9, h8⟩
  ·left
   rw[hget,if_neg (fun e=>by subst e;rw[h1] at h9;cases h9)];exact h9
  ·right
   rw[hanc,hsize,hsize];exact⟨h9,h8⟩
 ·rw[hanc] at ha
  rw[Aa.next_set,himm,hwr]
  exact hs.anc i a ha
 ·rw[Aa.next_set] at hi
  rw[hget]
  split
  ·rename_i he;subst he
   have:=hs.wf id hi
   rw[h1] at this;cases this
  ·exact hs.wf i hi

theorem Ba.setDead {H0 H:Aa} {R0 R:Ren} {w0 w:World} (hp:Ba H0 R0 w0 H R w) {id:Nat} (hn:H0.next≤id):Ba H0 R0 w0 (H.set id .dead) R w:=by
 have hs:=hp.sim
 have hget:∀ i,(H.set id .dead).get i=if id=i then .dead else H.get i:=fun i=>Aa.get_set _ _ _ _
 have hkeep:∀ i,i < H0.next→(H.set id .dead).get i=H.get i:=fun i hi=>by rw[hget,if_neg (by omega)]
 have hwr:∀ i,(H.get i).writable=false→((H.set id .dead).get i).writable=false:=fun i h=>by
  rw[hget];split
  ·rfl
  ·exact h
 refine ⟨hp.le, hp.new, ⟨fun i c β h => by rw [Aa.next_set]; exact hs.dom i c β h, fun i c β h => ?_, fun i c β i' β' h h' hne hw => ?_, fun i a ha => ?_, fun i hi => ?_, fun c C h => ⟨(hs.ro c C h).1, fun i β h' => hwr i ((hs.ro c C h).2 i β h')⟩⟩,
  by rw[Aa.next_set];exact hp.next,hp.grow,hp.frame,fun i hi hr Q c β ob h=>by rw[hkeep i hi];exact hp.calm i hi hr Q c β ob h,fun i hi h=>by rw[hkeep i hi];exact hp.imm i hi h,hp.fresh,hp.side,hp.rofresh⟩
 ·rw[hget];split
  ·trivial
  ·exact hs.obj i c β h
 ·rw[hget] at hw
  split at hw
  ·cases hw
  ·rename_i he
   rw[hget i']
   split
   ·exact .inl rfl
   ·rw [hget i, if_neg he]; exact hs.sep i c β i' β' h h' hne hw
 ·rw[hget] at ha
  split at ha
  ·cases ha
  ·obtain⟨h1,h2,h3⟩:=hs.anc i a ha
   refine⟨by rw[Aa.next_set];exact h1,?_,hwr a h3⟩
   rw[hget];split
   ·rfl
   ·exact h2
 ·rw[Aa.next_set] at hi
  rw[hget];split
  ·rfl
  ·exact hs.wf i hi
theorem Ba.recell {H0 H:Aa} {R0 R:Ren} {w0 w:World} (hp:Ba H0 R0 w0 H R w) {id:Nat} {xs ys:List Value} (hg:H.get id = .cells xs false false []) (hfit:∀ c β,R.f id=some (c,β)→β+ys.length≤R.sz c)
 (hy:∀ (i:Nat) (y:Value),ys[i]?=some y→xs[i]?=some y∨y=EP) (hn:H0.next≤id∨(∃ p,R.f id=some p)∨∀ (Q:Ren) (c β:Nat) (ob:Option Obj),FH Q (.cells xs false false []) c β ob→FH Q (.cells ys false false []) c β ob):Ba H0 R0 w0 (H.set id (.cells ys false false [])) R w:=by
 have hs:=hp.sim
 have hget:∀ i,(H.set id (.cells ys false false [])).get i=if id=i then .cells ys false false [] else H.get i:=fun i=>Aa.get_set _ _ _ _
 have hwr:∀ i,((H.set id (.cells ys false false [])).get i).writable=(H.get i).writable:=fun i=>by
  rw[hget];split
  ·rename_i he;rw[←he,hg];rfl
  ·rfl
 have himm:∀ i,((H.set id (.cells ys false false [])).get i).immB=(H.get i).immB:=fun i=>by
  rw[hget];split
  ·rename_i he;rw[←he,hg];rfl
  ·rfl
 have hanc:∀ i,((H.set id (.cells ys false false [])).get i).ancOf=(H.get i).ancOf:=fun i=>by
  rw[hget];split
  ·rename_i he;rw[←he,hg];rfl
  ·rfl
 have hw0:(H.get id).writable=true:=by rw[hg];rfl
 refine ⟨hp.le, hp.new, ⟨fun i c β h => by rw [Aa.next_set]; exact hs.dom i c β h, fun i c β h => ?_, fun i c β i' β' h h' hne hw => ?_, fun i a ha => ?_, fun i hi => ?_, fun c C h => ⟨(hs.ro c C h).1, fun i β h' => by rw [hwr]; exact (hs.ro c C h).2 i β h'⟩⟩,
  by rw[Aa.next_set];exact hp.next,hp.grow,hp.frame,fun i hi hr Q c β ob h=>?_,fun i hi h=>?_,hp.fresh,hp.side,hp.rofresh⟩
 ·rw[hget]
  split
  ·rename_i he;subst he
   have ho:=hs.obj id c β h
   rw[hg] at ho
   obtain⟨C,t,fz,k1,k2,k3,k4,k5⟩:=ho
   have hf:=hfit c β h
   refine⟨C,t,fz,k1,k2,by rw[k2];exact hf,fun i y hy'=>?_,k5⟩
   rcases hy i y hy' with h1 | h1
   ·exact k4 i y h1
   ·have hlt:=(List.getElem?_eq_some_iff.1 hy').1
    have:β+i < C.size:=by rw[k2];omega
    exact⟨C[β+i],by simp[this],by rw[h1];exact .any _⟩
  ·exact hs.obj i c β h
 ·rw[hwr] at hw
  by_cases hi:id=i
  ·subst hi
   rcases hs.sep id c β i' β' h h' hne hw with h9 | ⟨h9, _⟩
   ·left;rw[hget,if_neg hne];exact h9
   ·rw[hg] at h9;cases h9
  ·by_cases hi':id=i'
   ·subst hi'
    rcases hs.sep i c β id β' h h' hne hw with h9 | ⟨h9, _⟩
    ·rw[hg] at h9;cases h9
    ·have:=(hs.anc i id h9).2.2
     rw[hw0] at this;cases this
   ·rw[hget i',if_neg hi',hget i,if_neg hi]
    exact hs.sep i c β i' β' h h' hne hw
 ·rw[hanc] at ha
  rw[Aa.next_set,himm,hwr]
  exact hs.anc i a ha
 ·rw[Aa.next_set] at hi
  rw[hget]
  split
  ·rename_i he;subst he
   have:=hs.wf id hi
   rw[hg] at this;cases this
  ·exact hs.wf i hi
 ·rw[hget]
  split
  ·rename_i he;subst he
   rcases hn with h1 | ⟨p,h1⟩ | h1
   ·omega
   ·rcases hp.new id p h1 with h2 | ⟨_,h2⟩
    ·rw[hr] at h2;cases h2
    ·omega
   ·have:=hp.calm id hi hr Q c β ob h
    rw[hg] at this
    exact h1 Q c β ob this
  ·exact hp.calm i hi hr Q c β ob h
 ·rw[hget]
  split
  ·rename_i he;subst he
   have:=hp.imm id hi h
   rw[this] at hg
   rw[hg] at h;cases h
  ·exact hp.imm i hi h
def Quiet (n0:Nat) (H H1:Aa):Prop:=∀ (H0:Aa) (R0:Ren) (w0:World) (R:Ren) (w:World),Ck H0 R0 w0→H0.next≤n0→Ba H0 R0 w0 H R w→∃ R',R.le R'∧R'.f=R.f∧Ba H0 R0 w0 H1 R' w
theorem Quiet.plain {n0:Nat} {H H1:Aa} {v v':Value} (hpl:BR v=true) (ht:FU n0 H v H1 v'):Quiet n0 H H1:=fun H0 R0 w0 R w hs hn hp=>by
 obtain⟨R',q1,q0,q2,_⟩:=ht H0 R0 w0 R w v hs hn hp (Df hpl)
 exact⟨R',q1,q0,q2⟩
theorem Quiet.frz {n0:Nat} {H H1:Aa} {v v':Value} (m:Nat) (ex:Bool) (hn:Nat.ble n0 m=true) (h:Cq m ex v H=some (v',H1)):Quiet n0 H H1:=fun H0 R0 w0 R w _ hn0 hp=>by
 refine⟨R,R.le_refl,rfl,?_⟩
 unfold Cq at h
 obtain⟨s,_,h⟩:=Ab h
 obtain⟨o,_,h⟩:=Ab h
 obtain⟨hc,h⟩:=Ae h
 obtain⟨h1,_⟩:=Av hc
 injection h with h;injection h with e1 e2;subst e2
 have h1:=Nat.le_of_ble_eq_true h1
 have hn:=Nat.le_of_ble_eq_true hn
 rw[BL]
 split
 ·exact hp
 ·exact hp.setDead (by omega)

def zL (n0:Nat) (F:Fr) (H H':Aa):Prop:=∀ (H0:Aa) (R0:Ren) (w0:World) (R:Ren) (w:World),Ck H0 R0 w0→H0.next≤n0→Ba H0 R0 w0 H R w→(∀ t,∃ u,VR R (F.get t) u)→∃ R',R.le R'∧Ba H0 R0 w0 H' R' w
inductive Iu (n0 : Nat) (F : Fr) (H : Aa) : Fr → Aa → Prop
 | gc {trs:List Nat} {ents:List Bool} {rs:List Rt} {live:List Nat} {F':Fr} {H':Aa} (hn:n0≤ents.length) (htr:∀ id,ED id trs=true→iQ (H.get id)=true) (h:gc trs ents rs live F H=some (F',H')):Iu n0 F H F' H'
 | gcA {trs:List Nat} {ents:List Bool} {rs:List Rt} {live:List Nat} {F':Fr} {H':Aa} {t:Nat} {v:Value} (hn:n0≤ents.length) (htr:∀ id,ED id trs=true→iQ (H.get id)=true) (h:gc trs ents rs live F H=some (F',H')) (hv:F.get t=v) (hc:closed2 v=true):Iu n0 F H (F'.put (some t) v) H'
 | freeze {m t sz:Nat} {ex:Bool} {F':Fr} {H':Aa} (hn:n0≤m) (h:freeze m t sz ex F H=some (F',H')):Iu n0 F H F' H'
 | thaw {t sz:Nat} {F':Fr} {H':Aa} (h:thaw t sz F H=some (F',H')):Iu n0 F H F' H'
 | weak {t:Nat} {v':Value} (h:PG (F.get t) v'):Iu n0 F H (F.put (some t) v') H
 | cell {id j : Nat} {xs : List Value × List Nat} {imm spent : Bool} {v v' : Value} {H1 : Aa} (hn : n0 ≤ id) (h : H.get id = .cells xs.1 imm spent xs.2) (hj : xs.1[j]? = some v) (hpl : Quiet n0 H H1) (ht : FU n0 H v H1 v') (h1 : H1.get id = .cells xs.1 imm spent xs.2) :
  Iu n0 F H F (H1.set id (.cells (xs.1.set j v') imm spent xs.2))
 | quiet {H':Aa} (h:Quiet n0 H H'):Iu n0 F H F H'
 | upd {H':Aa} (h:zL n0 F H H'):Iu n0 F H F H'
 | tell {t:Nat} {v':Value} {H':Aa} (h:FU n0 H (F.get t) H' v'):Iu n0 F H (F.put (some t) v') H'

def wG (Q:Ex→Fr→Aa→Prop) (N:Fr→Aa→Prop):Ex→Fr→Aa→Prop
 | .normal,F,H=>N F H
 | e,F,H=>Q e F H
def qZ (id:Nat) (Q:Ex→Fr→Aa→Prop):Ex→Fr→Aa→Prop
 | .exit j, F, H => match Nat.beq j id with
  | true=>Q .normal F H
  | false=>Q (.exit j) F H
 | e,F,H=>Q e F H

def zA (l:Nat) (Q:Ex→Fr→Aa→Prop) (N:Fr→Aa→Prop):Ex→Fr→Aa→Prop
 | .goto j,F,H=>j=l∧N F H
 | e,F,H=>Q e F H

inductive NY (tt : TT) (call : A8) (n0 : Nat) : List Fs → Fr → Aa → Fr → Aa → Prop
 | fin {os:List Fs} {F F':Fr} {H H':Aa} (h:BD tt call os F H=some (F',H')):NY tt call n0 os F H F' H'
 | ops {os:List Fs} {F F1 F':Fr} {H H1 H':Aa} (m:Nat) (h:BD tt call (Aq m os) F H=some (F1,H1)) (r:NY tt call n0 (Am m os) F1 H1 F' H'):NY tt call n0 os F H F' H'
 | gh {os:List Fs} {F F1 F':Fr} {H H1 H':Aa} (h:Iu n0 F H F1 H1) (r:NY tt call n0 os F1 H1 F' H'):NY tt call n0 os F H F' H'

inductive NZ (tt : TT) (call : A8) (n0 : Nat) : List Fs → Fr → Aa → (Fr → Aa → Prop) → Prop
 | fin {os:List Fs} {F F':Fr} {H H':Aa} {Q:Fr→Aa→Prop} (h:BD tt call os F H=some (F',H')) (hQ:Q F' H'):NZ tt call n0 os F H Q
 | ops {os:List Fs} {F F1:Fr} {H H1:Aa} {Q:Fr→Aa→Prop} (m:Nat) (h:BD tt call (Aq m os) F H=some (F1,H1)) (r:NZ tt call n0 (Am m os) F1 H1 Q):NZ tt call n0 os F H Q
 | gh {os:List Fs} {F F1:Fr} {H H1:Aa} {Q:Fr→Aa→Prop} (h:Iu n0 F H F1 H1) (r:NZ tt call n0 os F1 H1 Q):NZ tt call n0 os F H Q
 | nx {os : List Fs} {F : Fr} {H : Aa} {Q : Fr → Aa → Prop} {d : Option Nat} {x : Operand} {ty id mid since st clock : Nat} {seen : List Nat} {es : List EO}
  (hx:F.eval x = .pointer (some ⟨id,0,none⟩)) (hi:H.get id = .iter (some mid) since seen st) (hm:H.get mid = .map es clock) (hold:Au (fun e=>Nat.blt e.born since) es=true) (hst:Nat.ble since st=true)
  (h0:IY es seen=[]→NZ tt call n0 os (F.put d (.tuple ⟨[.bool false]⟩)) H Q)
  (h1:∀ e,e∈IY es seen→NZ tt call n0 os (F.put d (.tuple ⟨[.bool true,e.key,e.val]⟩)) (H.set id (.iter (some mid) since (Br seen [e.born]) clock)) Q) :
  NZ tt call n0 (⟨d,.next x false,ty,none,[]⟩::os) F H Q

inductive zC (n0 : Nat) : Fr → Aa → Fr → Aa → Prop
 | id (F:Fr) (H:Aa):zC n0 F H F H
 | step {F F1 F':Fr} {H H1 H':Aa} (h:Iu n0 F H F1 H1) (r:zC n0 F1 H1 F' H'):zC n0 F H F' H'

inductive BN (tt : TT) (call : A8) (n0 : Nat) : RC → Fr → Aa → (Ex → Fr → Aa → Prop) → Prop
 | gh {c:RC} {F F':Fr} {H H':Aa} {Q:Ex→Fr→Aa→Prop} (hg:Iu n0 F H F' H') (h:BN tt call n0 c F' H' Q):BN tt call n0 c F H Q
 | mono {c:RC} {F:Fr} {H:Aa} {Q Q':Ex→Fr→Aa→Prop} (h:BN tt call n0 c F H Q) (hQ:∀ e F H,Q e F H→Q' e F H):BN tt call n0 c F H Q'
 | skip {F:Fr} {H:Aa} {Q:Ex→Fr→Aa→Prop} (h:Q .normal F H):BN tt call n0 .skip F H Q
 | reg {ord:List Nat} {ops:List Fs} {F F':Fr} {H H':Aa} {Q:Ex→Fr→Aa→Prop} (he:BD tt call ops F H=some (F',H')) (h:Q .normal F' H'):BN tt call n0 (.reg ord ops) F H Q
 | seq {a b:RC} {F:Fr} {H:Aa} {Q Q1:Ex→Fr→Aa→Prop} (ha:BN tt call n0 a F H Q1) (hb:∀ F' H',Q1 .normal F' H'→BN tt call n0 b F' H' Q) (hx:∀ e F' H',e ≠ .normal→Q1 e F' H'→Q e F' H'):BN tt call n0 (.seq a b) F H Q
 | condT {c:Operand} {a b:RC} {F:Fr} {H:Aa} {Q:Ex→Fr→Aa→Prop} (hc:Bf (F.eval c)=some true) (h:BN tt call n0 a F H Q):BN tt call n0 (.cond c a b) F H Q
 | condF {c:Operand} {a b:RC} {F:Fr} {H:Aa} {Q:Ex→Fr→Aa→Prop} (hc:Bf (F.eval c)=some false) (h:BN tt call n0 b F H Q):BN tt call n0 (.cond c a b) F H Q
 | block {id:Nat} {b:RC} {F:Fr} {H:Aa} {Q:Ex→Fr→Aa→Prop} (h:BN tt call n0 b F H (qZ id Q)):BN tt call n0 (.block id b) F H Q
 | loop {b : RC} {F : Fr} {H : Aa} {Q : Ex → Fr → Aa → Prop} (I : Nat → Fr → Aa → Prop) (n : Nat) (h0 : I n F H)
  (hstep:∀ m F H,I m F H→BN tt call n0 b F H (wG Q fun F' H'=>∃ k,k < m∧I k F' H')):BN tt call n0 (.loop b) F H Q
 | exit {id:Nat} {F:Fr} {H:Aa} {Q:Ex→Fr→Aa→Prop} (h:Q (.exit id) F H):BN tt call n0 (.exit id) F H Q
 | ret {F:Fr} {H:Aa} {Q:Ex→Fr→Aa→Prop} (h:Q .ret F H):BN tt call n0 .ret F H Q
 | regG {ops:List Fs} {F F':Fr} {H H':Aa} {Q:Ex→Fr→Aa→Prop} (hne:Nat.ble 1 (len ops)=true) (he:NY tt call n0 ops F H F' H') (h:Q .normal F' H'):BN tt call n0 (.reg [] ops) F H Q
 | regN {ops:List Fs} {F:Fr} {H:Aa} {Q:Ex→Fr→Aa→Prop} (hne:Nat.ble 1 (len ops)=true) (he:NZ tt call n0 ops F H fun F' H'=>Q .normal F' H'):BN tt call n0 (.reg [] ops) F H Q
 | ev {c:RC} {F:Fr} {H:Aa} {Q:Ex→Fr→Aa→Prop} (fuel:Nat) {s:EvS} (he:MZ tt call fuel c F H=some s) (h:Q s.e s.F s.H):BN tt call n0 c F H Q
 | label {l:Nat} {F:Fr} {H:Aa} {Q:Ex→Fr→Aa→Prop} (h:Q .normal F H):BN tt call n0 (.label l) F H Q
 | goto {l:Nat} {F:Fr} {H:Aa} {Q:Ex→Fr→Aa→Prop} (h:Q (.goto l) F H):BN tt call n0 (.goto l) F H Q
 | post {c:RC} {F:Fr} {H:Aa} {Q1 Q:Ex→Fr→Aa→Prop} (h:BN tt call n0 c F H Q1) (hQ:∀ e F1 H1,Q1 e F1 H1→∃ F2 H2,zC n0 F1 H1 F2 H2∧Q e F2 H2):BN tt call n0 c F H Q
 | rm {c : RC} {F : Fr} {H : Aa} {Q : Ex → Fr → Aa → Prop} {t id n sz c2 : Nat} {xs ys : List Value} (ht : F.get t = .slice (some ⟨id, 0, some sz⟩) n c2) (hg : H.get id = .cells xs false false []) (hl : ys.length = (n + 1) * sz)
  (hy:∀ (i:Nat) (y:Value),ys[i]?=some y→xs[i]?=some y∨y=EP)
  (h0:BN tt call n0 c (F.put (some t) (.slice (some ⟨id,0,some sz⟩) n (2*n+1))) H Q)
  (h1:BN tt call n0 c (F.put (some t) (.slice (some ⟨id,0,some sz⟩) n (2*(n+1)))) (H.set id (.cells ys false false [])) Q):BN tt call n0 c F H Q
 | scope {b r : RC} {l : Nat} {F : Fr} {H : Aa} {Q : Ex → Fr → Aa → Prop} (I : Nat → Fr → Aa → Prop) (n : Nat) (hb : BN tt call n0 b F H (zA l Q fun F' H' => ∃ k, k < n ∧ I k F' H'))
  (hstep:∀ m F H,I m F H→BN tt call n0 r F H (zA l Q fun F' H'=>∃ k,k < m∧I k F' H')):BN tt call n0 (.scope b l r) F H Q

theorem BN.then {tt:TT} {call:A8} {n0:Nat} {a b:RC} {F:Fr} {H:Aa} {Q:Ex→Fr→Aa→Prop} (h:BN tt call n0 a F H (wG Q fun F' H'=>BN tt call n0 b F' H' Q)):BN tt call n0 (.seq a b) F H Q:=
 .seq h (fun _ _ h=>h) fun e F' H' hne h=>by cases e with
  | normal=>exact absurd rfl hne
  | exit j=>exact h
  | goto j=>exact h
  | ret=>exact h

structure St (gl:List Nat) (H0:Aa) (R0:Ren) (w0:World) (d0:List Deferred) (m0:Nat) (F:Fr) (H:Aa) (a:Act) (w:World):Prop where
 ren:∃ R,Ba H0 R0 w0 H R w∧∀ t,VR R (F.get t) (a.tmps.getD t undef)
 defers:a.defers=d0
 size:a.tmps.size=m0
 n:F.n=m0

section
variable {P : Program} {tt : TT} (hT : Jm P tt) {call : A8} {gl : List Nat} (hc : CO P gl call) (hm : P.follows .mixedOrders = true)
 {H0:Aa} {R0:Ren} {w0:World} (hs0:Ck H0 R0 w0) (hgl:JH gl R0) (hfull:∀ id,id < H0.next→R0.f id=none→Em (H0.get id)) {d0:List Deferred} {m0:Nat}

include hs0 hfull in
theorem St.ghost {F F':Fr} {H H':Aa} {a:Act} {w:World} (hst:St gl H0 R0 w0 d0 m0 F H a w) (hg:Iu H0.next F H F' H'):St gl H0 R0 w0 d0 m0 F' H' a w:=by
 obtain⟨⟨R,hp,ht⟩,h2,h3,h4⟩:=hst
 cases hg with
 | gc hn htr h=>obtain⟨R',k1,k2,k3,_⟩:=Ab5 h htr hs0 hfull hn hp ht;exact⟨⟨R',k1,k3⟩,h2,h3,k2.trans h4⟩
 | @gcA trs ents rs live F1 H1 t v hn htr h hv hc =>
  obtain⟨R',k1,k2,k3,k4⟩:=Ab5 h htr hs0 hfull hn hp ht
  refine⟨⟨R',k1,fun s=>?_⟩,h2,h3,(Fr.n_put ..).trans (k2.trans h4)⟩
  rw[Fr.get_put]
  split
  ·rename_i he;rw[←he.1,←hv];exact J7 (fun c C h=>by rw[k4];exact h) (ht t) (by rw[hv];exact hc)
  ·exact k3 s
 | freeze hn h=>obtain⟨R',k1,k2,k3⟩:=Za h hs0 hn hp ht;exact⟨⟨R',k1,k3⟩,h2,h3,k2.trans h4⟩
 | thaw h=>obtain⟨R',k1,k2,k3⟩:=kF h hp ht;exact⟨⟨R',k1,k3⟩,h2,h3,k2.trans h4⟩
 | @weak t v' h =>
  refine⟨⟨R,hp,fun s=>?_⟩,h2,h3,(Fr.n_put ..).trans h4⟩
  rw[Fr.get_put]
  split
  ·rename_i he;rw[←he.1];exact h R _ (ht t)
  ·exact ht s
 | @cell id j xs imm spent v v' H1 hn h hj hpl htl h1 =>
  by_cases hid:∃ p,R.f id=some p
  ·obtain⟨⟨c,β⟩,hid⟩:=hid
   have ho:=hp.sim.obj id c β hid
   rw[h] at ho
   obtain⟨C,t,fz,k1,k2,k3,k4,k5⟩:=ho
   obtain⟨u,g1,g2⟩:=k4 j v hj
   obtain⟨R',q1,q0,q2,q3⟩:=htl H0 R0 w0 R w u hs0 (Nat.le_refl _) hp g2
   refine ⟨⟨R', q2.setCell hn h1 fun c' β' hc' C' t' fz' hC' => ?_, fun s => (ht s).mono q1⟩, h2, h3, h4⟩
   rw[q0,hid] at hc'
   injection hc' with hc';injection hc' with e1 e2;subst e1;subst e2
   rw[k1] at hC';injection hC' with hC';injection hC' with e1 e2 e3;subst e1
   exact⟨u,g1,q3⟩
  ·obtain⟨R',q1,q0,q2⟩:=hpl H0 R0 w0 R w hs0 (Nat.le_refl _) hp
   refine ⟨⟨R', q2.setCell hn h1 fun c' β' hc' => ?_, fun s => (ht s).mono q1⟩, h2, h3, h4⟩
   rw[q0] at hc'
   exact absurd ⟨_,hc'⟩ hid
 | quiet h =>
  obtain⟨R',q1,q0,q2⟩:=h H0 R0 w0 R w hs0 (Nat.le_refl _) hp
  exact⟨⟨R',q2,fun s=>(ht s).mono q1⟩,h2,h3,h4⟩
 | upd h =>
  obtain⟨R',q1,q2⟩:=h H0 R0 w0 R w hs0 (Nat.le_refl _) hp fun t=>⟨_,ht t⟩
  exact⟨⟨R',q2,fun s=>(ht s).mono q1⟩,h2,h3,h4⟩
 | @tell t v' _ h =>
  obtain⟨R',q1,q0,q2,q3⟩:=h H0 R0 w0 R w _ hs0 (Nat.le_refl _) hp (ht t)
  refine⟨⟨R',q2,fun s=>?_⟩,h2,h3,(Fr.n_put ..).trans h4⟩
  rw[Fr.get_put]
  split
  ·rename_i he;rw[←he.1];exact q3
  ·exact(ht s).mono q1

include hs0 hfull in
theorem St.gst {F F':Fr} {H H':Aa} {a:Act} {w:World} (hst:St gl H0 R0 w0 d0 m0 F H a w) (hg:zC H0.next F H F' H'):St gl H0 R0 w0 d0 m0 F' H' a w:=by
 induction hg with
 | id=>exact hst
 | step h _ ih=>exact ih (hst.ghost hs0 hfull h)
theorem Ms {ops:Array Oper} {l:List Fs} (h:Kw ops []=some l):l=[]:=by
 obtain⟨ows,h1,h2⟩:=Ab h
 obtain⟨_,h3⟩:=Ae h2
 injection h3 with h3;subst h3
 injection h1 with h1;subst h1
 rfl

include hT hc hs0 hgl hfull in
theorem NY.sound {ops:Array Oper} (hop:∀ o∈ops.toList,∀ x∈o.op.operands.toList,CP gl x) {Q:Exit→Act→World→Prop} {os:List Fs} {F F':Fr} {H H':Aa} (hg:NY tt call H0.next os F H F' H') :
 ∀ (i:Nat),i≤ops.size→os=(Cy ops).drop i→∀ (a:Act) (w:World),St gl H0 R0 w0 d0 m0 F H a w→(∀ a' w',St gl H0 R0 w0 d0 m0 F' H' a' w'→Q .normal a' w')→wpOps P ops Q (List.range' i (ops.size - i)) a w:=by
 induction hg with
 | @fin os F F' H H' h =>
  intro i hi he a w hst hQ
  obtain⟨⟨R,hp,ht⟩,h2,h3,h4⟩:=hst
  rw[he,Cy,Cc,←List.map_drop,←Cc] at h
  exact Ky hT hc hop (ops.size - i) i F H R a w (by omega) h hp.sim (hgl.mono hp.le) (h4.trans h3.symm) ht fun a' w' R' k1 k2 k3 k4=>hQ a' w' ⟨⟨R',hp.trans k4 hs0,k3⟩,k1.trans h2,k2.trans h3,(Ik h).symm.trans h4⟩
 | @ops os F F1 F' H H1 H' m h r ih =>
  intro i hi he a w hst hQ
  obtain⟨⟨R,hp,ht⟩,h2,h3,h4⟩:=hst
  have hm:Aq m os=AP (fun o=>Ct ops.toList o []) ((ops.toList.drop i).take (min m (ops.size - i))):=by
   rw[he,Cg,Cy,Cc,Cc,←List.map_drop,←List.map_take]
   congr 1
   rw[List.take_eq_take_iff]
   simp
  rw[hm] at h
  have hr:List.range' i (ops.size - i)=List.range' i (min m (ops.size - i))++List.range' (i+min m (ops.size - i)) (ops.size - (i+min m (ops.size - i))):=by
   rw[List.range'_append_1];congr 1;omega
  rw[hr]
  refine P9 hT hc hop _ i F H R a w (by omega) h hp.sim (hgl.mono hp.le) (h4.trans h3.symm) ht fun a' w' R' k1 k2 k3 k4=>?_
  refine ih _ (by omega) ?_ a' w' ⟨⟨R',hp.trans k4 hs0,k3⟩,k1.trans h2,k2.trans h3,(Ik h).symm.trans h4⟩ hQ
  rw[he,Bz,List.drop_drop]
  rcases Nat.le_total m (ops.size - i) with hle | hle
  ·rw[Nat.min_eq_left hle]
  ·rw[Nat.min_eq_right hle,List.drop_eq_nil_of_le,List.drop_eq_nil_of_le]
   ·simp[Cy,Cc];omega
   ·simp[Cy,Cc];omega
 | @gh os F F1 F' H H1 H' hgh r ih=>intro i hi he a w hst hQ;exact ih i hi he a w (hst.ghost hs0 hfull hgh) hQ

include hT hc hs0 hgl hfull in
theorem NZ.sound {ops:Array Oper} (hop:∀ o∈ops.toList,∀ x∈o.op.operands.toList,CP gl x) {Q:Exit→Act→World→Prop} {os:List Fs} {F:Fr} {H:Aa} {Q':Fr→Aa→Prop} (hg:NZ tt call H0.next os F H Q') :
 ∀ (i:Nat),i≤ops.size→os=(Cy ops).drop i→∀ (a:Act) (w:World),St gl H0 R0 w0 d0 m0 F H a w→(∀ F' H' a' w',Q' F' H'→St gl H0 R0 w0 d0 m0 F' H' a' w'→Q .normal a' w')→wpOps P ops Q (List.range' i (ops.size - i)) a w:=by
 induction hg with
 | @fin os F F' H H' Q' h hq =>
  intro i hi he a w hst hQ
  obtain⟨⟨R,hp,ht⟩,h2,h3,h4⟩:=hst
  rw[he,Cy,Cc,←List.map_drop,←Cc] at h
  exact Ky hT hc hop (ops.size - i) i F H R a w (by omega) h hp.sim (hgl.mono hp.le) (h4.trans h3.symm) ht fun a' w' R' k1 k2 k3 k4=>hQ _ _ a' w' hq ⟨⟨R',hp.trans k4 hs0,k3⟩,k1.trans h2,k2.trans h3,(Ik h).symm.trans h4⟩
 | @ops os F F1 H H1 Q' m h r ih =>
  intro i hi he a w hst hQ
  obtain⟨⟨R,hp,ht⟩,h2,h3,h4⟩:=hst
  have hm:Aq m os=AP (fun o=>Ct ops.toList o []) ((ops.toList.drop i).take (min m (ops.size - i))):=by
   rw[he,Cg,Cy,Cc,Cc,←List.map_drop,←List.map_take]
   congr 1
   rw[List.take_eq_take_iff]
   simp
  rw[hm] at h
  have hr:List.range' i (ops.size - i)=List.range' i (min m (ops.size - i))++List.range' (i+min m (ops.size - i)) (ops.size - (i+min m (ops.size - i))):=by
   rw[List.range'_append_1];congr 1;omega
  rw[hr]
  refine P9 hT hc hop _ i F H R a w (by omega) h hp.sim (hgl.mono hp.le) (h4.trans h3.symm) ht fun a' w' R' k1 k2 k3 k4=>?_
  refine ih _ (by omega) ?_ a' w' ⟨⟨R',hp.trans k4 hs0,k3⟩,k1.trans h2,k2.trans h3,(Ik h).symm.trans h4⟩ hQ
  rw[he,Bz,List.drop_drop]
  rcases Nat.le_total m (ops.size - i) with hle | hle
  ·rw[Nat.min_eq_left hle]
  ·rw[Nat.min_eq_right hle,List.drop_eq_nil_of_le,List.drop_eq_nil_of_le]
   ·simp[Cy,Cc];omega
   ·simp[Cy,Cc];omega
 | @gh os F F1 H H1 Q' hgh r ih=>intro i hi he a w hst hQ;exact ih i hi he a w (hst.ghost hs0 hfull hgh) hQ
 | @nx os F H Q' d x ty id mid since st clock seen es hx hit hmp hold hst' h0 h1 ih0 ih1 =>
  intro i hi he a w hst hQ
  obtain⟨⟨R,hp,ht⟩,h2,h3,h4⟩:=hst
  have hlt:i < ops.size:=by
   rcases Nat.lt_or_ge i ops.size with h | h
   ·exact h
   ·rw[List.drop_eq_nil_of_le (by simp[Cy,Cc];omega)] at he;cases he
  have hoi:ops[i]?=some ops[i]:=by simp[hlt]
  have hd:(Cy ops).drop i=Ct ops.toList ops[i] []::(Cy ops).drop (i+1):=by
   unfold Cy
   rw[Cc,←List.map_drop,←List.map_drop,List.drop_eq_getElem_cons (by simpa using hlt),List.map_cons]
   simp
  rw[hd] at he
  injection he with he1 he2
  unfold Ct at he1
  injection he1 with g1 g2 g3 g4 g5
  have hgd:(ops[i]).guard=none∨∃ j want,(ops[i]).guard=some (j,want):=by
   cases (ops[i]).guard with
   | none=>exact .inl rfl
   | some p=>exact .inr ⟨p.1,p.2,rfl⟩
  have hgn:(ops[i]).guard=none:=by
   rcases hgd with h | ⟨j,want,h⟩
   ·exact h
   ·rw[h] at g4;cases g4
  have hw:Region.wanted ops[i] (yielded ops a.tmps)=true:=by unfold Region.wanted;rw[hgn]
  rw[show ops.size - i=(ops.size - (i+1))+1 by omega,List.range'_succ]
  simp only[wpOps,hoi]
  rw[if_pos hw]
  left
  have hmem:ops[i]∈ops.toList:=by simp
  have hxv:VR R (.pointer (some ⟨id,0,none⟩)) (a.eval x):=by
   rw[←hx]
   exact GQ (hgl.mono hp.le) (hop _ hmem x (by rw[←g2];simp[Op.operands])) fun t _=>ht t
  have hn:F.n=a.tmps.size:=h4.trans h3.symm
  refine kG hp.sim g2.symm hxv hit hmp hold hst' (fun hl=>?_) fun e hel w' k v hk hv hpo=>?_
  ·refine ih0 hl (i+1) (by omega) he2 _ w ⟨⟨R,hp,fun t=>?_⟩,by rw[put_defers];exact h2,by rw[CU];exact h3,by rw[Fr.n_put];exact h4⟩ hQ
   rw[g1]
   have hvl:Cf R [.bool false] [.bool false]:=.cons (.bool false) .nil
   exact GU hn R.le_refl (.tuple hvl.1 hvl.2) (fun _=>ht t) fun _=>ht t
  ·refine ih1 e hel (i+1) (by omega) he2 _ w' ⟨⟨R,hp.trans hpo hs0,fun t=>?_⟩,by rw[put_defers];exact h2,by rw[CU];exact h3,by rw[Fr.n_put];exact h4⟩ hQ
   rw[g1]
   have hvl:Cf R [.bool true,e.key,e.val] [.bool true,k,v]:=.cons (.bool true) (.cons hk (.cons hv .nil))
   exact GU hn R.le_refl (.tuple hvl.1 hvl.2) (fun _=>ht t) fun _=>ht t

include hT hc hm hs0 hgl hfull in
theorem BN.sound {rc:RC} {F:Fr} {H:Aa} {Q:Ex→Fr→Aa→Prop} (hrun:BN tt call H0.next rc F H Q):∀ {c:Code},Fx c rc→AU gl c=true→∀ (a:Act) (w:World),St gl H0 R0 w0 d0 m0 F H a w →
 c.wp P (fun x a' w'=>∃ e F' H',x=e.exit'∧Q e F' H'∧St gl H0 R0 w0 d0 m0 F' H' a' w') a w:=by
 induction hrun with
 | gh hg _ ih=>intro c hcomp hok a w hst;exact ih hcomp hok a w (hst.ghost hs0 hfull hg)
 | mono _ hQ ih =>
  intro c hcomp hok a w hst
  exact wp_mono (ih hcomp hok a w hst) fun x a' w' ⟨e,F',H',h1,h2,h3⟩=>⟨e,F',H',h1,hQ _ _ _ h2,h3⟩
 | post _ hQ ih =>
  intro c hcomp hok a w hst
  exact wp_mono (ih hcomp hok a w hst) fun x a' w' ⟨e,F',H',h1,h2,h3⟩=>by
   obtain⟨F2,H2,g,q⟩:=hQ _ _ _ h2
   exact⟨e,F2,H2,h1,q,h3.gst hs0 hfull g⟩
 | @rm rc F H Q' t id n sz c2 xs ys hft hg hl hy h0 h1 ih0 ih1 =>
  intro c hcomp hok a w hst
  obtain⟨⟨R,hp,ht⟩,h2,h3,h4⟩:=hst
  have hv:=ht t
  rw[hft] at hv
  have put:∀ v,VR R v (a.tmps.getD t undef)→∀ s,VR R ((F.put (some t) v).get s) (a.tmps.getD s undef):=fun v hv s=>by
   rw[Fr.get_put]
   split
   ·rename_i he;rw[←he.1];exact hv
   ·exact ht s
  generalize hu:a.tmps.getD t undef=u at hv put
  cases hv with
  | @sl _ _ _ _ _ d β cap hf e1 e2 e3 e4 =>
   by_cases hcap:cap=n
   ·refine ih0 hcomp hok a w ⟨⟨R,hp,put _ ?_⟩,h2,h3,(Fr.n_put ..).trans h4⟩
    exact .sl hf (by omega) (by omega) (fun _=>by omega) e4
   ·refine ih1 hcomp hok a w ⟨⟨R, hp.recell hg (fun c' β' h' => ?_) hy (.inr (.inl ⟨_, hf⟩)), put _ ?_⟩, h2, h3, (Fr.n_put ..).trans h4⟩
    ·rw[hf] at h'
     injection h' with h';injection h' with q1 q2;subst q1;subst q2
     have:(n+1)*sz≤cap*sz:=Nat.mul_le_mul_right _ (by omega)
     rw[hl];omega
    ·exact .sl hf (by omega) (by omega) (fun ho=>by omega) e4
  | slE h=>exact ih0 hcomp hok a w ⟨⟨R,hp,put _ (.slE (by omega))⟩,h2,h3,(Fr.n_put ..).trans h4⟩
  | slN h=>exact ih0 hcomp hok a w ⟨⟨R,hp,put _ (.slN (by omega))⟩,h2,h3,(Fr.n_put ..).trans h4⟩
 | skip h=>intro c hcomp hok a w hst;cases hcomp;exact wp_skip ⟨.normal,_,_,rfl,h,hst⟩
 | @reg ord ops F F' H H' Q he h =>
  intro c hcomp hok a w hst
  obtain⟨⟨R,hp,ht⟩,h2,h3,h4⟩:=hst
  have hn:F.n=a.tmps.size:=h4.trans h3.symm
  have fin : ∀ (a' : Act) (w' : World) (R' : Ren), a'.defers = a.defers → a'.tmps.size = a.tmps.size → (∀ t, VR R' (F'.get t) (a'.tmps.getD t undef)) → Ba H R w H' R' w' →
   ∃ e F'' H'',Exit.normal=e.exit'∧Q e F'' H''∧St gl H0 R0 w0 d0 m0 F'' H'' a' w':=fun a' w' R' k1 k2 k3 k4=>
   ⟨.normal,F',H',rfl,h,⟨R',hp.trans k4 hs0,k3⟩,k1.trans h2,k2.trans h3,(Ik he).symm.trans h4⟩
  cases hcomp with
  | plain id ops' =>
   refine wp_region ?_
   rw[List.range_eq_range']
   exact Ky hT hc (Jq hok) ops'.size 0 F H R a w (by omega) (by rw[List.drop_zero];exact he) hp.sim (hgl.mono hp.le) hn ht fun a' w' R' k1 k2 k3 k4=>fin a' w' R' k1 k2 k3 k4
  | draw id hl=>exact XC hT hc (Jq hok) hl he hp.sim (hgl.mono hp.le) hn ht hm id fun a' w' R' k1 k2 k3 k4=>fin a' w' R' k1 k2 k3 k4
 | seq _ _ hx iha ihb =>
  intro c hcomp hok a w hst
  cases hcomp with
  | @seq ca cb _ _ hca hcb =>
   obtain⟨o1,o2⟩:=Av (show an (AU gl ca) (AU gl cb)=true from hok)
   refine wp_seq (wp_mono (iha hca o1 a w hst) fun x a' w' ⟨e,F',H',h1,h2,h3⟩=>?_)
   subst h1
   cases e with
   | normal=>exact ihb F' H' h2 hcb o2 a' w' h3
   | exit j=>exact⟨.exit j,F',H',rfl,hx _ _ _ (by simp) h2,h3⟩
   | ret=>exact⟨.ret,F',H',rfl,hx _ _ _ (by simp) h2,h3⟩
   | goto j=>exact⟨.goto j,F',H',rfl,hx _ _ _ (by simp) h2,h3⟩
 | condT hcnd _ ih =>
  intro c hcomp hok a w hst
  cases hcomp with
  | @cond _ ca cb _ _ hca hcb =>
   obtain⟨o1,o2⟩:=Av (show an (Y9 gl _) (an (AU gl ca) (AU gl cb))=true from hok)
   have hst':=hst
   obtain⟨⟨R,hp,ht⟩,_⟩:=hst
   have hv:=GQ (hgl.mono hp.le) (M3 o1) (a:=a) fun t _=>ht t
   rw[BV hcnd] at hv
   exact wp_cond_true hv.bool_l (ih hca (Av o2).1 a w hst')
 | condF hcnd _ ih =>
  intro c hcomp hok a w hst
  cases hcomp with
  | @cond _ ca cb _ _ hca hcb =>
   obtain⟨o1,o2⟩:=Av (show an (Y9 gl _) (an (AU gl ca) (AU gl cb))=true from hok)
   have hst':=hst
   obtain⟨⟨R,hp,ht⟩,_⟩:=hst
   have hv:=GQ (hgl.mono hp.le) (M3 o1) (a:=a) fun t _=>ht t
   rw[BV hcnd] at hv
   exact wp_cond_false hv.bool_l (ih hcb (Av o2).2 a w hst')
 | @block id b F H Q _ ih =>
  intro c hcomp hok a w hst
  cases hcomp with
  | @block _ cb _ hcb =>
   refine wp_block (wp_mono (ih hcb hok a w hst) fun x a' w' ⟨e,F',H',h1,h2,h3⟩=>?_)
   subst h1
   cases e with
   | normal=>exact⟨.normal,F',H',rfl,h2,h3⟩
   | ret=>exact⟨.ret,F',H',rfl,h2,h3⟩
   | goto j=>exact⟨.goto j,F',H',rfl,h2,h3⟩
   | exit j =>
    have h2:match Nat.beq j id with | true=>Q .normal F' H' | false=>Q (.exit j) F' H':=h2
    by_cases hj:j=id
    ·rw[show Nat.beq j id=true by rw[hj];exact Nat.beq_refl id] at h2
     have:∃ e F'' H'',Exit.normal=e.exit'∧Q e F'' H''∧St gl H0 R0 w0 d0 m0 F'' H'' a' w':=⟨.normal,F',H',rfl,h2,h3⟩
     simpa [Exit.inBlock,Ex.exit',hj] using this
    ·rw [show Nat.beq j id = false by cases hb : Nat.beq j id with
      | false=>rfl
      | true=>exact absurd (Nat.eq_of_beq_eq_true hb) hj] at h2
     have:∃ e F'' H'',Exit.exit j=e.exit'∧Q e F'' H''∧St gl H0 R0 w0 d0 m0 F'' H'' a' w':=⟨.exit j,F',H',rfl,h2,h3⟩
     simpa [Exit.inBlock,Ex.exit',hj] using this
 | @loop b F H Q I n h0 hstep ih =>
  intro c hcomp hok a w hst
  cases hcomp with
  | @loop cb _ hcb =>
   refine wp_loop_rounds (n+1) ?_
   have key : ∀ (n m : Nat) (F : Fr) (H : Aa) (a : Act) (w : World), m < n → I m F H → St gl H0 R0 w0 d0 m0 F H a w →
    Code.rounds P cb (fun x a' w'=>∃ e F' H',x=e.exit'∧Q e F' H'∧St gl H0 R0 w0 d0 m0 F' H' a' w') n a w:=by
    intro n
    induction n with
    | zero=>intro m F H a w hlt;omega
    | succ n ihn =>
     intro m F H a w hlt hI hst
     rw[rounds_succ]
     refine wp_mono (ih m F H hI hcb hok a w hst) fun x a' w' ⟨e,F',H',h1,h2,h3⟩=>?_
     subst h1
     cases e with
     | normal=>obtain⟨k,hk,hIk⟩:=h2;exact ihn k F' H' a' w' (by omega) hIk h3
     | exit j=>exact⟨.exit j,F',H',rfl,h2,h3⟩
     | ret=>exact⟨.ret,F',H',rfl,h2,h3⟩
     | goto j=>exact⟨.goto j,F',H',rfl,h2,h3⟩
   exact key (n+1) n F H a w (by omega) h0 hst
 | exit h=>intro c hcomp hok a w hst;cases hcomp;exact wp_exit ⟨.exit _,_,_,rfl,h,hst⟩
 | ret h=>intro c hcomp hok a w hst;cases hcomp;exact wp_ret ⟨.ret,_,_,rfl,h,hst⟩
 | @regG ops F F' H H' Q hne he h =>
  intro c hcomp hok a w hst
  cases hcomp with
  | plain id ops' =>
   refine wp_region ?_
   rw[List.range_eq_range']
   exact he.sound hT hc hs0 hgl hfull (Jq hok) 0 (Nat.zero_le _) rfl a w hst fun a' w' hst'=>⟨.normal,_,_,rfl,h,hst'⟩
  | draw id hl=>rw[Ms hl] at hne;cases hne
 | @regN ops F H Q hne he =>
  intro c hcomp hok a w hst
  cases hcomp with
  | plain id ops' =>
   refine wp_region ?_
   rw[List.range_eq_range']
   exact he.sound hT hc hs0 hgl hfull (Jq hok) 0 (Nat.zero_le _) rfl a w hst fun F' H' a' w' hq hst'=>⟨.normal,F',H',rfl,hq,hst'⟩
  | draw id hl=>rw[Ms hl] at hne;cases hne
 | @ev rc F H Q fuel s he h =>
  intro c hcomp hok a w hst
  obtain⟨⟨R,hp,ht⟩,h2,h3,h4⟩:=hst
  refine aX hT hc hm hcomp fuel hok F H R a w s he hp.sim (hgl.mono hp.le) (h4.trans h3.symm) ht _ fun a' w' R' k1 k2 k3 k4 k5=>?_
  exact⟨s.e,s.F,s.H,rfl,h,⟨R',hp.trans k5 hs0,k4⟩,k1.trans h2,k2.trans h3,k3.symm.trans h4⟩
 | label h=>intro c hcomp hok a w hst;cases hcomp;exact wp_label ⟨.normal,_,_,rfl,h,hst⟩
 | goto h=>intro c hcomp hok a w hst;cases hcomp;exact wp_goto ⟨.goto _,_,_,rfl,h,hst⟩
 | @scope b r l F H Q I n _ _ ihb ihs =>
  intro c hcomp hok a w hst
  cases hcomp with
  | @scope cb rest _ _ _ hcb hf hcr =>
   have hokr:AU gl rest=true:=NR hf hok
   have key : ∀ (n k : Nat) (F : Fr) (H : Aa) (a : Act) (w : World), k < n → I k F H → St gl H0 R0 w0 d0 m0 F H a w →
    Jn P l rest (fun x a' w'=>∃ e F' H',x=e.exit'∧Q e F' H'∧St gl H0 R0 w0 d0 m0 F' H' a' w') n a w:=by
    intro n
    induction n with
    | zero=>intro k F H a w hlt;omega
    | succ n ihn =>
     intro k F H a w hlt hI hst
     show rest.wp P (Exit.jump l (Jn P l rest _ n) _) a w
     refine wp_mono (ihs k F H hI hcr hokr a w hst) fun x a' w' ⟨e,F',H',h1,h2,h3⟩=>?_
     subst h1
     cases e with
     | normal=>exact⟨.normal,F',H',rfl,h2,h3⟩
     | exit j=>exact⟨.exit j,F',H',rfl,h2,h3⟩
     | ret=>exact⟨.ret,F',H',rfl,h2,h3⟩
     | goto j=>obtain⟨rfl,k',hk,hIk⟩:=h2;exact⟨rfl,ihn k' F' H' a' w' (by omega) hIk h3⟩
   refine NQ hf n (wp_mono (ihb hcb hok a w hst) fun x a' w' ⟨e,F',H',h1,h2,h3⟩=>?_)
   subst h1
   cases e with
   | normal=>exact⟨.normal,F',H',rfl,h2,h3⟩
   | exit j=>exact⟨.exit j,F',H',rfl,h2,h3⟩
   | ret=>exact⟨.ret,F',H',rfl,h2,h3⟩
   | goto j=>obtain⟨rfl,k',hk,hIk⟩:=h2;exact⟨rfl,key n k' F' H' a' w' hk hIk h3⟩
end
end Go.Sp
namespace Go.Sp
noncomputable section

def M4 (H:Aa) (v:Value):Option Value:=
 oo (IA v) (bb (Ah v) (some v) none) fun s=>oo (Bv (H.get s.id)) none fun o=>
  bb (an (Nat.ble (s.off+s.len*s.sz) (len o.xs)) (Au Ah (Aq (s.len*s.sz) (Am s.off o.xs)))) (some (FP s.sz s.len 0 (Aq (s.len*s.sz) (Am s.off o.xs)))) none
def RG (H:Aa) (v:Value):Option Value:=oo (Bt v) (M4 H v) fun l=>oo (CG (M4 H) l) none fun l'=>some (.agg ⟨l'⟩)
def RH (v:Value):Bool:=oo (CQ v) (Ee v) fun l=>Au Ee l

def IZ (H:Aa) (tabs:List (List Value)):Nat→Bool:=List.rec (motive:=fun _=>Nat→Bool) (fun _=>true) (fun t _ ih i=>an (isS (Bv (H.get i))) (an (FE (Ei H i) t) (ih (Nat.succ i)))) tabs
def KD (tabs:List (List Value)):List AJ:=AP (fun t=>.cells t true false []) tabs
def Ao (tabs:List (List Value)):Aa:=⟨len tabs,JJ (KD tabs) 0 .nil,true⟩

abbrev Af:=FuncId→List Value→Option Value

def Bb (tabs:List (List Value)) (isP:FuncId→Bool) (pu:Af) (inl:A8):A8:=fun g args H=>
 bb (isP g) (bb (IZ H tabs 0)
  (bb (Au closed2 args) (oo (pu g args) none fun v=>some (v,H)) (oo (CG (RG H) args) none fun as=>oo (pu g as) none fun v=>bb (RH v) (some (v,H)) none)) none) (inl g args H)
end

def BA (P:Program) (tabs:List (List Value)) (g:FuncId) (f:List Value→Option Value):Prop:=
 (∀ (as:Array Value) (w:World),(callFunc g as).run P w = .ok (.enter g as) w) ∧
 ∀ args v, f args = some v → (∀ x ∈ args, closed2 x = true) →
  ∀ R w args', R.f = (fun i => if i < tabs.length then some (i, 0) else none) → Ck (Ao tabs) R w → Cf R args args' →
   Calls P g ⟨args'⟩ w fun e w'=>∃ u H' R',e = .returned u∧Fe v=true∧VR R' v u∧Ba (Ao tabs) R w H' R' w'

theorem Qf (tabs:List (List Value)) (i:Nat):(KD tabs)[i]?=(tabs[i]?).map fun t=>.cells t true false []:=by simp[KD]
theorem EF (tabs:List (List Value)) (i:Nat):(Ao tabs).get i=match tabs[i]? with | some t=>.cells t true false [] | none=>.dead:=by
 unfold Ao
 rw[Aa.get_mk,LF]
 have hl:(KD tabs).length=tabs.length:=by simp[KD]
 by_cases h:i < tabs.length
 ·rw[if_pos (by rw[hl];omega),Nat.sub_zero,Qf,List.getElem?_eq_getElem h];rfl
 ·rw[if_neg (by rw[hl];omega),List.getElem?_eq_none (by omega)];rfl
theorem KV {H:Aa} {tabs:List (List Value)} {j:Nat} (h:IZ H tabs j=true):∀ i t,tabs[i]?=some t→isS (Bv (H.get (j+i)))=true∧Ei H (j+i)=t:=by
 induction tabs generalizing j with
 | nil=>intro i t h;simp at h
 | cons a tabs ih =>
  obtain⟨h0,h1⟩:=Av (show an (isS (Bv (H.get j))) (an (FE (Ei H j) a) (IZ H tabs (j+1)))=true from h)
  obtain⟨h1,h2⟩:=Av h1
  intro i t hi
  cases i with
  | zero=>simp at hi;subst hi;exact⟨h0,LB h1⟩
  | succ i=>have:=ih h2 i t (by simpa using hi);rwa [show j+(i+1)=j+1+i by omega]
theorem TE {H:Aa} {tabs:List (List Value)} {j:Nat} (h:IZ H tabs j=true) (i:Nat) (t:List Value) (hi:tabs[i]?=some t):Ei H (j+i)=t:=(KV h i t hi).2

theorem KE {tabs:List (List Value)} {H:Aa} {R:Ren} {w:World} (hs:Ck H R w) (hgl:JH (List.range tabs.length) R) (ht:IZ H tabs 0=true) (ro:Nat→Option (Array Value))
 (hro:∀ c C,ro c=some C→∃ t fz,w.heap[c]?=some (.cells C t fz)) (hle:∀ c C,R.ro c=some C→ro c=some C) (hne:∀ t∈tabs,t=t) (hpl:∀ t∈tabs,∀ x∈t,BR x=true) :
 Ck (Ao tabs) ⟨fun i=>if i < tabs.length then some (i,0) else none,R.sz,ro⟩ w:=by
 have hmap:∀ i c β,(if i < tabs.length then some (i,0) else none)=some (c,β)→i < tabs.length∧c=i∧β=0:=fun i c β h=>by
  split at h
  ·rename_i hlt;injection h with h;injection h with e1 e2;exact⟨hlt,e1.symm,e2.symm⟩
  ·cases h
 have hRi:∀ i,i < tabs.length→R.f i=some (i,0):=fun i hi=>hgl i (by simpa using hi)
 refine ⟨fun id c β h => ?_, fun id c β h => ?_, fun id c β id' β' h h' hn => ?_, fun id a ha => ?_, fun id hid => ?_, fun c C h => ⟨hro c C h, fun id β h' => ?_⟩⟩
 ·obtain⟨h1,rfl,rfl⟩:=hmap _ _ _ h
  refine⟨?_,(hs.dom c c 0 (hRi c h1)).2⟩
  show c < len tabs
  rw[AV];exact h1
 ·obtain⟨h1,rfl,rfl⟩:=hmap _ _ _ h
  have ht1:=List.getElem?_eq_getElem h1
  rw[EF,ht1]
  have hc:=TE ht c _ ht1
  rw[Nat.zero_add] at hc
  unfold Ei at hc
  cases ho:Bv (H.get c) with
  | none =>
   have hb:=(KV ht c _ ht1).1
   rw[Nat.zero_add,ho] at hb;cases hb
  | some o =>
   rw[ho,Ac] at hc
   obtain⟨C,t,fz,k1,k2,k3,k4⟩:=hs.cells (hRi c h1) ho
   rw[hc] at k3 k4
   refine⟨C,t,fz,k1,k2,k3,fun i x hx=>?_,fun h=>by cases h⟩
   obtain⟨y,hy,hv⟩:=k4 i x hx
   have hp:=hpl _ (List.getElem_mem h1) x (List.mem_of_getElem? hx)
   have:y=x:=by
    have hvv:=hp
    cases x <;> simp[BR,vv] at hvv
    case bool=>exact hv.bool_l
    case int=>exact hv.int_l
    case string=>exact hv.string_l
    case pointer a=>cases a with
     | none=>cases hv;rfl
     | some a=>simp at hvv
    case slice a l c=>
     cases a with
     | some a=>simp at hvv
     | none=>simp at hvv;obtain⟨h1,h2⟩:=hvv;subst h1;subst h2;exact hv.slNil_l
    case map m=>cases m with
     | none=>exact hv.mapNil_l
     | some m=>simp at hvv
    case nilFunc=>cases hv;rfl
    case nilIface=>cases hv;rfl
   rw[this] at hy
   exact⟨x,hy,Df hp⟩
 ·obtain⟨_,rfl,_⟩:=hmap _ _ _ h
  obtain⟨_,e,_⟩:=hmap _ _ _ h'
  exact absurd e hn
 ·rw[EF] at ha
  split at ha <;> cases ha
 ·have hid:len tabs≤id:=hid
  rw[AV] at hid
  rw[EF,List.getElem?_eq_none hid]
 ·rw[EF];split <;> rfl

theorem N7 {R R':Ren} (hro:∀ c C,R.ro c=some C→R'.ro c=some C) {v u:Value} (hv:VR R v u) (h:Fe v=true):VR R' v u:=by
 unfold Fe at h
 cases ha:CQ v with
 | none=>rw[ha,Az] at h;exact J7 hro hv h
 | some l =>
  rw[ha,Ac,Bh,List.all_eq_true] at h
  rw[EU ha] at hv ⊢
  obtain⟨us,rfl,hl⟩:=hv.tuple_l
  exact .tuple hl.1 fun i x y hx hy=>J7 hro (hl.2 i x y hx hy) (h x (List.mem_of_getElem? hx))
theorem Mt {R R':Ren} (hro:∀ c C,R.ro c=some C→R'.ro c=some C) {xs us:List Value} (hv:Cf R xs us) (h:∀ x∈xs,closed2 x=true):Cf R' xs us:=
 ⟨hv.1,fun i x y hx hy=>J7 hro (hv.2 i x y hx hy) (h x (List.mem_of_getElem? hx))⟩

noncomputable def Hq (w:World):Nat→Option (Array Value):=fun c=>match w.heap[c]? with | some (.cells C _ _)=>some C | _=>none
theorem TF (w:World):∀ c C,Hq w c=some C→∃ t fz,w.heap[c]?=some (.cells C t fz):=fun c C h=>by
 unfold Hq at h
 split at h
 ·rename_i D t fz hD;injection h with h;subst h;exact⟨t,fz,hD⟩
 ·cases h
theorem N8 {H:Aa} {R:Ren} {w:World} (hs:Ck H R w):∀ c C,R.ro c=some C→Hq w c=some C:=fun c C h=>by
 obtain⟨⟨t,fz,h1⟩,_⟩:=hs.ro c C h
 simp[Hq,h1]

theorem J8 {H:Aa} {R R':Ren} {w:World} (hs:Ck H R w) (hR':R'.ro=Hq w) {v u v':Value} (hv:VR R v u) (h:M4 H v=some v'):VR R' v' u∧Ah v'=true:=by
 have hro:∀ c C,R.ro c=some C→R'.ro c=some C:=fun c C h=>by rw[hR'];exact N8 hs c C h
 unfold M4 at h
 cases hsl:IA v with
 | none =>
  rw[hsl,Az] at h
  obtain⟨hc,h1⟩:=Ae h
  injection h1 with h1;subst h1
  exact⟨hv.closed hro hc,hc⟩
 | some s =>
  rw[hsl,Ac] at h
  obtain⟨o,ho,h1⟩:=Ab h
  obtain⟨hc,h2⟩:=Ae h1
  obtain⟨c1,c2⟩:=Av hc
  simp only[AV] at c1
  have c1:=Nat.le_of_ble_eq_true c1
  rw[Bh,List.all_eq_true] at c2
  injection h2 with h2;subst h2
  simp only[Cg,Bz] at c2 ⊢
  refine⟨?_,rfl⟩
  rcases hv.sl_l hsl with⟨c,β,cap,hid,rfl,k1,k2,k3,k4⟩ | ⟨c,o2,rfl,k0,k00⟩ | ⟨rfl,k0,k00⟩
  ·obtain⟨C,ty,fz,hC,hsz,hcf,hcr⟩:=hs.cells hid ho
   have hroC:R'.ro c=some C:=by rw[hR'];simp[Hq,hC]
   obtain⟨ys,g1,g2,g3⟩:=(hcr.part s.off (s.len*s.sz)).list
   refine .fs hroC (by simp;omega) (by omega) (fun h=>by cases h) (by omega) (by simp;omega) g2 c2 g1 fun i x y hx hy=>(g3 i x y hx hy).closed hro (c2 x (List.mem_of_getElem? hx))
  ·rw[k0]
   simp only[Nat.zero_mul,List.take_zero]
   exact .fsE (by omega)
  ·rw[k0]
   simp only[Nat.zero_mul,List.take_zero]
   exact .fsN _ _ (by decide)
theorem Qg {H:Aa} {R R':Ren} {w:World} (hs:Ck H R w) (hR':R'.ro=Hq w) {v u v':Value} (hv:VR R v u) (h:RG H v=some v'):VR R' v' u∧closed2 v'=true:=by
 unfold RG at h
 cases ha:Bt v with
 | none =>
  rw[ha,Az] at h
  obtain⟨h1,h2⟩:=J8 hs hR' hv h
  refine⟨h1,?_⟩
  unfold closed2
  cases hb:Bt v' with
  | none=>rw[Az];exact h2
  | some l=>rw[BQ hb] at h2;cases h2
 | some l =>
  rw[ha,Ac] at h
  obtain⟨l',hl',h1⟩:=Ab h
  injection h1 with h1;subst h1
  rw[BQ ha] at hv
  obtain⟨us,rfl,hl⟩:=hv.agg_l
  have hm:=Im (R:=R) (R':=R') (fun v u v' hv h=>(J8 hs hR' hv h).1) hl' hl
  refine⟨.agg hm.1 hm.2,?_⟩
  show Au Ah l'=true
  rw[Bh,List.all_eq_true]
  intro x hx
  obtain⟨i,hi⟩:=List.mem_iff_getElem?.1 hx
  obtain⟨m1,m2⟩:=Di hl'
  have hlt:i < l.length:=by rw[←m1];exact(List.getElem?_eq_some_iff.1 hi).1
  obtain⟨b,hb,hf⟩:=m2 i _ (List.getElem?_eq_getElem hlt)
  rw[hi] at hb;injection hb with hb;subst hb
  have hlt2:i < us.length:=by rw[←hl.1];exact hlt
  exact(J8 hs hR' (hl.2 i _ _ (List.getElem?_eq_getElem hlt) (List.getElem?_eq_getElem hlt2)) hf).2

theorem N9 {R R':Ren} {v u:Value} (hv:VR R v u) (h:Ee v=true):VR R' v u:=by
 have key:∀ {x y:Value},VR R x y→BR x=true→VR R' x y:=fun {x y} hv hp=>by
  have hvv:=hp
  cases x <;> simp[BR,vv] at hvv
  case bool=>rw[hv.bool_l];exact .bool _
  case int=>rw[hv.int_l];exact .int _ _
  case string=>rw[hv.string_l];exact .string _
  case pointer a=>cases a with
   | none=>cases hv;exact .ptrNil
   | some a=>simp at hvv
  case slice a l c=>
   cases a with
   | some a=>simp at hvv
   | none=>simp at hvv;obtain⟨h1,h2⟩:=hvv;subst h1;subst h2;rw[hv.slNil_l];exact .slNil
  case map m=>cases m with
   | none=>rw[hv.mapNil_l];exact .mapNil
   | some m=>simp at hvv
  case nilFunc=>cases hv;exact .nilFunc
  case nilIface=>cases hv;exact .nilIface
 cases v
 case agg a=>
  obtain⟨l⟩:=a
  have h:∀ x∈l,BR x=true:=by simpa [Ee,Bt,vv,JS] using h
  obtain⟨us,rfl,hl⟩:=hv.agg_l
  exact .agg hl.1 fun i x y hx hy=>key (hl.2 i x y hx hy) (h x (List.mem_of_getElem? hx))
 case tuple a=>
  obtain⟨l⟩:=a
  have h:∀ x∈l,BR x=true:=by simpa [Ee,Bt,CQ,vv,JS] using h
  obtain⟨us,rfl,hl⟩:=hv.tuple_l
  exact .tuple hl.1 fun i x y hx hy=>key (hl.2 i x y hx hy) (h x (List.mem_of_getElem? hx))
 all_goals exact key hv (by simpa [Ee,Bt,CQ,vv] using h)
theorem VE {R R':Ren} {v u:Value} (hv:VR R v u) (h:RH v=true):VR R' v u:=by
 unfold RH at h
 cases ha:CQ v with
 | none=>rw[ha,Az] at h;exact N9 hv h
 | some l =>
  rw[ha,Ac,Bh,List.all_eq_true] at h
  rw[EU ha] at hv ⊢
  obtain⟨us,rfl,hl⟩:=hv.tuple_l
  exact .tuple hl.1 fun i x y hx hy=>N9 (hl.2 i x y hx hy) (h x (List.mem_of_getElem? hx))
end Go.Sp
namespace Go.Sp

theorem FV {tabs:List (List Value)} {id:Nat} (h:id < tabs.length):((Ao tabs).get id).immB=true:=by
 rw[EF,List.getElem?_eq_getElem h];rfl
theorem Jr {n i c β:Nat} (h:(if i < n then some (i,0) else none)=some (c,β)):i < n∧c=i∧β=0:=by
 split at h
 ·rename_i hlt;injection h with h;injection h with e1 e2;exact⟨hlt,e1.symm,e2.symm⟩
 ·cases h

section
variable {P:Program} {tabs:List (List Value)}

theorem LG {H : Aa} {R : Ren} {w w' : World} {H1 : Aa} {R0 R1 R' : Ren} (hs : Ck H R w) (hR0 : R0.f = fun i => if i < tabs.length then some (i, 0) else none) (hp : Ba (Ao tabs) R0 w H1 R1 w')
 (hf:R'.f=R.f) (hsz:R'.sz=R.sz) (hle:∀ c C,R.ro c=some C→R'.ro c=some C)
 (hro:∀ c C,R'.ro c=some C→R.ro c=some C∨(w.heap.size≤c∧R1.ro c=some C)):Ba H R w H R' w':=by
 have hkeep:∀ c,c < w.heap.size→w'.heap[c]?=w.heap[c]?:=fun c hc=>hp.frame c hc fun id β h=>by
  rw[hR0] at h
  exact FV (Jr h).1
 have hle':R.le R':=⟨fun id c β h=>⟨by rw[hf];exact h,by rw[hsz]⟩,hle⟩
 refine ⟨hle', fun id p h => .inl (by rw [hf] at h; exact h), ⟨fun id c β h => ?_, fun id c β h => ?_, fun id c β id' β' h h' => ?_, hs.anc, hs.wf, fun c C h => ?_⟩, Nat.le_refl _, hp.grow, fun c hc _ => hkeep c hc, fun _ _ _ _ _ _ _ h => h, fun _ _ _ => rfl,
  fun id c β h h'=>(by rw[hf,h'] at h;cases h),hp.side,fun c C h=>?_⟩
 ·rw[hf] at h
  have:=hs.dom id c β h
  exact⟨this.1,Nat.lt_of_lt_of_le this.2 hp.grow⟩
 ·rw[hf] at h
  rw[hkeep c (hs.dom id c β h).2]
  exact(hs.obj id c β h).mono hle' (by rw[hsz])
 ·rw [hf] at h h'; exact hs.sep id c β id' β' h h'
 ·rcases hro c C h with h1 | ⟨h1,h2⟩
  ·obtain⟨⟨t,fz,h3⟩,h4⟩:=hs.ro c C h1
   refine⟨⟨t,fz,?_⟩,fun id β h5=>by rw[hf] at h5;exact h4 id β h5⟩
   rw[hkeep c (Array.getElem?_eq_some_iff.1 h3).1];exact h3
  ·refine⟨(hp.sim.ro c C h2).1,fun id β h5=>?_⟩
   rw[hf] at h5
   have:=(hs.dom id c β h5).2
   omega
 ·rcases hro c C h with h1 | ⟨h1,_⟩
  ·exact .inl h1
  ·exact .inr (.inl h1)

theorem TG (hne:∀ t∈tabs,t=t) (hpl:∀ t∈tabs,∀ x∈t,BR x=true) {isP:FuncId→Bool} {pu:Af} {inl:A8} (hinl:CO P (List.range tabs.length) inl)
 (hpu:∀ g,isP g=true→BA P tabs g (pu g)):CO P (List.range tabs.length) (Bb tabs isP pu inl):=by
 intro g args H v H' h
 have h : bb (isP g) (bb (IZ H tabs 0)
  (bb (Au closed2 args) (oo (pu g args) none fun v=>some (v,H)) (oo (CG (RG H) args) none fun as=>oo (pu g as) none fun v=>bb (RH v) (some (v,H)) none)) none) (inl g args H)=some (v,H'):=h
 rw[BL] at h
 split at h
 ·rename_i hg
  obtain⟨hen,hpure⟩:=hpu g hg
  obtain⟨htab,h1⟩:=Ae h
  refine⟨hen,fun R w args' hs hgl ha=>?_⟩
  rw[BL] at h1
  split at h1
  ·rename_i hcl
   rw[Bh,List.all_eq_true] at hcl
   obtain⟨v',hv',h2⟩:=Ab h1
   injection h2 with h2;injection h2 with e1 e2;subst e1;subst e2
   have hcalls:=hpure args v' hv' hcl
   have hs0:=KE hs hgl htab R.ro (fun c C h=>(hs.ro c C h).1) (fun c C h=>h) hne hpl
   refine(hcalls _ w args' rfl hs0 (Mt (R:=R) (R':=⟨fun i=>if i < tabs.length then some (i,0) else none,R.sz,R.ro⟩) (fun _ _ h=>h) ha hcl)).mono fun e w' ⟨u,H1,R1,he,hcv,hu,hp⟩=>?_
   refine⟨u,⟨R.f,R.sz,R1.ro⟩,he,N7 (R:=R1) (R':=⟨R.f,R.sz,R1.ro⟩) (fun _ _ h=>h) hu hcv,LG hs rfl hp rfl rfl (fun c C h=>hp.le.ro c C h) fun c C h=>?_⟩
   rcases hp.rofresh c C h with h3 | h3 | ⟨id,β,h3,h4⟩
   ·exact .inl h3
   ·exact .inr ⟨h3,h⟩
   ·have:=FV (Jr (show (if id < tabs.length then some (id,0) else none)=some (c,β) from h3)).1
    rw[this] at h4;cases h4
  ·obtain⟨as,has,h2⟩:=Ab h1
   obtain⟨v',hv',h3⟩:=Ab h2
   obtain⟨hpt,h4⟩:=Ae h3
   injection h4 with h4;injection h4 with e1 e2;subst e1;subst e2
   have hs0:=KE hs hgl htab (Hq w) (TF w) (N8 hs) hne hpl
   have hcl:∀ x∈as,closed2 x=true:=fun x hx=>by
    obtain⟨i,hi⟩:=List.mem_iff_getElem?.1 hx
    obtain⟨m1,m2⟩:=Di has
    have hlt:i < args.length:=by rw[←m1];exact(List.getElem?_eq_some_iff.1 hi).1
    obtain⟨b,hb,hf⟩:=m2 i _ (List.getElem?_eq_getElem hlt)
    rw[hi] at hb;injection hb with hb;subst hb
    have hlt2:i < args'.length:=by rw[←ha.1];exact hlt
    exact(Qg (R':=⟨R.f,R.sz,Hq w⟩) hs rfl (ha.2 i _ _ (List.getElem?_eq_getElem hlt) (List.getElem?_eq_getElem hlt2)) hf).2
   have hcalls:=hpure as v' hv' hcl
   refine(hcalls _ w args' rfl hs0 (Im (fun v u v' hv h=>(Qg hs rfl hv h).1) has ha)).mono fun e w' ⟨u,H1,R1,he,hcv,hu,hp⟩=>?_
   exact⟨u,R,he,VE hu hpt,LG hs rfl hp rfl rfl (fun c C h=>h) fun c C h=>.inl h⟩
 ·exact hinl g args H v H' h

def Fin (tt:TT) (n0:Nat) (rs:List ResultVar) (v:Value):Ex→Fr→Aa→Prop
 | .exit _,_,_=>False
 | .goto _,_,_=>False
 | _,F,H=>∃ r H1,DV tt F H rs=some r∧FU n0 H r H1 v∧Fe v=true

theorem Aw {tt:TT} (hT:Jm P tt) (hm:P.follows .mixedOrders=true) {g:FuncId} {r:Xq} {call:A8} (hc:CO P (List.range tabs.length) call) (hfn:Ar P (List.range tabs.length) g r) {f:List Value→Option Value}
 (h:∀ args v,f args=some v→(∀ x∈args,closed2 x=true)→args.length≤r.n∧BN tt call tabs.length r.body (Fr.made r.n args) (Ao tabs) (Fin tt tabs.length r.results v)):BA P tabs g f:=by
 refine⟨A9 hfn,fun args v hv hcl=>?_⟩
 obtain⟨hle,hrun⟩:=h args v hv hcl
 intro R w args' hR hs ha
 obtain⟨fd,c,e1,e2,e3,e4,_,hcomp,hok⟩:=hfn.ok
 refine calls_of_wp e1 e2 ?_
 have hlen:=ha.1
 have hsize:((⟨args'⟩:Array Value)++Array.replicate (fd.ntmps - (⟨args'⟩:Array Value).size) undef).size=r.n:=by simp;omega
 have hgl:JH (List.range tabs.length) R:=fun g hg=>by rw[hR];simp at hg;simp[hg]
 have hfull:∀ id,id < (Ao tabs).next→R.f id=none→(Ao tabs).get id = .dead:=fun id hid hr=>by
  have hid:id < len tabs:=hid
  rw[AV] at hid
  rw[hR] at hr;simp[hid] at hr
 have hrun:BN tt call (Ao tabs).next r.body (Fr.made r.n args) (Ao tabs) (Fin tt tabs.length r.results v):=by
  show BN tt call (len tabs) _ _ _ _
  rw[AV];exact hrun
 have hst:St (List.range tabs.length) (Ao tabs) R w [] r.n (Fr.made r.n args) (Ao tabs) ⟨(⟨args'⟩:Array Value)++Array.replicate (fd.ntmps - (⟨args'⟩:Array Value).size) undef,[]⟩ w:=by
  refine⟨⟨R,.refl hs,fun t=>?_⟩,rfl,hsize,Fr.n_made ..⟩
  rw[Fr.get_made,Array.getD_eq_getD_getElem?]
  show VR R _ (((⟨args'⟩:Array Value)++Array.replicate (fd.ntmps - (⟨args'⟩:Array Value).size) undef)[t]?.getD undef)
  rw[Array.getElem?_append]
  by_cases hlt:t < args'.length
  ·rw[if_pos (by simpa using hlt)]
   obtain ⟨x, hx⟩ : ∃ x, args[t]? = some x := ⟨args[t]'(by omega), by simp⟩
   obtain⟨y,hy,hv⟩:=ha.get hx
   rw[hx,show (⟨args'⟩:Array Value)[t]?=some y by simpa using hy]
   exact hv
  ·rw[List.getElem?_eq_none (by omega)]
   exact .any _
 refine wp_mono (hrun.sound hT hc hm hs hgl (fun id h1 h2=>by rw[hfull id h1 h2];trivial) hcomp hok _ w hst) fun x a' w' ⟨e,F',H',h1,h2,h3⟩=>?_
 subst h1
 obtain⟨⟨R',hp,ht⟩,hd,_,_⟩:=h3
 have fin:(∃ q H1,DV tt F' H' r.results=some q∧FU tabs.length H' q H1 v∧Fe v=true)→bodyPost P fd (fun e w'=>∃ u H' R',e = .returned u∧Fe v=true∧VR R' v u∧Ba (Ao tabs) R w H' R' w') .normal a' w':=fun ⟨q,H1,hres,htl,hcv⟩=>by
  rw[←e4] at hres
  obtain⟨u,hu,huv⟩:=IW hT hp.sim ht hres
  obtain⟨R2,_,_,k2,k3⟩:=htl (Ao tabs) R w R' w' u hs (by show len tabs≤_;rw[AV];exact Nat.le_refl _) hp huv
  exact⟨hd,u,hu,u,H1,R2,rfl,hcv,k3,k2⟩
 cases e with
 | normal=>exact fin h2
 | exit j=>exact h2.elim
 | goto j=>exact h2.elim
 | ret=>exact fin h2
end
end Go.Sp
namespace Go.Sp

inductive M5 (P : Program) : TypeId → List Value → Prop
 | bool {t:TypeId} (h:P.underlying t=some .bool) (b:Bool):M5 P t [.bool b]
 | int {t:TypeId} {k:IntKind} (h:P.underlying t=some (.int k)) (n:Int) (hw:(Lit.int k n).wf=true):M5 P t [.int k n]
 | slice {t e:TypeId} (h:P.underlying t=some (.slice e)) (ls:List (List Value)) (hl:ls.length≤maxLen) (hs:∀ l∈ls,M5 P e l):M5 P t [FP (P.cellsOf e) ls.length 0 ls.flatten]
 | struct {t:TypeId} {fs:Array Field} (h:P.underlying t=some (.struct fs)) (ls:List (List Value)) (hl:ls.length=fs.size) (hs:∀ (i:Nat) (f:Field) (l:List Value),fs[i]?=some f→ls[i]?=some l→M5 P f.type l):M5 P t ls.flatten
 | array {t e:TypeId} {n:Nat} (h:P.underlying t=some (.array n e)) (ls:List (List Value)) (hl:ls.length=n) (hs:∀ l∈ls,M5 P e l):M5 P t ls.flatten

def Io (P:Program):Nat→TypeId→Bool
 | 0,_=>false
 | n + 1, t => match P.underlying t with
  | some .bool=>true
  | some (.int _)=>true
  | some (.slice e)=>Io P n e
  | some (.array _ e)=>Io P n e
  | some (.struct fs)=>fs.toList.all fun f=>Io P n f.type
  | _=>false

theorem Gh {α:Type} {p:Nat→α→Prop}:∀ (n:Nat),(∀ i,i < n→∃ y,p i y)→∃ l:List α,l.length=n∧∀ i y,l[i]?=some y→p i y
 | 0,_=>⟨[],rfl,fun i y h=>by simp at h⟩
 | n + 1, h => by
  obtain⟨l,hl,h1⟩:=Gh n fun i hi=>h i (by omega)
  obtain⟨y,hy⟩:=h n (by omega)
  refine⟨l++[y],by simp[hl],fun i z hz=>?_⟩
  rw[List.getElem?_append] at hz
  split at hz
  ·exact h1 i z hz
  ·rename_i hlt
   have:i=n:=by
    have:=(List.getElem?_eq_some_iff.1 hz).1
    simp at this;omega
   subst this
   rw[hl] at hz;simp at hz;subst hz;exact hy

theorem TH {α:Type} {ls:List (List α)} {sz:Nat} (h:∀ l∈ls,l.length=sz):ls.flatten.length=ls.length*sz∧∀ (i j:Nat),j < sz→i < ls.length→ls.flatten[i*sz+j]?=(ls[i]?).bind (·[j]?):=by
 induction ls with
 | nil=>exact⟨by simp,fun i j _ hi=>by simp at hi⟩
 | cons l ls ih =>
  obtain⟨h1,h2⟩:=ih fun m hm=>h m (by simp[hm])
  have hl:=h l (by simp)
  refine⟨by simp[h1,hl,Nat.add_mul];omega,fun i j hj hi=>?_⟩
  cases i with
  | zero =>
   simp only[List.flatten_cons,Nat.zero_mul,Nat.zero_add,List.getElem?_cons_zero,Option.bind_some]
   rw[List.getElem?_append_left (by omega)]
  | succ i =>
   simp only[List.flatten_cons,List.getElem?_cons_succ]
   rw[List.getElem?_append_right (by rw[hl,Nat.add_mul];omega),←h2 i j hj (by simpa using hi)]
   congr 1
   rw[hl,Nat.add_mul];omega

theorem FI {α:Type} {ls:List (List α)} {x:α} (h:x∈ls.flatten):∃ l∈ls,x∈l:=by
 simpa using List.mem_flatten.1 h

theorem pieces {R:Ren}:∀ {ls:List (List Value)} {szs:List Nat} {cs:List Value},ls.length=szs.length→cs.length=szs.sum →
 (∀ i l,ls[i]?=some l→Cf R l ((cs.drop (szs.take i).sum).take (szs.getD i 0)))→Cf R ls.flatten cs
 | [], szs, cs, hl, hc, _ => by
  have:szs=[]:=by cases szs with | nil=>rfl | cons=>simp at hl
  subst this
  have:cs=[]:=by cases cs with | nil=>rfl | cons=>simp at hc
  subst this
  exact .nil
 | l::ls,[],cs,hl,_,_=>by simp at hl
 | l :: ls, s :: szs, cs, hl, hc, h => by
  have h0:=h 0 l rfl
  simp at h0
  have hr:Cf R ls.flatten (cs.drop s):=pieces (szs:=szs) (by simpa using hl) (by simp at hc;simp;omega) fun i m hm=>by
   have:=h (i+1) m (by simpa using hm)
   simp only[List.take_succ_cons,List.sum_cons,List.getD_cons_succ] at this
   rwa [List.drop_drop,Nat.add_comm] at *
  have:=h0.append hr
  rwa [List.take_append_drop] at this
end Go.Sp
