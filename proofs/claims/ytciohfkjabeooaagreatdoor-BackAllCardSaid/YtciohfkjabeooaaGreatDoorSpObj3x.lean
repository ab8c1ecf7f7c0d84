/- Made from wip. -/
import Derived.Test.YtciohfkjabeooaaGreatDoorSpClox

namespace Go.Sp

theorem Ba.adopt {H0 H:Aa} {R0 R:Ren} {w0 w:World} (hp:Ba H0 R0 w0 H R w) {k c β n:Nat} (hk:k < H.next) (hmin:H0.next≤k) (hR:R.f k=none) (hc0:w0.heap.size≤c) (hc:c < w.heap.size)
 (hfr : ∀ id β', R.f id = some (c, β') → False) (hro : R.ro c = none)
 (hobj:∀ Q,R.le Q→Q.f k=some (c,β)→Q.sz c=n→FH Q (H.get k) c β w.heap[c]?) :
 R.le (R.ext k c β n)∧Ba H0 R0 w0 H (R.ext k c β n) w:=by
 have hs:=hp.sim
 have hne:∀ id p,R.f id=some p→id≠k:=fun id p h e=>by rw[e,hR] at h;cases h
 have hle : R.le (R.ext k c β n) := ⟨fun id c' β' h => by
  refine⟨?_,?_⟩
  ·rw[Ren.ext_other _ (hne id _ h)];exact h
  ·have:c'≠c:=fun e=>by subst e;exact hfr _ _ h
   simp[Ren.ext,this],fun _ _ h=>h⟩
 have back:∀ id p,(R.ext k c β n).f id=some p→(id=k∧p=(c,β))∨(id≠k∧R.f id=some p):=fun id p h=>by
  by_cases hid:id=k
  ·subst hid;rw[Ren.ext_new] at h;exact .inl ⟨rfl,by injection h with h;exact h.symm⟩
  ·rw[Ren.ext_other _ hid] at h;exact .inr ⟨hid,h⟩
 have hR0:R0.f k=none:=by
  cases h:R0.f k with
  | none=>rfl
  | some p=>have:=(hp.le k p.1 p.2 h).1;rw[hR] at this;cases this
 refine⟨hle,⟨fun id c β h=>?_,hp.le.ro⟩,?_,⟨?_,?_,?_,hs.anc,hs.wf,fun c' C hc'=>?_⟩,hp.next,hp.grow,hp.frame,hp.calm,hp.imm,?_,hp.side,hp.rofresh⟩
 ·have h1:=hp.le id c β h
  have h2:=hle id c β h1.1
  exact⟨h2.1,h2.2.trans h1.2⟩
 ·intro id p h
  rcases back id p h with⟨rfl,_⟩ | ⟨_,h1⟩
  ·exact .inr ⟨hR0,hmin⟩
  ·exact hp.new id p h1
 ·intro id c' β' h
  rcases back id _ h with⟨rfl,e⟩ | ⟨_,h1⟩
  ·cases e;exact⟨hk,hc⟩
  ·exact hs.dom id c' β' h1
 ·intro id c' β' h
  rcases back id _ h with⟨rfl,e⟩ | ⟨_,h1⟩
  ·cases e;exact hobj _ hle (Ren.ext_new _ _ _ _ _) (Ren.ext_sz _ _ _ _ _)
  ·exact (hs.obj id c' β' h1).mono hle (hle id c' β' h1).2
 ·intro id c' β' id' β'' h h' hne' hw
  rcases back id _ h with⟨rfl,e⟩ | ⟨_,h1⟩
  ·cases e
   rcases back id' _ h' with⟨rfl,_⟩ | ⟨_,h1'⟩
   ·exact absurd rfl hne'
   ·exact(hfr _ _ h1').elim
  ·rcases back id' _ h' with⟨rfl,e⟩ | ⟨_,h1'⟩
   ·cases e;exact(hfr _ _ h1).elim
   ·exact hs.sep id c' β' id' β'' h1 h1' hne' hw
 ·obtain⟨h1,h2⟩:=hs.ro c' C hc'
  refine ⟨h1, fun id β' h => ?_⟩
  rcases back id _ h with⟨rfl,e⟩ | ⟨_,h3⟩
  ·cases e
   have hc':R.ro c=some C:=hc'
   rw[hro] at hc';cases hc'
  ·exact h2 id β' h3
 ·intro id c' β' h hr
  rcases back id _ h with⟨rfl,e⟩ | ⟨_,h1⟩
  ·cases e;exact .inl hc0
  ·exact hp.fresh id c' β' h1 hr

noncomputable section
end

def FN (P:Program) (tabs:List (List Value)) (g:FuncId) (sz:Nat) (f:List Value→Option Value):Prop:=
 (∀ (as:Array Value) (w:World),(callFunc g as).run P w = .ok (.enter g as) w) ∧
 ∀ args v, f args = some v → (∀ x ∈ args, closed2 x = true) →
  ∀ R w args', R.f = (fun i => if i < tabs.length then some (i, 0) else none) → Ck (Ao tabs) R w → Cf R args args' →
   Calls P g ⟨args'⟩ w fun e w' => ∃ u H' R' id off c2 anc xs, ∃ s : Sl, e = .returned u ∧ VR R' (.slice (some ⟨id, off, some sz⟩) s.n c2) u ∧ Ba (Ao tabs) R w H' R' w' ∧
    tabs.length≤id∧H'.get id = .cells xs false false anc∧off+s.n*sz≤xs.length∧s.cs=(xs.drop off).take (s.n*sz)∧(∀ x∈s.cs,Ah x=true)∧v=s.v sz

def SK (tt:TT) (n0 sz:Nat) (rs:List ResultVar) (v:Value):Ex→Fr→Aa→Prop
 | .exit _,_,_=>False
 | .goto _,_,_=>False
 | _,F,H=>∃ id off c2 anc xs,∃ s:Sl,DV tt F H rs=some (.slice (some ⟨id,off,some sz⟩) s.n c2)∧n0≤id∧H.get id = .cells xs false false anc∧off+s.n*sz≤xs.length∧s.cs=(xs.drop off).take (s.n*sz)∧(∀ x∈s.cs,Ah x=true)∧v=s.v sz

section
variable {P:Program} {tabs:List (List Value)}

theorem Jw {tt:TT} (hT:Jm P tt) (hm:P.follows .mixedOrders=true) {g sz:Nat} {r:Xq} {call:A8} (hc:CO P (List.range tabs.length) call) (hfn:Ar P (List.range tabs.length) g r) {f:List Value→Option Value}
 (h:∀ args v,f args=some v→(∀ x∈args,closed2 x=true)→args.length≤r.n∧BN tt call tabs.length r.body (Fr.made r.n args) (Ao tabs) (SK tt tabs.length sz r.results v)):FN P tabs g sz f:=by
 refine⟨A9 hfn,fun args v hv hcl=>?_⟩
 obtain⟨hle,hrun⟩:=h args v hv hcl
 intro R w args' hR hs ha
 obtain⟨fd,c,e1,e2,e3,e4,_,hcomp,hok⟩:=hfn.ok
 refine calls_of_wp e1 e2 ?_
 have hlen:=ha.1
 have hsize:((⟨args'⟩:Array Value)++Array.replicate (fd.ntmps - (⟨args'⟩:Array Value).size) undef).size=r.n:=by simp;omega
 have hgl:JH (List.range tabs.length) R:=fun g hg=>by rw[hR];simp at hg;simp[hg]
 have hfull:∀ id,id < (Ao tabs).next→R.f id=none→(Ao tabs).get id = .dead:=fun id hid hr=>by
  have hid:id < len tabs:=hid
  rw[AV] at hid
  rw[hR] at hr;simp[hid] at hr
 have hrun:BN tt call (Ao tabs).next r.body (Fr.made r.n args) (Ao tabs) (SK tt tabs.length sz r.results v):=by
  show BN tt call (len tabs) _ _ _ _
  rw[AV];exact hrun
 have hst:St (List.range tabs.length) (Ao tabs) R w [] r.n (Fr.made r.n args) (Ao tabs) ⟨(⟨args'⟩:Array Value)++Array.replicate (fd.ntmps - (⟨args'⟩:Array Value).size) undef,[]⟩ w:=by
  refine⟨⟨R,.refl hs,fun t=>?_⟩,rfl,hsize,Fr.n_made ..⟩
  rw[Fr.get_made,Array.getD_eq_getD_getElem?]
  show VR R _ (((⟨args'⟩:Array Value)++Array.replicate (fd.ntmps - (⟨args'⟩:Array Value).size) undef)[t]?.getD undef)
  rw[Array.getElem?_append]
  by_cases hlt:t < args'.length
  ·rw[if_pos (by simpa using hlt)]
   obtain ⟨x, hx⟩ : ∃ x, args[t]? = some x := ⟨args[t]'(by omega), by simp⟩
   obtain⟨y,hy,hv⟩:=ha.get hx
   rw[hx,show (⟨args'⟩:Array Value)[t]?=some y by simpa using hy]
   exact hv
  ·rw[List.getElem?_eq_none (by omega)]
   exact .any _
 refine wp_mono (hrun.sound hT hc hm hs hgl (fun id h1 h2=>by rw[hfull id h1 h2];trivial) hcomp hok _ w hst) fun x a' w' ⟨e,F',H',h1,h2,h3⟩=>?_
 subst h1
 obtain⟨⟨R',hp,ht⟩,hd,_,_⟩:=h3
 have fin : SK tt tabs.length sz r.results v .normal F' H' → bodyPost P fd (fun e w' => ∃ u H' R' id off c2 anc xs, ∃ s : Sl, e = .returned u ∧ VR R' (.slice (some ⟨id, off, some sz⟩) s.n c2) u ∧ Ba (Ao tabs) R w H' R' w' ∧
  tabs.length≤id∧H'.get id = .cells xs false false anc∧off+s.n*sz≤xs.length∧s.cs=(xs.drop off).take (s.n*sz)∧(∀ x∈s.cs,Ah x=true)∧v=s.v sz) .normal a' w':=fun ⟨id,off,c2,anc,xs,s,hres,g1,g2,g3,g4,g5,g6⟩=>by
  rw[←e4] at hres
  obtain⟨u,hu,huv⟩:=IW hT hp.sim ht hres
  exact⟨hd,u,hu,u,H',R',id,off,c2,anc,xs,s,rfl,huv,hp,g1,g2,g3,g4,g5,g6⟩
 cases e with
 | normal=>exact fin h2
 | exit j=>exact h2.elim
 | goto j=>exact h2.elim
 | ret=>exact fin h2

end

noncomputable section
def ER (z:Nat) (v:Value) (H:Aa):Option (Value×Aa):=
 oo (IA v) (bb (DN v) (some (FP z 0 2 [],H)) (bb (closed2 v) (some (v,H)) none)) fun s=>oo (Bv (H.get s.id)) none fun o=>
  bb (an (nt o.imm) (an (nt o.spent) (an (Nat.ble (s.off + s.len * s.sz) (len o.xs)) (Au Ah (Aq (s.len * s.sz) (Am s.off o.xs))))))
   (some (FP s.sz s.len 0 (Aq (s.len*s.sz) (Am s.off o.xs)),H.set s.id .dead)) none
def KG (z:Nat) (l:List Value):Aa→Option (List Value×Aa):=
 List.rec (motive:=fun _=>Aa→Option (List Value×Aa)) (fun H=>some ([],H)) (fun v _ ih H=>oo (ER z v H) none fun p=>pp p fun v' H1=>oo (ih H1) none fun q=>pp q fun r H2=>some (v'::r,H2)) l
def Hr (tabs:List (List Value)) (z:Nat) (f:List Value→Option Value) (args:List Value) (H:Aa):Option (Value×Aa):=
 oo (KG z args H) none fun p=>pp p fun as H1=>bb (IZ H1 tabs 0) (oo (f as) none fun v=>some (v,H1)) none
end

theorem TM {z:Nat} {v v' u:Value} {H H':Aa} {R:Ren} {w:World} (h:ER z v H=some (v',H')) (hs:Ck H R w) (hx:VR R v u) :
 ∃ R',R.le R'∧R'.f=R.f∧Ba H R w H' R' w∧VR R' v' u∧closed2 v'=true:=by
 unfold ER at h
 cases hsl:IA v with
 | none =>
  rw[hsl,Az] at h
  rcases Ag h with⟨hn,h⟩ | ⟨_,h⟩
  ·injection h with h;injection h with e1 e2;subst e1;subst e2
   refine⟨R,R.le_refl,rfl,.refl hs,?_,rfl⟩
   rw[CB hn] at hx
   rw[hx.slNil_l];exact .fsN z 2 (by decide)
  ·obtain⟨hc,h⟩:=Ae h
   injection h with h;injection h with e1 e2;subst e1;subst e2
   exact⟨R,R.le_refl,rfl,.refl hs,hx,hc⟩
 | some s=>
 rw[hsl,Ac] at h
 obtain⟨o,ho,h1⟩:=Ab h
 obtain⟨hc,h2⟩:=Ae h1
 obtain⟨c1,hc⟩:=Av hc
 obtain⟨c3,hc⟩:=Av hc
 obtain⟨c4,c5⟩:=Av hc
 have c1:=Dh c1
 have c3:=Dh c3
 simp only[AV] at c4
 have c4:=Nat.le_of_ble_eq_true c4
 rw[Bh,List.all_eq_true] at c5
 simp only[Cg,Bz] at c5 h2
 injection h2 with h2;injection h2 with e1 e2;subst e1;subst e2
 have ho':=Et ho
 rw[c1,c3] at ho'
 have dead : ∀ (R' : Ren), R.le R' → R'.f = R.f → R'.sz = R.sz → (∀ c C, R'.ro c = some C → R.ro c = some C ∨ ∃ β, R.f s.id = some (c, β) ∧ ∃ ty fz, w.heap[c]? = some (.cells C ty fz)) →
  Ba H R w (H.set s.id .dead) R' w:=fun R' hle hRf hRs hro=>by
  have hget:∀ id,(H.set s.id .dead).get id=if s.id=id then .dead else H.get id:=fun id=>Aa.get_set _ _ _ _
  have hnext:(H.set s.id .dead).next=H.next:=by simp
  have hwr:∀ id,(H.get id).writable=false→((H.set s.id .dead).get id).writable=false:=fun id h=>by
   rw[hget];split
   ·rfl
   ·exact h
  have hp:=Ba.refl hs
  refine ⟨⟨fun id c β h0 => by rw [hRf, hRs]; exact ⟨h0, rfl⟩, hle.ro⟩, fun id p h0 => by rw [hRf] at h0; exact .inl h0, ?_, by rw [hnext]; exact Nat.le_refl _, Nat.le_refl _, fun _ _ _ => rfl,
   fun id hi hr Q c β ob h0=>?_,fun id hi him=>?_,fun id c β h0 hr=>by rw[hRf] at h0;exact hp.fresh id c β h0 hr,hp.side,fun c C h0=>?_⟩
  ·refine ⟨fun id c β h0 => by rw [hRf] at h0; rw [hnext]; exact hs.dom id c β h0, fun id c β h0 => ?_, fun id c β id' β' h0 h0' hne hw => ?_, fun id a ha => ?_, fun id hi => ?_, fun c C h0 => ?_⟩
   ·rw[hRf] at h0
    rw[hget];split
    ·trivial
    ·exact(hs.obj id c β h0).mono hle (by rw[hRs])
   ·rw[hRf] at h0 h0'
    have hg1:=hget id
    have hg2:=hget id'
    by_cases hn:s.id=id
    ·rw[if_pos hn] at hg1;rw[hg1] at hw;cases hw
    ·rw[if_neg hn] at hg1
     rw[hg1] at hw ⊢
     by_cases hn':s.id=id'
     ·rw[if_pos hn'] at hg2;exact .inl hg2
     ·rw [if_neg hn'] at hg2; rw [hg2]; exact hs.sep id c β id' β' h0 h0' hne hw
   ·rw[hget] at ha
    split at ha
    ·cases ha
    ·have:=hs.anc id a ha
     rw[hnext,hget]
     refine⟨this.1,?_⟩
     split
     ·exact⟨rfl,rfl⟩
     ·exact this.2
   ·rw[hnext] at hi
    rw[hget];split
    ·rfl
    ·exact hs.wf id hi
   ·rcases hro c C h0 with h1 | ⟨β,h1,ty,fz,h2⟩
    ·exact⟨(hs.ro c C h1).1,fun id β h9=>by rw[hRf] at h9;exact hwr id ((hs.ro c C h1).2 id β h9)⟩
    ·refine ⟨⟨ty, fz, h2⟩, fun id β' h9 => ?_⟩
     rw[hRf] at h9
     rw[hget]
     split
     ·rfl
     ·rename_i hn
      cases hwi:(H.get id).writable with
      | false=>rfl
      | true =>
       rcases hs.sep id c β' s.id β h9 h1 (fun e => hn e.symm) hwi with h3 | ⟨h3, _⟩
       ·rw[ho'] at h3;cases h3
       ·have h4:=hs.anc id s.id h3
        rw[ho'] at h4
        have h5:true=false:=h4.2.2
        cases h5
  ·rw[hget];split
   ·trivial
   ·exact h0
  ·rw[hget];split
   ·rename_i he
    rw[←he,ho'] at him;cases him
   ·rfl
  ·rcases hro c C h0 with h1 | ⟨β,h1,_⟩
   ·exact .inl h1
   ·exact .inr (.inr ⟨s.id,β,h1,by rw[ho'];rfl⟩)
 have hcl:closed2 (FP s.sz s.len 0 ((o.xs.drop s.off).take (s.len*s.sz)))=true:=rfl
 rcases hx.sl_l hsl with⟨c,β,cap,hid,hv,k1,k2,k3,k4⟩ | ⟨c,o2,hv,k0,k00⟩ | ⟨hv,k0,k00⟩
 ·obtain⟨C,ty,fz,hC,hsz,hcf,hcr⟩:=hs.cells hid ho
  let R':Ren:=⟨R.f,R.sz,fun c'=>if c'=c then some C else R.ro c'⟩
  have hle:R.le R':=⟨fun id c β h=>⟨h,rfl⟩,fun c' C' h=>by
   show (if c'=c then some C else R.ro c')=some C'
   split
   ·rename_i he;subst he
    obtain⟨⟨t',fz',h9⟩,_⟩:=hs.ro c' C' h
    rw[hC] at h9;injection h9 with h9;injection h9 with h9;rw[h9]
   ·exact h⟩
  refine⟨R',hle,rfl,dead R' hle rfl rfl fun c' C' h=>?_,?_,hcl⟩
  ·have h:(if c'=c then some C else R.ro c')=some C':=h
   by_cases he:c'=c
   ·rw[if_pos he] at h
    have h:C=C':=by injection h
    subst h;subst he
    exact .inr ⟨β,hid,ty,fz,hC⟩
   ·rw[if_neg he] at h;exact .inl h
  ·rw[hv]
   refine .mkFs (C:=C) (by show (if c=c then some C else R.ro c)=some C;simp) (by simp;omega) (by omega) (fun he=>by cases he) (by decide) (by simp;omega) ?_ c5
   exact(hcr.mono hle).part _ _
 ·refine⟨R,R.le_refl,rfl,dead R R.le_refl rfl rfl fun c' C' h=>.inl h,?_,hcl⟩
  rw[hv,k0]
  simp only[Nat.zero_mul,List.take_zero]
  exact .fsE (by decide)
 ·refine⟨R,R.le_refl,rfl,dead R R.le_refl rfl rfl fun c' C' h=>.inl h,?_,hcl⟩
  rw[hv,k0]
  simp only[Nat.zero_mul,List.take_zero]
  exact .fsN _ _ (by decide)

theorem bG {z:Nat} {l as:List Value} {H H':Aa} (h:KG z l H=some (as,H')):∀ {R:Ren} {w:World} {us:List Value},Ck H R w→Cf R l us →
 ∃ R',R.le R'∧R'.f=R.f∧Ba H R w H' R' w∧Cf R' as us∧∀ x∈as,closed2 x=true:=by
 induction l generalizing as H with
 | nil =>
  injection h with h;injection h with e1 e2;subst e1;subst e2
  intro R w us hs hx
  exact⟨R,R.le_refl,rfl,.refl hs,hx,by simp⟩
 | cons v l ih =>
  obtain⟨p,hp,h⟩:=Ab (show oo (ER z v H) none (fun p=>pp p fun v' H1=>oo (KG z l H1) none fun q=>pp q fun r H2=>some (v'::r,H2))=some (as,H') from h)
  obtain⟨v',H1⟩:=p
  obtain⟨q,hq,h⟩:=Ab (show oo (KG z l H1) none (fun q=>pp q fun r H2=>some (v'::r,H2))=some (as,H') from h)
  obtain⟨r,H2⟩:=q
  injection (show some (v'::r,H2)=some (as,H') from h) with h;injection h with e1 e2;subst e1;subst e2
  intro R w us hs hx
  obtain⟨u,us',rfl,h1,h2⟩:=hx.uncons
  obtain⟨R1,k1,k2,k3,k4,k5⟩:=TM hp hs h1
  obtain⟨R2,j1,j2,j3,j4,j5⟩:=ih hq k3.sim (h2.mono k1)
  refine⟨R2,Ren.le_trans k1 j1,j2.trans k2,k3.trans j3 hs,.cons (k4.mono j1) j4,fun x hx=>?_⟩
  simp at hx
  rcases hx with rfl | hx
  ·exact k5
  ·exact j5 x hx

theorem Og {P:Program} {tabs:List (List Value)} (hne:∀ t∈tabs,t=t) (hpl:∀ t∈tabs,∀ x∈t,BR x=true) {g:FuncId} {z:Nat} {f:List Value→Option Value} (hok:BA P tabs g f) {args:List Value} {H H':Aa} {v:Value} (h:Hr tabs z f args H=some (v,H')) :
 (∀ (as:Array Value) (w:World),(callFunc g as).run P w = .ok (.enter g as) w) ∧
 ∀ R w args',Ck H R w→JH (List.range tabs.length) R→Cf R args args'→Calls P g ⟨args'⟩ w fun e w'=>∃ u R',e = .returned u∧VR R' v u∧Ba H R w H' R' w':=by
 refine⟨hok.1,fun R w args' hs hgl ha=>?_⟩
 obtain⟨p,hp,h⟩:=Ab h
 obtain⟨as,H1⟩:=p
 obtain⟨htab,h⟩:=Ae (show bb (IZ H1 tabs 0) (oo (f as) none fun v=>some (v,H1)) none=some (v,H') from h)
 obtain⟨v',hv',h2⟩:=Ab h
 injection h2 with h2;injection h2 with e1 e2;subst e1;subst e2
 obtain⟨R1,k1,k2,k3,k4,k5⟩:=bG hp hs ha
 have hs1:=k3.sim
 have hgl1:JH (List.range tabs.length) R1:=hgl.mono k1
 have hs0:=KE hs1 hgl1 htab R1.ro (fun c C h=>(hs1.ro c C h).1) (fun c C h=>h) hne hpl
 refine(hok.2 as v' hv' k5 _ w args' rfl hs0 (Mt (R:=R1) (R':=⟨fun i=>if i < tabs.length then some (i,0) else none,R1.sz,R1.ro⟩) (fun _ _ h=>h) k4 k5)).mono fun e w' ⟨u,H2,R2,he,hcv,hu,hp2⟩=>?_
 refine⟨u,⟨R1.f,R1.sz,R2.ro⟩,he,N7 (R:=R2) (R':=⟨R1.f,R1.sz,R2.ro⟩) (fun _ _ h=>h) hu hcv,k3.trans (LG hs1 rfl hp2 rfl rfl (fun c C h=>hp2.le.ro c C h) fun c C h=>?_) hs⟩
 rcases hp2.rofresh c C h with h3 | h3 | ⟨id,β,h3,h4⟩
 ·exact .inl h3
 ·exact .inr ⟨h3,h⟩
 ·have:=FV (Jr (show (if id < tabs.length then some (id,0) else none)=some (c,β) from h3)).1
  rw[this] at h4;cases h4

theorem iU {tt:TT} {n0 sz:Nat} {rs:List ResultVar} {v:Value} {F:Fr} {H:Aa} (id off c2 n:Nat) (anc:List Nat) (xs:List Value) (h:DV tt F H rs=some (.slice (some ⟨id,off,some sz⟩) n c2)) (hn:Nat.ble n0 id=true)
 (hg:H.get id = .cells xs false false anc) (hc:an (Nat.ble (off+n*sz) (len xs)) (Au Ah (Aq (n*sz) (Am off xs)))=true) (hm:some (Sl.v sz ⟨n,0,Aq (n*sz) (Am off xs)⟩)=some v) :
 ∃ id off c2 anc xs,∃ s:Sl,DV tt F H rs=some (.slice (some ⟨id,off,some sz⟩) s.n c2)∧n0≤id∧H.get id = .cells xs false false anc∧off+s.n*sz≤xs.length∧s.cs=(xs.drop off).take (s.n*sz)∧(∀ x∈s.cs,Ah x=true)∧v=s.v sz:=by
 injection hm with hm;subst hm
 obtain⟨h1,h2⟩:=Av hc
 rw[AV] at h1
 rw[Bh,List.all_eq_true] at h2
 exact⟨id,off,c2,anc,xs,⟨n,0,Aq (n*sz) (Am off xs)⟩,h,Nat.le_of_ble_eq_true hn,hg,Nat.le_of_ble_eq_true h1,by show Aq (n*sz) (Am off xs)=_;rw[Cg,Bz],h2,rfl⟩
theorem Ng {tt:TT} {n0 sz:Nat} {rs:List ResultVar} {v:Value} {F:Fr} {H:Aa} (id off c2 n:Nat) (anc:List Nat) (xs:List Value) (h:DV tt F H rs=some (.slice (some ⟨id,off,some sz⟩) n c2)) (hn:Nat.ble n0 id=true)
 (hg:H.get id = .cells xs false false anc) (hc:an (Nat.ble (off+n*sz) (len xs)) (Au Ah (Aq (n*sz) (Am off xs)))=true) (hm:some (Sl.v sz ⟨n,0,Aq (n*sz) (Am off xs)⟩)=some v):SK tt n0 sz rs v .ret F H:=
 iU id off c2 n anc xs h hn hg hc hm
theorem CV {z:Nat} {v:Value} {H:Aa} (h1:IA v=none) (h2:closed2 v=true) (h3:DN v=false):ER z v H=some (v,H):=by
 unfold ER;rw[h1,Az,h3,AA,h2,Ak]
theorem Ju {z:Nat} {H:Aa}:ER z (.slice none 0 0) H=some (Sl.v z (Sl.mk 0 2 []),H):=rfl
noncomputable section
def oT (l:List Value):AJ:=.cells l true false []
def oC (l:List Value):AJ:=.cells l false false []
def d2 (n:Nat):Nat:=2*n+bb false 1 0
def hp (n:Nat) (l:List AJ):Aa:=⟨n,JJ l 0 .nil,true⟩
def fr (n:Nat) (l:List (Nat×Value)):Fr:=⟨n,kE l .nil⟩
def pt (b o:Nat):Value:=.pointer (some ⟨b,o,none⟩)
def sc (b o z n c:Nat):Value:=.slice (some ⟨b,o,some z⟩) n c
def zI (z:Int):Value:=.int .i64 z
def zB (b:Bool):Value:=.bool b
end
end Go.Sp
namespace Go.Sp
section
variable {tt:TT} {call:A8} {n0:Nat}
theorem NY.ghs {os:List Fs} {F F':Fr} {H H':Aa} (F1:Fr) (H1:Aa) (h:E9 n0 F H F1 H1) (r:NY tt call n0 os F1 H1 F' H'):NY tt call n0 os F H F' H':=by
 induction h with
 | id=>exact r
 | step hg _ ih=>exact .gh hg (ih r)
theorem NY.seg {os:List Fs} {F F':Fr} {H H':Aa} (m:Nat) (F1:Fr) (H1:Aa) (h:BD tt call (Aq m os) F H=some (F1,H1)) (r:NY tt call n0 (Am m os) F1 H1 F' H'):NY tt call n0 os F H F' H':=.ops m h r
theorem BN.rG {ops:List Fs} {F F':Fr} {H H':Aa} {Q:Ex→Fr→Aa→Prop} (he:NY tt call n0 ops F H F' H') (h:Q .normal F' H') (hne:Nat.ble 1 (len ops)=true:=by kernel_rfl):BN tt call n0 (.reg [] ops) F H Q:=.regG hne he h
end
end Go.Sp
namespace Go.Sp
noncomputable section
def Zk (e:EO):Value:=EO.rec (motive:=fun _=>Value) (fun k v b=>.tuple ⟨[k,v,gi b]⟩) e
def Zl (v:Value):Option EO:=oo (CQ v) none fun l=>ll l none fun k l=>ll l none fun x l=>ll l none fun b l=>ll l (oo (MN b) none fun n=>some ⟨k,x,n⟩) fun _ _=>none
def Ef (o:AJ):Value:=AJ.rec (motive:=fun _=>Value) (fun xs _ _ _=>.agg ⟨xs⟩) (fun es c=>.tuple ⟨gi c::AP Zk es⟩) (fun _ _ _ _=>EP) EP o
def TP (v:Value):Option AJ:=
 oo (Bt v) (oo (CQ v) (bb (Nq v) (some .dead) none) fun l=>ll l none fun c r=>oo (MN c) none fun n=>oo (CG Zl r) none fun es=>some (.map es n)) fun xs=>some (.cells xs false false [])
structure Akd where
 es:List EO
 clock:Nat
def BK (tabs:List (List Value)) (os:List AJ):Aa:=⟨len tabs+len os,JJ (Br (KD tabs) os) 0 .nil,true⟩
def TQ (H:Aa) (i:Nat):Bool:=oo (Bv (H.get i)) false fun o=>o.imm
def KL (H:Aa) (tabs:List (List Value)):Nat→Bool:=List.rec (motive:=fun _=>Nat→Bool) (fun _=>true) (fun t _ ih i=>an (FE (Ei H i) t) (an (TQ H i) (ih (Nat.succ i)))) tabs
def MQ {α:Type} (l:List α):Bool:=ll l true fun _ _=>false
def dD (o:AJ):Bool:=AJ.rec (motive:=fun _=>Bool) (fun xs _ _ _=>MQ xs) (fun _ _=>false) (fun _ _ _ _=>false) true o
def wH (o:AJ):Bool:=AJ.rec (motive:=fun _=>Bool) (fun _ imm spent _=>an (nt imm) (nt spent)) (fun _ _=>true) (fun _ _ _ _=>false) false o
def Qn (H:Aa) (l:List (Option Nat)):Bool:=Au (fun o=>oo o true fun id=>wH (H.get id)) l
def XV (H:Aa) (id:Nat):List Nat:=oo (Bv (H.get id)) [] fun o=>o.anc
def I6 (H:Aa) (l:List (Option Nat)):List Nat:=List.rec (motive:=fun _=>List Nat) [] (fun o _ ih=>Br (oo o [] fun id=>XV H id) ih) l
def VN (H:Aa) (v:Value):Bool:=oo (IA v) true fun s=>Dp (Nat.ble 2 s.cap) (dD (H.get s.id))
def Na (F:Fr) (H:Aa) (rs:List Rt):List (Option Nat)→Bool:=
 List.rec (motive:=fun _=>List (Option Nat)→Bool) (fun _=>true) (fun r _ ih o=>an (VN H (r.val F H o)) (ih (NT o (r.val F H o)))) rs
def Su (n:Nat):List Nat:=Nat.rec (motive:=fun _=>List Nat) [] (fun m r=>Br r [m]) n
def Oj (olds:List (Option Nat)) (next extra:Nat):List (Option Nat):=Br (AP (fun p=>idxOf p olds 0) (Su next)) (AP (fun q=>some (len olds+q)) (Su extra))
def Mx (obs:List AJ):Aa→Aa:=List.rec (motive:=fun _=>Aa→Aa) (fun H=>H) (fun o _ ih H=>ih (H.push o)) obs
def Ht (js:List (Option Nat)):List AJ→Aa→Aa:=
 List.rec (motive:=fun _=>List AJ→Aa→Aa) (fun obs H=>Mx obs H) (fun j _ ih obs H=>ll obs H fun o r=>ih r (oo j H fun id=>H.set id o)) js
def KM (inv:List (Option Nat)) (p:Bool×AJ):Option AJ:=pp p fun deep o=>EE inv deep false o

def VO (tabs:List (List Value)) (na:Nat) (rs:List Rt) (outs:List Bool) (f:List Value→Option Value) (args:List Value) (H:Aa):Option (Value×Aa):=
 (fun F => (fun olds => bb (an (KL H tabs 0) (an (NS olds olds 0) (an (Nat.beq (len olds) (len tabs + len rs)) (an (Nat.beq (len args) na) (Qn H (Am (len tabs) olds))))))
   (bb (Na F H rs (DY (len tabs)))
     (oo (CG (newObj H [] olds) (Gf (AP Rt.deep rs) (Am (len tabs) olds))) none fun os =>
       oo (CG (Rz olds) args) none fun as=>oo (f (Br as (AP Ef os))) none fun z=>oo (CQ z) none fun l=>ll l none fun v es=>oo (CG TP es) none fun os'=>
        bb (an (Nat.beq (len outs) (len os')) (Nat.ble (len rs) (len os')))
         (oo (CG (KM (Oj olds H.next (len os' - len rs))) (Gf outs os')) none fun ns => oo (Rz (Oj olds H.next (len os' - len rs)) v) none fun v' =>
           some (v',Ht (Am (len tabs) olds) ns (H.kill (I6 H (Am (len tabs) olds))))) none) none) none)
  (E8 F H rs (DY (len tabs)))) (Fr.made (len args) args)
end

def plainO (o:AJ):Prop:=o = .dead∨(∃ xs,o = .cells xs false false [])∨∃ es c,o = .map es c
def Cn (P:Program) (tabs:List (List Value)) (na k:Nat) (g:FuncId) (f:List Value→Option Value):Prop:=
 (∀ (as:Array Value) (w:World),(callFunc g as).run P w = .ok (.enter g as) w) ∧
 ∀ args os z, args.length = na → os.length = k → (∀ o ∈ os, plainO o) → f (args ++ os.map Ef) = some z →
  ∀ R w args', (∀ i, i < tabs.length → R.f i = some (i, 0)) → (∀ i o, os[i]? = some o → R.f (tabs.length + i) = none → Em o) → Ck (BK tabs os) R w → Cf R args args' →
   Calls P g ⟨args'⟩ w fun e w' => ∃ (u v : Value) (os' : List AJ) (H' : Aa) (R' : Ren), e = .returned u ∧ z = .tuple ⟨v :: os'.map Ef⟩ ∧ VR R' v u ∧ Ba (BK tabs os) R w H' R' w' ∧ k ≤ os'.length ∧
    ∀ i o,os'[i]?=some o→H'.get (tabs.length+i)=o∧plainO o
def AaU (tt:TT) (T k:Nat) (rs:List ResultVar) (z:Value) (F:Fr) (H:Aa):Prop:=
 ∃ (v:Value) (os':List AJ),z = .tuple ⟨v::os'.map Ef⟩∧DV tt F H rs=some v∧k≤os'.length∧∀ i o,os'[i]?=some o→H.get (T+i)=o∧plainO o
def FJ (tt:TT) (T k:Nat) (rs:List ResultVar) (z:Value):Ex→Fr→Aa→Prop
 | .exit _,_,_=>False
 | .goto _,_,_=>False
 | .normal,F,H=>∃ F1 H1,E9 (T+k) F H F1 H1∧AaU tt T k rs z F1 H1
 | .ret,F,H=>AaU tt T k rs z F H
theorem E9.trans {n0:Nat} {F F1 F2:Fr} {H H1 H2:Aa} (h:E9 n0 F H F1 H1) (r:E9 n0 F1 H1 F2 H2):E9 n0 F H F2 H2:=by
 induction h with
 | id=>exact r
 | step hg _ ih=>exact .step hg (ih r)
theorem FJ.ghs {tt:TT} {T k:Nat} {rs:List ResultVar} {z:Value} {F:Fr} {H:Aa} (F':Fr) (H':Aa) (h:E9 (T+k) F H F' H') (r:FJ tt T k rs z .normal F' H'):FJ tt T k rs z .normal F H:=by
 obtain⟨F1,H1,h1,h2⟩:=r
 exact⟨F1,H1,h.trans h1,h2⟩

theorem MB (tabs:List (List Value)) (os:List AJ) (i:Nat):(BK tabs os).get i=if i < tabs.length then (match tabs[i]? with | some t=>.cells t true false [] | none=>.dead) else (os[i - tabs.length]?).getD .dead:=by
 unfold BK
 rw[Aa.get_mk,LF]
 have hl:(KD tabs).length=tabs.length:=by simp[KD]
 simp only[BH,List.length_append,hl,Nat.zero_add,Nat.zero_le,true_and,Nat.sub_zero]
 by_cases h:i < tabs.length
 ·rw[if_pos (by omega),if_pos h,List.getElem?_append_left (by rw[hl];exact h),Qf,List.getElem?_eq_getElem h];rfl
 ·rw[if_neg h]
  by_cases h2:i < tabs.length+os.length
  ·rw[if_pos h2,List.getElem?_append_right (by rw[hl];omega),hl]
  ·rw[if_neg h2,List.getElem?_eq_none (by omega)];rfl
theorem CW (tabs:List (List Value)) (os:List AJ):(BK tabs os).next=tabs.length+os.length:=by show len tabs+len os=_;rw[AV,AV]
theorem Ew {tabs:List (List Value)} {os:List AJ} {i:Nat} {t:List Value} (h:tabs[i]?=some t):(BK tabs os).get i = .cells t true false []:=by
 rw[MB,if_pos (List.getElem?_eq_some_iff.1 h).1,h]
theorem Fz (tabs:List (List Value)) (os:List AJ) (i:Nat):(BK tabs os).get (tabs.length+i)=(os[i]?).getD .dead:=by
 rw[MB,if_neg (by omega),show tabs.length+i - tabs.length=i by omega]
theorem Ol {o:AJ} (h:plainO o):o.ancOf=[]:=by
 rcases h with rfl | ⟨xs,rfl⟩ | ⟨es,c,rfl⟩ <;> rfl
theorem dE (e:EO):Zl (Zk e)=some e:=by obtain⟨k,v,b⟩:=e;rfl
theorem Zm (es:List EO):CG Zl (es.map Zk)=some es:=by
 induction es with
 | nil=>rfl
 | cons e es ih =>
  show oo (Zl (Zk e)) none (fun b=>oo (CG Zl (es.map Zk)) none fun r=>some (b::r))=_
  rw[dE,Ac,ih];rfl
theorem dF {o:AJ} (h:plainO o):TP (Ef o)=some o:=by
 rcases h with rfl | ⟨xs,rfl⟩ | ⟨es,c,rfl⟩
 ·rfl
 ·rfl
 ·show oo (CG Zl (AP Zk es)) none (fun es=>some (AJ.map es c))=_
  rw[Cc,Zm];rfl
theorem Zn {os:List AJ} (h:∀ o∈os,plainO o):CG TP (os.map Ef)=some os:=by
 induction os with
 | nil=>rfl
 | cons o os ih =>
  show oo (TP (Ef o)) none (fun b=>oo (CG TP (os.map Ef)) none fun r=>some (b::r))=_
  rw[dF (h o (by simp)),Ac,ih fun o ho=>h o (by simp[ho])];rfl

theorem KN {H:Aa} {tabs:List (List Value)} {j:Nat} (h:KL H tabs j=true):∀ i t,tabs[i]?=some t→Ei H (j+i)=t∧TQ H (j+i)=true:=by
 induction tabs generalizing j with
 | nil=>intro i t h;simp at h
 | cons a tabs ih =>
  obtain⟨h1,h2⟩:=Av (show an (FE (Ei H j) a) (an (TQ H j) (KL H tabs (j+1)))=true from h)
  obtain⟨h2,h3⟩:=Av h2
  intro i t hi
  cases i with
  | zero=>simp at hi;subst hi;exact⟨LB h1,h2⟩
  | succ i=>have:=ih h3 i t (by simpa using hi);rwa [show j+(i+1)=j+1+i by omega]
theorem XW {H:Aa} {i:Nat} {t:List Value} (h1:Ei H i=t) (h2:TQ H i=true) (hne:t=t):∃ sp anc,H.get i = .cells t true sp anc:=by
 unfold Ei at h1
 unfold TQ at h2
 cases ho:H.get i with
 | cells xs imm sp anc =>
  rw[ho] at h1 h2
  have h1:xs=t:=h1
  have h2:imm=true:=h2
  exact⟨sp,anc,by rw[h1,h2]⟩
 | dead=>rw[ho] at h2;cases h2
 | map=>rw[ho] at h2;cases h2
 | iter=>rw[ho] at h2;cases h2

theorem Zo {o:AJ} (h:dD o=true):Em o:=by
 cases o with
 | dead=>trivial
 | cells xs i s a =>
  cases xs with
  | nil=>rfl
  | cons x xs=>cases h
 | map=>cases h
 | iter=>cases h
theorem dG {o:AJ} (h:wH o=true):o.writable=true∧o.immB=false:=by
 cases o with
 | dead=>cases h
 | iter=>cases h
 | map=>exact⟨rfl,rfl⟩
 | cells xs i s a =>
  obtain⟨h1,h2⟩:=Av (show an (nt i) (nt s)=true from h)
  rw[Dh h1,Dh h2];exact⟨rfl,rfl⟩
theorem lC {H:Aa} {l:List (Option Nat)} (h:Qn H l=true) {i id:Nat} (hi:l[i]?=some (some id)):wH (H.get id)=true:=by
 unfold Qn at h
 rw[Bh,List.all_eq_true] at h
 exact h _ (List.mem_of_getElem? hi)
theorem dH {H:Aa} {l:List (Option Nat)} (h:Qn H l=true) {i id:Nat} (hi:l[i]?=some (some id)):(H.get id).writable=true∧(H.get id).immB=false:=by
 unfold Qn at h
 rw[Bh,List.all_eq_true] at h
 exact dG (h _ (List.mem_of_getElem? hi))
theorem VP {H:Aa} {l:List (Option Nat)} {a:Nat}:a∈I6 H l↔∃ (i id:Nat),l[i]?=some (some id)∧a∈(H.get id).ancOf:=by
 have key:∀ id,XV H id=(H.get id).ancOf:=fun id=>by
  unfold XV
  cases H.get id <;> rfl
 induction l with
 | nil=>simp[I6]
 | cons o l ih =>
  show a∈Br (oo o [] fun id=>XV H id) (I6 H l)↔_
  rw[BH,List.mem_append]
  constructor
  ·rintro(h | h)
   ·cases o with
    | none=>cases h
    | some id=>exact⟨0,id,rfl,by rw[←key];exact h⟩
   ·obtain⟨i,id,h1,h2⟩:=ih.1 h
    exact⟨i+1,id,by simpa using h1,h2⟩
  ·rintro⟨i,id,h1,h2⟩
   cases i with
   | zero=>simp at h1;subst h1;left;rw[Ac,key];exact h2
   | succ i=>right;exact ih.2 ⟨i,id,by simpa using h1,h2⟩

theorem Zp (n:Nat):Su n=List.range n:=by
 induction n with
 | zero=>rfl
 | succ n ih=>show Br (Su n) [n]=_;rw[ih,BH,List.range_succ]
theorem dI (olds:List (Option Nat)) (next extra p:Nat):(Oj olds next extra)[p]?=if p < next then some (idxOf p olds 0) else if p < next+extra then some (some (olds.length+(p - next))) else none:=by
 unfold Oj
 simp only[BH,Cc,Zp,AV]
 by_cases h:p < next
 ·rw[if_pos h,List.getElem?_append_left (by simpa using h)];simp[h]
 ·rw[if_neg h,List.getElem?_append_right (by simp;omega)]
  simp only[List.length_map,List.length_range,List.getElem?_map]
  by_cases h2:p < next+extra
  ·rw[if_pos h2,List.getElem?_range (by omega)];rfl
  ·rw[if_neg h2,List.getElem?_eq_none (by simp;omega)];rfl

theorem VQ (obs:List AJ) (H:Aa):(Mx obs H).next=H.next+obs.length:=by
 induction obs generalizing H with
 | nil=>rfl
 | cons o obs ih=>show (Mx obs (H.push o)).next=_;rw[ih,Aa.next_push];simp;omega
theorem Zq (obs:List AJ) (H:Aa) (p:Nat):(Mx obs H).get p=if H.next≤p∧p < H.next+obs.length then (obs[p - H.next]?).getD .dead else H.get p:=by
 induction obs generalizing H with
 | nil=>show H.get p=_;rw[if_neg (by simp)]
 | cons o obs ih =>
  show (Mx obs (H.push o)).get p=_
  rw[ih,Aa.next_push,Aa.get_push]
  by_cases h:H.next+1≤p∧p < H.next+1+obs.length
  ·rw[if_pos h,if_pos (by simp;omega),show p - H.next=(p - (H.next+1))+1 by omega,List.getElem?_cons_succ]
  ·rw[if_neg h]
   by_cases h2:H.next=p
   ·rw[if_pos h2,if_pos (by simp;omega)];subst h2;simp
   ·rw[if_neg h2,if_neg (by simp;omega)]
theorem dJ {obs:List AJ} {H:Aa} (h:H.wf):(Mx obs H).wf:=by
 induction obs generalizing H with
 | nil=>exact h
 | cons o obs ih=>exact ih (h.push o)
theorem VS (js:List (Option Nat)) (obs:List AJ) (H:Aa) (hl:js.length≤obs.length):(Ht js obs H).next=H.next+(obs.length - js.length):=by
 induction js generalizing obs H with
 | nil=>show (Mx obs H).next=_;rw[VQ];simp
 | cons j js ih =>
  cases obs with
  | nil=>simp at hl
  | cons o obs =>
   show (Ht js obs (oo j H fun id=>H.set id o)).next=_
   rw[ih _ _ (by simpa using hl)]
   cases j with
   | none=>simp
   | some id=>simp
theorem dK {js:List (Option Nat)} {obs:List AJ} {H:Aa} (h:H.wf) (hj:∀ (i id:Nat),js[i]?=some (some id)→id < H.next):(Ht js obs H).wf:=by
 induction js generalizing obs H with
 | nil=>exact dJ h
 | cons j js ih =>
  cases obs with
  | nil=>exact h
  | cons o obs =>
   show (Ht js obs (oo j H fun id=>H.set id o)).wf
   cases j with
   | none=>exact ih h fun i id hi=>hj (i+1) id (by simpa using hi)
   | some id =>
    refine ih (h.set (hj 0 id rfl) o) fun i id' hi=>?_
    rw[Ac,Aa.next_set]
    exact hj (i+1) id' (by simpa using hi)
theorem GY (js:List (Option Nat)) (obs:List AJ) (H:Aa) (p:Nat) (hl:js.length≤obs.length) (hp:∀ i:Nat,js[i]?≠some (some p)) :
 (Ht js obs H).get p=if H.next≤p∧p < H.next+(obs.length - js.length) then (obs[js.length+(p - H.next)]?).getD .dead else H.get p:=by
 induction js generalizing obs H with
 | nil=>show (Mx obs H).get p=_;rw[Zq];simp
 | cons j js ih =>
  cases obs with
  | nil=>simp at hl
  | cons o obs =>
   show (Ht js obs (oo j H fun id=>H.set id o)).get p=_
   rw[ih _ _ (by simpa using hl) fun i hi=>hp (i+1) (by simpa using hi)]
   have e : ∀ H' : Aa, H'.next = H.next → H'.get p = H.get p → (if H'.next ≤ p ∧ p < H'.next + (obs.length - js.length) then (obs[js.length + (p - H'.next)]?).getD AJ.dead else H'.get p) =
    if H.next≤p∧p < H.next+((o::obs).length - (j::js).length) then ((o::obs)[(j::js).length+(p - H.next)]?).getD .dead else H.get p:=fun H' h1 h2=>by
    rw[h1,h2]
    simp only[List.length_cons,Nat.add_sub_add_right]
    rw[show js.length+1+(p - H.next)=js.length+(p - H.next)+1 by omega,List.getElem?_cons_succ]
   cases j with
   | none=>exact e H rfl rfl
   | some id =>
    refine e _ (by rw[Ac,Aa.next_set]) ?_
    rw[Ac,Aa.get_set,if_neg]
    intro h;subst h;exact hp 0 rfl
theorem dL (js:List (Option Nat)) (obs:List AJ) (H:Aa) (p i:Nat) (hl:js.length≤obs.length) (hi:js[i]?=some (some p)) (hu:∀ i':Nat,js[i']?=some (some p)→i'=i) (hlt:p < H.next):(Ht js obs H).get p=(obs[i]?).getD .dead:=by
 induction js generalizing obs H i with
 | nil=>simp at hi
 | cons j js ih =>
  cases obs with
  | nil=>simp at hl
  | cons o obs =>
   show (Ht js obs (oo j H fun id=>H.set id o)).get p=_
   cases i with
   | zero =>
    simp at hi;subst hi
    rw[GY _ _ _ _ (by simpa using hl) fun i' h=>by have:=hu (i'+1) (by simpa using h);omega,Ac,Aa.next_set,if_neg (by omega),Aa.get_set,if_pos rfl]
    rfl
   | succ i =>
    rw[ih _ _ i (by simpa using hl) (by simpa using hi) (fun i' h=>by have:=hu (i'+1) (by simpa using h);omega) (by cases j with
     | none=>exact hlt
     | some id=>rw[Ac,Aa.next_set];exact hlt)]
    simp
end Go.Sp
namespace Go.Sp

theorem Sv {v:Value} (h:BR v=true):Ah v=true:=by
 cases v <;> simp[BR,vv] at h
 case bool=>rfl
 case int=>rfl
 case string=>rfl
 case pointer a=>cases a with
  | none=>rfl
  | some a=>simp at h
 case slice a l c=>cases a with
  | some a=>simp at h
  | none=>simp at h;obtain⟨h1,h2⟩:=h;subst h1;subst h2;rfl
 case map m=>cases m with
  | none=>rfl
  | some m=>simp at h
 case nilFunc=>rfl
 case nilIface=>rfl
theorem EH {R:Ren} (u:Value):VR R EP u:=.any u

section
variable {H:Aa} {R:Ren} {w:World} {args args':List Value}
theorem TR {v u:Value} (hv:VR R v u) (c:Nat):∃ u',VR R (capOf v c) u':=by
 unfold capOf
 cases hg:GH v with
 | none=>exact⟨undef,EH _⟩
 | some g =>
  have:=EZ hg;subst this
  obtain⟨f,a,b⟩:=g
  rw[Ac]
  show ∃ u',VR R (oo (AL (Br a b) c) EP fun v=>v) u'
  cases hv with
  | func fn hl hh hl' hh' =>
   rw[BH,BZ]
   cases hx:(a++b)[c]? with
   | none=>exact⟨undef,EH _⟩
   | some x =>
    rw[Ac]
    obtain⟨y,_,hv⟩:=(Cf.append (R:=R) ⟨hl,hh⟩ ⟨hl',hh'⟩).get hx
    exact⟨y,hv⟩
theorem Qo (hs:Ck H R w) {o:List (Option Nat)} (hinv:∀ (k id:Nat),o[k]?=some (some id)→R.f id=none→Em (H.get id)) (j i:Nat):∃ u,VR R (cellOf H o j i) u:=by
 unfold cellOf
 rw[BZ]
 cases hj:o[j]? with
 | none=>exact⟨undef,EH _⟩
 | some q =>
  rw[Ac]
  cases q with
  | none=>exact⟨undef,EH _⟩
  | some id =>
   rw[Ac]
   cases ho:Bv (H.get id) with
   | none=>exact⟨undef,EH _⟩
   | some ob =>
    rw[Ac,BZ]
    cases hx:ob.xs[i]? with
    | none=>exact⟨undef,EH _⟩
    | some x =>
     rw[Ac]
     cases hf:R.f id with
     | none =>
      have h1:=hinv j id hj hf
      rw[Et ho] at h1
      have h1:ob.xs=[]:=h1
      rw[h1] at hx;simp at hx
     | some p =>
      obtain⟨C,t,fz,_,_,_,h4⟩:=hs.cells (c:=p.1) (β:=p.2) hf ho
      obtain⟨y,_,hv⟩:=h4 i x hx
      exact⟨y,hv⟩
theorem dM (hs:Ck H R w) {o:List (Option Nat)} (hinv:∀ (k id:Nat),o[k]?=some (some id)→R.f id=none→Em (H.get id)) (j:Nat):∃ u,VR R (aZ H o j) u:=by
 unfold aZ
 cases h1:AL o j with
 | none=>exact⟨undef,EH _⟩
 | some q =>
  cases q with
  | none=>exact⟨undef,EH _⟩
  | some id =>
   rw[Ac,Ac]
   cases h2:Xj (H.get id) with
   | none=>exact⟨undef,EH _⟩
   | some it =>
    rw[Ac]
    cases h3:it.m with
    | none=>exact⟨undef,EH _⟩
    | some m =>
     rw[Ac]
     have hg:=NF h2
     cases hf:R.f id with
     | none =>
      have:=hinv j id (by rw[←BZ];exact h1) hf
      rw[hg] at this;exact this.elim
     | some p =>
      have hob:=hs.obj id p.1 p.2 hf
      rw[hg] at hob
      obtain⟨_,m',S,_,_,hm⟩:=hob
      rw[h3] at hm
      obtain⟨c,hc,_⟩:=hm
      exact⟨_,.map hc⟩
theorem AaV (hs:Ck H R w) (ha:Cf R args args') {o:List (Option Nat)} (hinv:∀ (k id:Nat),o[k]?=some (some id)→R.f id=none→Em (H.get id)) (n:Nat) (r:Rt):∃ u,VR R (r.val (Fr.made n args) H o) u:=by
 have htmp:∀ t,∃ u,VR R ((Fr.made n args).get t) u:=fun t=>by
  rw[Fr.get_made]
  cases hx:args[t]? with
  | none=>exact⟨undef,EH _⟩
  | some x =>
   obtain⟨y,_,hv⟩:=ha.get hx
   exact⟨y,hv⟩
 cases r with
 | tmp t d=>exact htmp t
 | cell j i d=>exact Qo hs hinv j i
 | cap t c d=>obtain⟨u,hu⟩:=htmp t;exact TR hu c
 | ccap j i c d=>obtain⟨u,hu⟩:=Qo hs hinv j i;exact TR hu c
 | itm j d=>exact dM hs hinv j
theorem TS (hs:Ck H R w) (ha:Cf R args args') (n:Nat):∀ (rs:List Rt) (o:List (Option Nat)),(∀ (k id:Nat),o[k]?=some (some id)→R.f id=none→Em (H.get id))→Na (Fr.made n args) H rs o=true →
 ∀ (k id:Nat),(E8 (Fr.made n args) H rs o)[k]?=some (some id)→R.f id=none→Em (H.get id)
 | [],o,h,_=>h
 | r :: rs, o, h, hr => by
  obtain⟨h1,h2⟩:=Av (show an (VN H (r.val (Fr.made n args) H o)) (Na (Fr.made n args) H rs (NT o (r.val (Fr.made n args) H o)))=true from hr)
  obtain⟨u,hu⟩:=AaV hs ha h n r
  refine TS hs ha n rs _ (fun k id hk hid=>?_) h2
  generalize r.val (Fr.made n args) H o=v at hk h1 hu
  unfold NT at hk
  rw[BH] at hk
  by_cases hlt:k < o.length
  ·rw[List.getElem?_append_left hlt] at hk;exact h k id hk hid
  ·rw[List.getElem?_append_right (by omega)] at hk
   have hk1:(oo (XD v) none fun id=>oo (idxOf id o 0) (some id) fun _=>none)=some id:=by
    cases hd:k - o.length with
    | zero=>rw[hd] at hk;simpa using hk
    | succ m=>rw[hd] at hk;simp at hk
   obtain⟨id',hr1,hk2⟩:=Ab hk1
   have hid':id'=id:=by
    cases hi:idxOf id' o 0 with
    | none=>rw[hi] at hk2;injection hk2
    | some m=>rw[hi] at hk2;cases hk2
   subst hid'
   unfold XD at hr1
   cases hp:FO v with
   | some p =>
    rw[hp,Ac] at hr1
    injection hr1 with hr1
    rw[Dg hp] at hu
    obtain⟨c,β,hf,_⟩:=hu.ptr_l
    rw[hr1,hid] at hf;cases hf
   | none =>
    rw[hp,Az] at hr1
    cases hsl:IA v with
    | some s =>
     rw[hsl,Ac] at hr1
     injection hr1 with hr1
     unfold VN at h1
     rw[hsl,Ac,Ed,Bool.or_eq_true] at h1
     rw[hr1] at h1
     rcases h1 with h1 | h1
     ·have h1:=Nat.le_of_ble_eq_true h1
      rcases hu.sl_l hsl with⟨c,β,cap,hf,_⟩ | ⟨c,o2,_,k0,k00⟩ | ⟨_,k0,k00⟩
      ·rw[hr1,hid] at hf;cases hf
      ·omega
      ·omega
     ·exact Zo h1
    | none =>
     rw[hsl,Az] at hr1
     obtain⟨m,hm,hr2⟩:=Ab hr1
     subst hr2
     rw[EW hm] at hu
     obtain⟨c,hf,_⟩:=hu.map_l
     rw[hid] at hf;cases hf
end

theorem Sw {olds:List (Option Nat)} {d tr:Bool} {o o':AJ} (hb:wH o=true) (h:EE olds d tr o=some o'):plainO o':=by
 have hw:=(dG hb).1
 cases o with
 | dead=>cases hw
 | iter=>cases hb
 | map es c =>
  obtain⟨_,h1⟩:=Ae (show bb (Dp tr (Au F4 es)) (some (AJ.map es c)) none=some o' from h)
  injection h1 with h1;subst h1;exact .inr (.inr ⟨_,_,rfl⟩)
 | cells xs imm sp anc =>
  have hw:(!imm && !sp)=true:=hw
  have hi:imm=false:=by cases imm <;> simp at hw ⊢
  have hsp:sp=false:=by cases sp <;> simp at hw ⊢
  subst hi;subst hsp
  obtain⟨_,h2⟩:=Ae (show bb _ (bb d (oo (CG (Ry olds) xs) none fun xs'=>some (AJ.cells xs' false false [])) (bb (Dp tr (Au Ah xs)) (some (AJ.cells xs false false [])) none)) none=some o' from h)
  rw[BL] at h2
  split at h2
  ·obtain⟨ys,_,h3⟩:=Ab h2
   injection h3 with h3;subst h3;exact .inr (.inl ⟨_,rfl⟩)
  ·obtain⟨_,h3⟩:=Ae h2
   injection h3 with h3;subst h3;exact .inr (.inl ⟨_,rfl⟩)

section
variable {P:Program} {tabs:List (List Value)}

theorem Dx {tt:TT} (hT:Jm P tt) (hm:P.follows .mixedOrders=true) {g na k:Nat} {r:Xq} {call:A8} (hc:CO P (List.range tabs.length) call) (hfn:Ar P (List.range tabs.length) g r) {f:List Value→Option Value}
 (h:∀ args os z,args.length=na→os.length=k→(∀ o∈os,plainO o)→f (args++os.map Ef)=some z→args.length≤r.n∧BN tt call (tabs.length+k) r.body (Fr.made r.n args) (BK tabs os) (FJ tt tabs.length k r.results z)):Cn P tabs na k g f:=by
 refine⟨A9 hfn,fun args os z hna hk hpl hz=>?_⟩
 obtain⟨hle,hrun⟩:=h args os z hna hk hpl hz
 intro R w args' hR hemp hs ha
 obtain⟨fd,c,e1,e2,e3,e4,_,hcomp,hok⟩:=hfn.ok
 refine calls_of_wp e1 e2 ?_
 have hlen:=ha.1
 have hsize:((⟨args'⟩:Array Value)++Array.replicate (fd.ntmps - (⟨args'⟩:Array Value).size) undef).size=r.n:=by simp;omega
 have hgl:JH (List.range tabs.length) R:=fun g hg=>hR g (by simpa using hg)
 have hfull:∀ id,id < (BK tabs os).next→R.f id=none→Em ((BK tabs os).get id):=fun id hid hr=>by
  rw[CW] at hid
  by_cases hlt:id < tabs.length
  ·rw[hR id hlt] at hr;cases hr
  ·obtain⟨j,rfl⟩:∃ j,id=tabs.length+j:=⟨id - tabs.length,by omega⟩
   have hj:j < os.length:=by omega
   rw[Fz,List.getElem?_eq_getElem hj]
   exact hemp j _ (List.getElem?_eq_getElem hj) hr
 have hrun:BN tt call (BK tabs os).next r.body (Fr.made r.n args) (BK tabs os) (FJ tt tabs.length k r.results z):=by
  rw[CW,hk];exact hrun
 have hst:St (List.range tabs.length) (BK tabs os) R w [] r.n (Fr.made r.n args) (BK tabs os) ⟨(⟨args'⟩:Array Value)++Array.replicate (fd.ntmps - (⟨args'⟩:Array Value).size) undef,[]⟩ w:=by
  refine⟨⟨R,.refl hs,fun t=>?_⟩,rfl,hsize,Fr.n_made ..⟩
  rw[Fr.get_made,Array.getD_eq_getD_getElem?]
  show VR R _ (((⟨args'⟩:Array Value)++Array.replicate (fd.ntmps - (⟨args'⟩:Array Value).size) undef)[t]?.getD undef)
  rw[Array.getElem?_append]
  by_cases hlt:t < args'.length
  ·rw[if_pos (by simpa using hlt)]
   obtain ⟨x, hx⟩ : ∃ x, args[t]? = some x := ⟨args[t]'(by omega), by simp⟩
   obtain⟨y,hy,hv⟩:=ha.get hx
   rw[hx,show (⟨args'⟩:Array Value)[t]?=some y by simpa using hy]
   exact hv
  ·rw[List.getElem?_eq_none (by omega)]
   exact .any _
 refine wp_mono (hrun.sound hT hc hm hs hgl hfull hcomp hok _ w hst) fun x a' w' ⟨e,F',H',h1,h2,h3⟩=>?_
 subst h1
 have fin : ∀ F' H', St (List.range tabs.length) (BK tabs os) R w [] r.n F' H' a' w' → AaU tt tabs.length k r.results z F' H' → bodyPost P fd (fun e w' => ∃ (u v : Value) (os' : List AJ) (H' : Aa) (R' : Ren), e = .returned u ∧ z = .tuple ⟨v :: os'.map Ef⟩ ∧ VR R' v u ∧ Ba (BK tabs os) R w H' R' w' ∧ k ≤ os'.length ∧
  ∀ i o,os'[i]?=some o→H'.get (tabs.length+i)=o∧plainO o) .normal a' w':=fun F' H' ⟨⟨R',hp,ht⟩,hd,_,_⟩ ⟨v,os',g1,hres,g2,g3⟩=>by
  rw[←e4] at hres
  obtain⟨u,hu,huv⟩:=IW hT hp.sim ht hres
  exact⟨hd,u,hu,u,v,os',H',R',rfl,g1,huv,hp,g2,g3⟩
 cases e with
 | normal =>
  obtain⟨F1,H1,hg,hq⟩:=h2
  have hg:E9 (BK tabs os).next F' H' F1 H1:=by rw[CW,hk];exact hg
  have hst1:∀ {F F1:Fr} {H H1:Aa},E9 (BK tabs os).next F H F1 H1→St (List.range tabs.length) (BK tabs os) R w [] r.n F H a' w'→St (List.range tabs.length) (BK tabs os) R w [] r.n F1 H1 a' w':=fun hg=>by
   induction hg with
   | id=>exact fun h=>h
   | step h _ ih=>exact fun hst=>ih (hst.ghost hs hfull h)
  exact fin F1 H1 (hst1 hg h3) hq
 | exit j=>exact h2.elim
 | goto j=>exact h2.elim
 | ret=>exact fin F' H' h3 h2

theorem lD {H:Aa} {R Rs:Ren} {w:World} {olds:List (Option Nat)} {os:List AJ} (hs:Ck H R w) (hgl:JH (List.range tabs.length) R) (hne:∀ t∈tabs,t=t) (hpl:∀ t∈tabs,∀ x∈t,BR x=true)
 (htab:KL H tabs 0=true) (hRs:Rs=⟨fun i=>oo (AL olds i) none fun o=>oo o none fun id=>R.f id,R.sz,R.ro⟩) (hRn:TD R Rs olds) (hidx:∀ (i b:Nat),olds[i]?=some (some b)→idxOf b olds 0=some i)
 (hid:∀ i,i < tabs.length→olds[i]?=some (some i)) (hlen:olds.length=tabs.length+os.length) (hpo:∀ o∈os,plainO o)
 (hos:∀ (j id:Nat),olds[tabs.length+j]?=some (some id)→∃ d o,os[j]?=some o∧EE olds d false (H.get id)=some o):Ck (BK tabs os) Rs w:=by
 have hRf:∀ i p,Rs.f i=some p→∃ id,olds[i]?=some (some id)∧R.f id=some p:=fun i p h=>by
  rw[hRs] at h
  obtain⟨o,ho,h4⟩:=Ab (show oo (AL olds i) none (fun o=>oo o none fun id=>R.f id)=some p from h)
  obtain⟨id,hi,h5⟩:=Ab h4
  subst hi
  exact⟨id,by simpa using ho,h5⟩
 have htb:∀ i,i < tabs.length→∃ t sp anc,tabs[i]?=some t∧H.get i = .cells t true sp anc∧t∈tabs:=fun i hi=>by
  have ht:=List.getElem?_eq_getElem hi
  have:=KN htab i _ ht
  rw[Nat.zero_add] at this
  obtain⟨sp,anc,h⟩:=XW this.1 this.2 (hne _ (List.getElem_mem hi))
  exact⟨_,sp,anc,ht,h,List.getElem_mem hi⟩
 have hlt:∀ (i:Nat) (id:Nat),olds[i]?=some (some id)→i < tabs.length+os.length:=fun i id h=>by rw[←hlen];exact(List.getElem?_eq_some_iff.1 h).1
 -- what stands there
 have hget:∀ i id,olds[i]?=some (some id)→tabs.length≤i→∃ d,EE olds d false (H.get id)=some ((BK tabs os).get i):=fun i id h hi=>by
  obtain⟨j,rfl⟩:∃ j,i=tabs.length+j:=⟨i - tabs.length,by omega⟩
  obtain⟨d,o,h1,h2⟩:=hos j id h
  exact⟨d,by rw[Fz,h1];exact h2⟩
 refine ⟨fun i c β h => ?_, fun i c β h => ?_, fun i c β i' β' h h' hne' hw => ?_, fun i a ha => ?_, fun i hi => ?_, fun c C hc => ?_⟩
 ·obtain⟨id,h1,h2⟩:=hRf i _ h
  rw[CW]
  exact⟨hlt i id h1,(hs.dom id c β h2).2⟩
 ·obtain⟨id,h1,h2⟩:=hRf i _ h
  by_cases hi:i < tabs.length
  ·have h3:=hid i hi
   rw[h1] at h3;injection h3 with h3;injection h3 with h3;subst h3
   obtain⟨t,sp,anc,g1,g2,g3⟩:=htb id hi
   rw[Ew g1]
   have ho:=hs.obj id c β h2
   rw[g2] at ho
   obtain⟨C,ty,fz,k1,k2,k3,k4,k5⟩:=ho
   refine⟨C,ty,fz,k1,by rw[hRs];exact k2,k3,fun q x hx=>?_,fun h=>by cases h⟩
   obtain⟨y,n1,n2⟩:=k4 q x hx
   exact⟨y,n1,n2.closed (fun c C h=>by rw[hRs];exact h) (Sv (hpl t g3 x (List.mem_of_getElem? hx)))⟩
  ·obtain⟨d,h6⟩:=hget i id h1 (by omega)
   exact LD hRn h6 (fun h9=>by cases h9) (hs.obj id c β h2)
 ·obtain⟨id,h1,h2⟩:=hRf i _ h
  obtain⟨id',h1',h2'⟩:=hRf i' _ h'
  by_cases hi:i < tabs.length
  ·obtain⟨t,sp,anc,g1,g2,g3⟩:=htb i hi
   rw[Ew g1] at hw;cases hw
  ·obtain⟨d,h6⟩:=hget i id h1 (by omega)
   obtain⟨g1,g2,g3,g4,g5⟩:=CE h6
   rw[g1] at hw
   have hidne:id≠id':=fun e=>by subst e;have:=(hidx i id h1).symm.trans (hidx i' id h1');injection this with this;exact hne' this
   rcases hs.sep id c β id' β' h2 h2' hidne hw with h7 | ⟨h7, _⟩
   ·by_cases hi':i' < tabs.length
    ·have h3:=hid i' hi'
     rw[h1'] at h3;injection h3 with h3;injection h3 with h3;subst h3
     obtain⟨t,sp,anc,g1,g2,g3⟩:=htb id' hi'
     rw[g2] at h7;cases h7
    ·obtain⟨d',h6'⟩:=hget i' id' h1' (by omega)
     left
     rw[h7] at h6'
     injection h6' with h6'
     exact h6'.symm
   ·have:=g4 hw id' h7
    rw[hidx i' id' h1'] at this;cases this
 ·by_cases hi:i < tabs.length
  ·obtain⟨t,sp,anc,g1,g2,g3⟩:=htb i hi
   rw[Ew g1] at ha;cases ha
  ·obtain⟨j,rfl⟩:∃ j,i=tabs.length+j:=⟨i - tabs.length,by omega⟩
   rw[Fz] at ha
   cases hj:os[j]? with
   | none=>rw[hj] at ha;cases ha
   | some o=>rw[hj] at ha;rw[Option.getD_some,Ol (hpo o (List.mem_of_getElem? hj))] at ha;cases ha
 ·rw[CW] at hi
  obtain⟨j,rfl⟩:∃ j,i=tabs.length+j:=⟨i - tabs.length,by omega⟩
  rw[Fz,List.getElem?_eq_none (by omega)];rfl
 ·rw[hRs] at hc
  refine⟨(hs.ro c C hc).1,fun i β h=>?_⟩
  obtain⟨id,h1,h2⟩:=hRf i _ h
  by_cases hi:i < tabs.length
  ·obtain⟨t,sp,anc,g1,g2,g3⟩:=htb i hi
   rw[Ew g1];rfl
  ·obtain⟨d,h6⟩:=hget i id h1 (by omega)
   rw[(CE h6).1]
   exact(hs.ro c C hc).2 id β h2
end
end Go.Sp
namespace Go.Sp

section
variable {P:Program} {tabs:List (List Value)}

theorem lF (hne:∀ t∈tabs,t=t) (hpl:∀ t∈tabs,∀ x∈t,BR x=true) {g na:Nat} {rs:List Rt} {outs:List Bool} {f:List Value→Option Value} (hok:Cn P tabs na rs.length g f) {args:List Value} {H H':Aa} {v:Value}
 (h:VO tabs na rs outs f args H=some (v,H')) :
 (∀ (as:Array Value) (w:World),(callFunc g as).run P w = .ok (.enter g as) w) ∧
 ∀ R w args',Ck H R w→JH (List.range tabs.length) R→Cf R args args'→Calls P g ⟨args'⟩ w fun e w'=>∃ u R',e = .returned u∧VR R' v u∧Ba H R w H' R' w':=by
 refine⟨hok.1,fun R w args' hs hgl ha=>?_⟩
 unfold VO at h
 dsimp only at h
 generalize hF:Fr.made (len args) args=F at h
 generalize hol:E8 F H rs (DY (len tabs))=olds at h
 have hm0:=Kz (F:=F) (H:=H) (rs:=rs) (o:=DY (len tabs))
 rw[hol] at hm0
 obtain⟨hc,h⟩:=Ae h
 obtain⟨htab,hc⟩:=Av hc
 obtain⟨hchk,hc⟩:=Av hc
 obtain⟨hlen,hc⟩:=Av hc
 obtain⟨hna,hwr⟩:=Av hc
 have hlen:=Nat.eq_of_beq_eq_true hlen
 have hna:=Nat.eq_of_beq_eq_true hna
 obtain⟨hroots,h⟩:=Ae h
 obtain⟨os,hos,h⟩:=Ab h
 obtain⟨as,has,h⟩:=Ab h
 obtain⟨z,hz,h⟩:=Ab h
 obtain⟨l,hl,h⟩:=Ab h
 simp only[AV,BH,Cc,Bz] at hlen hna hwr hz hos hroots hm0
 cases l with
 | nil=>cases h
 | cons v0 es=>
 have h:oo (CG TP es) none (fun os'=>
  bb (an (Nat.beq (len outs) (len os')) (Nat.ble (len rs) (len os')))
   (oo (CG (KM (Oj olds H.next (len os' - len rs))) (Gf outs os')) none fun ns => oo (Rz (Oj olds H.next (len os' - len rs)) v0) none fun v' =>
     some (v',Ht (Am (len tabs) olds) ns (H.kill (I6 H (Am (len tabs) olds))))) none)=some (v,H'):=h
 obtain⟨os1,hdec,h⟩:=Ab h
 obtain⟨hc,h⟩:=Ae h
 obtain⟨ho1,ho2⟩:=Av hc
 have ho1:=Nat.eq_of_beq_eq_true ho1
 have ho2:=Nat.le_of_ble_eq_true ho2
 obtain⟨ns,hns,h⟩:=Ab h
 obtain⟨v',hv',h⟩:=Ab h
 injection h with h;injection h with e1 e2;subst e1;subst e2
 simp only[AV,Bz] at ho1 ho2 hns hv' ⊢
 -- the numbers
 obtain⟨m0,hm0⟩:=hm0
 have hidx:∀ (i b:Nat),olds[i]?=some (some b)→idxOf b olds 0=some i:=fun i b hb=>by have:=Mq hchk i b hb;simpa using this
 have hid:∀ i,i < tabs.length→olds[i]?=some (some i):=fun i hi=>by
  rw[hm0,List.getElem?_append_left (by rw[JK];exact hi),J6,if_pos hi]
 have uniq:∀ (i i' b:Nat),olds[i]?=some (some b)→olds[i']?=some (some b)→i=i':=fun i i' b h1 h2=>by
  have:=(hidx i b h1).symm.trans (hidx i' b h2);injection this
 have hinv:∀ (k id:Nat),olds[k]?=some (some id)→R.f id=none→Em (H.get id):=by
  have:=TS hs ha (len args) rs (DY tabs.length) (fun k id hk hr=>by
   rw[J6] at hk
   split at hk
   ·rename_i hlt
    injection hk with hk;injection hk with hk;subst hk
    rw[hgl k (by simpa using hlt)] at hr;cases hr
   ·cases hk) (by rw[hF];exact hroots)
  rw[hF] at this
  have e:E8 F H rs (DY tabs.length)=olds:=by rw[←hol,AV]
  rwa [e] at this
 -- the objects
 have hz1:(Gf (AP Rt.deep rs) (olds.drop tabs.length)).length=rs.length:=by
  rw[IX _ _ (by simp;omega)];simp
 obtain⟨ol,oget⟩:=Di hos
 rw[Cc] at hz1
 rw[hz1] at ol
 have hwrJ:∀ j id,olds[tabs.length+j]?=some (some id)→(H.get id).writable=true∧(H.get id).immB=false:=fun j id hj=>dH hwr (i:=j) (by rw[List.getElem?_drop];exact hj)
 have hltJ:∀ j id,olds[tabs.length+j]?=some (some id)→id < H.next:=fun j id hj=>hs.wf.lt (fun h9=>by have:=(hwrJ j id hj).1;rw[h9] at this;cases this)
 have hob:∀ (j:Nat) q,olds[tabs.length+j]?=some q→∃ d o,os[j]?=some o∧newObj H [] olds (d,q)=some o:=fun j q hj=>by
  have hj2:(olds.drop tabs.length)[j]?=some q:=by rw[List.getElem?_drop];exact hj
  have hlt:j < (Gf (rs.map Rt.deep) (olds.drop tabs.length)).length:=by
   rw[hz1]
   have:=(List.getElem?_eq_some_iff.1 hj).1
   omega
  have hget:=List.getElem?_eq_getElem hlt
  obtain⟨_,g2⟩:=KA _ _ _ _ hget
  obtain⟨b,hb,hf⟩:=oget j _ hget
  rw[hj2] at g2
  generalize (Gf (rs.map Rt.deep) (olds.drop tabs.length))[j]=p at hf g2
  obtain⟨d,o⟩:=p
  injection g2 with g2;simp only at g2;subst g2
  exact⟨d,b,hb,hf⟩
 have hosJ:∀ (j id:Nat),olds[tabs.length+j]?=some (some id)→∃ d o,os[j]?=some o∧EE olds d false (H.get id)=some o:=fun j id hj=>hob j _ hj
 have hpo:∀ o∈os,plainO o:=fun o ho=>by
  obtain⟨j,hj⟩:=List.mem_iff_getElem?.1 ho
  have hlt:=(List.getElem?_eq_some_iff.1 hj).1
  obtain⟨q,hq⟩:∃ q,olds[tabs.length+j]?=some q:=⟨_,List.getElem?_eq_getElem (by omega)⟩
  obtain⟨d,o',h1,h2⟩:=hob j q hq
  rw[hj] at h1;injection h1 with h1;subst h1
  cases q with
  | none=>injection h2 with h2;exact .inl h2.symm
  | some id=>exact Sw (lC hwr (i:=j) (by rw[List.getElem?_drop];exact hq)) (tr:=false) h2
 -- what the callee sees
 generalize hRs:(⟨fun i=>oo (AL olds i) none fun o=>oo o none fun id=>R.f id,R.sz,R.ro⟩:Ren)=Rs
 have hRsf:∀ i id,olds[i]?=some (some id)→Rs.f i=R.f id:=fun i id hi=>by
  rw[←hRs]
  show oo (AL olds i) none (fun o=>oo o none fun id=>R.f id)=_
  rw[BZ,hi];rfl
 have hRsi:∀ i p,Rs.f i=some p→∃ id,olds[i]?=some (some id)∧R.f id=some p:=fun i p h=>by
  rw[←hRs] at h
  obtain⟨o,ho,h4⟩:=Ab (show oo (AL olds i) none (fun o=>oo o none fun id=>R.f id)=some p from h)
  obtain⟨id,hi,h5⟩:=Ab h4
  subst hi
  exact⟨id,by simpa using ho,h5⟩
 have hRsz:Rs.sz=R.sz:=by rw[←hRs]
 have hRro:Rs.ro=R.ro:=by rw[←hRs]
 have hRn:TD R Rs olds:=⟨fun b b' hb=>by
  obtain⟨_,h4⟩:=Il hb
  rw[Nat.sub_zero] at h4
  exact hRsf b' b h4,hRro,hRsz⟩
 have hsub:=lD hs hgl hne hpl htab hRs.symm hRn hidx hid (by omega) hpo hosJ
 have has':Cf Rs as args':=Im (fun v u v'=>RD hRn) has ha
 have htabR:∀ i,i < tabs.length→Rs.f i=some (i,0):=fun i hi=>by rw[hRsf i i (hid i hi)];exact hgl i (by simpa using hi)
 have hemp:∀ (j:Nat) (o:AJ),os[j]?=some o→Rs.f (tabs.length+j)=none→Em o:=fun j o hj hr=>by
  have hlt:=(List.getElem?_eq_some_iff.1 hj).1
  obtain⟨q,hq⟩:∃ q,olds[tabs.length+j]?=some q:=⟨_,List.getElem?_eq_getElem (by omega)⟩
  obtain⟨d,o',h1,h2⟩:=hob j q hq
  rw[hj] at h1;injection h1 with h1;subst h1
  cases q with
  | none=>injection h2 with h2;subst h2;trivial
  | some id =>
   rw[hRsf _ _ hq] at hr
   have he:=hinv _ id hq hr
   exact(KC (tr:=false) he (Calm.refl _) h2).empty he
 have haslen:as.length=na:=by rw[has'.1,←ha.1];exact hna
 refine(hok.2 as os z haslen ol hpo hz Rs w args' htabR hemp hsub has').mono fun e w' ⟨u,v1,os2,H1,R1,he,hz',hu,hp,hk,hobs⟩=>?_
 -- the results
 have hpo2:∀ o∈os2,plainO o:=fun o ho=>by
  obtain⟨j,hj⟩:=List.mem_iff_getElem?.1 ho
  exact(hobs j o hj).2
 subst hz'
 have hl:v1=v0∧os2.map Ef=es:=by
  have hl:some (v1::os2.map Ef)=some (v0::es):=hl
  injection hl with hl;injection hl with a b;exact⟨a,b⟩
 obtain⟨rfl,rfl⟩:=hl
 rw[Zn hpo2] at hdec
 injection hdec with hdec;subst hdec
 generalize hE:os2.length - rs.length=E at hns hv' ⊢
 have hz2:(Gf outs os2).length=os2.length:=by rw[IX _ _ ho1];exact ho1
 obtain⟨nl,nget⟩:=Di hns
 rw[hz2] at nl
 have hnsJ:∀ (j:Nat) o,os2[j]?=some o→∃ d o',ns[j]?=some o'∧EE (Oj olds H.next E) d false o=some o':=fun j o hj=>by
  have hlt:j < (Gf outs os2).length:=by rw[hz2];exact(List.getElem?_eq_some_iff.1 hj).1
  have hget:=List.getElem?_eq_getElem hlt
  obtain⟨_,g2⟩:=KA _ _ _ _ hget
  obtain⟨b,hb,hf⟩:=nget j _ hget
  rw[hj] at g2
  generalize (Gf outs os2)[j]=p at hf g2
  obtain⟨d,o1⟩:=p
  injection g2 with g2;simp only at g2;subst g2
  exact⟨d,b,hb,hf⟩
 generalize hinvL:Oj olds H.next E=inv at hns hv' hnsJ
 have iget:=dI olds H.next E
 rw[hinvL] at iget
 have hlt':∀ (i b:Nat),olds[i]?=some (some b)→b < H.next:=fun i b hi=>by
  by_cases h9:i < tabs.length
  ·rw[hid i h9] at hi;injection hi with hi;injection hi with hi;subst hi
   exact(hs.dom i i 0 (hgl i (by simpa using h9))).1
  ·obtain⟨j,rfl⟩:∃ j,i=tabs.length+j:=⟨i - tabs.length,by omega⟩
   exact hltJ j b hi
 -- a number here and there
 have A1:∀ (p i:Nat),inv[p]?=some (some i)→p < H.next→olds[i]?=some (some p):=fun p i h9 hlt=>by
  rw[iget,if_pos hlt] at h9
  injection h9 with h9
  obtain⟨_,h8⟩:=Il h9
  rwa [Nat.sub_zero] at h8
 have A2:∀ (p i:Nat),olds[i]?=some (some p)→inv[p]?=some (some i):=fun p i h9=>by rw[iget,if_pos (hlt' i p h9),hidx i p h9]
 have A3:∀ (p i:Nat),inv[p]?=some (some i)→¬ p < H.next→i=olds.length+(p - H.next)∧p < H.next+E:=fun p i h9 hge=>by
  rw[iget,if_neg hge] at h9
  split at h9
  ·injection h9 with h9;injection h9 with h9;exact⟨h9.symm,by assumption⟩
  ·cases h9
 have hlenO:olds.length=tabs.length+rs.length:=hlen
 have Auniq:∀ (p p' i:Nat),inv[p]?=some (some i)→inv[p']?=some (some i)→p=p':=fun p p' i h9 h8=>by
  by_cases a1:p < H.next
  ·have b1:=A1 p i h9 a1
   by_cases a2:p' < H.next
   ·have b2:=A1 p' i h8 a2
    rw[b1] at b2;injection b2 with b2;injection b2
   ·obtain⟨b2,_⟩:=A3 p' i h8 a2
    have:=(List.getElem?_eq_some_iff.1 b1).1
    omega
  ·obtain⟨b1,_⟩:=A3 p i h9 a1
   by_cases a2:p' < H.next
   ·have b2:=A1 p' i h8 a2
    have:=(List.getElem?_eq_some_iff.1 b2).1
    omega
   ·obtain⟨b2,_⟩:=A3 p' i h8 a2
    omega
 have htb:∀ i,i < tabs.length→∃ t sp anc,tabs[i]?=some t∧H.get i = .cells t true sp anc:=fun i hi=>by
  have ht:=List.getElem?_eq_getElem hi
  have:=KN htab i _ ht
  rw[Nat.zero_add] at this
  obtain⟨sp,anc,h⟩:=XW this.1 this.2 (hne _ (List.getElem_mem hi))
  exact⟨_,sp,anc,ht,h⟩
 have subimm:∀ i,i < tabs.length→((BK tabs os).get i).immB=true:=fun i hi=>by
  obtain⟨t,sp,anc,g1,_⟩:=htb i hi
  rw[Ew g1];rfl
 -- who is forgotten
 generalize hanc:I6 H (olds.drop tabs.length)=ancs
 have ancm:∀ a,a∈ancs↔∃ j id,olds[tabs.length+j]?=some (some id)∧a∈(H.get id).ancOf:=fun a=>by
  rw[←hanc,VP]
  constructor
  ·rintro⟨j,id,h1,h2⟩;rw[List.getElem?_drop] at h1;exact⟨j,id,h1,h2⟩
  ·rintro⟨j,id,h1,h2⟩;exact⟨j,id,by rw[List.getElem?_drop];exact h1,h2⟩
 have ancw:∀ a,a∈ancs→(H.get a).immB=false∧(H.get a).writable=false:=fun a h9=>by
  obtain⟨j,id,h1,h2⟩:=(ancm a).1 h9
  exact(hs.anc id a h2).2
 -- the heap behind the call
 generalize hH2:Ht (olds.drop tabs.length) ns (H.kill ancs)=H2
 have hjl:(olds.drop tabs.length).length≤ns.length:=by rw[List.length_drop,nl];omega
 have hnext:H2.next=H.next+E:=by
  rw[←hH2,VS _ _ _ hjl,Aa.next_kill,List.length_drop,nl];omega
 have gOld:∀ p,(∀ j:Nat,olds[tabs.length+j]?≠some (some p))→p < H.next→H2.get p=if p∈ancs then .dead else H.get p:=fun p h9 hlt=>by
  rw[←hH2,GY _ _ _ _ hjl (fun i=>by rw[List.getElem?_drop];exact h9 i),Aa.next_kill,if_neg (by omega),Aa.get_kill]
 have gJ:∀ (p j:Nat),olds[tabs.length+j]?=some (some p)→H2.get p=(ns[j]?).getD .dead:=fun p j hj=>by
  rw[←hH2]
  exact dL _ _ _ p j hjl (by rw[List.getElem?_drop];exact hj) (fun i' h9=>by rw[List.getElem?_drop] at h9;have:=uniq _ _ _ h9 hj;omega) (by rw[Aa.next_kill];exact hltJ j p hj)
 have gN:∀ q,q < E→H2.get (H.next+q)=(ns[rs.length+q]?).getD .dead:=fun q hq=>by
  rw[←hH2,GY _ _ _ _ hjl (fun i h9=>by rw[List.getElem?_drop] at h9;have:=hltJ i _ h9;omega),Aa.next_kill,if_pos ⟨by omega,by rw[List.length_drop,nl];omega⟩,List.length_drop]
  congr 2
  omega
 have gTab:∀ i,i < tabs.length→H2.get i=H.get i:=fun i hi=>by
  obtain⟨t,sp,anc,_,g2⟩:=htb i hi
  rw[gOld i (fun j h9=>by have:=uniq _ _ _ h9 (hid i hi);omega) ((hs.dom i i 0 (hgl i (by simpa using hi))).1),if_neg]
  intro h9
  have:=(ancw i h9).1
  rw[g2] at this;cases this
 have gA:∀ (p i:Nat),inv[p]?=some (some i)→tabs.length≤i→∃ d o',EE inv d false (H1.get i)=some o'∧H2.get p=o'∧plainO (H1.get i):=fun p i h9 hi=>by
  obtain⟨j,rfl⟩:∃ j,i=tabs.length+j:=⟨i - tabs.length,by omega⟩
  have hj:j < os2.length:=by
   by_cases hlt:p < H.next
   ·have:=(List.getElem?_eq_some_iff.1 (A1 p _ h9 hlt)).1;omega
   ·have:=A3 p _ h9 hlt;omega
  obtain⟨o,ho⟩:∃ o,os2[j]?=some o:=⟨_,List.getElem?_eq_getElem hj⟩
  obtain⟨d,o',n1,n2⟩:=hnsJ j o ho
  obtain⟨b1,b2⟩:=hobs j o ho
  refine⟨d,o',by rw[b1];exact n2,?_,by rw[b1];exact b2⟩
  by_cases hlt:p < H.next
  ·rw[gJ p j (A1 p _ h9 hlt),n1];rfl
  ·obtain⟨c1,c2⟩:=A3 p _ h9 hlt
   rw[show p=H.next+(p - H.next) by omega,gN _ (by omega),show rs.length+(p - H.next)=j by omega,n1];rfl
 have gB:∀ p:Nat,(∀ i:Nat,inv[p]?≠some (some i))→H2.get p = .dead∨H2.get p=H.get p:=fun p h9=>by
  by_cases hlt:p < H.next
  ·rw[gOld p (fun j h8=>h9 _ (A2 p _ h8)) hlt]
   split
   ·exact .inl rfl
   ·exact .inr rfl
  ·by_cases h7:p < H.next+E
   ·exact absurd (by rw[iget,if_neg hlt,if_pos h7]) (h9 (olds.length+(p - H.next)))
   ·right
    rw[←hH2,GY _ _ _ _ hjl (fun i h9=>by rw[List.getElem?_drop] at h9;have:=hltJ i _ h9;omega),Aa.next_kill,if_neg (by rw[List.length_drop,nl];omega),Aa.get_kill]
    split
    ·exact(hs.wf p (by omega)).symm
    ·rfl
 have gBk:∀ p:Nat,(∀ i:Nat,inv[p]?≠some (some i))→p∈ancs→H2.get p = .dead:=fun p h9 ha=>by
  have hlt:p < H.next:=by
   obtain⟨j,id,h1,h2⟩:=(ancm p).1 ha
   exact(hs.anc id p h2).1
  rw[gOld p (fun j h8=>h9 _ (A2 p _ h8)) hlt,if_pos ha]
 -- sizes
 have hszle:∀ i c β,Rs.f i=some (c,β)→R1.f i=some (c,β)∧R1.sz c=R.sz c:=fun i c β h9=>by
  have:=hp.le i c β h9
  rw[hRsz] at this;exact this
 generalize hsz2:(fun c=>@ite _ (∃ id β,R.f id=some (c,β)) (Classical.propDecidable _) (R.sz c) (R1.sz c):Nat→Nat)=sz2
 have sz2R:∀ id c β,R.f id=some (c,β)→sz2 c=R.sz c:=fun id c β h9=>by rw[←hsz2];exact if_pos ⟨id,β,h9⟩
 have sz21:∀ i c β,R1.f i=some (c,β)→sz2 c=R1.sz c:=fun i c β h9=>by
  by_cases hex : ∃ id β', R.f id = some (c, β')
  ·obtain ⟨id, β', hR⟩ := hex
   rw [sz2R id c β' hR]
   rcases hp.new i _ h9 with h8 | ⟨h8,_⟩
   ·exact(hszle i c β h8).2.symm
   ·rcases hp.fresh i c β h9 h8 with h7 | ⟨i0,β0,h7,_⟩
    ·have := (hs.dom id c β' hR).2; omega
    ·exact(hszle i0 c β0 h7).2.symm
  ·rw[←hsz2];exact if_neg hex
 have hle1:R1.le ⟨R1.f,sz2,R1.ro⟩:=⟨fun i c β h9=>⟨h9,sz21 i c β h9⟩,fun _ _ h9=>h9⟩
 generalize hR2:(⟨fun p=>match inv[p]? with | some (some i)=>R1.f i | _=>R.f p,sz2,R1.ro⟩:Ren)=R2
 have R2A:∀ (p i:Nat),inv[p]?=some (some i)→R2.f p=R1.f i:=fun p i h9=>by rw[←hR2];simp[h9]
 have R2B:∀ p:Nat,(∀ i:Nat,inv[p]?≠some (some i))→R2.f p=R.f p:=fun p h9=>by
  rw[←hR2]
  show (match inv[p]? with | some (some i)=>R1.f i | _=>R.f p)=_
  split
  ·rename_i i h8;exact absurd h8 (h9 i)
  ·rfl
 have R2sz:R2.sz=sz2:=by rw[←hR2]
 have R2ro:R2.ro=R1.ro:=by rw[←hR2]
 have hRn2:TD ⟨R1.f,sz2,R1.ro⟩ R2 inv:=⟨fun b b' hb=>by
  obtain⟨_,h4⟩:=Il hb
  rw[Nat.sub_zero] at h4
  exact R2A b' b h4,R2ro,R2sz⟩
 have cls:∀ p:Nat,(∃ i:Nat,inv[p]?=some (some i))∨∀ i:Nat,inv[p]?≠some (some i):=fun p=>by
  by_cases h9:∃ i:Nat,inv[p]?=some (some i)
  ·exact .inl h9
  ·exact .inr fun i h8=>h9 ⟨i,h8⟩
 have ledom:∀ id c β,R.f id=some (c,β)→R2.f id=some (c,β):=fun id c β h9=>by
  rcases cls id with⟨i,hi⟩ | hB
  ·rw[R2A id i hi]
   have:=A1 id i hi (hs.dom id c β h9).1
   exact(hszle i c β (by rw[hRsf i id this];exact h9)).1
  ·rw[R2B id hB];exact h9
 have hle2:R.le R2:=⟨fun id c β h9=>⟨ledom id c β h9,by rw[R2sz];exact sz2R id c β h9⟩,fun c C h9=>by rw[R2ro];exact hp.le.ro c C (by rw[hRro];exact h9)⟩
 -- a block that the callee knows and another number of the caller
 have sepJ : ∀ (j id p c β β' : Nat), olds[tabs.length + j]? = some (some id) → R.f id = some (c, β) → R.f p = some (c, β') → p ≠ id → H.get p = .dead ∨ p ∈ ancs := fun j id p c β β' hj h1 h2 hne => by
  rcases hs.sep id c β p β' h1 h2 (fun e => hne e.symm) (hwrJ j id hj).1 with h9 | ⟨h9, _⟩
  ·exact .inl h9
  ·exact .inr ((ancm p).2 ⟨j,id,hj,h9⟩)
 have deadB : ∀ (j id p c β β' : Nat), olds[tabs.length + j]? = some (some id) → R.f id = some (c, β) → R.f p = some (c, β') → (∀ i : Nat, inv[p]? ≠ some (some i)) → H2.get p = .dead := fun j id p c β β' hj h1 h2 hB => by
  rcases sepJ j id p c β β' hj h1 h2 (fun e => by subst e; exact hB _ (A2 p _ hj)) with h9 | h9
  ·rcases gB p hB with h8 | h8
   ·exact h8
   ·rw[h8];exact h9
  ·exact gBk p hB h9
 -- where the callee's block is one of the caller's
 have shareJ : ∀ (i c β p β' : Nat), R1.f i = some (c, β) → tabs.length ≤ i → R.f p = some (c, β') → ∃ j id β0, olds[tabs.length + j]? = some (some id) ∧ R.f id = some (c, β0) := fun i c β p β' h1 hi h2 => by
  have hcs := (hs.dom p c β' h2).2
  have toJ:∀ i0 β0,Rs.f i0=some (c,β0)→tabs.length≤i0→∃ j id β0,olds[tabs.length+j]?=some (some id)∧R.f id=some (c,β0):=fun i0 β0 h9 hi0=>by
   obtain⟨id,h8,h7⟩:=hRsi i0 _ h9
   exact⟨i0 - tabs.length,id,β0,by rw[show tabs.length+(i0 - tabs.length)=i0 by omega];exact h8,h7⟩
  rcases hp.new i _ h1 with h9 | ⟨h9,_⟩
  ·exact toJ i β h9 hi
  ·rcases hp.fresh i c β h1 h9 with h8 | ⟨i0,β0,h8,h7⟩
   ·omega
   ·refine toJ i0 β0 h8 ?_
    apply Nat.le_of_not_lt
    intro hlt
    rw[subimm i0 hlt] at h7;cases h7
 have keepB:∀ (p c β:Nat),R.f p=some (c,β)→(∀ i:Nat,inv[p]?≠some (some i))→H2.get p ≠ .dead→w'.heap[c]?=w.heap[c]?:=fun p c β h1 hB hd=>by
  refine hp.frame c (hs.dom p c β h1).2 fun i β' h9 => ?_
  by_cases hi:i < tabs.length
  ·exact subimm i hi
  ·obtain⟨id,h8,h7⟩:=hRsi i _ h9
   exact absurd (deadB (i - tabs.length) id p c β' β (by rw [show tabs.length + (i - tabs.length) = i by omega]; exact h8) h7 h1 hB) hd
 have keepT:∀ i,i < tabs.length→w'.heap[i]?=w.heap[i]?:=fun i hi=>by
  obtain⟨t,sp,anc,_,g2⟩:=htb i hi
  have h1:=hgl i (by simpa using hi)
  refine hp.frame i (hs.dom i i 0 h1).2 fun i' β' h9 => ?_
  by_cases hi':i' < tabs.length
  ·exact subimm i' hi'
  ·obtain⟨id,h8,h7⟩:=hRsi i' _ h9
   have hj:olds[tabs.length+(i' - tabs.length)]?=some (some id):=by rw[show tabs.length+(i' - tabs.length)=i' by omega];exact h8
   rcases sepJ _ id i i β' 0 hj h7 h1 (fun e => by subst e; have := uniq _ _ _ h8 (hid i hi); omega) with h6 | h6
   ·rw[g2] at h6;cases h6
   ·have:=(ancw i h6).1
    rw[g2] at this;cases this
 have wfH2:H2.wf:=by
  rw[←hH2]
  exact dK (hs.wf.kill ancs) fun i id h9=>by rw[Aa.next_kill];rw[List.getElem?_drop] at h9;exact hltJ i id h9
 have isTab:∀ (p i:Nat),inv[p]?=some (some i)→i < tabs.length→p=i:=fun p i h9 hi=>Auniq p i i h9 (A2 i i (hid i hi))
 have tabW:∀ i,i < tabs.length→(H2.get i).writable=false∧(H2.get i).immB=true:=fun i hi=>by
  obtain⟨t,sp,anc,_,g2⟩:=htb i hi
  rw[gTab i hi,g2];exact⟨rfl,rfl⟩
 have hsim2:Ck H2 R2 w':=by
  refine ⟨fun p c β h9 => ?_, fun p c β h9 => ?_, fun p c β p' β' h9 h9' hne' hw => ?_, fun p a h9 => ?_, wfH2, fun c C h9 => ?_⟩
  ·rw[hnext]
   rcases cls p with⟨i,hi⟩ | hB
   ·rw[R2A p i hi] at h9
    refine⟨?_,(hp.sim.dom i c β h9).2⟩
    by_cases hlt:p < H.next
    ·omega
    ·exact(A3 p i hi hlt).2
   ·rw[R2B p hB] at h9
    have:=hs.dom p c β h9
    exact⟨by omega,Nat.lt_of_lt_of_le this.2 hp.grow⟩
  ·rcases cls p with⟨i,hi⟩ | hB
   ·by_cases hlt:i < tabs.length
    ·have:=isTab p i hi hlt
     subst this
     have h8:=hgl p (by simpa using hlt)
     rw[ledom p p 0 h8] at h9
     injection h9 with h9;injection h9 with e1 e2;subst e1;subst e2
     rw[gTab p hlt,keepT p hlt]
     exact(hs.obj p p 0 h8).mono hle2 (hle2 p p 0 h8).2
    ·obtain⟨d,o',k1,k2,k3⟩:=gA p i hi (by omega)
     rw[R2A p i hi] at h9
     rw[k2]
     exact LD hRn2 k1 (fun h=>by cases h) ((hp.sim.obj i c β h9).mono hle1 (sz21 i c β h9))
   ·have h8:=h9
    rw[R2B p hB] at h8
    rcases gB p hB with h7 | h7
    ·rw[h7];trivial
    ·by_cases hd:H2.get p = .dead
     ·rw[hd];trivial
     ·rw[h7,keepB p c β h8 hB hd]
      exact(hs.obj p c β h8).mono hle2 (hle2 p c β h8).2
  ·rcases cls p with⟨i,hi⟩ | hB
   ·by_cases hlt:i < tabs.length
    ·have:=isTab p i hi hlt
     subst this
     rw[(tabW p hlt).1] at hw;cases hw
    ·obtain⟨d,o',k1,k2,k3⟩:=gA p i hi (by omega)
     rw[R2A p i hi] at h9
     rcases cls p' with⟨i',hi'⟩ | hB'
     ·rw[R2A p' i' hi'] at h9'
      have hii:i≠i':=fun e=>by subst e;exact hne' (Auniq p p' i hi hi')
      have hw1:(H1.get i).writable=true:=by rw[←(CE k1).1,←k2];exact hw
      rcases hp.sim.sep i c β i' β' h9 h9' hii hw1 with h7 | ⟨h7, _⟩
      ·by_cases hlt':i' < tabs.length
       ·obtain⟨t,sp,anc,g1,_⟩:=htb i' hlt'
        have h6:=hp.imm i' (by rw[CW];omega) (subimm i' hlt')
        rw[h7,Ew g1] at h6;cases h6
       ·obtain⟨d',o2,q1,q2,q3⟩:=gA p' i' hi' (by omega)
        left
        rw[h7] at q1
        injection q1 with q1
        rw[q2,←q1]
      ·rw[Ol k3] at h7;cases h7
     ·rw[R2B p' hB'] at h9'
      obtain ⟨j, id, β0, q1, q2⟩ := shareJ i c β p' β' h9 (by omega) h9'
      exact .inl (deadB j id p' c β0 β' q1 q2 h9' hB')
   ·have hwp : H2.get p = H.get p := by
     rcases gB p hB with h7 | h7
     ·rw[h7] at hw;cases hw
     ·exact h7
    rw[R2B p hB] at h9
    rcases cls p' with⟨i',hi'⟩ | hB'
    ·rw[R2A p' i' hi'] at h9'
     by_cases hlt':i' < tabs.length
     ·have:=isTab p' i' hi' hlt'
      subst this
      have h8:=hgl p' (by simpa using hlt')
      have h7:=ledom p' p' 0 h8
      rw[R2A p' p' hi'] at h7
      rw[h7] at h9'
      injection h9' with h9';injection h9' with e1 e2;subst e1;subst e2
      obtain⟨t,sp,anc,_,g2⟩:=htb p' hlt'
      rcases hs.sep p p' β p' 0 h9 h8 hne' (by rw[←hwp];exact hw) with h6 | ⟨h6,_⟩
      ·rw[g2] at h6;cases h6
      ·have:=(hs.anc p p' h6).2.1
       rw[g2] at this;cases this
     ·obtain ⟨j, id, β0, q1, q2⟩ := shareJ i' c β' p β h9' (by omega) h9
      have:=deadB j id p c β0 β q1 q2 h9 hB
      rw[this] at hw;cases hw
    ·rw[R2B p' hB'] at h9'
     rcases hs.sep p c β p' β' h9 h9' hne' (by rw [← hwp]; exact hw) with h6 | ⟨h6, h5⟩
     ·left
      rcases gB p' hB' with h7 | h7
      ·exact h7
      ·rw[h7];exact h6
     ·rcases gB p' hB' with h7 | h7
      ·exact .inl h7
      ·right
       rw[hwp,h7];exact⟨h6,h5⟩
  ·have hcase : ∀ q, H2.get q = H.get q ∨ H2.get q = .dead → a ∈ (H2.get q).ancOf → a < H2.next ∧ (H2.get a).immB = false ∧ (H2.get a).writable = false := fun q hq h8 => by
    rcases hq with hq | hq
    ·rw[hq] at h8
     obtain⟨b1,b2,b3⟩:=hs.anc q a h8
     refine⟨by omega,?_⟩
     rcases cls a with⟨i,hi⟩ | hB
     ·by_cases hlt:i < tabs.length
      ·have:=isTab a i hi hlt
       subst this
       obtain⟨t,sp,anc,_,g2⟩:=htb a hlt
       rw[g2] at b2;cases b2
      ·have h7:=A1 a i hi b1
       have:=(hwrJ (i - tabs.length) a (by rw[show tabs.length+(i - tabs.length)=i by omega];exact h7)).1
       rw[b3] at this;cases this
     ·rcases gB a hB with h7 | h7
      ·rw[h7];exact⟨rfl,rfl⟩
      ·rw[h7];exact⟨b2,b3⟩
    ·rw[hq] at h8;cases h8
   rcases cls p with⟨i,hi⟩ | hB
   ·by_cases hlt:i < tabs.length
    ·have:=isTab p i hi hlt
     subst this
     exact hcase p (.inl (gTab p hlt)) h9
    ·obtain⟨d,o',k1,k2,k3⟩:=gA p i hi (by omega)
     rw[k2,(CE k1).2.2.1] at h9;cases h9
   ·exact hcase p ((gB p hB).symm) h9
  ·rw[R2ro] at h9
   refine⟨(hp.sim.ro c C h9).1,fun p β h8=>?_⟩
   rcases cls p with⟨i,hi⟩ | hB
   ·by_cases hlt:i < tabs.length
    ·have:=isTab p i hi hlt
     subst this
     exact(tabW p hlt).1
    ·obtain⟨d,o',k1,k2,k3⟩:=gA p i hi (by omega)
     rw[R2A p i hi] at h8
     rw[k2,(CE k1).1]
     exact(hp.sim.ro c C h9).2 i β h8
   ·rw[R2B p hB] at h8
    have done':(H.get p).writable=false→(H2.get p).writable=false:=fun h7=>by
     rcases gB p hB with h6 | h6
     ·rw[h6];rfl
     ·rw[h6];exact h7
    rcases hp.rofresh c C h9 with h7 | h7 | ⟨i0,β0,h7,h6⟩
    ·rw[hRro] at h7
     exact done' ((hs.ro c C h7).2 p β h8)
    ·have:=(hs.dom p c β h8).2;omega
    ·obtain⟨id,q1,q2⟩:=hRsi i0 _ h7
     by_cases hlt:i0 < tabs.length
     ·rw[subimm i0 hlt] at h6;cases h6
     ·rw[deadB (i0 - tabs.length) id p c β0 β (by rw[show tabs.length+(i0 - tabs.length)=i0 by omega];exact q1) q2 h8 hB];rfl
 refine⟨u,R2,he,RD hRn2 (hu.mono hle1) hv',⟨hle2,fun p q h9=>?_,hsim2,by rw[hnext];omega,hp.grow,fun c hc hall=>?_,fun p hlt hr Q c β ob h9=>?_,fun p hlt him=>?_,fun p c β h9 h8=>?_,hp.side,fun c C h9=>?_⟩⟩
 ·rcases cls p with⟨i,hi⟩ | hB
  ·rw[R2A p i hi] at h9
   by_cases hlt:p < H.next
   ·have h8:=A1 p i hi hlt
    rcases hp.new i q h9 with h7 | ⟨h7,h6⟩
    ·left;rw[←hRsf i p h8];exact h7
    ·rw[CW] at h6
     have:=(List.getElem?_eq_some_iff.1 h8).1
     omega
   ·right
    refine⟨?_,by omega⟩
    cases h7:R.f p with
    | none=>rfl
    | some x=>have:=(hs.dom p x.1 x.2 h7).1;omega
  ·rw[R2B p hB] at h9;exact .inl h9
 ·refine hp.frame c hc fun i β h9=>?_
  by_cases hi:i < tabs.length
  ·exact subimm i hi
  ·obtain⟨id,h8,h7⟩:=hRsi i _ h9
   have h6:=hall id β h7
   rw[(hwrJ (i - tabs.length) id (by rw[show tabs.length+(i - tabs.length)=i by omega];exact h8)).2] at h6;cases h6
 ·rcases cls p with⟨i,hi⟩ | hB
  ·have h8:=A1 p i hi hlt
   by_cases hlt2:i < tabs.length
   ·have:=isTab p i hi hlt2
    subst this
    rw[gTab p hlt2];exact h9
   ·obtain⟨d,o',k1,k2,k3⟩:=gA p i hi (by omega)
    have he:=hinv i p h8 hr
    obtain⟨j,rfl⟩:∃ j,i=tabs.length+j:=⟨i - tabs.length,by omega⟩
    obtain⟨d2,o2,q1,q2⟩:=hosJ j p h8
    have c1:Calm (H.get p) o2:=KC (tr:=false) he (Calm.refl _) q2
    have c2:Calm o2 (H1.get (tabs.length+j)):=fun Q c β ob h7=>by
     have:=hp.calm (tabs.length+j) (by rw[CW];have:=(List.getElem?_eq_some_iff.1 h8).1;omega) (by rw[hRsf _ _ h8];exact hr) Q c β ob
     rw[Fz,q1] at this
     exact this h7
    rw[k2]
    exact KC (tr:=false) he (c1.trans c2) k1 Q c β ob h9
  ·rcases gB p hB with h7 | h7
   ·rw[h7];trivial
   ·rw[h7];exact h9
 ·rcases cls p with⟨i,hi⟩ | hB
  ·by_cases hlt2:i < tabs.length
   ·have:=isTab p i hi hlt2
    subst this
    exact gTab p hlt2
   ·have h8:=A1 p i hi hlt
    rw[(hwrJ (i - tabs.length) p (by rw[show tabs.length+(i - tabs.length)=i by omega];exact h8)).2] at him;cases him
  ·rw[gOld p (fun j h8=>hB _ (A2 p _ h8)) hlt,if_neg]
   intro h7
   rw[(ancw p h7).1] at him;cases him
 ·rcases cls p with⟨i,hi⟩ | hB
  ·rw[R2A p i hi] at h9
   have h7:Rs.f i=none:=by
    by_cases hlt:p < H.next
    ·rw[hRsf i p (A1 p i hi hlt)];exact h8
    ·obtain⟨b1,_⟩:=A3 p i hi hlt
     cases h6:Rs.f i with
     | none=>rfl
     | some x =>
      obtain⟨id,q1,_⟩:=hRsi i _ h6
      have:=(List.getElem?_eq_some_iff.1 q1).1
      omega
   rcases hp.fresh i c β h9 h7 with h6 | ⟨i0,β0,h6,h5⟩
   ·exact .inl h6
   ·obtain⟨id,q1,q2⟩:=hRsi i0 _ h6
    by_cases hlt:i0 < tabs.length
    ·rw[subimm i0 hlt] at h5;cases h5
    ·exact .inr ⟨id,β0,q2,(hwrJ (i0 - tabs.length) id (by rw[show tabs.length+(i0 - tabs.length)=i0 by omega];exact q1)).2⟩
  ·rw[R2B p hB,h8] at h9;cases h9
 ·rw[R2ro] at h9
  rcases hp.rofresh c C h9 with h7 | h7 | ⟨i0,β0,h7,h6⟩
  ·exact .inl (by rw[←hRro];exact h7)
  ·exact .inr (.inl h7)
  ·obtain⟨id,q1,q2⟩:=hRsi i0 _ h7
   by_cases hlt:i0 < tabs.length
   ·rw[subimm i0 hlt] at h6;cases h6
   ·exact .inr (.inr ⟨id,β0,q2,(hwrJ (i0 - tabs.length) id (by rw[show tabs.length+(i0 - tabs.length)=i0 by omega];exact q1)).2⟩)
end
end Go.Sp
