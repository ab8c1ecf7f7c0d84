/- Calls that change objects: the calls' soundness. -/
import Derived.Test.YtflonlkiajhhjaaGreatDoorSpObjx
import Derived.Test.YtflonlkiajhhjaaGreatDoorSpSymx
import Derived.Sort.Grow
import Derived.Lib.SlicesCompact

namespace Go.Sp

theorem Qz {v:Value} (h:BR v=true):Ah v=true:=by
 cases v <;> simp[BR,vv] at h
 case bool=>rfl
 case int=>rfl
 case string=>rfl
 case pointer a=>cases a with
  | none=>rfl
  | some a=>simp at h
 case slice a l c=>cases a with
  | some a=>simp at h
  | none=>simp at h;obtain⟨h1,h2⟩:=h;subst h1;subst h2;rfl
 case map m=>cases m with
  | none=>rfl
  | some m=>simp at h
 case nilFunc=>rfl
 case nilIface=>rfl
theorem FN {R:Ren} (u:Value):VR R EP u:=.any u

section
variable {H:Aa} {R:Ren} {w:World} {args args':List Value}
theorem SK {v u:Value} (hv:VR R v u) (c:Nat):∃ u',VR R (capOf v c) u':=by
 unfold capOf
 cases hg:GH v with
 | none=>exact⟨undef,FN _⟩
 | some g =>
  have:=EZ hg;subst this
  obtain⟨f,a,b⟩:=g
  rw[Ac]
  show ∃ u',VR R (oo (AL (Br a b) c) EP fun v=>v) u'
  cases hv with
  | func fn hl hh hl' hh' =>
   rw[BH,BZ]
   cases hx:(a++b)[c]? with
   | none=>exact⟨undef,FN _⟩
   | some x =>
    rw[Ac]
    obtain⟨y,_,hv⟩:=(Cf.append (R:=R) ⟨hl,hh⟩ ⟨hl',hh'⟩).get hx
    exact⟨y,hv⟩
theorem PI (hs:Ck H R w) {o:List (Option Nat)} (hinv:∀ (k id:Nat),o[k]?=some (some id)→R.f id=none→Em (H.get id)) (j i:Nat):∃ u,VR R (cellOf H o j i) u:=by
 unfold cellOf
 rw[BZ]
 cases hj:o[j]? with
 | none=>exact⟨undef,FN _⟩
 | some q =>
  rw[Ac]
  cases q with
  | none=>exact⟨undef,FN _⟩
  | some id =>
   rw[Ac]
   cases ho:Bv (H.get id) with
   | none=>exact⟨undef,FN _⟩
   | some ob =>
    rw[Ac,BZ]
    cases hx:ob.xs[i]? with
    | none=>exact⟨undef,FN _⟩
    | some x =>
     rw[Ac]
     cases hf:R.f id with
     | none =>
      have h1:=hinv j id hj hf
      rw[Et ho] at h1
      have h1:ob.xs=[]:=h1
      rw[h1] at hx;simp at hx
     | some p =>
      obtain⟨C,t,fz,_,_,_,h4⟩:=hs.cells (c:=p.1) (β:=p.2) hf ho
      obtain⟨y,_,hv⟩:=h4 i x hx
      exact⟨y,hv⟩
theorem Xa (hs:Ck H R w) {o:List (Option Nat)} (hinv:∀ (k id:Nat),o[k]?=some (some id)→R.f id=none→Em (H.get id)) (j:Nat):∃ u,VR R (aZ H o j) u:=by
 unfold aZ
 cases h1:AL o j with
 | none=>exact⟨undef,FN _⟩
 | some q =>
  cases q with
  | none=>exact⟨undef,FN _⟩
  | some id =>
   rw[Ac,Ac]
   cases h2:Xj (H.get id) with
   | none=>exact⟨undef,FN _⟩
   | some it =>
    rw[Ac]
    cases h3:it.m with
    | none=>exact⟨undef,FN _⟩
    | some m =>
     rw[Ac]
     have hg:=NF h2
     cases hf:R.f id with
     | none =>
      have:=hinv j id (by rw[←BZ];exact h1) hf
      rw[hg] at this;exact this.elim
     | some p =>
      have hob:=hs.obj id p.1 p.2 hf
      rw[hg] at hob
      obtain⟨_,m',S,_,_,hm⟩:=hob
      rw[h3] at hm
      obtain⟨c,hc,_⟩:=hm
      exact⟨_,.map hc⟩
theorem xY (hs:Ck H R w) (ha:Cf R args args') {o:List (Option Nat)} (hinv:∀ (k id:Nat),o[k]?=some (some id)→R.f id=none→Em (H.get id)) (n:Nat) (r:Rt):∃ u,VR R (r.val (Fr.made n args) H o) u:=by
 have htmp:∀ t,∃ u,VR R ((Fr.made n args).get t) u:=fun t=>by
  rw[Fr.get_made]
  cases hx:args[t]? with
  | none=>exact⟨undef,FN _⟩
  | some x =>
   obtain⟨y,_,hv⟩:=ha.get hx
   exact⟨y,hv⟩
 cases r with
 | tmp t d=>exact htmp t
 | cell j i d=>exact PI hs hinv j i
 | cap t c d=>obtain⟨u,hu⟩:=htmp t;exact SK hu c
 | ccap j i c d=>obtain⟨u,hu⟩:=PI hs hinv j i;exact SK hu c
 | itm j d=>exact Xa hs hinv j
theorem SQ (hs:Ck H R w) (ha:Cf R args args') (n:Nat):∀ (rs:List Rt) (o:List (Option Nat)),(∀ (k id:Nat),o[k]?=some (some id)→R.f id=none→Em (H.get id))→Na (Fr.made n args) H rs o=true →
 ∀ (k id:Nat),(E8 (Fr.made n args) H rs o)[k]?=some (some id)→R.f id=none→Em (H.get id)
 | [],o,h,_=>h
 | r :: rs, o, h, hr => by
  obtain⟨h1,h2⟩:=Av (show an (VN H (r.val (Fr.made n args) H o)) (Na (Fr.made n args) H rs (NT o (r.val (Fr.made n args) H o)))=true from hr)
  obtain⟨u,hu⟩:=xY hs ha h n r
  refine SQ hs ha n rs _ (fun k id hk hid=>?_) h2
  generalize r.val (Fr.made n args) H o=v at hk h1 hu
  unfold NT at hk
  rw[BH] at hk
  by_cases hlt:k < o.length
  ·rw[List.getElem?_append_left hlt] at hk;exact h k id hk hid
  ·rw[List.getElem?_append_right (by omega)] at hk
   have hk1:(oo (XD v) none fun id=>oo (idxOf id o 0) (some id) fun _=>none)=some id:=by
    cases hd:k - o.length with
    | zero=>rw[hd] at hk;simpa using hk
    | succ m=>rw[hd] at hk;simp at hk
   obtain⟨id',hr1,hk2⟩:=Ab hk1
   have hid':id'=id:=by
    cases hi:idxOf id' o 0 with
    | none=>rw[hi] at hk2;injection hk2
    | some m=>rw[hi] at hk2;cases hk2
   subst hid'
   unfold XD at hr1
   cases hp:FO v with
   | some p =>
    rw[hp,Ac] at hr1
    injection hr1 with hr1
    rw[Dg hp] at hu
    obtain⟨c,β,hf,_⟩:=hu.ptr_l
    rw[hr1,hid] at hf;cases hf
   | none =>
    rw[hp,Az] at hr1
    cases hsl:IA v with
    | some s =>
     rw[hsl,Ac] at hr1
     injection hr1 with hr1
     unfold VN at h1
     rw[hsl,Ac,Ed,Bool.or_eq_true] at h1
     rw[hr1] at h1
     rcases h1 with h1 | h1
     ·have h1:=Nat.le_of_ble_eq_true h1
      rcases hu.sl_l hsl with⟨c,β,cap,hf,_⟩ | ⟨c,o2,_,k0,k00⟩ | ⟨_,k0,k00⟩
      ·rw[hr1,hid] at hf;cases hf
      ·omega
      ·omega
     ·exact Zo h1
    | none =>
     rw[hsl,Az] at hr1
     obtain⟨m,hm,hr2⟩:=Ab hr1
     subst hr2
     rw[EW hm] at hu
     obtain⟨c,hf,_⟩:=hu.map_l
     rw[hid] at hf;cases hf
end

theorem QA {olds:List (Option Nat)} {d tr:Bool} {o o':AJ} (hb:wH o=true) (h:EE olds d tr o=some o'):plainO o':=by
 have hw:=(dG hb).1
 cases o with
 | dead=>cases hw
 | iter=>cases hb
 | map es c =>
  obtain⟨_,h1⟩:=Ae (show bb (Dp tr (Au F4 es)) (some (AJ.map es c)) none=some o' from h)
  injection h1 with h1;subst h1;exact .inr (.inr ⟨_,_,rfl⟩)
 | cells xs imm sp anc =>
  have hw:(!imm && !sp)=true:=hw
  have hi:imm=false:=by cases imm <;> simp at hw ⊢
  have hsp:sp=false:=by cases sp <;> simp at hw ⊢
  subst hi;subst hsp
  obtain⟨_,h2⟩:=Ae (show bb _ (bb d (oo (CG (Ry olds) xs) none fun xs'=>some (AJ.cells xs' false false [])) (bb (Dp tr (Au Ah xs)) (some (AJ.cells xs false false [])) none)) none=some o' from h)
  rw[BL] at h2
  split at h2
  ·obtain⟨ys,_,h3⟩:=Ab h2
   injection h3 with h3;subst h3;exact .inr (.inl ⟨_,rfl⟩)
  ·obtain⟨_,h3⟩:=Ae h2
   injection h3 with h3;subst h3;exact .inr (.inl ⟨_,rfl⟩)

section
variable {P:Program} {tabs:List (List Value)}

theorem FD {tt:TT} (hT:Jm P tt) (hm:P.follows .mixedOrders=true) {g na k:Nat} {r:Xq} {call:A8} (hc:CO P (List.range tabs.length) call) (hfn:Ar P (List.range tabs.length) g r) {f:List Value→Option Value}
 (h:∀ args os z,args.length=na→os.length=k→(∀ o∈os,plainO o)→f (args++os.map Ef)=some z→args.length≤r.n∧BN tt call (tabs.length+k) r.body (Fr.made r.n args) (BK tabs os) (FJ tt tabs.length k r.results z)):Cn P tabs na k g f:=by
 refine⟨A9 hfn,fun args os z hna hk hpl hz=>?_⟩
 obtain⟨hle,hrun⟩:=h args os z hna hk hpl hz
 intro R w args' hR hemp hs ha
 obtain⟨fd,c,e1,e2,e3,e4,_,hcomp,hok⟩:=hfn.ok
 refine calls_of_wp e1 e2 ?_
 have hlen:=ha.1
 have hsize:((⟨args'⟩:Array Value)++Array.replicate (fd.ntmps - (⟨args'⟩:Array Value).size) undef).size=r.n:=by simp;omega
 have hgl:JH (List.range tabs.length) R:=fun g hg=>hR g (by simpa using hg)
 have hfull:∀ id,id < (BK tabs os).next→R.f id=none→Em ((BK tabs os).get id):=fun id hid hr=>by
  rw[CW] at hid
  by_cases hlt:id < tabs.length
  ·rw[hR id hlt] at hr;cases hr
  ·obtain⟨j,rfl⟩:∃ j,id=tabs.length+j:=⟨id - tabs.length,by omega⟩
   have hj:j < os.length:=by omega
   rw[Fz,List.getElem?_eq_getElem hj]
   exact hemp j _ (List.getElem?_eq_getElem hj) hr
 have hrun:BN tt call (BK tabs os).next r.body (Fr.made r.n args) (BK tabs os) (FJ tt tabs.length k r.results z):=by
  rw[CW,hk];exact hrun
 have hst:St (List.range tabs.length) (BK tabs os) R w [] r.n (Fr.made r.n args) (BK tabs os) ⟨(⟨args'⟩:Array Value)++Array.replicate (fd.ntmps - (⟨args'⟩:Array Value).size) undef,[]⟩ w:=by
  refine⟨⟨R,.refl hs,fun t=>?_⟩,rfl,hsize,Fr.n_made ..⟩
  rw[Fr.get_made,Array.getD_eq_getD_getElem?]
  show VR R _ (((⟨args'⟩:Array Value)++Array.replicate (fd.ntmps - (⟨args'⟩:Array Value).size) undef)[t]?.getD undef)
  rw[Array.getElem?_append]
  by_cases hlt:t < args'.length
  ·rw[if_pos (by simpa using hlt)]
   obtain ⟨x, hx⟩ : ∃ x, args[t]? = some x := ⟨args[t]'(by omega), by simp⟩
   obtain⟨y,hy,hv⟩:=ha.get hx
   rw[hx,show (⟨args'⟩:Array Value)[t]?=some y by simpa using hy]
   exact hv
  ·rw[List.getElem?_eq_none (by omega)]
   exact .any _
 refine wp_mono (hrun.sound hT hc hm hs hgl hfull hcomp hok _ w hst) fun x a' w' ⟨e,F',H',h1,h2,h3⟩=>?_
 subst h1
 have fin : ∀ F' H', St (List.range tabs.length) (BK tabs os) R w [] r.n F' H' a' w' → AaU tt tabs.length k r.results z F' H' → bodyPost P fd (fun e w' => ∃ (u v : Value) (os' : List AJ) (H' : Aa) (R' : Ren), e = .returned u ∧ z = .tuple ⟨v :: os'.map Ef⟩ ∧ VR R' v u ∧ Ba (BK tabs os) R w H' R' w' ∧ k ≤ os'.length ∧
  ∀ i o,os'[i]?=some o→H'.get (tabs.length+i)=o∧plainO o) .normal a' w':=fun F' H' ⟨⟨R',hp,ht⟩,hd,_,_⟩ ⟨v,os',g1,hres,g2,g3⟩=>by
  rw[←e4] at hres
  obtain⟨u,hu,huv⟩:=IW hT hp.sim ht hres
  exact⟨hd,u,hu,u,v,os',H',R',rfl,g1,huv,hp,g2,g3⟩
 cases e with
 | normal =>
  obtain⟨F1,H1,hg,hq⟩:=h2
  have hg:E9 (BK tabs os).next F' H' F1 H1:=by rw[CW,hk];exact hg
  have hst1:∀ {F F1:Fr} {H H1:Aa},E9 (BK tabs os).next F H F1 H1→St (List.range tabs.length) (BK tabs os) R w [] r.n F H a' w'→St (List.range tabs.length) (BK tabs os) R w [] r.n F1 H1 a' w':=fun hg=>by
   induction hg with
   | id=>exact fun h=>h
   | step h _ ih=>exact fun hst=>ih (hst.ghost hs hfull h)
  exact fin F1 H1 (hst1 hg h3) hq
 | exit j=>exact h2.elim
 | goto j=>exact h2.elim
 | ret=>exact fin F' H' h3 h2

theorem dU {H:Aa} {R Rs:Ren} {w:World} {olds:List (Option Nat)} {os:List AJ} (hs:Ck H R w) (hgl:JH (List.range tabs.length) R) (hne:∀ t∈tabs,t=t) (hpl:∀ t∈tabs,∀ x∈t,BR x=true)
 (htab:KL H tabs 0=true) (hRs:Rs=⟨fun i=>oo (AL olds i) none fun o=>oo o none fun id=>R.f id,R.sz,R.ro⟩) (hRn:TD R Rs olds) (hidx:∀ (i b:Nat),olds[i]?=some (some b)→idxOf b olds 0=some i)
 (hid:∀ i,i < tabs.length→olds[i]?=some (some i)) (hlen:olds.length=tabs.length+os.length) (hpo:∀ o∈os,plainO o)
 (hos:∀ (j id:Nat),olds[tabs.length+j]?=some (some id)→∃ d o,os[j]?=some o∧EE olds d false (H.get id)=some o):Ck (BK tabs os) Rs w:=by
 have hRf:∀ i p,Rs.f i=some p→∃ id,olds[i]?=some (some id)∧R.f id=some p:=fun i p h=>by
  rw[hRs] at h
  obtain⟨o,ho,h4⟩:=Ab (show oo (AL olds i) none (fun o=>oo o none fun id=>R.f id)=some p from h)
  obtain⟨id,hi,h5⟩:=Ab h4
  subst hi
  exact⟨id,by simpa using ho,h5⟩
 have htb:∀ i,i < tabs.length→∃ t sp anc,tabs[i]?=some t∧H.get i = .cells t true sp anc∧t∈tabs:=fun i hi=>by
  have ht:=List.getElem?_eq_getElem hi
  have:=KN htab i _ ht
  rw[Nat.zero_add] at this
  obtain⟨sp,anc,h⟩:=XW this.1 this.2 (hne _ (List.getElem_mem hi))
  exact⟨_,sp,anc,ht,h,List.getElem_mem hi⟩
 have hlt:∀ (i:Nat) (id:Nat),olds[i]?=some (some id)→i < tabs.length+os.length:=fun i id h=>by rw[←hlen];exact(List.getElem?_eq_some_iff.1 h).1
 -- what stands there
 have hget:∀ i id,olds[i]?=some (some id)→tabs.length≤i→∃ d,EE olds d false (H.get id)=some ((BK tabs os).get i):=fun i id h hi=>by
  obtain⟨j,rfl⟩:∃ j,i=tabs.length+j:=⟨i - tabs.length,by omega⟩
  obtain⟨d,o,h1,h2⟩:=hos j id h
  exact⟨d,by rw[Fz,h1];exact h2⟩
 refine ⟨fun i c β h => ?_, fun i c β h => ?_, fun i c β i' β' h h' hne' hw => ?_, fun i a ha => ?_, fun i hi => ?_, fun c C hc => ?_⟩
 ·obtain⟨id,h1,h2⟩:=hRf i _ h
  rw[CW]
  exact⟨hlt i id h1,(hs.dom id c β h2).2⟩
 ·obtain⟨id,h1,h2⟩:=hRf i _ h
  by_cases hi:i < tabs.length
  ·have h3:=hid i hi
   rw[h1] at h3;injection h3 with h3;injection h3 with h3;subst h3
   obtain⟨t,sp,anc,g1,g2,g3⟩:=htb id hi
   rw[Ew g1]
   have ho:=hs.obj id c β h2
   rw[g2] at ho
   obtain⟨C,ty,fz,k1,k2,k3,k4,k5⟩:=ho
   refine⟨C,ty,fz,k1,by rw[hRs];exact k2,k3,fun q x hx=>?_,fun h=>by cases h⟩
   obtain⟨y,n1,n2⟩:=k4 q x hx
   exact⟨y,n1,n2.closed (fun c C h=>by rw[hRs];exact h) (Qz (hpl t g3 x (List.mem_of_getElem? hx)))⟩
  ·obtain⟨d,h6⟩:=hget i id h1 (by omega)
   exact LD hRn h6 (fun h9=>by cases h9) (hs.obj id c β h2)
 ·obtain⟨id,h1,h2⟩:=hRf i _ h
  obtain⟨id',h1',h2'⟩:=hRf i' _ h'
  by_cases hi:i < tabs.length
  ·obtain⟨t,sp,anc,g1,g2,g3⟩:=htb i hi
   rw[Ew g1] at hw;cases hw
  ·obtain⟨d,h6⟩:=hget i id h1 (by omega)
   obtain⟨g1,g2,g3,g4,g5⟩:=CE h6
   rw[g1] at hw
   have hidne:id≠id':=fun e=>by subst e;have:=(hidx i id h1).symm.trans (hidx i' id h1');injection this with this;exact hne' this
   rcases hs.sep id c β id' β' h2 h2' hidne hw with h7 | ⟨h7, _⟩
   ·by_cases hi':i' < tabs.length
    ·have h3:=hid i' hi'
     rw[h1'] at h3;injection h3 with h3;injection h3 with h3;subst h3
     obtain⟨t,sp,anc,g1,g2,g3⟩:=htb id' hi'
     rw[g2] at h7;cases h7
    ·obtain⟨d',h6'⟩:=hget i' id' h1' (by omega)
     left
     rw[h7] at h6'
     injection h6' with h6'
     exact h6'.symm
   ·have:=g4 hw id' h7
    rw[hidx i' id' h1'] at this;cases this
 ·by_cases hi:i < tabs.length
  ·obtain⟨t,sp,anc,g1,g2,g3⟩:=htb i hi
   rw[Ew g1] at ha;cases ha
  ·obtain⟨j,rfl⟩:∃ j,i=tabs.length+j:=⟨i - tabs.length,by omega⟩
   rw[Fz] at ha
   cases hj:os[j]? with
   | none=>rw[hj] at ha;cases ha
   | some o=>rw[hj] at ha;rw[Option.getD_some,Ol (hpo o (List.mem_of_getElem? hj))] at ha;cases ha
 ·rw[CW] at hi
  obtain⟨j,rfl⟩:∃ j,i=tabs.length+j:=⟨i - tabs.length,by omega⟩
  rw[Fz,List.getElem?_eq_none (by omega)];rfl
 ·rw[hRs] at hc
  refine⟨(hs.ro c C hc).1,fun i β h=>?_⟩
  obtain⟨id,h1,h2⟩:=hRf i _ h
  by_cases hi:i < tabs.length
  ·obtain⟨t,sp,anc,g1,g2,g3⟩:=htb i hi
   rw[Ew g1];rfl
  ·obtain⟨d,h6⟩:=hget i id h1 (by omega)
   rw[(CE h6).1]
   exact(hs.ro c C hc).2 id β h2
end
end Go.Sp
namespace Go.Sp

section
variable {P:Program} {tabs:List (List Value)}

theorem dV (hne:∀ t∈tabs,t=t) (hpl:∀ t∈tabs,∀ x∈t,BR x=true) {g na:Nat} {rs:List Rt} {outs:List Bool} {f:List Value→Option Value} (hok:Cn P tabs na rs.length g f) {args:List Value} {H H':Aa} {v:Value}
 (h:VO tabs na rs outs f args H=some (v,H')) :
 (∀ (as:Array Value) (w:World),(callFunc g as).run P w = .ok (.enter g as) w) ∧
 ∀ R w args',Ck H R w→JH (List.range tabs.length) R→Cf R args args'→Calls P g ⟨args'⟩ w fun e w'=>∃ u R',e = .returned u∧VR R' v u∧Ba H R w H' R' w':=by
 refine⟨hok.1,fun R w args' hs hgl ha=>?_⟩
 unfold VO at h
 dsimp only at h
 generalize hF:Fr.made (len args) args=F at h
 generalize hol:E8 F H rs (DY (len tabs))=olds at h
 have hm0:=Kz (F:=F) (H:=H) (rs:=rs) (o:=DY (len tabs))
 rw[hol] at hm0
 obtain⟨hc,h⟩:=Ae h
 obtain⟨htab,hc⟩:=Av hc
 obtain⟨hchk,hc⟩:=Av hc
 obtain⟨hlen,hc⟩:=Av hc
 obtain⟨hna,hwr⟩:=Av hc
 have hlen:=Nat.eq_of_beq_eq_true hlen
 have hna:=Nat.eq_of_beq_eq_true hna
 obtain⟨hroots,h⟩:=Ae h
 obtain⟨os,hos,h⟩:=Ab h
 obtain⟨as,has,h⟩:=Ab h
 obtain⟨z,hz,h⟩:=Ab h
 obtain⟨l,hl,h⟩:=Ab h
 simp only[AV,BH,Cc,Bz] at hlen hna hwr hz hos hroots hm0
 cases l with
 | nil=>cases h
 | cons v0 es=>
 have h:oo (CG TP es) none (fun os'=>
  bb (an (Nat.beq (len outs) (len os')) (Nat.ble (len rs) (len os')))
   (oo (CG (KM (Oj olds H.next (len os' - len rs))) (Gf outs os')) none fun ns => oo (Rz (Oj olds H.next (len os' - len rs)) v0) none fun v' =>
     some (v',Ht (Am (len tabs) olds) ns (H.kill (I6 H (Am (len tabs) olds))))) none)=some (v,H'):=h
 obtain⟨os1,hdec,h⟩:=Ab h
 obtain⟨hc,h⟩:=Ae h
 obtain⟨ho1,ho2⟩:=Av hc
 have ho1:=Nat.eq_of_beq_eq_true ho1
 have ho2:=Nat.le_of_ble_eq_true ho2
 obtain⟨ns,hns,h⟩:=Ab h
 obtain⟨v',hv',h⟩:=Ab h
 injection h with h;injection h with e1 e2;subst e1;subst e2
 simp only[AV,Bz] at ho1 ho2 hns hv' ⊢
 -- the numbers
 obtain⟨m0,hm0⟩:=hm0
 have hidx:∀ (i b:Nat),olds[i]?=some (some b)→idxOf b olds 0=some i:=fun i b hb=>by have:=Mq hchk i b hb;simpa using this
 have hid:∀ i,i < tabs.length→olds[i]?=some (some i):=fun i hi=>by
  rw[hm0,List.getElem?_append_left (by rw[JK];exact hi),J6,if_pos hi]
 have uniq:∀ (i i' b:Nat),olds[i]?=some (some b)→olds[i']?=some (some b)→i=i':=fun i i' b h1 h2=>by
  have:=(hidx i b h1).symm.trans (hidx i' b h2);injection this
 have hinv:∀ (k id:Nat),olds[k]?=some (some id)→R.f id=none→Em (H.get id):=by
  have:=SQ hs ha (len args) rs (DY tabs.length) (fun k id hk hr=>by
   rw[J6] at hk
   split at hk
   ·rename_i hlt
    injection hk with hk;injection hk with hk;subst hk
    rw[hgl k (by simpa using hlt)] at hr;cases hr
   ·cases hk) (by rw[hF];exact hroots)
  rw[hF] at this
  have e:E8 F H rs (DY tabs.length)=olds:=by rw[←hol,AV]
  rwa [e] at this
 -- the objects
 have hz1:(Gf (AP Rt.deep rs) (olds.drop tabs.length)).length=rs.length:=by
  rw[IX _ _ (by simp;omega)];simp
 obtain⟨ol,oget⟩:=Di hos
 rw[Cc] at hz1
 rw[hz1] at ol
 have hwrJ:∀ j id,olds[tabs.length+j]?=some (some id)→(H.get id).writable=true∧(H.get id).immB=false:=fun j id hj=>dH hwr (i:=j) (by rw[List.getElem?_drop];exact hj)
 have hltJ:∀ j id,olds[tabs.length+j]?=some (some id)→id < H.next:=fun j id hj=>hs.wf.lt (fun h9=>by have:=(hwrJ j id hj).1;rw[h9] at this;cases this)
 have hob:∀ (j:Nat) q,olds[tabs.length+j]?=some q→∃ d o,os[j]?=some o∧newObj H [] olds (d,q)=some o:=fun j q hj=>by
  have hj2:(olds.drop tabs.length)[j]?=some q:=by rw[List.getElem?_drop];exact hj
  have hlt:j < (Gf (rs.map Rt.deep) (olds.drop tabs.length)).length:=by
   rw[hz1]
   have:=(List.getElem?_eq_some_iff.1 hj).1
   omega
  have hget:=List.getElem?_eq_getElem hlt
  obtain⟨_,g2⟩:=KA _ _ _ _ hget
  obtain⟨b,hb,hf⟩:=oget j _ hget
  rw[hj2] at g2
  generalize (Gf (rs.map Rt.deep) (olds.drop tabs.length))[j]=p at hf g2
  obtain⟨d,o⟩:=p
  injection g2 with g2;simp only at g2;subst g2
  exact⟨d,b,hb,hf⟩
 have hosJ:∀ (j id:Nat),olds[tabs.length+j]?=some (some id)→∃ d o,os[j]?=some o∧EE olds d false (H.get id)=some o:=fun j id hj=>hob j _ hj
 have hpo:∀ o∈os,plainO o:=fun o ho=>by
  obtain⟨j,hj⟩:=List.mem_iff_getElem?.1 ho
  have hlt:=(List.getElem?_eq_some_iff.1 hj).1
  obtain⟨q,hq⟩:∃ q,olds[tabs.length+j]?=some q:=⟨_,List.getElem?_eq_getElem (by omega)⟩
  obtain⟨d,o',h1,h2⟩:=hob j q hq
  rw[hj] at h1;injection h1 with h1;subst h1
  cases q with
  | none=>injection h2 with h2;exact .inl h2.symm
  | some id=>exact QA (lC hwr (i:=j) (by rw[List.getElem?_drop];exact hq)) (tr:=false) h2
 -- what the callee sees
 generalize hRs:(⟨fun i=>oo (AL olds i) none fun o=>oo o none fun id=>R.f id,R.sz,R.ro⟩:Ren)=Rs
 have hRsf:∀ i id,olds[i]?=some (some id)→Rs.f i=R.f id:=fun i id hi=>by
  rw[←hRs]
  show oo (AL olds i) none (fun o=>oo o none fun id=>R.f id)=_
  rw[BZ,hi];rfl
 have hRsi:∀ i p,Rs.f i=some p→∃ id,olds[i]?=some (some id)∧R.f id=some p:=fun i p h=>by
  rw[←hRs] at h
  obtain⟨o,ho,h4⟩:=Ab (show oo (AL olds i) none (fun o=>oo o none fun id=>R.f id)=some p from h)
  obtain⟨id,hi,h5⟩:=Ab h4
  subst hi
  exact⟨id,by simpa using ho,h5⟩
 have hRsz:Rs.sz=R.sz:=by rw[←hRs]
 have hRro:Rs.ro=R.ro:=by rw[←hRs]
 have hRn:TD R Rs olds:=⟨fun b b' hb=>by
  obtain⟨_,h4⟩:=Il hb
  rw[Nat.sub_zero] at h4
  exact hRsf b' b h4,hRro,hRsz⟩
 have hsub:=dU hs hgl hne hpl htab hRs.symm hRn hidx hid (by omega) hpo hosJ
 have has':Cf Rs as args':=Im (fun v u v'=>RD hRn) has ha
 have htabR:∀ i,i < tabs.length→Rs.f i=some (i,0):=fun i hi=>by rw[hRsf i i (hid i hi)];exact hgl i (by simpa using hi)
 have hemp:∀ (j:Nat) (o:AJ),os[j]?=some o→Rs.f (tabs.length+j)=none→Em o:=fun j o hj hr=>by
  have hlt:=(List.getElem?_eq_some_iff.1 hj).1
  obtain⟨q,hq⟩:∃ q,olds[tabs.length+j]?=some q:=⟨_,List.getElem?_eq_getElem (by omega)⟩
  obtain⟨d,o',h1,h2⟩:=hob j q hq
  rw[hj] at h1;injection h1 with h1;subst h1
  cases q with
  | none=>injection h2 with h2;subst h2;trivial
  | some id =>
   rw[hRsf _ _ hq] at hr
   have he:=hinv _ id hq hr
   exact(KC (tr:=false) he (Calm.refl _) h2).empty he
 have haslen:as.length=na:=by rw[has'.1,←ha.1];exact hna
 refine(hok.2 as os z haslen ol hpo hz Rs w args' htabR hemp hsub has').mono fun e w' ⟨u,v1,os2,H1,R1,he,hz',hu,hp,hk,hobs⟩=>?_
 -- the results
 have hpo2:∀ o∈os2,plainO o:=fun o ho=>by
  obtain⟨j,hj⟩:=List.mem_iff_getElem?.1 ho
  exact(hobs j o hj).2
 subst hz'
 have hl:v1=v0∧os2.map Ef=es:=by
  have hl:some (v1::os2.map Ef)=some (v0::es):=hl
  injection hl with hl;injection hl with a b;exact⟨a,b⟩
 obtain⟨rfl,rfl⟩:=hl
 rw[Zn hpo2] at hdec
 injection hdec with hdec;subst hdec
 generalize hE:os2.length - rs.length=E at hns hv' ⊢
 have hz2:(Gf outs os2).length=os2.length:=by rw[IX _ _ ho1];exact ho1
 obtain⟨nl,nget⟩:=Di hns
 rw[hz2] at nl
 have hnsJ:∀ (j:Nat) o,os2[j]?=some o→∃ d o',ns[j]?=some o'∧EE (Oj olds H.next E) d false o=some o':=fun j o hj=>by
  have hlt:j < (Gf outs os2).length:=by rw[hz2];exact(List.getElem?_eq_some_iff.1 hj).1
  have hget:=List.getElem?_eq_getElem hlt
  obtain⟨_,g2⟩:=KA _ _ _ _ hget
  obtain⟨b,hb,hf⟩:=nget j _ hget
  rw[hj] at g2
  generalize (Gf outs os2)[j]=p at hf g2
  obtain⟨d,o1⟩:=p
  injection g2 with g2;simp only at g2;subst g2
  exact⟨d,b,hb,hf⟩
 generalize hinvL:Oj olds H.next E=inv at hns hv' hnsJ
 have iget:=dI olds H.next E
 rw[hinvL] at iget
 have hlt':∀ (i b:Nat),olds[i]?=some (some b)→b < H.next:=fun i b hi=>by
  by_cases h9:i < tabs.length
  ·rw[hid i h9] at hi;injection hi with hi;injection hi with hi;subst hi
   exact(hs.dom i i 0 (hgl i (by simpa using h9))).1
  ·obtain⟨j,rfl⟩:∃ j,i=tabs.length+j:=⟨i - tabs.length,by omega⟩
   exact hltJ j b hi
 -- a number here and there
 have A1:∀ (p i:Nat),inv[p]?=some (some i)→p < H.next→olds[i]?=some (some p):=fun p i h9 hlt=>by
  rw[iget,if_pos hlt] at h9
  injection h9 with h9
  obtain⟨_,h8⟩:=Il h9
  rwa [Nat.sub_zero] at h8
 have A2:∀ (p i:Nat),olds[i]?=some (some p)→inv[p]?=some (some i):=fun p i h9=>by rw[iget,if_pos (hlt' i p h9),hidx i p h9]
 have A3:∀ (p i:Nat),inv[p]?=some (some i)→¬ p < H.next→i=olds.length+(p - H.next)∧p < H.next+E:=fun p i h9 hge=>by
  rw[iget,if_neg hge] at h9
  split at h9
  ·injection h9 with h9;injection h9 with h9;exact⟨h9.symm,by assumption⟩
  ·cases h9
 have hlenO:olds.length=tabs.length+rs.length:=hlen
 have Auniq:∀ (p p' i:Nat),inv[p]?=some (some i)→inv[p']?=some (some i)→p=p':=fun p p' i h9 h8=>by
  by_cases a1:p < H.next
  ·have b1:=A1 p i h9 a1
   by_cases a2:p' < H.next
   ·have b2:=A1 p' i h8 a2
    rw[b1] at b2;injection b2 with b2;injection b2
   ·obtain⟨b2,_⟩:=A3 p' i h8 a2
    have:=(List.getElem?_eq_some_iff.1 b1).1
    omega
  ·obtain⟨b1,_⟩:=A3 p i h9 a1
   by_cases a2:p' < H.next
   ·have b2:=A1 p' i h8 a2
    have:=(List.getElem?_eq_some_iff.1 b2).1
    omega
   ·obtain⟨b2,_⟩:=A3 p' i h8 a2
    omega
 have htb:∀ i,i < tabs.length→∃ t sp anc,tabs[i]?=some t∧H.get i = .cells t true sp anc:=fun i hi=>by
  have ht:=List.getElem?_eq_getElem hi
  have:=KN htab i _ ht
  rw[Nat.zero_add] at this
  obtain⟨sp,anc,h⟩:=XW this.1 this.2 (hne _ (List.getElem_mem hi))
  exact⟨_,sp,anc,ht,h⟩
 have subimm:∀ i,i < tabs.length→((BK tabs os).get i).immB=true:=fun i hi=>by
  obtain⟨t,sp,anc,g1,_⟩:=htb i hi
  rw[Ew g1];rfl
 -- who is forgotten
 generalize hanc:I6 H (olds.drop tabs.length)=ancs
 have ancm:∀ a,a∈ancs↔∃ j id,olds[tabs.length+j]?=some (some id)∧a∈(H.get id).ancOf:=fun a=>by
  rw[←hanc,VP]
  constructor
  ·rintro⟨j,id,h1,h2⟩;rw[List.getElem?_drop] at h1;exact⟨j,id,h1,h2⟩
  ·rintro⟨j,id,h1,h2⟩;exact⟨j,id,by rw[List.getElem?_drop];exact h1,h2⟩
 have ancw:∀ a,a∈ancs→(H.get a).immB=false∧(H.get a).writable=false:=fun a h9=>by
  obtain⟨j,id,h1,h2⟩:=(ancm a).1 h9
  exact(hs.anc id a h2).2
 -- the heap behind the call
 generalize hH2:Ht (olds.drop tabs.length) ns (H.kill ancs)=H2
 have hjl:(olds.drop tabs.length).length≤ns.length:=by rw[List.length_drop,nl];omega
 have hnext:H2.next=H.next+E:=by
  rw[←hH2,VS _ _ _ hjl,Aa.next_kill,List.length_drop,nl];omega
 have gOld:∀ p,(∀ j:Nat,olds[tabs.length+j]?≠some (some p))→p < H.next→H2.get p=if p∈ancs then .dead else H.get p:=fun p h9 hlt=>by
  rw[←hH2,GY _ _ _ _ hjl (fun i=>by rw[List.getElem?_drop];exact h9 i),Aa.next_kill,if_neg (by omega),Aa.get_kill]
 have gJ:∀ (p j:Nat),olds[tabs.length+j]?=some (some p)→H2.get p=(ns[j]?).getD .dead:=fun p j hj=>by
  rw[←hH2]
  exact dL _ _ _ p j hjl (by rw[List.getElem?_drop];exact hj) (fun i' h9=>by rw[List.getElem?_drop] at h9;have:=uniq _ _ _ h9 hj;omega) (by rw[Aa.next_kill];exact hltJ j p hj)
 have gN:∀ q,q < E→H2.get (H.next+q)=(ns[rs.length+q]?).getD .dead:=fun q hq=>by
  rw[←hH2,GY _ _ _ _ hjl (fun i h9=>by rw[List.getElem?_drop] at h9;have:=hltJ i _ h9;omega),Aa.next_kill,if_pos ⟨by omega,by rw[List.length_drop,nl];omega⟩,List.length_drop]
  congr 2
  omega
 have gTab:∀ i,i < tabs.length→H2.get i=H.get i:=fun i hi=>by
  obtain⟨t,sp,anc,_,g2⟩:=htb i hi
  rw[gOld i (fun j h9=>by have:=uniq _ _ _ h9 (hid i hi);omega) ((hs.dom i i 0 (hgl i (by simpa using hi))).1),if_neg]
  intro h9
  have:=(ancw i h9).1
  rw[g2] at this;cases this
 have gA:∀ (p i:Nat),inv[p]?=some (some i)→tabs.length≤i→∃ d o',EE inv d false (H1.get i)=some o'∧H2.get p=o'∧plainO (H1.get i):=fun p i h9 hi=>by
  obtain⟨j,rfl⟩:∃ j,i=tabs.length+j:=⟨i - tabs.length,by omega⟩
  have hj:j < os2.length:=by
   by_cases hlt:p < H.next
   ·have:=(List.getElem?_eq_some_iff.1 (A1 p _ h9 hlt)).1;omega
   ·have:=A3 p _ h9 hlt;omega
  obtain⟨o,ho⟩:∃ o,os2[j]?=some o:=⟨_,List.getElem?_eq_getElem hj⟩
  obtain⟨d,o',n1,n2⟩:=hnsJ j o ho
  obtain⟨b1,b2⟩:=hobs j o ho
  refine⟨d,o',by rw[b1];exact n2,?_,by rw[b1];exact b2⟩
  by_cases hlt:p < H.next
  ·rw[gJ p j (A1 p _ h9 hlt),n1];rfl
  ·obtain⟨c1,c2⟩:=A3 p _ h9 hlt
   rw[show p=H.next+(p - H.next) by omega,gN _ (by omega),show rs.length+(p - H.next)=j by omega,n1];rfl
 have gB:∀ p:Nat,(∀ i:Nat,inv[p]?≠some (some i))→H2.get p = .dead∨H2.get p=H.get p:=fun p h9=>by
  by_cases hlt:p < H.next
  ·rw[gOld p (fun j h8=>h9 _ (A2 p _ h8)) hlt]
   split
   ·exact .inl rfl
   ·exact .inr rfl
  ·by_cases h7:p < H.next+E
   ·exact absurd (by rw[iget,if_neg hlt,if_pos h7]) (h9 (olds.length+(p - H.next)))
   ·right
    rw[←hH2,GY _ _ _ _ hjl (fun i h9=>by rw[List.getElem?_drop] at h9;have:=hltJ i _ h9;omega),Aa.next_kill,if_neg (by rw[List.length_drop,nl];omega),Aa.get_kill]
    split
    ·exact(hs.wf p (by omega)).symm
    ·rfl
 have gBk:∀ p:Nat,(∀ i:Nat,inv[p]?≠some (some i))→p∈ancs→H2.get p = .dead:=fun p h9 ha=>by
  have hlt:p < H.next:=by
   obtain⟨j,id,h1,h2⟩:=(ancm p).1 ha
   exact(hs.anc id p h2).1
  rw[gOld p (fun j h8=>h9 _ (A2 p _ h8)) hlt,if_pos ha]
 -- sizes
 have hszle:∀ i c β,Rs.f i=some (c,β)→R1.f i=some (c,β)∧R1.sz c=R.sz c:=fun i c β h9=>by
  have:=hp.le i c β h9
  rw[hRsz] at this;exact this
 generalize hsz2:(fun c=>@ite _ (∃ id β,R.f id=some (c,β)) (Classical.propDecidable _) (R.sz c) (R1.sz c):Nat→Nat)=sz2
 have sz2R:∀ id c β,R.f id=some (c,β)→sz2 c=R.sz c:=fun id c β h9=>by rw[←hsz2];exact if_pos ⟨id,β,h9⟩
 have sz21:∀ i c β,R1.f i=some (c,β)→sz2 c=R1.sz c:=fun i c β h9=>by
  by_cases hex : ∃ id β', R.f id = some (c, β')
  ·obtain ⟨id, β', hR⟩ := hex
   rw [sz2R id c β' hR]
   rcases hp.new i _ h9 with h8 | ⟨h8,_⟩
   ·exact(hszle i c β h8).2.symm
   ·rcases hp.fresh i c β h9 h8 with h7 | ⟨i0,β0,h7,_⟩
    ·have := (hs.dom id c β' hR).2; omega
    ·exact(hszle i0 c β0 h7).2.symm
  ·rw[←hsz2];exact if_neg hex
 have hle1:R1.le ⟨R1.f,sz2,R1.ro⟩:=⟨fun i c β h9=>⟨h9,sz21 i c β h9⟩,fun _ _ h9=>h9⟩
 generalize hR2:(⟨fun p=>match inv[p]? with | some (some i)=>R1.f i | _=>R.f p,sz2,R1.ro⟩:Ren)=R2
 have R2A:∀ (p i:Nat),inv[p]?=some (some i)→R2.f p=R1.f i:=fun p i h9=>by rw[←hR2];simp[h9]
 have R2B:∀ p:Nat,(∀ i:Nat,inv[p]?≠some (some i))→R2.f p=R.f p:=fun p h9=>by
  rw[←hR2]
  show (match inv[p]? with | some (some i)=>R1.f i | _=>R.f p)=_
  split
  ·rename_i i h8;exact absurd h8 (h9 i)
  ·rfl
 have R2sz:R2.sz=sz2:=by rw[←hR2]
 have R2ro:R2.ro=R1.ro:=by rw[←hR2]
 have hRn2:TD ⟨R1.f,sz2,R1.ro⟩ R2 inv:=⟨fun b b' hb=>by
  obtain⟨_,h4⟩:=Il hb
  rw[Nat.sub_zero] at h4
  exact R2A b' b h4,R2ro,R2sz⟩
 have cls:∀ p:Nat,(∃ i:Nat,inv[p]?=some (some i))∨∀ i:Nat,inv[p]?≠some (some i):=fun p=>by
  by_cases h9:∃ i:Nat,inv[p]?=some (some i)
  ·exact .inl h9
  ·exact .inr fun i h8=>h9 ⟨i,h8⟩
 have ledom:∀ id c β,R.f id=some (c,β)→R2.f id=some (c,β):=fun id c β h9=>by
  rcases cls id with⟨i,hi⟩ | hB
  ·rw[R2A id i hi]
   have:=A1 id i hi (hs.dom id c β h9).1
   exact(hszle i c β (by rw[hRsf i id this];exact h9)).1
  ·rw[R2B id hB];exact h9
 have hle2:R.le R2:=⟨fun id c β h9=>⟨ledom id c β h9,by rw[R2sz];exact sz2R id c β h9⟩,fun c C h9=>by rw[R2ro];exact hp.le.ro c C (by rw[hRro];exact h9)⟩
 -- a block that the callee knows and another number of the caller
 have sepJ : ∀ (j id p c β β' : Nat), olds[tabs.length + j]? = some (some id) → R.f id = some (c, β) → R.f p = some (c, β') → p ≠ id → H.get p = .dead ∨ p ∈ ancs := fun j id p c β β' hj h1 h2 hne => by
  rcases hs.sep id c β p β' h1 h2 (fun e => hne e.symm) (hwrJ j id hj).1 with h9 | ⟨h9, _⟩
  ·exact .inl h9
  ·exact .inr ((ancm p).2 ⟨j,id,hj,h9⟩)
 have deadB : ∀ (j id p c β β' : Nat), olds[tabs.length + j]? = some (some id) → R.f id = some (c, β) → R.f p = some (c, β') → (∀ i : Nat, inv[p]? ≠ some (some i)) → H2.get p = .dead := fun j id p c β β' hj h1 h2 hB => by
  rcases sepJ j id p c β β' hj h1 h2 (fun e => by subst e; exact hB _ (A2 p _ hj)) with h9 | h9
  ·rcases gB p hB with h8 | h8
   ·exact h8
   ·rw[h8];exact h9
  ·exact gBk p hB h9
 -- where the callee's block is one of the caller's
 have shareJ : ∀ (i c β p β' : Nat), R1.f i = some (c, β) → tabs.length ≤ i → R.f p = some (c, β') → ∃ j id β0, olds[tabs.length + j]? = some (some id) ∧ R.f id = some (c, β0) := fun i c β p β' h1 hi h2 => by
  have hcs := (hs.dom p c β' h2).2
  have toJ:∀ i0 β0,Rs.f i0=some (c,β0)→tabs.length≤i0→∃ j id β0,olds[tabs.length+j]?=some (some id)∧R.f id=some (c,β0):=fun i0 β0 h9 hi0=>by
   obtain⟨id,h8,h7⟩:=hRsi i0 _ h9
   exact⟨i0 - tabs.length,id,β0,by rw[show tabs.length+(i0 - tabs.length)=i0 by omega];exact h8,h7⟩
  rcases hp.new i _ h1 with h9 | ⟨h9,_⟩
  ·exact toJ i β h9 hi
  ·rcases hp.fresh i c β h1 h9 with h8 | ⟨i0,β0,h8,h7⟩
   ·omega
   ·refine toJ i0 β0 h8 ?_
    apply Nat.le_of_not_lt
    intro hlt
    rw[subimm i0 hlt] at h7;cases h7
 have keepB:∀ (p c β:Nat),R.f p=some (c,β)→(∀ i:Nat,inv[p]?≠some (some i))→H2.get p ≠ .dead→w'.heap[c]?=w.heap[c]?:=fun p c β h1 hB hd=>by
  refine hp.frame c (hs.dom p c β h1).2 fun i β' h9 => ?_
  by_cases hi:i < tabs.length
  ·exact subimm i hi
  ·obtain⟨id,h8,h7⟩:=hRsi i _ h9
   exact absurd (deadB (i - tabs.length) id p c β' β (by rw [show tabs.length + (i - tabs.length) = i by omega]; exact h8) h7 h1 hB) hd
 have keepT:∀ i,i < tabs.length→w'.heap[i]?=w.heap[i]?:=fun i hi=>by
  obtain⟨t,sp,anc,_,g2⟩:=htb i hi
  have h1:=hgl i (by simpa using hi)
  refine hp.frame i (hs.dom i i 0 h1).2 fun i' β' h9 => ?_
  by_cases hi':i' < tabs.length
  ·exact subimm i' hi'
  ·obtain⟨id,h8,h7⟩:=hRsi i' _ h9
   have hj:olds[tabs.length+(i' - tabs.length)]?=some (some id):=by rw[show tabs.length+(i' - tabs.length)=i' by omega];exact h8
   rcases sepJ _ id i i β' 0 hj h7 h1 (fun e => by subst e; have := uniq _ _ _ h8 (hid i hi); omega) with h6 | h6
   ·rw[g2] at h6;cases h6
   ·have:=(ancw i h6).1
    rw[g2] at this;cases this
 have wfH2:H2.wf:=by
  rw[←hH2]
  exact dK (hs.wf.kill ancs) fun i id h9=>by rw[Aa.next_kill];rw[List.getElem?_drop] at h9;exact hltJ i id h9
 have isTab:∀ (p i:Nat),inv[p]?=some (some i)→i < tabs.length→p=i:=fun p i h9 hi=>Auniq p i i h9 (A2 i i (hid i hi))
 have tabW:∀ i,i < tabs.length→(H2.get i).writable=false∧(H2.get i).immB=true:=fun i hi=>by
  obtain⟨t,sp,anc,_,g2⟩:=htb i hi
  rw[gTab i hi,g2];exact⟨rfl,rfl⟩
 have hsim2:Ck H2 R2 w':=by
  refine ⟨fun p c β h9 => ?_, fun p c β h9 => ?_, fun p c β p' β' h9 h9' hne' hw => ?_, fun p a h9 => ?_, wfH2, fun c C h9 => ?_⟩
  ·rw[hnext]
   rcases cls p with⟨i,hi⟩ | hB
   ·rw[R2A p i hi] at h9
    refine⟨?_,(hp.sim.dom i c β h9).2⟩
    by_cases hlt:p < H.next
    ·omega
    ·exact(A3 p i hi hlt).2
   ·rw[R2B p hB] at h9
    have:=hs.dom p c β h9
    exact⟨by omega,Nat.lt_of_lt_of_le this.2 hp.grow⟩
  ·rcases cls p with⟨i,hi⟩ | hB
   ·by_cases hlt:i < tabs.length
    ·have:=isTab p i hi hlt
     subst this
     have h8:=hgl p (by simpa using hlt)
     rw[ledom p p 0 h8] at h9
     injection h9 with h9;injection h9 with e1 e2;subst e1;subst e2
     rw[gTab p hlt,keepT p hlt]
     exact(hs.obj p p 0 h8).mono hle2 (hle2 p p 0 h8).2
    ·obtain⟨d,o',k1,k2,k3⟩:=gA p i hi (by omega)
     rw[R2A p i hi] at h9
     rw[k2]
     exact LD hRn2 k1 (fun h=>by cases h) ((hp.sim.obj i c β h9).mono hle1 (sz21 i c β h9))
   ·have h8:=h9
    rw[R2B p hB] at h8
    rcases gB p hB with h7 | h7
    ·rw[h7];trivial
    ·by_cases hd:H2.get p = .dead
     ·rw[hd];trivial
     ·rw[h7,keepB p c β h8 hB hd]
      exact(hs.obj p c β h8).mono hle2 (hle2 p c β h8).2
  ·rcases cls p with⟨i,hi⟩ | hB
   ·by_cases hlt:i < tabs.length
    ·have:=isTab p i hi hlt
     subst this
     rw[(tabW p hlt).1] at hw;cases hw
    ·obtain⟨d,o',k1,k2,k3⟩:=gA p i hi (by omega)
     rw[R2A p i hi] at h9
     rcases cls p' with⟨i',hi'⟩ | hB'
     ·rw[R2A p' i' hi'] at h9'
      have hii:i≠i':=fun e=>by subst e;exact hne' (Auniq p p' i hi hi')
      have hw1:(H1.get i).writable=true:=by rw[←(CE k1).1,←k2];exact hw
      rcases hp.sim.sep i c β i' β' h9 h9' hii hw1 with h7 | ⟨h7, _⟩
      ·by_cases hlt':i' < tabs.length
       ·obtain⟨t,sp,anc,g1,_⟩:=htb i' hlt'
        have h6:=hp.imm i' (by rw[CW];omega) (subimm i' hlt')
        rw[h7,Ew g1] at h6;cases h6
       ·obtain⟨d',o2,q1,q2,q3⟩:=gA p' i' hi' (by omega)
        left
        rw[h7] at q1
        injection q1 with q1
        rw[q2,←q1]
      ·rw[Ol k3] at h7;cases h7
     ·rw[R2B p' hB'] at h9'
      obtain ⟨j, id, β0, q1, q2⟩ := shareJ i c β p' β' h9 (by omega) h9'
      exact .inl (deadB j id p' c β0 β' q1 q2 h9' hB')
   ·have hwp : H2.get p = H.get p := by
     rcases gB p hB with h7 | h7
     ·rw[h7] at hw;cases hw
     ·exact h7
    rw[R2B p hB] at h9
    rcases cls p' with⟨i',hi'⟩ | hB'
    ·rw[R2A p' i' hi'] at h9'
     by_cases hlt':i' < tabs.length
     ·have:=isTab p' i' hi' hlt'
      subst this
      have h8:=hgl p' (by simpa using hlt')
      have h7:=ledom p' p' 0 h8
      rw[R2A p' p' hi'] at h7
      rw[h7] at h9'
      injection h9' with h9';injection h9' with e1 e2;subst e1;subst e2
      obtain⟨t,sp,anc,_,g2⟩:=htb p' hlt'
      rcases hs.sep p p' β p' 0 h9 h8 hne' (by rw[←hwp];exact hw) with h6 | ⟨h6,_⟩
      ·rw[g2] at h6;cases h6
      ·have:=(hs.anc p p' h6).2.1
       rw[g2] at this;cases this
     ·obtain ⟨j, id, β0, q1, q2⟩ := shareJ i' c β' p β h9' (by omega) h9
      have:=deadB j id p c β0 β q1 q2 h9 hB
      rw[this] at hw;cases hw
    ·rw[R2B p' hB'] at h9'
     rcases hs.sep p c β p' β' h9 h9' hne' (by rw [← hwp]; exact hw) with h6 | ⟨h6, h5⟩
     ·left
      rcases gB p' hB' with h7 | h7
      ·exact h7
      ·rw[h7];exact h6
     ·rcases gB p' hB' with h7 | h7
      ·exact .inl h7
      ·right
       rw[hwp,h7];exact⟨h6,h5⟩
  ·have hcase : ∀ q, H2.get q = H.get q ∨ H2.get q = .dead → a ∈ (H2.get q).ancOf → a < H2.next ∧ (H2.get a).immB = false ∧ (H2.get a).writable = false := fun q hq h8 => by
    rcases hq with hq | hq
    ·rw[hq] at h8
     obtain⟨b1,b2,b3⟩:=hs.anc q a h8
     refine⟨by omega,?_⟩
     rcases cls a with⟨i,hi⟩ | hB
     ·by_cases hlt:i < tabs.length
      ·have:=isTab a i hi hlt
       subst this
       obtain⟨t,sp,anc,_,g2⟩:=htb a hlt
       rw[g2] at b2;cases b2
      ·have h7:=A1 a i hi b1
       have:=(hwrJ (i - tabs.length) a (by rw[show tabs.length+(i - tabs.length)=i by omega];exact h7)).1
       rw[b3] at this;cases this
     ·rcases gB a hB with h7 | h7
      ·rw[h7];exact⟨rfl,rfl⟩
      ·rw[h7];exact⟨b2,b3⟩
    ·rw[hq] at h8;cases h8
   rcases cls p with⟨i,hi⟩ | hB
   ·by_cases hlt:i < tabs.length
    ·have:=isTab p i hi hlt
     subst this
     exact hcase p (.inl (gTab p hlt)) h9
    ·obtain⟨d,o',k1,k2,k3⟩:=gA p i hi (by omega)
     rw[k2,(CE k1).2.2.1] at h9;cases h9
   ·exact hcase p ((gB p hB).symm) h9
  ·rw[R2ro] at h9
   refine⟨(hp.sim.ro c C h9).1,fun p β h8=>?_⟩
   rcases cls p with⟨i,hi⟩ | hB
   ·by_cases hlt:i < tabs.length
    ·have:=isTab p i hi hlt
     subst this
     exact(tabW p hlt).1
    ·obtain⟨d,o',k1,k2,k3⟩:=gA p i hi (by omega)
     rw[R2A p i hi] at h8
     rw[k2,(CE k1).1]
     exact(hp.sim.ro c C h9).2 i β h8
   ·rw[R2B p hB] at h8
    have done':(H.get p).writable=false→(H2.get p).writable=false:=fun h7=>by
     rcases gB p hB with h6 | h6
     ·rw[h6];rfl
     ·rw[h6];exact h7
    rcases hp.rofresh c C h9 with h7 | h7 | ⟨i0,β0,h7,h6⟩
    ·rw[hRro] at h7
     exact done' ((hs.ro c C h7).2 p β h8)
    ·have:=(hs.dom p c β h8).2;omega
    ·obtain⟨id,q1,q2⟩:=hRsi i0 _ h7
     by_cases hlt:i0 < tabs.length
     ·rw[subimm i0 hlt] at h6;cases h6
     ·rw[deadB (i0 - tabs.length) id p c β0 β (by rw[show tabs.length+(i0 - tabs.length)=i0 by omega];exact q1) q2 h8 hB];rfl
 refine⟨u,R2,he,RD hRn2 (hu.mono hle1) hv',⟨hle2,fun p q h9=>?_,hsim2,by rw[hnext];omega,hp.grow,fun c hc hall=>?_,fun p hlt hr Q c β ob h9=>?_,fun p hlt him=>?_,fun p c β h9 h8=>?_,hp.side,fun c C h9=>?_⟩⟩
 ·rcases cls p with⟨i,hi⟩ | hB
  ·rw[R2A p i hi] at h9
   by_cases hlt:p < H.next
   ·have h8:=A1 p i hi hlt
    rcases hp.new i q h9 with h7 | ⟨h7,h6⟩
    ·left;rw[←hRsf i p h8];exact h7
    ·rw[CW] at h6
     have:=(List.getElem?_eq_some_iff.1 h8).1
     omega
   ·right
    refine⟨?_,by omega⟩
    cases h7:R.f p with
    | none=>rfl
    | some x=>have:=(hs.dom p x.1 x.2 h7).1;omega
  ·rw[R2B p hB] at h9;exact .inl h9
 ·refine hp.frame c hc fun i β h9=>?_
  by_cases hi:i < tabs.length
  ·exact subimm i hi
  ·obtain⟨id,h8,h7⟩:=hRsi i _ h9
   have h6:=hall id β h7
   rw[(hwrJ (i - tabs.length) id (by rw[show tabs.length+(i - tabs.length)=i by omega];exact h8)).2] at h6;cases h6
 ·rcases cls p with⟨i,hi⟩ | hB
  ·have h8:=A1 p i hi hlt
   by_cases hlt2:i < tabs.length
   ·have:=isTab p i hi hlt2
    subst this
    rw[gTab p hlt2];exact h9
   ·obtain⟨d,o',k1,k2,k3⟩:=gA p i hi (by omega)
    have he:=hinv i p h8 hr
    obtain⟨j,rfl⟩:∃ j,i=tabs.length+j:=⟨i - tabs.length,by omega⟩
    obtain⟨d2,o2,q1,q2⟩:=hosJ j p h8
    have c1:Calm (H.get p) o2:=KC (tr:=false) he (Calm.refl _) q2
    have c2:Calm o2 (H1.get (tabs.length+j)):=fun Q c β ob h7=>by
     have:=hp.calm (tabs.length+j) (by rw[CW];have:=(List.getElem?_eq_some_iff.1 h8).1;omega) (by rw[hRsf _ _ h8];exact hr) Q c β ob
     rw[Fz,q1] at this
     exact this h7
    rw[k2]
    exact KC (tr:=false) he (c1.trans c2) k1 Q c β ob h9
  ·rcases gB p hB with h7 | h7
   ·rw[h7];trivial
   ·rw[h7];exact h9
 ·rcases cls p with⟨i,hi⟩ | hB
  ·by_cases hlt2:i < tabs.length
   ·have:=isTab p i hi hlt2
    subst this
    exact gTab p hlt2
   ·have h8:=A1 p i hi hlt
    rw[(hwrJ (i - tabs.length) p (by rw[show tabs.length+(i - tabs.length)=i by omega];exact h8)).2] at him;cases him
  ·rw[gOld p (fun j h8=>hB _ (A2 p _ h8)) hlt,if_neg]
   intro h7
   rw[(ancw p h7).1] at him;cases him
 ·rcases cls p with⟨i,hi⟩ | hB
  ·rw[R2A p i hi] at h9
   have h7:Rs.f i=none:=by
    by_cases hlt:p < H.next
    ·rw[hRsf i p (A1 p i hi hlt)];exact h8
    ·obtain⟨b1,_⟩:=A3 p i hi hlt
     cases h6:Rs.f i with
     | none=>rfl
     | some x =>
      obtain⟨id,q1,_⟩:=hRsi i _ h6
      have:=(List.getElem?_eq_some_iff.1 q1).1
      omega
   rcases hp.fresh i c β h9 h7 with h6 | ⟨i0,β0,h6,h5⟩
   ·exact .inl h6
   ·obtain⟨id,q1,q2⟩:=hRsi i0 _ h6
    by_cases hlt:i0 < tabs.length
    ·rw[subimm i0 hlt] at h5;cases h5
    ·exact .inr ⟨id,β0,q2,(hwrJ (i0 - tabs.length) id (by rw[show tabs.length+(i0 - tabs.length)=i0 by omega];exact q1)).2⟩
  ·rw[R2B p hB,h8] at h9;cases h9
 ·rw[R2ro] at h9
  rcases hp.rofresh c C h9 with h7 | h7 | ⟨i0,β0,h7,h6⟩
  ·exact .inl (by rw[←hRro];exact h7)
  ·exact .inr (.inl h7)
  ·obtain⟨id,q1,q2⟩:=hRsi i0 _ h7
   by_cases hlt:i0 < tabs.length
   ·rw[subimm i0 hlt] at h6;cases h6
   ·exact .inr (.inr ⟨id,β0,q2,(hwrJ (i0 - tabs.length) id (by rw[show tabs.length+(i0 - tabs.length)=i0 by omega];exact q1)).2⟩)
end
end Go.Sp
namespace Go.Sp

theorem Gn {α β:Type} {f:α→Option β} {a:α} {l:List α} {b:β} {r:List β} (h:f a=some b) (hr:CG f l=some r):CG f (a::l)=some (b::r):=by
 show oo (f a) none (fun b=>oo (CG f l) none fun r=>some (b::r))=_
 rw[h,Ac,hr,Ac]
theorem Cs {α β:Type} {f:α→Option β}:CG f ([]:List α)=some []:=rfl
theorem QB {H : Aa} {olds : List (Option Nat)} {id : Nat} {q : List Value} {anc : List Nat} (hc : Au Ah q = true) (hg : H.get id = .cells q false false anc := by kernel_rfl) (ha : Au (fun a => nt (isS (idxOf a olds 0))) anc = true := by kernel_rfl) :
 newObj H [] olds (false,some id)=some (.cells q false false []):=by
 show EE olds false false (H.get id)=_
 rw[hg]
 show bb (an (Au (fun a=>nt (isS (idxOf a olds 0))) anc) (Dp (nt false) _)) (bb false _ (bb (Dp false (Au Ah q)) _ none)) none=_
 rw[ha,hc];rfl
theorem QC {inv:List (Option Nat)} {q:List Value} (hc:Au Ah q=true):KM inv (false,.cells q false false [])=some (.cells q false false []):=by
 show bb (an true (Dp (nt false) (an (nt false) true))) (bb false (oo (CG (Ry inv) q) none fun xs'=>some (AJ.cells xs' false false [])) (bb (Dp false (Au Ah q)) (some (AJ.cells q false false [])) none)) none=_
 rw[hc];rfl
theorem Xb {inv:List (Option Nat)} {es:List EO} {c:Nat} (hc:Au F4 es=true):KM inv (false,.map es c)=some (.map es c):=by
 show bb (Dp false (Au F4 es)) _ none=_
 rw[hc];rfl
theorem JP {v:Value} {m:Akd} (h:Fj v=some m):TP v=some (.map m.es m.clock):=by
 unfold Fj at h
 obtain⟨l,hl,h⟩:=Ab h
 rw[EU hl]
 cases l with
 | nil=>cases h
 | cons c r =>
  obtain⟨n,hn,h⟩:=Ab (show oo (MN c) none (fun n=>oo (CG Zl r) none fun es=>some (⟨es,n⟩:Akd))=some m from h)
  obtain⟨es,he,h⟩:=Ab h
  injection h with h;subst h
  show oo (MN c) none (fun n=>oo (CG Zl r) none fun es=>some (AJ.map es n))=_
  rw[hn,Ac,he,Ac]
theorem Wy {o:AJ} {m:Akd} (hp:plainO o) (h:Fj (Ef o)=some m):o = .map m.es m.clock:=by
 have:=JP h
 rw[dF hp] at this
 injection this
theorem HY {o:AJ} {l:List Value} (hp:plainO o) (h:Bt (Ef o)=some l):o = .cells l false false []:=by
 rcases hp with rfl | ⟨xs,rfl⟩ | ⟨es,c,rfl⟩
 ·cases h
 ·injection h with h;subst h;rfl
 ·cases h
theorem TV (es:List EO) (c:Nat):Fj (Ef (.map es c))=some ⟨es,c⟩:=by
 show oo (CG Zl (AP Zk es)) none (fun es=>some (⟨es,c⟩:Akd))=_
 rw[Cc,Zm];rfl
theorem G5 {tabs:List (List Value)} {na:Nat} {rs:List Rt} {outs:List Bool} {f:List Value→Option Value} {args:List Value} {H H2:Aa} {v v':Value} (olds:List (Option Nat)) (ps:List (Bool×Option Nat)) (os:List AJ) (as es:List Value) (os':List AJ) (inv:List (Option Nat)) (qs:List (Bool×AJ)) (ns:List AJ)
 (hr:Na (Fr.made (len args) args) H rs (DY (len tabs))=true) (hos:CG (newObj H [] olds) ps=some os) (hz:f (Br as (AP Ef os))=some (.tuple ⟨v::es⟩)) (hd:CG TP es=some os') (hn:CG (KM inv) qs=some ns)
 (hol:E8 (Fr.made (len args) args) H rs (DY (len tabs))=olds:=by kernel_rfl)
 (hc:an (KL H tabs 0) (an (NS olds olds 0) (an (Nat.beq (len olds) (len tabs+len rs)) (an (Nat.beq (len args) na) (Qn H (Am (len tabs) olds)))))=true:=by kernel_rfl)
 (hps:Gf (AP Rt.deep rs) (Am (len tabs) olds)=ps:=by kernel_rfl) (has:CG (Rz olds) args=some as:=by kernel_rfl)
 (hl:an (Nat.beq (len outs) (len os')) (Nat.ble (len rs) (len os'))=true:=by kernel_rfl) (hinv:Oj olds H.next (len os' - len rs)=inv:=by kernel_rfl) (hqs:Gf outs os'=qs:=by kernel_rfl)
 (hv:Rz inv v=some v':=by kernel_rfl) (hH:Ht (Am (len tabs) olds) ns (H.kill (I6 H (Am (len tabs) olds)))=H2:=by kernel_rfl):VO tabs na rs outs f args H=some (v',H2):=by
 unfold VO
 subst hps;subst hinv;subst hqs;subst hH
 dsimp only
 rw[hol,hc,Ak,hr,Ak,hos,Ac,has,Ac,hz,Ac]
 show oo (CG TP es) none (fun os'=>
  bb (an (Nat.beq (len outs) (len os')) (Nat.ble (len rs) (len os')))
   (oo (CG (KM (Oj olds H.next (len os' - len rs))) (Gf outs os')) none fun ns => oo (Rz (Oj olds H.next (len os' - len rs)) v) none fun v' =>
     some (v',Ht (Am (len tabs) olds) ns (H.kill (I6 H (Am (len tabs) olds))))) none)=_
 rw[hd,Ac,hl,Ak,hn,Ac,hv,Ac]

noncomputable def Xc (r:Option (Nat×Value)) (z:Value):Value:=oo r z fun p=>pp p fun _ v=>v
noncomputable def Oz (k v:Value) (c:Nat) (es:List EO) (r:Option (Nat×Value)):List EO:=oo r (Br es [⟨k,v,c⟩]) fun p=>pp p fun j _=>SS (fun e=>⟨k,v,e.born⟩) j es
noncomputable def TW (c:Nat) (r:Option (Nat×Value)):Nat:=oo r (c+1) fun _=>c
theorem xZ {H:Aa} {k z:Value} {es:List EO} {r:Option (Nat×Value)} (h:GD k es 0=some r) :
 keep H (oo (GD k es 0) none fun r=>oo r (okV false z false) fun p=>pp p fun _ v=>okV false v true)=some (Xc r z,H):=by
 rw[h];cases r with
 | none=>rfl
 | some p=>rfl
theorem dX {H:Aa} {k z v:Value} {es:List EO} {r:Option (Nat×Value)} (h:GD k es 0=some r) (hv:Xc r z=v) :
 keep H (oo (GD k es 0) none fun r=>oo r (okV false z false) fun p=>pp p fun _ v=>okV false v true)=some (v,H):=by rw[xZ h,hv]
theorem yA {H H2 : Aa} {id c : Nat} {k v : Value} {es : List EO} {r : Option (Nat × Value)} (h : GD k es 0 = some r) (hH : H.set id (.map (Oz k v c es r) (TW c r)) = H2 := by kernel_rfl) :
 done (oo (GD k es 0) none fun r=>oo r (some (H.set id (.map (Br es [⟨k,v,c⟩]) (c+1)))) fun p=>pp p fun j _=>some (H.set id (.map (SS (fun e=>⟨k,v,e.born⟩) j es) c))) undef=some (undef,H2):=by
 subst hH
 rw[h];cases r with
 | none=>rfl
 | some p=>rfl
theorem Xd {c2:Nat} {q:List Value} (h:Dp (Nat.ble 2 c2) (MQ q)=true) {b:Bool} (hb:b=true):an (Dp (Nat.ble 2 c2) (MQ q)) b=true:=by rw[h,hb];rfl
theorem Jc {tt:TT} {T k:Nat} {rs:List ResultVar} {z:Value} {F:Fr} {H:Aa} (v:Value) (os:List AJ) (h:DV tt F H rs=some v) (hz:some (Value.tuple ⟨v::os.map Ef⟩)=some z) (hk:k≤os.length) (ho:∀ i o,os[i]?=some o→H.get (T+i)=o∧plainO o):FJ tt T k rs z .ret F H:=by
 injection hz with hz;exact⟨v,os,hz.symm,h,hk,ho⟩
theorem OA {tt:TT} {T k:Nat} {rs:List ResultVar} {z:Value} {F:Fr} {H:Aa} (v:Value) (os:List AJ) (h:DV tt F H rs=some v) (hz:some (Value.tuple ⟨v::os.map Ef⟩)=some z) (hk:k≤os.length) (ho:∀ i o,os[i]?=some o→H.get (T+i)=o∧plainO o):FJ tt T k rs z .normal F H:=by
 injection hz with hz;exact⟨F,H,.id F H,v,os,hz.symm,h,hk,ho⟩
theorem Gq {H:Aa} {T:Nat}:∀ (i:Nat) (o:AJ),([]:List AJ)[i]?=some o→H.get (T+i)=o∧plainO o:=by intro i o h;simp at h
theorem FL {H:Aa} {T:Nat} {a:AJ} {l:List AJ} (hp:plainO a) (hr:∀ (i:Nat) (o:AJ),l[i]?=some o→H.get (T+1+i)=o∧plainO o) (ha:H.get T=a:=by kernel_rfl):∀ (i:Nat) (o:AJ),(a::l)[i]?=some o→H.get (T+i)=o∧plainO o:=by
 intro i o h
 cases i with
 | zero=>simp at h;subst h;exact⟨ha,hp⟩
 | succ i=>have:=hr i o (by simpa using h);rwa [show T+(i+1)=T+1+i by omega]
theorem Wz (xs:List Value):plainO (.cells xs false false []):=.inr (.inl ⟨_,rfl⟩)
theorem AgD (es:List EO) (c:Nat):plainO (.map es c):=.inr (.inr ⟨_,_,rfl⟩)
noncomputable section
def zY (z:Int):Value:=.int .u8 z
def dY (v:Value) (id off:Nat):Bool:=oo (FO v) false fun p=>pp p fun a b=>an (Nat.beq a id) (Nat.beq b off)
def WA (v:Value) (id:Nat):Bool:=oo (IC v) false fun m=>oo m false fun i=>Nat.beq i id
structure NC where
 n:Nat
 c:Nat
def LZ (id off sz:Nat) (v:Value):Option NC:=oo (IA v) none fun s=>ss s fun i o z n c=>bb (an (Nat.beq i id) (an (Nat.beq o off) (Nat.beq z sz))) (some ⟨n,c⟩) none
def Ua (v:Value):Bool:=oo (CQ v) false fun l=>MQ l
end
theorem dZ {v:Value} {id off:Nat} (h:dY v id off=true):v = .pointer (some ⟨id,off,none⟩):=by
 unfold dY at h
 cases hp:FO v with
 | none=>rw[hp] at h;cases h
 | some p =>
  rw[hp,Ac] at h
  obtain⟨h1,h2⟩:=Av (show an (Nat.beq p.1 id) (Nat.beq p.2 off)=true from h)
  rw[Dg hp,Nat.eq_of_beq_eq_true h1,Nat.eq_of_beq_eq_true h2]
theorem QE {v:Value} {id:Nat} (h:WA v id=true):v = .map (some id):=by
 unfold WA at h
 cases hm:IC v with
 | none=>rw[hm] at h;cases h
 | some m =>
  rw[hm,Ac] at h
  cases m with
  | none=>cases h
  | some i=>rw[EW hm,Nat.eq_of_beq_eq_true (show Nat.beq i id=true from h)]
theorem Iq {id off sz:Nat} {v:Value} {x:NC} (h:LZ id off sz v=some x):v = .slice (some ⟨id,off,some sz⟩) x.n x.c:=by
 unfold LZ at h
 obtain⟨s,hs,h⟩:=Ab h
 obtain⟨i,o,z,n,c⟩:=s
 obtain⟨hc,h⟩:=Ae (show bb (an (Nat.beq i id) (an (Nat.beq o off) (Nat.beq z sz))) (some (⟨n,c⟩:NC)) none=some x from h)
 injection h with h;subst h
 obtain⟨h1,hc⟩:=Av hc
 obtain⟨h2,h3⟩:=Av hc
 rw[Ko hs,Nat.eq_of_beq_eq_true h1,Nat.eq_of_beq_eq_true h2,Nat.eq_of_beq_eq_true h3]
theorem OB {v:Value} (h:Ua v=true):v = .tuple ⟨[]⟩:=by
 unfold Ua at h
 cases hl:CQ v with
 | none=>rw[hl] at h;cases h
 | some l =>
  rw[hl,Ac] at h
  cases l with
  | nil=>exact EU hl
  | cons a r=>cases h
theorem BO {α:Type} {l:List α} {n:Nat} (h:l.length=n+1):∃ a r,l=a::r∧r.length=n:=by
 cases l with
 | nil=>simp at h
 | cons a r=>exact⟨a,r,rfl,by simpa using h⟩
theorem len_nil {α:Type} {l:List α} (h:l.length=0):l=[]:=List.eq_nil_of_length_eq_zero h
theorem sU {H:Aa} {o:Option UInt8} {b:UInt8} (h:o=some b):keep H (oo o none fun b=>iv .u8 (.ofNat b.toNat))=some (.int .u8 (Int.ofNat (UInt8.toNat b)),H):=by rw[h];rfl
noncomputable section
def dR (m:Option Nat) (v:Value) (H:Aa):Option (Value×Aa):=oo m (some (v,H)) fun z=>ER z v H
def dS (ms:List (Option Nat)):List Value→Aa→Option (List Value×Aa):=
 List.rec (motive := fun _ => List Value → Aa → Option (List Value × Aa)) (fun l H => ll l (some ([], H)) fun _ _ => none)
  (fun m _ ih l H=>ll l none fun v r=>oo (dR m v H) none fun p=>pp p fun v' H1=>oo (ih r H1) none fun q=>pp q fun r' H2=>some (v'::r',H2)) ms
def eF (ms:List (Option Nat)) (v:Value) (H:Aa):Option (Value×Aa):=oo (Bt v) (ll ms none fun m _=>dR m v H) fun l=>oo (dS ms l H) none fun p=>pp p fun l' H1=>some (.agg ⟨l'⟩,H1)
def QF (ms:List (List (Option Nat))):List Value→Aa→Option (List Value×Aa):=
 List.rec (motive := fun _ => List Value → Aa → Option (List Value × Aa)) (fun l H => ll l (some ([], H)) fun _ _ => none)
  (fun m _ ih l H=>ll l none fun v r=>oo (eF m v H) none fun p=>pp p fun v' H1=>oo (ih r H1) none fun q=>pp q fun r' H2=>some (v'::r',H2)) ms
def Gu (tabs:List (List Value)) (ms:List (List (Option Nat))) (na:Nat) (rs:List Rt) (outs:List Bool) (f:List Value→Option Value) (args:List Value) (H:Aa):Option (Value×Aa):=
 oo (QF ms args H) none fun p=>pp p fun as H1=>VO tabs na rs outs f as H1
end
theorem Xe {m:Option Nat} {v v' u:Value} {H H':Aa} {R:Ren} {w:World} (h:dR m v H=some (v',H')) (hs:Ck H R w) (hx:VR R v u):∃ R',R.le R'∧Ba H R w H' R' w∧VR R' v' u:=by
 cases m with
 | none=>injection h with h;injection h with e1 e2;subst e1;subst e2;exact⟨R,R.le_refl,.refl hs,hx⟩
 | some z=>obtain⟨R',h1,_,h2,h3,_⟩:=TM (show ER z v H=some (v',H') from h) hs hx;exact⟨R',h1,h2,h3⟩
theorem Xf:∀ {ms:List (Option Nat)} {l l' us:List Value} {H H':Aa} {R:Ren} {w:World},dS ms l H=some (l',H')→Ck H R w→Cf R l us→∃ R',R.le R'∧Ba H R w H' R' w∧Cf R' l' us
 | [], l, l', us, H, H', R, w, h, hs, hl => by
  cases l with
  | nil=>injection h with h;injection h with e1 e2;subst e1;subst e2;exact⟨R,R.le_refl,.refl hs,hl⟩
  | cons=>cases h
 | m :: ms, l, l', us, H, H', R, w, h, hs, hl => by
  cases l with
  | nil=>cases h
  | cons v r =>
   obtain⟨⟨v',H1⟩,h1,h2⟩:=Ab (show oo (dR m v H) none (fun p=>pp p fun v' H1=>oo (dS ms r H1) none fun q=>pp q fun r' H2=>some (v'::r',H2))=some (l',H') from h)
   obtain⟨⟨r',H2⟩,h3,h4⟩:=Ab (show oo (dS ms r H1) none (fun q=>pp q fun r' H2=>some (v'::r',H2))=some (l',H') from h2)
   injection h4 with h4;injection h4 with e1 e2;subst e1;subst e2
   obtain⟨u,us',rfl,hu,hus⟩:=hl.uncons
   obtain⟨R1,k1,k2,k3⟩:=Xe h1 hs hu
   obtain⟨R2,j1,j2,j3⟩:=Xf h3 k2.sim (hus.mono k1)
   exact⟨R2,Ren.le_trans k1 j1,k2.trans j2 hs,.cons (k3.mono j1) j3⟩
theorem yB {ms:List (Option Nat)} {v v' u:Value} {H H':Aa} {R:Ren} {w:World} (h:eF ms v H=some (v',H')) (hs:Ck H R w) (hx:VR R v u):∃ R',R.le R'∧Ba H R w H' R' w∧VR R' v' u:=by
 unfold eF at h
 cases ha:Bt v with
 | none =>
  rw[ha,Az] at h
  cases ms with
  | nil=>cases h
  | cons m r=>exact Xe (show dR m v H=some (v',H') from h) hs hx
 | some l =>
  rw[ha,Ac] at h
  obtain⟨⟨l',H1⟩,h1,h2⟩:=Ab h
  injection (show some (Value.agg ⟨l'⟩,H1)=some (v',H') from h2) with h2;injection h2 with e1 e2;subst e1;subst e2
  rw[BQ ha] at hx
  obtain⟨us,rfl,hl⟩:=hx.agg_l
  obtain⟨R',k1,k2,k3⟩:=Xf h1 hs hl
  exact⟨R',k1,k2,.agg k3.1 k3.2⟩
theorem UO:∀ {ms:List (List (Option Nat))} {l l' us:List Value} {H H':Aa} {R:Ren} {w:World},QF ms l H=some (l',H')→Ck H R w→Cf R l us→∃ R',R.le R'∧Ba H R w H' R' w∧Cf R' l' us
 | [], l, l', us, H, H', R, w, h, hs, hl => by
  cases l with
  | nil=>injection h with h;injection h with e1 e2;subst e1;subst e2;exact⟨R,R.le_refl,.refl hs,hl⟩
  | cons=>cases h
 | m :: ms, l, l', us, H, H', R, w, h, hs, hl => by
  cases l with
  | nil=>cases h
  | cons v r =>
   obtain⟨⟨v',H1⟩,h1,h2⟩:=Ab (show oo (eF m v H) none (fun p=>pp p fun v' H1=>oo (QF ms r H1) none fun q=>pp q fun r' H2=>some (v'::r',H2))=some (l',H') from h)
   obtain⟨⟨r',H2⟩,h3,h4⟩:=Ab (show oo (QF ms r H1) none (fun q=>pp q fun r' H2=>some (v'::r',H2))=some (l',H') from h2)
   injection h4 with h4;injection h4 with e1 e2;subst e1;subst e2
   obtain⟨u,us',rfl,hu,hus⟩:=hl.uncons
   obtain⟨R1,k1,k2,k3⟩:=yB h1 hs hu
   obtain⟨R2,j1,j2,j3⟩:=UO h3 k2.sim (hus.mono k1)
   exact⟨R2,Ren.le_trans k1 j1,k2.trans j2 hs,.cons (k3.mono j1) j3⟩
theorem Jh {P:Program} {tabs:List (List Value)} (hne:∀ t∈tabs,t=t) (hpl:∀ t∈tabs,∀ x∈t,BR x=true) {g na:Nat} {ms:List (List (Option Nat))} {rs:List Rt} {outs:List Bool} {f:List Value→Option Value} (hok:Cn P tabs na rs.length g f) {args:List Value} {H H':Aa} {v:Value}
 (h:Gu tabs ms na rs outs f args H=some (v,H')) :
 (∀ (as:Array Value) (w:World),(callFunc g as).run P w = .ok (.enter g as) w) ∧
 ∀ R w args',Ck H R w→JH (List.range tabs.length) R→Cf R args args'→Calls P g ⟨args'⟩ w fun e w'=>∃ u R',e = .returned u∧VR R' v u∧Ba H R w H' R' w':=by
 unfold Gu at h
 obtain⟨⟨as,H1⟩,h1,h2⟩:=Ab h
 have h2:VO tabs na rs outs f as H1=some (v,H'):=h2
 refine⟨hok.1,fun R w args' hs hgl ha=>?_⟩
 obtain⟨R1,k1,k2,k3⟩:=UO h1 hs ha
 exact((dV hne hpl hok h2).2 R1 w args' k2.sim (hgl.mono k1) k3).mono fun e w' ⟨u,R',q1,q2,q3⟩=>⟨u,R',q1,q2,k2.trans q3 hs⟩
theorem L6 {v:Value} {H:Aa}:dR none v H=some (v,H):=rfl
theorem Ub {z:Nat} {v v':Value} {H H1:Aa} (h:ER z v H=some (v',H1)):dR (some z) v H=some (v',H1):=h
theorem sV {H:Aa}:dS [] [] H=some ([],H):=rfl
theorem UQ {m:Option Nat} {ms:List (Option Nat)} {v v':Value} {r r':List Value} {H H1 H2:Aa} (h:dR m v H=some (v',H1)) (hr:dS ms r H1=some (r',H2)):dS (m::ms) (v::r) H=some (v'::r',H2):=by
 show oo (dR m v H) none (fun p=>pp p fun v' H1=>oo (dS ms r H1) none fun q=>pp q fun r' H2=>some (v'::r',H2))=_
 rw[h,Ac,GJ,hr];rfl
theorem Gw {m:Option Nat} {v v':Value} {H H1:Aa} (h:dR m v H=some (v',H1)) (ha:Bt v=none:=by kernel_rfl):eF [m] v H=some (v',H1):=by
 unfold eF;rw[ha];exact h
theorem sW {ms:List (Option Nat)} {l l':List Value} {H H1:Aa} (h:dS ms l H=some (l',H1)):eF ms (.agg ⟨l⟩) H=some (.agg ⟨l'⟩,H1):=by
 show oo (dS ms l H) none (fun p=>pp p fun l' H1=>some (Value.agg ⟨l'⟩,H1))=_
 rw[h];rfl
theorem Iz {H:Aa}:QF [] [] H=some ([],H):=rfl
theorem Fh {m:List (Option Nat)} {ms:List (List (Option Nat))} {v v':Value} {r r':List Value} {H H1 H2:Aa} (h:eF m v H=some (v',H1)) (hr:QF ms r H1=some (r',H2)):QF (m::ms) (v::r) H=some (v'::r',H2):=by
 show oo (eF m v H) none (fun p=>pp p fun v' H1=>oo (QF ms r H1) none fun q=>pp q fun r' H2=>some (v'::r',H2))=_
 rw[h,Ac,GJ,hr];rfl
theorem G9 {tabs:List (List Value)} {ms:List (List (Option Nat))} {na:Nat} {rs:List Rt} {outs:List Bool} {f:List Value→Option Value} {args as:List Value} {H H1 H2:Aa} {v:Value} (h1:QF ms args H=some (as,H1)) (h2:VO tabs na rs outs f as H1=some (v,H2)):Gu tabs ms na rs outs f args H=some (v,H2):=by
 unfold Gu;rw[h1,Ac,GJ,h2]

end Go.Sp
namespace Go.Sp
noncomputable section
def yC (es:List EO) (seen:List Nat) (z:Option Value) (f:EO→Option Value):Option Value:=
 @ite _ (IY es seen=[]) (Classical.propDecidable _) z (@dite _ (∃ v,∀ e∈IY es seen,f e=some v) (Classical.propDecidable _) (fun h=>some (Classical.choose h)) fun _=>none)
def XL (es:List EO) (clock:Nat) (seen:List Nat) (st:Nat):Option Value:=oo (Ai6 es clock seen st) none fun e=>some (.tuple ⟨[e.key,e.val]⟩)
end
theorem AgE {es:List EO} {seen:List Nat} {z:Option Value} {f:EO→Option Value} {v:Value} (h:yC es seen z f=some v) (hl:IY es seen=[]):z=some v:=by
 unfold yC at h
 rw[if_pos hl] at h;exact h
theorem AgF {es:List EO} {seen:List Nat} {z:Option Value} {f:EO→Option Value} {v:Value} (h:yC es seen z f=some v) {e:EO} (he:e∈IY es seen):f e=some v:=by
 unfold yC at h
 rw[if_neg (fun hl=>by rw[hl] at he;cases he)] at h
 split at h
 ·rename_i hx
  injection h with h
  rw[←h];exact Classical.choose_spec hx e he
 ·cases h
theorem XM {es:List EO} {seen:List Nat} {z:Option Value} {f:EO→Option Value} {v:Value} (h0:IY es seen=[]→z=some v) (h1:∀ e∈IY es seen,f e=some v):yC es seen z f=some v:=by
 unfold yC
 by_cases hl:IY es seen=[]
 ·rw[if_pos hl];exact h0 hl
 ·rw[if_neg hl]
  have hx:∃ v,∀ e∈IY es seen,f e=some v:=⟨v,h1⟩
  rw[dif_pos hx]
  obtain⟨e,he⟩:=List.exists_mem_of_ne_nil _ hl
  rw[←h1 e he];exact(Classical.choose_spec hx e he).symm
section
variable {tt:TT} {call:A8} {n0:Nat}
theorem BN.nextK {ops os:List Fs} {F:Fr} {H:Aa} {Q:Ex→Fr→Aa→Prop} {d:Option Nat} {x:Operand} {ty id mid since st clock:Nat} {seen:List Nat} {es:List EO} (hops:ops=⟨d,.next x false,ty,none,[]⟩::os)
 (hx:F.eval x = .pointer (some ⟨id,0,none⟩)) (hi:H.get id = .iter (some mid) since seen st) (hm:H.get mid = .map es clock) (hold:Au (fun e=>Nat.blt e.born since) es=true) (hst:Nat.ble since st=true)
 (e0:isS (BD tt call os (F.put d (.tuple ⟨[.bool false]⟩)) H)=true)
 (e1:∀ e:EO,isS (BD tt call os (F.put d (.tuple ⟨[.bool true,e.key,e.val]⟩)) (H.set id (.iter (some mid) since (Br seen [e.born]) clock)))=true)
 (h0:IY es seen=[]→Q .normal (Oa (BD tt call os (F.put d (.tuple ⟨[.bool false]⟩)) H)) (RI (BD tt call os (F.put d (.tuple ⟨[.bool false]⟩)) H)))
 (h1:∀ e,e∈IY es seen→Q .normal (Oa (BD tt call os (F.put d (.tuple ⟨[.bool true,e.key,e.val]⟩)) (H.set id (.iter (some mid) since (Br seen [e.born]) clock)))) (RI (BD tt call os (F.put d (.tuple ⟨[.bool true,e.key,e.val]⟩)) (H.set id (.iter (some mid) since (Br seen [e.born]) clock))))) :
 BN tt call n0 (.reg [] ops) F H Q:=by
 subst hops
 exact .regN rfl (.nx hx hi hm hold hst (fun hl=>.fin (M6 e0) (h0 hl)) fun e he=>.fin (M6 (e1 e)) (h1 e he))
end
end Go.Sp
namespace Go.Sp
noncomputable section
def allEq (eq:Value→Value→Bool) (xs:List Value):List Value→Bool:=
 List.rec (motive:=fun _=>List Value→Bool) (fun ys=>ll ys true fun _ _=>false) (fun x _ ih ys=>ll ys false fun y ys=>an (eq x y) (ih ys)) xs
def K7 (d:Nat):Value→Value→Bool:=
 Nat.rec (motive:=fun _=>Value→Value→Bool) (fun x y=>Z9 x y) (fun _ ih x y=>oo (CQ x) (oo (Bt x) (Z9 x y) fun xs=>oo (Bt y) false fun ys=>allEq ih xs ys) fun xs=>oo (CQ y) false fun ys=>allEq ih xs ys) d
def XN (es:List EO) (seen:List Nat) (z:Option Value) (f:EO→Option Value):Option Value:=
 ll (IY es seen) z fun e r=>oo (f e) none fun v=>bb (Au (fun e'=>oo (f e') false fun v'=>K7 6 v v') r) (some v) none
end
theorem Ud {eq:Value→Value→Bool} (he:∀ x y,eq x y=true→x=y):∀ {xs ys:List Value},allEq eq xs ys=true→xs=ys:=by
 intro xs
 induction xs with
 | nil => intro ys h; cases ys with
  | nil=>rfl
  | cons y ys=>cases h
 | cons x xs ih => intro ys h; cases ys with
  | nil=>cases h
  | cons y ys =>
   obtain⟨h1,h2⟩:=Av (show an (eq x y) (allEq eq xs ys)=true from h)
   rw[he x y h1,ih h2]
theorem WB:∀ (d:Nat) (x y:Value),K7 d x y=true→x=y:=by
 intro d
 induction d with
 | zero=>intro x y h;exact aR h
 | succ d ih =>
  intro x y h
  replace h:oo (CQ x) (oo (Bt x) (Z9 x y) fun xs=>oo (Bt y) false fun ys=>allEq (K7 d) xs ys) (fun xs=>oo (CQ y) false fun ys=>allEq (K7 d) xs ys)=true:=h
  cases hx:CQ x with
  | some xs =>
   rw[hx,Ac] at h
   cases hy:CQ y with
   | some ys =>
    rw[hy,Ac] at h
    rw[EU hx,EU hy,Ud ih h]
   | none=>rw[hy] at h;cases h
  | none =>
   rw[hx] at h
   replace h:oo (Bt x) (Z9 x y) (fun xs=>oo (Bt y) false fun ys=>allEq (K7 d) xs ys)=true:=h
   cases hx:Bt x with
   | some xs =>
    rw[hx,Ac] at h
    cases hy:Bt y with
    | some ys =>
     rw[hy,Ac] at h
     rw[BQ hx,BQ hy,Ud ih h]
    | none=>rw[hy] at h;cases h
   | none=>rw[hx] at h;exact aR h
theorem yD {es:List EO} {seen:List Nat} {z:Option Value} {f:EO→Option Value} {v:Value} (h:XN es seen z f=some v) (hl:IY es seen=[]):z=some v:=by
 unfold XN at h
 rw[hl] at h;exact h
theorem yE {es:List EO} {seen:List Nat} {z:Option Value} {f:EO→Option Value} {v:Value} (h:XN es seen z f=some v) {e:EO} (he:e∈IY es seen):f e=some v:=by
 unfold XN at h
 cases hl:IY es seen with
 | nil=>rw[hl] at he;cases he
 | cons a r =>
  rw[hl] at he h
  replace h:(oo (f a) none fun v=>bb (Au (fun e'=>oo (f e') false fun v'=>K7 6 v v') r) (some v) none)=some v:=h
  obtain⟨u,hu,h⟩:=Ab h
  obtain⟨h1,h2⟩:=Ae h
  injection h2 with h2
  subst h2
  rcases List.mem_cons.1 he with rfl | he
  ·exact hu
  ·have:=(List.all_eq_true.1 (by rw[←Bh];exact h1)) e he
   cases hf:f e with
   | none=>rw[hf] at this;cases this
   | some w=>rw[hf,Ac] at this;rw[WB _ _ _ this]
end Go.Sp
namespace Go.Sp
end Go.Sp
namespace Go.Sp
end Go.Sp
namespace Go.Sp
noncomputable section
end
section
variable {P:Program} {tt:TT} {tabs:List (List Value)}
end
end Go.Sp
namespace Go.Sp
noncomputable section
end
theorem Quiet.refl (n0:Nat) (H:Aa):Quiet n0 H H:=fun _ _ _ R _ _ _ hp=>⟨R,R.le_refl,rfl,hp⟩
theorem Quiet.trans {n0:Nat} {H H1 H2:Aa} (h:Quiet n0 H H1) (h':Quiet n0 H1 H2):Quiet n0 H H2:=fun H0 R0 w0 R w hs hn hp=>by
 obtain⟨R1,a1,a2,a3⟩:=h H0 R0 w0 R w hs hn hp
 obtain⟨R2,b1,b2,b3⟩:=h' H0 R0 w0 R1 w hs hn a3
 exact⟨R2,Ren.le_trans a1 b1,b2.trans a2,b3⟩
theorem Quiet.tell {n0:Nat} {H H1:Aa} (h:Quiet n0 H H1) (v:Value):FU n0 H v H1 v:=fun H0 R0 w0 R w _ hs hn hp hv=>by
 obtain⟨R1,a1,a2,a3⟩:=h H0 R0 w0 R w hs hn hp
 exact⟨R1,a1,a2,a3,hv.mono a1⟩
theorem FU.trans {n0:Nat} {H H1 H2:Aa} {v v1 v2:Value} (h:FU n0 H v H1 v1) (h':FU n0 H1 v1 H2 v2):FU n0 H v H2 v2:=fun H0 R0 w0 R w u hs hn hp hv=>by
 obtain⟨R1,a1,a2,a3,a4⟩:=h H0 R0 w0 R w u hs hn hp hv
 obtain⟨R2,b1,b2,b3,b4⟩:=h' H0 R0 w0 R1 w u hs hn a3 a4
 exact⟨R2,Ren.le_trans a1 b1,b2.trans a2,b3,b4⟩
theorem Mr.len {n0:Nat} {H H1:Aa} {l l':List Value} (h:Mr n0 H l H1 l'):l'.length=l.length:=by
 induction h with
 | nil=>rfl
 | cons _ _ ih=>simp[ih]
structure Alr (n0:Nat) (av:List Nat) (H:Aa) (v:Value) (H':Aa) (v':Value):Prop where
 tell:FU n0 H v H' v'
 quiet:Quiet n0 H H'
 keep:∀ i,ED i av=true→H'.get i=H.get i
section
variable {P:Program} {tt:TT} {tabs:List (List Value)}
end
end Go.Sp
namespace Go.Sp

theorem Quiet.dead {n0:Nat} {H:Aa} {id:Nat} {xs:List Value} {spent:Bool} {anc:List Nat} (h1:H.get id = .cells xs false spent anc):Quiet n0 H (H.set id .dead):=fun H0 R0 w0 R w hs0 _ hp=>by
 have hs:=hp.sim
 have hget:∀ i,(H.set id .dead).get i=if id=i then .dead else H.get i:=fun i=>Aa.get_set _ _ _ _
 have hwr:∀ i,(H.get i).writable=false→((H.set id .dead).get i).writable=false:=fun i h=>by
  rw[hget];split
  ·rfl
  ·exact h
 refine ⟨R, R.le_refl, rfl, hp.le, hp.new, ⟨fun i c β h => by rw [Aa.next_set]; exact hs.dom i c β h, fun i c β h => ?_, fun i c β i' β' h h' hne hw => ?_, fun i a ha => ?_, fun i hi => ?_, fun c C h => ⟨(hs.ro c C h).1, fun i β h' => hwr i ((hs.ro c C h).2 i β h')⟩⟩,
  by rw[Aa.next_set];exact hp.next,hp.grow,hp.frame,fun i hi hr Q c β ob h=>?_,fun i hi h=>?_,hp.fresh,hp.side,hp.rofresh⟩
 ·rw[hget];split
  ·trivial
  ·exact hs.obj i c β h
 ·rw[hget] at hw
  split at hw
  ·cases hw
  ·rename_i he
   rw[hget i']
   split
   ·exact .inl rfl
   ·rw [hget i, if_neg he]; exact hs.sep i c β i' β' h h' hne hw
 ·rw[hget] at ha
  split at ha
  ·cases ha
  ·obtain⟨h1,h2,h3⟩:=hs.anc i a ha
   refine⟨by rw[Aa.next_set];exact h1,?_,hwr a h3⟩
   rw[hget];split
   ·rfl
   ·exact h2
 ·rw[Aa.next_set] at hi
  rw[hget];split
  ·rfl
  ·exact hs.wf i hi
 ·rw[hget];split
  ·trivial
  ·exact hp.calm i hi hr Q c β ob h
 ·rw[hget];split
  ·rename_i he
   subst he
   have:=hp.imm id hi h
   rw[h1] at this
   rw[←this] at h;cases h
  ·exact hp.imm i hi h
theorem Quiet.push {n0:Nat} {H:Aa} {o:AJ} (h:o.ancOf=[]):Quiet n0 H (H.push o):=fun H0 R0 w0 R w _ _ hp=>⟨R,R.le_refl,rfl,hp.absPush h⟩

section
variable {n0:Nat}
end
end Go.Sp
namespace Go.Sp
open Go.Sort

noncomputable section
def Ue (z:Int):Value:=.int .i64 z
end

theorem yF (l:List Int):AP Ue l=l.map Ue:=by
 induction l with
 | nil=>rfl
 | cons x l ih=>show Ue x::AP Ue l=_;rw[ih];rfl
section
variable {P:Program} {g:FuncId}

end

end Go.Sp
namespace Go.BkQ
open Go Go.Sp
noncomputable section
def IV (z:Int):Value:=.int .i64 z
def AgG (rows cols t r c:Nat):Nat×Nat:=
 bb (Nat.beq t 1) (rows - 1 - c, r) (bb (Nat.beq t 2) (rows - 1 - r, cols - 1 - c) (bb (Nat.beq t 3) (c, cols - 1 - r) (bb (Nat.beq t 4) (r, cols - 1 - c)
  (bb (Nat.beq t 5) (rows - 1 - r,c) (bb (Nat.beq t 6) (c,r) (bb (Nat.beq t 7) (rows - 1 - c,cols - 1 - r) (r,c)))))))
def AgH (rows cols t i:Nat):Nat:=Nat.rec (motive:=fun _=>Nat) 0 (fun _ _=>pp (AgG rows cols t (i / cols) (i % cols)) fun r c=>r*cols+c) cols
def upN (n:Nat):List Nat:=Nat.rec (motive:=fun _=>List Nat) [] (fun k ih=>Br ih [k]) n
def cellL (rows cols t:Nat):List Nat:=AP (AgH rows cols t) (upN (rows*cols))
def nvL (l:List Nat):List Value:=AP (fun n=>IV (.ofNat n)) l
def eH (l:List Nat):Value:=FP 1 (len l) 0 (nvL l)
def triples:List (Nat×Nat×Nat):=[(1,1,0),(1,1,1),(1,1,2),(1,1,3),(1,1,4),(1,1,5),(1,1,6),(1,1,7),(1,2,0),(1,2,2),(1,2,4),(1,2,5),(1,3,0),(1,3,2),(1,3,4),(1,3,5),(1,4,0),(1,4,2),(1,4,4),(1,4,5),(2,1,0),(2,1,2),(2,1,4),(2,1,5),(2,2,0),(2,2,1),(2,2,2),(2,2,3),(2,2,4),(2,2,5),(2,2,6),(2,2,7),(2,3,0),(2,3,2),(2,3,4),(2,3,5),(2,4,0),(2,4,2),(2,4,4),(2,4,5),(3,1,0),(3,1,2),(3,1,4),(3,1,5),(3,2,0),(3,2,2),(3,2,4),(3,2,5),(3,3,0),(3,3,1),(3,3,2),(3,3,3),(3,3,4),(3,3,5),(3,3,6),(3,3,7),(3,4,0),(3,4,2),(3,4,4),(3,4,5),(4,1,0),(4,1,2),(4,1,4),(4,1,5),(4,2,0),(4,2,2),(4,2,4),(4,2,5),(4,3,0),(4,3,2),(4,3,4),(4,3,5),(4,4,0),(4,4,1),(4,4,2),(4,4,3),(4,4,4),(4,4,5),(4,4,6),(4,4,7)]
def yG (l:List (Nat×Nat×Nat)) (r c t:Nat):Bool:=List.rec (motive:=fun _=>Bool) false (fun p _ ih=>Dp (an (Nat.beq p.1 r) (an (Nat.beq p.2.1 c) (Nat.beq p.2.2 t))) ih) l
def cellsM (args : List Value) : Option Value := ll args none fun a r => ll r none fun b r => ll r (oo (Bt a) none fun l => ll l none fun v1 l => ll l none fun v2 l => ll l none fun v3 l => ll l none fun v4 l => ll l
 (oo (Bi .i64 v1) none fun z1 => oo (EA z1) none fun rows => oo (Bi .i64 v2) none fun z2 => oo (EA z2) none fun cols => oo (Bi .i64 b) none fun z3 => oo (EA z3) none fun t =>
   bb (yG triples rows cols t) (some (eH (cellL rows cols t))) none) fun _ _=>none) fun _ _=>none
def Gm (args:List Value):Option Value:=ll args (some (.bool true)) fun _ _=>none
end
theorem eO {a b:Bool} (h:Dp a b=true):a=true∨b=true:=by
 cases a with
 | true=>exact .inl rfl
 | false=>exact .inr h
theorem XO {l:List (Nat×Nat×Nat)} {r c t:Nat} (h:yG l r c t=true):(r,c,t)∈l:=by
 induction l with
 | nil=>cases h
 | cons p l ih =>
  rcases eO (show Dp (an (Nat.beq p.1 r) (an (Nat.beq p.2.1 c) (Nat.beq p.2.2 t))) (yG l r c t)=true from h) with h | h
  ·obtain⟨h1,h⟩:=Av h
   obtain⟨h2,h3⟩:=Av h
   obtain⟨p1,p2,p3⟩:=p
   have h1:p1=r:=Nat.eq_of_beq_eq_true h1
   have h2:p2=c:=Nat.eq_of_beq_eq_true h2
   have h3:p3=t:=Nat.eq_of_beq_eq_true h3
   subst h1;subst h2;subst h3
   exact List.mem_cons_self
  ·exact List.mem_cons_of_mem _ (ih h)
theorem Ux {args:List Value} {v:Value} (h:cellsM args=some v):∃ r c t v3 v4,args=[.agg ⟨[IV (.ofNat r),IV (.ofNat c),v3,v4]⟩,IV (.ofNat t)]∧(r,c,t)∈triples∧v=eH (cellL r c t):=by
 replace h:=Ad h;obtain⟨a,r1,rfl,h⟩:=h
 replace h:=Ad h;obtain⟨b,r2,rfl,h⟩:=h
 replace h:=AC h;obtain⟨rfl,h⟩:=h
 replace h:=Ab h;obtain⟨l,hl,h⟩:=h
 replace h:=Ad h;obtain⟨v1,l1,rfl,h⟩:=h
 replace h:=Ad h;obtain⟨v2,l2,rfl,h⟩:=h
 replace h:=Ad h;obtain⟨v3,l3,rfl,h⟩:=h
 replace h:=Ad h;obtain⟨v4,l4,rfl,h⟩:=h
 replace h:=AC h;obtain⟨rfl,h⟩:=h
 replace h:=Ab h;obtain⟨z1,h1,h⟩:=h
 replace h:=Ab h;obtain⟨r,h2,h⟩:=h
 replace h:=Ab h;obtain⟨z2,h3,h⟩:=h
 replace h:=Ab h;obtain⟨c,h4,h⟩:=h
 replace h:=Ab h;obtain⟨z3,h5,h⟩:=h
 replace h:=Ab h;obtain⟨t,h6,h⟩:=h
 replace h:=Ae h;obtain⟨hc,h⟩:=h
 injection h with h
 refine⟨r,c,t,v3,v4,?_,XO hc,h.symm⟩
 rw[BQ hl,Eh h1,Eh h3,Eh h5,AR h2,AR h4,AR h6];rfl
end Go.BkQ
