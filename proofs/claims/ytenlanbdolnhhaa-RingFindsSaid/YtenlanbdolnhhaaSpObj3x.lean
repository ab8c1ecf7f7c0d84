/- Made from wip. -/
import Derived.Test.YtenlanbdolnhhaaSpClox

namespace Go.Sp

noncomputable section
end

section
variable {P:Program} {tabs:List (List Value)}

end

noncomputable section
def giveV (z:Nat) (v:Value) (H:AHeap):Option (Value×AHeap):=
 oo (vSl v) (bb (isNilSl v) (some (fsV z 0 2 [],H)) (bb (closed2 v) (some (v,H)) none)) fun s=>oo (oCells (H.get s.id)) none fun o=>
  bb (an (nt o.imm) (an (nt o.spent) (an (Nat.ble (s.off + s.len * s.sz) (len o.xs)) (allL closed1 (takeL (s.len * s.sz) (dropL s.off o.xs))))))
   (some (fsV s.sz s.len 0 (takeL (s.len*s.sz) (dropL s.off o.xs)),H.set s.id .dead)) none
def giveL (z:Nat) (l:List Value):AHeap→Option (List Value×AHeap):=
 List.rec (motive:=fun _=>AHeap→Option (List Value×AHeap)) (fun H=>some ([],H)) (fun v _ ih H=>oo (giveV z v H) none fun p=>pp p fun v' H1=>oo (ih H1) none fun q=>pp q fun r H2=>some (v'::r,H2)) l
def giveF (tabs:List (List Value)) (z:Nat) (f:List Value→Option Value) (args:List Value) (H:AHeap):Option (Value×AHeap):=
 oo (giveL z args H) none fun p=>pp p fun as H1=>bb (tabsOk H1 tabs 0) (oo (f as) none fun v=>some (v,H1)) none
end

theorem giveV_ok {z:Nat} {v v' u:Value} {H H':AHeap} {R:Ren} {w:World} (h:giveV z v H=some (v',H')) (hs:Sim H R w) (hx:VR R v u) :
 ∃ R',R.le R'∧R'.f=R.f∧Post H R w H' R' w∧VR R' v' u∧closed2 v'=true:=by
 unfold giveV at h
 cases hsl:vSl v with
 | none =>
  rw[hsl,oo_none] at h
  rcases bb_cases h with⟨hn,h⟩ | ⟨_,h⟩
  ·injection h with h;injection h with e1 e2;subst e1;subst e2
   refine⟨R,R.le_refl,rfl,.refl hs,?_,rfl⟩
   rw[isNilSl_true hn] at hx
   rw[hx.slNil_l];exact .fsN z 2 (by decide)
  ·obtain⟨hc,h⟩:=bb_inv h
   injection h with h;injection h with e1 e2;subst e1;subst e2
   exact⟨R,R.le_refl,rfl,.refl hs,hx,hc⟩
 | some s=>
 rw[hsl,oo_some] at h
 obtain⟨o,ho,h1⟩:=oo_inv h
 obtain⟨hc,h2⟩:=bb_inv h1
 obtain⟨c1,hc⟩:=an_inv hc
 obtain⟨c3,hc⟩:=an_inv hc
 obtain⟨c4,c5⟩:=an_inv hc
 have c1:=nt_false c1
 have c3:=nt_false c3
 simp only[len_eq] at c4
 have c4:=Nat.le_of_ble_eq_true c4
 rw[allL_eq,List.all_eq_true] at c5
 simp only[takeL_eq,dropL_eq] at c5 h2
 injection h2 with h2;injection h2 with e1 e2;subst e1;subst e2
 have ho':=oCells_some ho
 rw[c1,c3] at ho'
 have dead : ∀ (R' : Ren), R.le R' → R'.f = R.f → R'.sz = R.sz → (∀ c C, R'.ro c = some C → R.ro c = some C ∨ ∃ β, R.f s.id = some (c, β) ∧ ∃ ty fz, w.heap[c]? = some (.cells C ty fz)) →
  Post H R w (H.set s.id .dead) R' w:=fun R' hle hRf hRs hro=>by
  have hget:∀ id,(H.set s.id .dead).get id=if s.id=id then .dead else H.get id:=fun id=>AHeap.get_set _ _ _ _
  have hnext:(H.set s.id .dead).next=H.next:=by simp
  have hwr:∀ id,(H.get id).writable=false→((H.set s.id .dead).get id).writable=false:=fun id h=>by
   rw[hget];split
   ·rfl
   ·exact h
  have hp:=Post.refl hs
  refine ⟨⟨fun id c β h0 => by rw [hRf, hRs]; exact ⟨h0, rfl⟩, hle.ro⟩, fun id p h0 => by rw [hRf] at h0; exact .inl h0, ?_, by rw [hnext]; exact Nat.le_refl _, Nat.le_refl _, fun _ _ _ => rfl,
   fun id hi hr Q c β ob h0=>?_,fun id hi him=>?_,fun id c β h0 hr=>by rw[hRf] at h0;exact hp.fresh id c β h0 hr,hp.side,fun c C h0=>?_⟩
  ·refine ⟨fun id c β h0 => by rw [hRf] at h0; rw [hnext]; exact hs.dom id c β h0, fun id c β h0 => ?_, fun id c β id' β' h0 h0' hne hw => ?_, fun id a ha => ?_, fun id hi => ?_, fun c C h0 => ?_⟩
   ·rw[hRf] at h0
    rw[hget];split
    ·trivial
    ·exact(hs.obj id c β h0).mono hle (by rw[hRs])
   ·rw[hRf] at h0 h0'
    have hg1:=hget id
    have hg2:=hget id'
    by_cases hn:s.id=id
    ·rw[if_pos hn] at hg1;rw[hg1] at hw;cases hw
    ·rw[if_neg hn] at hg1
     rw[hg1] at hw ⊢
     by_cases hn':s.id=id'
     ·rw[if_pos hn'] at hg2;exact .inl hg2
     ·rw [if_neg hn'] at hg2; rw [hg2]; exact hs.sep id c β id' β' h0 h0' hne hw
   ·rw[hget] at ha
    split at ha
    ·cases ha
    ·have:=hs.anc id a ha
     rw[hnext,hget]
     refine⟨this.1,?_⟩
     split
     ·exact⟨rfl,rfl⟩
     ·exact this.2
   ·rw[hnext] at hi
    rw[hget];split
    ·rfl
    ·exact hs.wf id hi
   ·rcases hro c C h0 with h1 | ⟨β,h1,ty,fz,h2⟩
    ·exact⟨(hs.ro c C h1).1,fun id β h9=>by rw[hRf] at h9;exact hwr id ((hs.ro c C h1).2 id β h9)⟩
    ·refine ⟨⟨ty, fz, h2⟩, fun id β' h9 => ?_⟩
     rw[hRf] at h9
     rw[hget]
     split
     ·rfl
     ·rename_i hn
      cases hwi:(H.get id).writable with
      | false=>rfl
      | true =>
       rcases hs.sep id c β' s.id β h9 h1 (fun e => hn e.symm) hwi with h3 | ⟨h3, _⟩
       ·rw[ho'] at h3;cases h3
       ·have h4:=hs.anc id s.id h3
        rw[ho'] at h4
        have h5:true=false:=h4.2.2
        cases h5
  ·rw[hget];split
   ·trivial
   ·exact h0
  ·rw[hget];split
   ·rename_i he
    rw[←he,ho'] at him;cases him
   ·rfl
  ·rcases hro c C h0 with h1 | ⟨β,h1,_⟩
   ·exact .inl h1
   ·exact .inr (.inr ⟨s.id,β,h1,by rw[ho'];rfl⟩)
 have hcl:closed2 (fsV s.sz s.len 0 ((o.xs.drop s.off).take (s.len*s.sz)))=true:=rfl
 rcases hx.sl_l hsl with⟨c,β,cap,hid,hv,k1,k2,k3,k4⟩ | ⟨c,o2,hv,k0,k00⟩ | ⟨hv,k0,k00⟩
 ·obtain⟨C,ty,fz,hC,hsz,hcf,hcr⟩:=hs.cells hid ho
  let R':Ren:=⟨R.f,R.sz,fun c'=>if c'=c then some C else R.ro c'⟩
  have hle:R.le R':=⟨fun id c β h=>⟨h,rfl⟩,fun c' C' h=>by
   show (if c'=c then some C else R.ro c')=some C'
   split
   ·rename_i he;subst he
    obtain⟨⟨t',fz',h9⟩,_⟩:=hs.ro c' C' h
    rw[hC] at h9;injection h9 with h9;injection h9 with h9;rw[h9]
   ·exact h⟩
  refine⟨R',hle,rfl,dead R' hle rfl rfl fun c' C' h=>?_,?_,hcl⟩
  ·have h:(if c'=c then some C else R.ro c')=some C':=h
   by_cases he:c'=c
   ·rw[if_pos he] at h
    have h:C=C':=by injection h
    subst h;subst he
    exact .inr ⟨β,hid,ty,fz,hC⟩
   ·rw[if_neg he] at h;exact .inl h
  ·rw[hv]
   refine .mkFs (C:=C) (by show (if c=c then some C else R.ro c)=some C;simp) (by simp;omega) (by omega) (fun he=>by cases he) (by decide) (by simp;omega) ?_ c5
   exact(hcr.mono hle).part _ _
 ·refine⟨R,R.le_refl,rfl,dead R R.le_refl rfl rfl fun c' C' h=>.inl h,?_,hcl⟩
  rw[hv,k0]
  simp only[Nat.zero_mul,List.take_zero]
  exact .fsE (by decide)
 ·refine⟨R,R.le_refl,rfl,dead R R.le_refl rfl rfl fun c' C' h=>.inl h,?_,hcl⟩
  rw[hv,k0]
  simp only[Nat.zero_mul,List.take_zero]
  exact .fsN _ _ (by decide)

theorem giveL_ok {z:Nat} {l as:List Value} {H H':AHeap} (h:giveL z l H=some (as,H')):∀ {R:Ren} {w:World} {us:List Value},Sim H R w→VRL R l us →
 ∃ R',R.le R'∧R'.f=R.f∧Post H R w H' R' w∧VRL R' as us∧∀ x∈as,closed2 x=true:=by
 induction l generalizing as H with
 | nil =>
  injection h with h;injection h with e1 e2;subst e1;subst e2
  intro R w us hs hx
  exact⟨R,R.le_refl,rfl,.refl hs,hx,by simp⟩
 | cons v l ih =>
  obtain⟨p,hp,h⟩:=oo_inv (show oo (giveV z v H) none (fun p=>pp p fun v' H1=>oo (giveL z l H1) none fun q=>pp q fun r H2=>some (v'::r,H2))=some (as,H') from h)
  obtain⟨v',H1⟩:=p
  obtain⟨q,hq,h⟩:=oo_inv (show oo (giveL z l H1) none (fun q=>pp q fun r H2=>some (v'::r,H2))=some (as,H') from h)
  obtain⟨r,H2⟩:=q
  injection (show some (v'::r,H2)=some (as,H') from h) with h;injection h with e1 e2;subst e1;subst e2
  intro R w us hs hx
  obtain⟨u,us',rfl,h1,h2⟩:=hx.uncons
  obtain⟨R1,k1,k2,k3,k4,k5⟩:=giveV_ok hp hs h1
  obtain⟨R2,j1,j2,j3,j4,j5⟩:=ih hq k3.sim (h2.mono k1)
  refine⟨R2,Ren.le_trans k1 j1,j2.trans k2,k3.trans j3 hs,.cons (k4.mono j1) j4,fun x hx=>?_⟩
  simp at hx
  rcases hx with rfl | hx
  ·exact k5
  ·exact j5 x hx

theorem giveF_ok {P:Program} {tabs:List (List Value)} (hne:∀ t∈tabs,t≠[]) (hpl:∀ t∈tabs,∀ x∈t,plain1 x=true) {g:FuncId} {z:Nat} {f:List Value→Option Value} (hok:PureOk P tabs g f) {args:List Value} {H H':AHeap} {v:Value} (h:giveF tabs z f args H=some (v,H')) :
 (∀ (as:Array Value) (w:World),(callFunc g as).run P w = .ok (.enter g as) w) ∧
 ∀ R w args',Sim H R w→GlR (List.range tabs.length) R→VRL R args args'→Calls P g ⟨args'⟩ w fun e w'=>∃ u R',e = .returned u∧VR R' v u∧Post H R w H' R' w':=by
 refine⟨hok.1,fun R w args' hs hgl ha=>?_⟩
 obtain⟨p,hp,h⟩:=oo_inv h
 obtain⟨as,H1⟩:=p
 obtain⟨htab,h⟩:=bb_inv (show bb (tabsOk H1 tabs 0) (oo (f as) none fun v=>some (v,H1)) none=some (v,H') from h)
 obtain⟨v',hv',h2⟩:=oo_inv h
 injection h2 with h2;injection h2 with e1 e2;subst e1;subst e2
 obtain⟨R1,k1,k2,k3,k4,k5⟩:=giveL_ok hp hs ha
 have hs1:=k3.sim
 have hgl1:GlR (List.range tabs.length) R1:=hgl.mono k1
 have hs0:=pure_sim hs1 hgl1 htab R1.ro (fun c C h=>(hs1.ro c C h).1) (fun c C h=>h) hne hpl
 refine(hok.2 as v' hv' k5 _ w args' rfl hs0 (closed2L_VR (R:=R1) (R':=⟨fun i=>if i < tabs.length then some (i,0) else none,R1.sz,R1.ro⟩) (fun _ _ h=>h) k4 k5)).mono fun e w' ⟨u,H2,R2,he,hcv,hu,hp2⟩=>?_
 refine⟨u,⟨R1.f,R1.sz,R2.ro⟩,he,closedV_VR (R:=R2) (R':=⟨R1.f,R1.sz,R2.ro⟩) (fun _ _ h=>h) hu hcv,k3.trans (pure_post hs1 rfl hp2 rfl rfl (fun c C h=>hp2.le.ro c C h) fun c C h=>?_) hs⟩
 rcases hp2.rofresh c C h with h3 | h3 | ⟨id,β,h3,h4⟩
 ·exact .inl h3
 ·exact .inr ⟨h3,h⟩
 ·have:=pureHeap_imm (tabf_some (show (if id < tabs.length then some (id,0) else none)=some (c,β) from h3)).1
  rw[this] at h4;cases h4

theorem giveV_nil {z:Nat} {H:AHeap}:giveV z (.slice none 0 0) H=some (Sl.v z (Sl.mk 0 2 []),H):=rfl
theorem giveV_sl {z:Nat} {v:Value} {H:AHeap} (id off sz ln c2:Nat) (xs:List Value) (anc:List Nat) (hx:vSl v=some ⟨id,off,sz,ln,c2⟩) (hg:H.get id = .cells xs false false anc)
 (hc:an (Nat.ble (off+ln*sz) (len xs)) (allL closed1 (takeL (ln*sz) (dropL off xs)))=true):giveV z v H=some (Sl.v sz ⟨ln,0,takeL (ln*sz) (dropL off xs)⟩,H.set id .dead):=by
 unfold giveV
 rw[hx,oo_some]
 show oo (oCells (H.get id)) none _=_
 rw[hg]
 show bb (an (Nat.ble (off+ln*sz) (len xs)) (allL closed1 (takeL (ln*sz) (dropL off xs)))) _ none=_
 rw[hc];rfl
theorem appFs_grow {H:AHeap} {id sz bytes n c2:Nat} {xs:List Value} {anc:List Nat} {x:Sl} (h:Nat.beq x.n 0=false) (hg:H.get id = .cells xs false false anc) (hid:Nat.blt id H.next=true)
 (hc:an (allL scalarB (takeL (x.n*sz) x.cs)) (growC sz bytes n c2 x.n xs)=true) :
 appFs H sz bytes (.slice (some ⟨id,0,some sz⟩) n c2) x=some ((growR sz n x.n id xs (takeL (x.n*sz) x.cs) anc H).1,(growR sz n x.n id xs (takeL (x.n*sz) x.cs) anc H).2):=by
 obtain⟨hs,hc⟩:=an_inv hc
 obtain⟨h1,h2,h3,h4,h5⟩:=growC_some hc
 unfold appFs;rw[sliceCells_fs h]
 show bb (Nat.beq x.n 0) _ (bb (an (Nat.beq sz sz) (roomy (n+x.n) bytes)) (bb (Nat.ble (n+x.n) (c2 / 2)) _ (oo (oCells (H.get id)) none _)) none)=_
 rw[h,Nat.beq_refl,h1,h2,hg]
 show bb (Nat.ble (0+n*sz) (len xs)) (bb (Nat.beq (c2 % 2) 1) _ (bb (an (nt false) (an (nt false) (an (Nat.blt id H.next) (an (Nat.beq (0+n*sz) (len xs)) (allL scalarB (takeL (x.n*sz) x.cs)))))) _ none)) none=_
 rw[h3,h4,hid,h5,hs];rfl

noncomputable section
def oC (l:List Value):AObj:=.cells l false false []
def oS (l:List Value):AObj:=.cells l false true []
def d2 (n:Nat):Nat:=2*n+bb false 1 0
def hp (n:Nat) (l:List AObj):AHeap:=⟨n,objTr l 0 .nil,true⟩
def fr (n:Nat) (l:List (Nat×Value)):Fr:=⟨n,frTr l .nil⟩
def pt (b o:Nat):Value:=.pointer (some ⟨b,o,none⟩)
def sc (b o z n c:Nat):Value:=.slice (some ⟨b,o,some z⟩) n c
def zI (z:Int):Value:=.int .i64 z
def zB (b:Bool):Value:=.bool b
end
end Go.Sp
namespace Go.Sp
section
variable {tt:TT} {call:CallF} {n0:Nat}
theorem OpsG.ghs {os:List ROp} {F F':Fr} {H H':AHeap} (F1:Fr) (H1:AHeap) (h:GhS n0 F H F1 H1) (r:OpsG tt call n0 os F1 H1 F' H'):OpsG tt call n0 os F H F' H':=by
 induction h with
 | id=>exact r
 | step hg _ ih=>exact .gh hg (ih r)
end
end Go.Sp
namespace Go.Sp
noncomputable section
def encE (e:Ent):Value:=Ent.rec (motive:=fun _=>Value) (fun k v b=>.tuple ⟨[k,v,gi b]⟩) e
def decE (v:Value):Option Ent:=oo (vTup v) none fun l=>ll l none fun k l=>ll l none fun x l=>ll l none fun b l=>ll l (oo (vNat b) none fun n=>some ⟨k,x,n⟩) fun _ _=>none
def encO (o:AObj):Value:=AObj.rec (motive:=fun _=>Value) (fun xs _ _ _=>.agg ⟨xs⟩) (fun es c=>.tuple ⟨gi c::mapL encE es⟩) (fun _ _ _ _=>deadV) deadV o
def decO (v:Value):Option AObj:=
 oo (vAgg v) (oo (vTup v) (bb (isDead v) (some .dead) none) fun l=>ll l none fun c r=>oo (vNat c) none fun n=>oo (mapO decE r) none fun es=>some (.map es n)) fun xs=>some (.cells xs false false [])
structure MapV where
 es:List Ent
 clock:Nat
def vMapO (v:Value):Option MapV:=oo (vTup v) none fun l=>ll l none fun c r=>oo (vNat c) none fun n=>oo (mapO decE r) none fun es=>some ⟨es,n⟩

def subHeap (tabs:List (List Value)) (os:List AObj):AHeap:=⟨len tabs+len os,objTr (appL (tabTr tabs) os) 0 .nil,true⟩
def immAt (H:AHeap) (i:Nat):Bool:=oo (oCells (H.get i)) false fun o=>o.imm
def tabsOk2 (H:AHeap) (tabs:List (List Value)):Nat→Bool:=List.rec (motive:=fun _=>Nat→Bool) (fun _=>true) (fun t _ ih i=>an (valsEq (cellsAt H i) t) (an (immAt H i) (ih (Nat.succ i)))) tabs
def nilL {α:Type} (l:List α):Bool:=ll l true fun _ _=>false
def emptyB (o:AObj):Bool:=AObj.rec (motive:=fun _=>Bool) (fun xs _ _ _=>nilL xs) (fun _ _=>false) (fun _ _ _ _=>false) true o
def wrB (o:AObj):Bool:=AObj.rec (motive:=fun _=>Bool) (fun _ imm spent _=>an (nt imm) (nt spent)) (fun _ _=>true) (fun _ _ _ _=>false) false o
def wrAll (H:AHeap) (l:List (Option Nat)):Bool:=allL (fun o=>oo o true fun id=>wrB (H.get id)) l
def ancAt (H:AHeap) (id:Nat):List Nat:=oo (oCells (H.get id)) [] fun o=>o.anc
def ancsOf (H:AHeap) (l:List (Option Nat)):List Nat:=List.rec (motive:=fun _=>List Nat) [] (fun o _ ih=>appL (oo o [] fun id=>ancAt H id) ih) l
def rootOk (H:AHeap) (v:Value):Bool:=oo (vSl v) true fun s=>orr (Nat.ble 2 s.cap) (emptyB (H.get s.id))
def rootsOk (F:Fr) (H:AHeap) (rs:List Rt):List (Option Nat)→Bool:=
 List.rec (motive:=fun _=>List (Option Nat)→Bool) (fun _=>true) (fun r _ ih o=>an (rootOk H (r.val F H o)) (ih (addRt o (r.val F H o)))) rs
def rangeL (n:Nat):List Nat:=Nat.rec (motive:=fun _=>List Nat) [] (fun m r=>appL r [m]) n
def invL (olds:List (Option Nat)) (next extra:Nat):List (Option Nat):=appL (mapL (fun p=>idxOf p olds 0) (rangeL next)) (mapL (fun q=>some (len olds+q)) (rangeL extra))
def pushL (obs:List AObj):AHeap→AHeap:=List.rec (motive:=fun _=>AHeap→AHeap) (fun H=>H) (fun o _ ih H=>ih (H.push o)) obs
def setJs (js:List (Option Nat)):List AObj→AHeap→AHeap:=
 List.rec (motive:=fun _=>List AObj→AHeap→AHeap) (fun obs H=>pushL obs H) (fun j _ ih obs H=>ll obs H fun o r=>ih r (oo j H fun id=>H.set id o)) js
def backObj (inv:List (Option Nat)) (p:Bool×AObj):Option AObj:=pp p fun deep o=>renObj inv deep false o

def objF (tabs:List (List Value)) (na:Nat) (rs:List Rt) (outs:List Bool) (f:List Value→Option Value) (args:List Value) (H:AHeap):Option (Value×AHeap):=
 (fun F => (fun olds => bb (an (tabsOk2 H tabs 0) (an (idxChk olds olds 0) (an (Nat.beq (len olds) (len tabs + len rs)) (an (Nat.beq (len args) na) (wrAll H (dropL (len tabs) olds))))))
   (bb (rootsOk F H rs (idents (len tabs)))
     (oo (mapO (newObj H [] olds) (zipL (mapL Rt.deep rs) (dropL (len tabs) olds))) none fun os =>
       oo (mapO (ren2 olds) args) none fun as=>oo (f (appL as (mapL encO os))) none fun z=>oo (vTup z) none fun l=>ll l none fun v es=>oo (mapO decO es) none fun os'=>
        bb (an (Nat.beq (len outs) (len os')) (Nat.ble (len rs) (len os')))
         (oo (mapO (backObj (invL olds H.next (len os' - len rs))) (zipL outs os')) none fun ns => oo (ren2 (invL olds H.next (len os' - len rs)) v) none fun v' =>
           some (v',setJs (dropL (len tabs) olds) ns (H.kill (ancsOf H (dropL (len tabs) olds))))) none) none) none)
  (oldsOf F H rs (idents (len tabs)))) (Fr.made (len args) args)
end

def plainO (o:AObj):Prop:=o = .dead∨(∃ xs,o = .cells xs false false [])∨∃ es c,o = .map es c
def ObjOk (P:Program) (tabs:List (List Value)) (na k:Nat) (g:FuncId) (f:List Value→Option Value):Prop:=
 (∀ (as:Array Value) (w:World),(callFunc g as).run P w = .ok (.enter g as) w) ∧
 ∀ args os z, args.length = na → os.length = k → (∀ o ∈ os, plainO o) → f (args ++ os.map encO) = some z →
  ∀ R w args', (∀ i, i < tabs.length → R.f i = some (i, 0)) → (∀ i o, os[i]? = some o → R.f (tabs.length + i) = none → EmptyO o) → Sim (subHeap tabs os) R w → VRL R args args' →
   Calls P g ⟨args'⟩ w fun e w' => ∃ (u v : Value) (os' : List AObj) (H' : AHeap) (R' : Ren), e = .returned u ∧ z = .tuple ⟨v :: os'.map encO⟩ ∧ VR R' v u ∧ Post (subHeap tabs os) R w H' R' w' ∧ k ≤ os'.length ∧
    ∀ i o,os'[i]?=some o→H'.get (tabs.length+i)=o∧plainO o
def FinQ (tt:TT) (T k:Nat) (rs:List ResultVar) (z:Value) (F:Fr) (H:AHeap):Prop:=
 ∃ (v:Value) (os':List AObj),z = .tuple ⟨v::os'.map encO⟩∧aresults tt F H rs=some v∧k≤os'.length∧∀ i o,os'[i]?=some o→H.get (T+i)=o∧plainO o
def FinO (tt:TT) (T k:Nat) (rs:List ResultVar) (z:Value):Ex→Fr→AHeap→Prop
 | .exit _,_,_=>False
 | .goto _,_,_=>False
 | .normal,F,H=>∃ F1 H1,GhS (T+k) F H F1 H1∧FinQ tt T k rs z F1 H1
 | .ret,F,H=>FinQ tt T k rs z F H
theorem GhS.trans {n0:Nat} {F F1 F2:Fr} {H H1 H2:AHeap} (h:GhS n0 F H F1 H1) (r:GhS n0 F1 H1 F2 H2):GhS n0 F H F2 H2:=by
 induction h with
 | id=>exact r
 | step hg _ ih=>exact .step hg (ih r)
theorem FinO.ghs {tt:TT} {T k:Nat} {rs:List ResultVar} {z:Value} {F:Fr} {H:AHeap} (F':Fr) (H':AHeap) (h:GhS (T+k) F H F' H') (r:FinO tt T k rs z .normal F' H'):FinO tt T k rs z .normal F H:=by
 obtain⟨F1,H1,h1,h2⟩:=r
 exact⟨F1,H1,h.trans h1,h2⟩

theorem subHeap_get (tabs:List (List Value)) (os:List AObj) (i:Nat):(subHeap tabs os).get i=if i < tabs.length then (match tabs[i]? with | some t=>.cells t true false [] | none=>.dead) else (os[i - tabs.length]?).getD .dead:=by
 unfold subHeap
 rw[AHeap.get_mk,objTr_get]
 have hl:(tabTr tabs).length=tabs.length:=by simp[tabTr]
 simp only[appL_eq,List.length_append,hl,Nat.zero_add,Nat.zero_le,true_and,Nat.sub_zero]
 by_cases h:i < tabs.length
 ·rw[if_pos (by omega),if_pos h,List.getElem?_append_left (by rw[hl];exact h),tabTr_get,List.getElem?_eq_getElem h];rfl
 ·rw[if_neg h]
  by_cases h2:i < tabs.length+os.length
  ·rw[if_pos h2,List.getElem?_append_right (by rw[hl];omega),hl]
  ·rw[if_neg h2,List.getElem?_eq_none (by omega)];rfl
theorem subHeap_next (tabs:List (List Value)) (os:List AObj):(subHeap tabs os).next=tabs.length+os.length:=by show len tabs+len os=_;rw[len_eq,len_eq]
theorem subHeap_tab {tabs:List (List Value)} {os:List AObj} {i:Nat} {t:List Value} (h:tabs[i]?=some t):(subHeap tabs os).get i = .cells t true false []:=by
 rw[subHeap_get,if_pos (List.getElem?_eq_some_iff.1 h).1,h]
theorem subHeap_obj (tabs:List (List Value)) (os:List AObj) (i:Nat):(subHeap tabs os).get (tabs.length+i)=(os[i]?).getD .dead:=by
 rw[subHeap_get,if_neg (by omega),show tabs.length+i - tabs.length=i by omega]
theorem plainO_anc {o:AObj} (h:plainO o):o.ancOf=[]:=by
 rcases h with rfl | ⟨xs,rfl⟩ | ⟨es,c,rfl⟩ <;> rfl
theorem decE_enc (e:Ent):decE (encE e)=some e:=by obtain⟨k,v,b⟩:=e;rfl
theorem decEs_enc (es:List Ent):mapO decE (es.map encE)=some es:=by
 induction es with
 | nil=>rfl
 | cons e es ih =>
  show oo (decE (encE e)) none (fun b=>oo (mapO decE (es.map encE)) none fun r=>some (b::r))=_
  rw[decE_enc,oo_some,ih];rfl
theorem decO_enc {o:AObj} (h:plainO o):decO (encO o)=some o:=by
 rcases h with rfl | ⟨xs,rfl⟩ | ⟨es,c,rfl⟩
 ·rfl
 ·rfl
 ·show oo (mapO decE (mapL encE es)) none (fun es=>some (AObj.map es c))=_
  rw[mapL_eq,decEs_enc];rfl
theorem decOs_enc {os:List AObj} (h:∀ o∈os,plainO o):mapO decO (os.map encO)=some os:=by
 induction os with
 | nil=>rfl
 | cons o os ih =>
  show oo (decO (encO o)) none (fun b=>oo (mapO decO (os.map encO)) none fun r=>some (b::r))=_
  rw[decO_enc (h o (by simp)),oo_some,ih fun o ho=>h o (by simp[ho])];rfl

theorem tabsOk2_some {H:AHeap} {tabs:List (List Value)} {j:Nat} (h:tabsOk2 H tabs j=true):∀ i t,tabs[i]?=some t→cellsAt H (j+i)=t∧immAt H (j+i)=true:=by
 induction tabs generalizing j with
 | nil=>intro i t h;simp at h
 | cons a tabs ih =>
  obtain⟨h1,h2⟩:=an_inv (show an (valsEq (cellsAt H j) a) (an (immAt H j) (tabsOk2 H tabs (j+1)))=true from h)
  obtain⟨h2,h3⟩:=an_inv h2
  intro i t hi
  cases i with
  | zero=>simp at hi;subst hi;exact⟨valsEq_eq h1,h2⟩
  | succ i=>have:=ih h3 i t (by simpa using hi);rwa [show j+(i+1)=j+1+i by omega]
theorem tab_imm {H:AHeap} {i:Nat} {t:List Value} (h1:cellsAt H i=t) (h2:immAt H i=true) (hne:t≠[]):∃ sp anc,H.get i = .cells t true sp anc:=by
 unfold cellsAt at h1
 unfold immAt at h2
 cases ho:H.get i with
 | cells xs imm sp anc =>
  rw[ho] at h1 h2
  have h1:xs=t:=h1
  have h2:imm=true:=h2
  exact⟨sp,anc,by rw[h1,h2]⟩
 | dead=>rw[ho] at h2;cases h2
 | map=>rw[ho] at h2;cases h2
 | iter=>rw[ho] at h2;cases h2

theorem emptyB_ok {o:AObj} (h:emptyB o=true):EmptyO o:=by
 cases o with
 | dead=>trivial
 | cells xs i s a =>
  cases xs with
  | nil=>rfl
  | cons x xs=>cases h
 | map=>cases h
 | iter=>cases h
theorem wrB_ok {o:AObj} (h:wrB o=true):o.writable=true∧o.immB=false:=by
 cases o with
 | dead=>cases h
 | iter=>cases h
 | map=>exact⟨rfl,rfl⟩
 | cells xs i s a =>
  obtain⟨h1,h2⟩:=an_inv (show an (nt i) (nt s)=true from h)
  rw[nt_false h1,nt_false h2];exact⟨rfl,rfl⟩
theorem wrAll_b {H:AHeap} {l:List (Option Nat)} (h:wrAll H l=true) {i id:Nat} (hi:l[i]?=some (some id)):wrB (H.get id)=true:=by
 unfold wrAll at h
 rw[allL_eq,List.all_eq_true] at h
 exact h _ (List.mem_of_getElem? hi)
theorem wrAll_ok {H:AHeap} {l:List (Option Nat)} (h:wrAll H l=true) {i id:Nat} (hi:l[i]?=some (some id)):(H.get id).writable=true∧(H.get id).immB=false:=by
 unfold wrAll at h
 rw[allL_eq,List.all_eq_true] at h
 exact wrB_ok (h _ (List.mem_of_getElem? hi))
theorem ancsOf_mem {H:AHeap} {l:List (Option Nat)} {a:Nat}:a∈ancsOf H l↔∃ (i id:Nat),l[i]?=some (some id)∧a∈(H.get id).ancOf:=by
 have key:∀ id,ancAt H id=(H.get id).ancOf:=fun id=>by
  unfold ancAt
  cases H.get id <;> rfl
 induction l with
 | nil=>simp[ancsOf]
 | cons o l ih =>
  show a∈appL (oo o [] fun id=>ancAt H id) (ancsOf H l)↔_
  rw[appL_eq,List.mem_append]
  constructor
  ·rintro(h | h)
   ·cases o with
    | none=>cases h
    | some id=>exact⟨0,id,rfl,by rw[←key];exact h⟩
   ·obtain⟨i,id,h1,h2⟩:=ih.1 h
    exact⟨i+1,id,by simpa using h1,h2⟩
  ·rintro⟨i,id,h1,h2⟩
   cases i with
   | zero=>simp at h1;subst h1;left;rw[oo_some,key];exact h2
   | succ i=>right;exact ih.2 ⟨i,id,by simpa using h1,h2⟩

theorem rangeL_eq (n:Nat):rangeL n=List.range n:=by
 induction n with
 | zero=>rfl
 | succ n ih=>show appL (rangeL n) [n]=_;rw[ih,appL_eq,List.range_succ]
theorem invL_get (olds:List (Option Nat)) (next extra p:Nat):(invL olds next extra)[p]?=if p < next then some (idxOf p olds 0) else if p < next+extra then some (some (olds.length+(p - next))) else none:=by
 unfold invL
 simp only[appL_eq,mapL_eq,rangeL_eq,len_eq]
 by_cases h:p < next
 ·rw[if_pos h,List.getElem?_append_left (by simpa using h)];simp[h]
 ·rw[if_neg h,List.getElem?_append_right (by simp;omega)]
  simp only[List.length_map,List.length_range,List.getElem?_map]
  by_cases h2:p < next+extra
  ·rw[if_pos h2,List.getElem?_range (by omega)];rfl
  ·rw[if_neg h2,List.getElem?_eq_none (by simp;omega)];rfl

theorem pushL_next (obs:List AObj) (H:AHeap):(pushL obs H).next=H.next+obs.length:=by
 induction obs generalizing H with
 | nil=>rfl
 | cons o obs ih=>show (pushL obs (H.push o)).next=_;rw[ih,AHeap.next_push];simp;omega
theorem pushL_get (obs:List AObj) (H:AHeap) (p:Nat):(pushL obs H).get p=if H.next≤p∧p < H.next+obs.length then (obs[p - H.next]?).getD .dead else H.get p:=by
 induction obs generalizing H with
 | nil=>show H.get p=_;rw[if_neg (by simp)]
 | cons o obs ih =>
  show (pushL obs (H.push o)).get p=_
  rw[ih,AHeap.next_push,AHeap.get_push]
  by_cases h:H.next+1≤p∧p < H.next+1+obs.length
  ·rw[if_pos h,if_pos (by simp;omega),show p - H.next=(p - (H.next+1))+1 by omega,List.getElem?_cons_succ]
  ·rw[if_neg h]
   by_cases h2:H.next=p
   ·rw[if_pos h2,if_pos (by simp;omega)];subst h2;simp
   ·rw[if_neg h2,if_neg (by simp;omega)]
theorem pushL_wf {obs:List AObj} {H:AHeap} (h:H.wf):(pushL obs H).wf:=by
 induction obs generalizing H with
 | nil=>exact h
 | cons o obs ih=>exact ih (h.push o)
theorem setJs_next (js:List (Option Nat)) (obs:List AObj) (H:AHeap) (hl:js.length≤obs.length):(setJs js obs H).next=H.next+(obs.length - js.length):=by
 induction js generalizing obs H with
 | nil=>show (pushL obs H).next=_;rw[pushL_next];simp
 | cons j js ih =>
  cases obs with
  | nil=>simp at hl
  | cons o obs =>
   show (setJs js obs (oo j H fun id=>H.set id o)).next=_
   rw[ih _ _ (by simpa using hl)]
   cases j with
   | none=>simp
   | some id=>simp
theorem setJs_wf {js:List (Option Nat)} {obs:List AObj} {H:AHeap} (h:H.wf) (hj:∀ (i id:Nat),js[i]?=some (some id)→id < H.next):(setJs js obs H).wf:=by
 induction js generalizing obs H with
 | nil=>exact pushL_wf h
 | cons j js ih =>
  cases obs with
  | nil=>exact h
  | cons o obs =>
   show (setJs js obs (oo j H fun id=>H.set id o)).wf
   cases j with
   | none=>exact ih h fun i id hi=>hj (i+1) id (by simpa using hi)
   | some id =>
    refine ih (h.set (hj 0 id rfl) o) fun i id' hi=>?_
    rw[oo_some,AHeap.next_set]
    exact hj (i+1) id' (by simpa using hi)
theorem setJs_other (js:List (Option Nat)) (obs:List AObj) (H:AHeap) (p:Nat) (hl:js.length≤obs.length) (hp:∀ i:Nat,js[i]?≠some (some p)) :
 (setJs js obs H).get p=if H.next≤p∧p < H.next+(obs.length - js.length) then (obs[js.length+(p - H.next)]?).getD .dead else H.get p:=by
 induction js generalizing obs H with
 | nil=>show (pushL obs H).get p=_;rw[pushL_get];simp
 | cons j js ih =>
  cases obs with
  | nil=>simp at hl
  | cons o obs =>
   show (setJs js obs (oo j H fun id=>H.set id o)).get p=_
   rw[ih _ _ (by simpa using hl) fun i hi=>hp (i+1) (by simpa using hi)]
   have e : ∀ H' : AHeap, H'.next = H.next → H'.get p = H.get p → (if H'.next ≤ p ∧ p < H'.next + (obs.length - js.length) then (obs[js.length + (p - H'.next)]?).getD AObj.dead else H'.get p) =
    if H.next≤p∧p < H.next+((o::obs).length - (j::js).length) then ((o::obs)[(j::js).length+(p - H.next)]?).getD .dead else H.get p:=fun H' h1 h2=>by
    rw[h1,h2]
    simp only[List.length_cons,Nat.add_sub_add_right]
    rw[show js.length+1+(p - H.next)=js.length+(p - H.next)+1 by omega,List.getElem?_cons_succ]
   cases j with
   | none=>exact e H rfl rfl
   | some id =>
    refine e _ (by rw[oo_some,AHeap.next_set]) ?_
    rw[oo_some,AHeap.get_set,if_neg]
    intro h;subst h;exact hp 0 rfl
theorem setJs_at (js:List (Option Nat)) (obs:List AObj) (H:AHeap) (p i:Nat) (hl:js.length≤obs.length) (hi:js[i]?=some (some p)) (hu:∀ i':Nat,js[i']?=some (some p)→i'=i) (hlt:p < H.next):(setJs js obs H).get p=(obs[i]?).getD .dead:=by
 induction js generalizing obs H i with
 | nil=>simp at hi
 | cons j js ih =>
  cases obs with
  | nil=>simp at hl
  | cons o obs =>
   show (setJs js obs (oo j H fun id=>H.set id o)).get p=_
   cases i with
   | zero =>
    simp at hi;subst hi
    rw[setJs_other _ _ _ _ (by simpa using hl) fun i' h=>by have:=hu (i'+1) (by simpa using h);omega,oo_some,AHeap.next_set,if_neg (by omega),AHeap.get_set,if_pos rfl]
    rfl
   | succ i =>
    rw[ih _ _ i (by simpa using hl) (by simpa using hi) (fun i' h=>by have:=hu (i'+1) (by simpa using h);omega) (by cases j with
     | none=>exact hlt
     | some id=>rw[oo_some,AHeap.next_set];exact hlt)]
    simp
end Go.Sp
namespace Go.Sp

theorem plain_closed {v:Value} (h:plain1 v=true):closed1 v=true:=by
 cases v <;> simp[plain1,vv] at h
 case bool=>rfl
 case int=>rfl
 case string=>rfl
 case pointer a=>cases a with
  | none=>rfl
  | some a=>simp at h
 case slice a l c=>cases a with
  | some a=>simp at h
  | none=>simp at h;obtain⟨h1,h2⟩:=h;subst h1;subst h2;rfl
 case map m=>cases m with
  | none=>rfl
  | some m=>simp at h
 case nilFunc=>rfl
 case nilIface=>rfl
theorem dead_VR {R:Ren} (u:Value):VR R deadV u:=.any u

section
variable {H:AHeap} {R:Ren} {w:World} {args args':List Value}
theorem capOf_VR {v u:Value} (hv:VR R v u) (c:Nat):∃ u',VR R (capOf v c) u':=by
 unfold capOf
 cases hg:vFunc v with
 | none=>exact⟨undef,dead_VR _⟩
 | some g =>
  have:=vFunc_some hg;subst this
  obtain⟨f,a,b⟩:=g
  rw[oo_some]
  show ∃ u',VR R (oo (nthL (appL a b) c) deadV fun v=>v) u'
  cases hv with
  | func fn hl hh hl' hh' =>
   rw[appL_eq,nthL_eq]
   cases hx:(a++b)[c]? with
   | none=>exact⟨undef,dead_VR _⟩
   | some x =>
    rw[oo_some]
    obtain⟨y,_,hv⟩:=(VRL.append (R:=R) ⟨hl,hh⟩ ⟨hl',hh'⟩).get hx
    exact⟨y,hv⟩
theorem cellOf_VR (hs:Sim H R w) {o:List (Option Nat)} (hinv:∀ (k id:Nat),o[k]?=some (some id)→R.f id=none→EmptyO (H.get id)) (j i:Nat):∃ u,VR R (cellOf H o j i) u:=by
 unfold cellOf
 rw[nthL_eq]
 cases hj:o[j]? with
 | none=>exact⟨undef,dead_VR _⟩
 | some q =>
  rw[oo_some]
  cases q with
  | none=>exact⟨undef,dead_VR _⟩
  | some id =>
   rw[oo_some]
   cases ho:oCells (H.get id) with
   | none=>exact⟨undef,dead_VR _⟩
   | some ob =>
    rw[oo_some,nthL_eq]
    cases hx:ob.xs[i]? with
    | none=>exact⟨undef,dead_VR _⟩
    | some x =>
     rw[oo_some]
     cases hf:R.f id with
     | none =>
      have h1:=hinv j id hj hf
      rw[oCells_some ho] at h1
      have h1:ob.xs=[]:=h1
      rw[h1] at hx;simp at hx
     | some p =>
      obtain⟨C,t,fz,_,_,_,h4⟩:=hs.cells (c:=p.1) (β:=p.2) hf ho
      obtain⟨y,_,hv⟩:=h4 i x hx
      exact⟨y,hv⟩
theorem itmOf_VR (hs:Sim H R w) {o:List (Option Nat)} (hinv:∀ (k id:Nat),o[k]?=some (some id)→R.f id=none→EmptyO (H.get id)) (j:Nat):∃ u,VR R (itmOf H o j) u:=by
 unfold itmOf
 cases h1:nthL o j with
 | none=>exact⟨undef,dead_VR _⟩
 | some q =>
  cases q with
  | none=>exact⟨undef,dead_VR _⟩
  | some id =>
   rw[oo_some,oo_some]
   cases h2:oIter (H.get id) with
   | none=>exact⟨undef,dead_VR _⟩
   | some it =>
    rw[oo_some]
    cases h3:it.m with
    | none=>exact⟨undef,dead_VR _⟩
    | some m =>
     rw[oo_some]
     have hg:=oIter_some h2
     cases hf:R.f id with
     | none =>
      have:=hinv j id (by rw[←nthL_eq];exact h1) hf
      rw[hg] at this;exact this.elim
     | some p =>
      have hob:=hs.obj id p.1 p.2 hf
      rw[hg] at hob
      obtain⟨_,m',S,_,_,hm⟩:=hob
      rw[h3] at hm
      obtain⟨c,hc,_⟩:=hm
      exact⟨_,.map hc⟩
theorem val_VR (hs:Sim H R w) (ha:VRL R args args') {o:List (Option Nat)} (hinv:∀ (k id:Nat),o[k]?=some (some id)→R.f id=none→EmptyO (H.get id)) (n:Nat) (r:Rt):∃ u,VR R (r.val (Fr.made n args) H o) u:=by
 have htmp:∀ t,∃ u,VR R ((Fr.made n args).get t) u:=fun t=>by
  rw[Fr.get_made]
  cases hx:args[t]? with
  | none=>exact⟨undef,dead_VR _⟩
  | some x =>
   obtain⟨y,_,hv⟩:=ha.get hx
   exact⟨y,hv⟩
 cases r with
 | tmp t d=>exact htmp t
 | cell j i d=>exact cellOf_VR hs hinv j i
 | cap t c d=>obtain⟨u,hu⟩:=htmp t;exact capOf_VR hu c
 | ccap j i c d=>obtain⟨u,hu⟩:=cellOf_VR hs hinv j i;exact capOf_VR hu c
 | itm j d=>exact itmOf_VR hs hinv j
theorem olds_inv (hs:Sim H R w) (ha:VRL R args args') (n:Nat):∀ (rs:List Rt) (o:List (Option Nat)),(∀ (k id:Nat),o[k]?=some (some id)→R.f id=none→EmptyO (H.get id))→rootsOk (Fr.made n args) H rs o=true →
 ∀ (k id:Nat),(oldsOf (Fr.made n args) H rs o)[k]?=some (some id)→R.f id=none→EmptyO (H.get id)
 | [],o,h,_=>h
 | r :: rs, o, h, hr => by
  obtain⟨h1,h2⟩:=an_inv (show an (rootOk H (r.val (Fr.made n args) H o)) (rootsOk (Fr.made n args) H rs (addRt o (r.val (Fr.made n args) H o)))=true from hr)
  obtain⟨u,hu⟩:=val_VR hs ha h n r
  refine olds_inv hs ha n rs _ (fun k id hk hid=>?_) h2
  generalize r.val (Fr.made n args) H o=v at hk h1 hu
  unfold addRt at hk
  rw[appL_eq] at hk
  by_cases hlt:k < o.length
  ·rw[List.getElem?_append_left hlt] at hk;exact h k id hk hid
  ·rw[List.getElem?_append_right (by omega)] at hk
   have hk1:(oo (refId v) none fun id=>oo (idxOf id o 0) (some id) fun _=>none)=some id:=by
    cases hd:k - o.length with
    | zero=>rw[hd] at hk;simpa using hk
    | succ m=>rw[hd] at hk;simp at hk
   obtain⟨id',hr1,hk2⟩:=oo_inv hk1
   have hid':id'=id:=by
    cases hi:idxOf id' o 0 with
    | none=>rw[hi] at hk2;injection hk2
    | some m=>rw[hi] at hk2;cases hk2
   subst hid'
   unfold refId at hr1
   cases hp:vPtr v with
   | some p =>
    rw[hp,oo_some] at hr1
    injection hr1 with hr1
    rw[vPtr_some hp] at hu
    obtain⟨c,β,hf,_⟩:=hu.ptr_l
    rw[hr1,hid] at hf;cases hf
   | none =>
    rw[hp,oo_none] at hr1
    cases hsl:vSl v with
    | some s =>
     rw[hsl,oo_some] at hr1
     injection hr1 with hr1
     unfold rootOk at h1
     rw[hsl,oo_some,orr_eq,Bool.or_eq_true] at h1
     rw[hr1] at h1
     rcases h1 with h1 | h1
     ·have h1:=Nat.le_of_ble_eq_true h1
      rcases hu.sl_l hsl with⟨c,β,cap,hf,_⟩ | ⟨c,o2,_,k0,k00⟩ | ⟨_,k0,k00⟩
      ·rw[hr1,hid] at hf;cases hf
      ·omega
      ·omega
     ·exact emptyB_ok h1
    | none =>
     rw[hsl,oo_none] at hr1
     obtain⟨m,hm,hr2⟩:=oo_inv hr1
     subst hr2
     rw[vMap_some hm] at hu
     obtain⟨c,hf,_⟩:=hu.map_l
     rw[hid] at hf;cases hf
end

theorem renObj_plain {olds:List (Option Nat)} {d tr:Bool} {o o':AObj} (hb:wrB o=true) (h:renObj olds d tr o=some o'):plainO o':=by
 have hw:=(wrB_ok hb).1
 cases o with
 | dead=>cases hw
 | iter=>cases hb
 | map es c =>
  obtain⟨_,h1⟩:=bb_inv (show bb (orr tr (allL entClosed es)) (some (AObj.map es c)) none=some o' from h)
  injection h1 with h1;subst h1;exact .inr (.inr ⟨_,_,rfl⟩)
 | cells xs imm sp anc =>
  have hw:(!imm && !sp)=true:=hw
  have hi:imm=false:=by cases imm <;> simp at hw ⊢
  have hsp:sp=false:=by cases sp <;> simp at hw ⊢
  subst hi;subst hsp
  obtain⟨_,h2⟩:=bb_inv (show bb _ (bb d (oo (mapO (renF olds) xs) none fun xs'=>some (AObj.cells xs' false false [])) (bb (orr tr (allL closed1 xs)) (some (AObj.cells xs false false [])) none)) none=some o' from h)
  rw[bb_eq] at h2
  split at h2
  ·obtain⟨ys,_,h3⟩:=oo_inv h2
   injection h3 with h3;subst h3;exact .inr (.inl ⟨_,rfl⟩)
  ·obtain⟨_,h3⟩:=bb_inv h2
   injection h3 with h3;subst h3;exact .inr (.inl ⟨_,rfl⟩)

section
variable {P:Program} {tabs:List (List Value)}

theorem objOk_of_run {tt:TT} (hT:TOk P tt) (hm:P.follows .mixedOrders=true) {g na k:Nat} {r:RFn} {call:CallF} (hc:CallOk P (List.range tabs.length) call) (hfn:FnOk P (List.range tabs.length) g r) {f:List Value→Option Value}
 (h:∀ args os z,args.length=na→os.length=k→(∀ o∈os,plainO o)→f (args++os.map encO)=some z→args.length≤r.n∧Run tt call (tabs.length+k) r.body (Fr.made r.n args) (subHeap tabs os) (FinO tt tabs.length k r.results z)):ObjOk P tabs na k g f:=by
 refine⟨enter_ok hfn,fun args os z hna hk hpl hz=>?_⟩
 obtain⟨hle,hrun⟩:=h args os z hna hk hpl hz
 intro R w args' hR hemp hs ha
 obtain⟨fd,c,e1,e2,e3,e4,_,hcomp,hok⟩:=hfn.ok
 refine calls_of_wp e1 e2 ?_
 have hlen:=ha.1
 have hsize:((⟨args'⟩:Array Value)++Array.replicate (fd.ntmps - (⟨args'⟩:Array Value).size) undef).size=r.n:=by simp;omega
 have hgl:GlR (List.range tabs.length) R:=fun g hg=>hR g (by simpa using hg)
 have hfull:∀ id,id < (subHeap tabs os).next→R.f id=none→EmptyO ((subHeap tabs os).get id):=fun id hid hr=>by
  rw[subHeap_next] at hid
  by_cases hlt:id < tabs.length
  ·rw[hR id hlt] at hr;cases hr
  ·obtain⟨j,rfl⟩:∃ j,id=tabs.length+j:=⟨id - tabs.length,by omega⟩
   have hj:j < os.length:=by omega
   rw[subHeap_obj,List.getElem?_eq_getElem hj]
   exact hemp j _ (List.getElem?_eq_getElem hj) hr
 have hrun:Run tt call (subHeap tabs os).next r.body (Fr.made r.n args) (subHeap tabs os) (FinO tt tabs.length k r.results z):=by
  rw[subHeap_next,hk];exact hrun
 have hst:St (List.range tabs.length) (subHeap tabs os) R w [] r.n (Fr.made r.n args) (subHeap tabs os) ⟨(⟨args'⟩:Array Value)++Array.replicate (fd.ntmps - (⟨args'⟩:Array Value).size) undef,[]⟩ w:=by
  refine⟨⟨R,.refl hs,fun t=>?_⟩,rfl,hsize,Fr.n_made ..⟩
  rw[Fr.get_made,Array.getD_eq_getD_getElem?]
  show VR R _ (((⟨args'⟩:Array Value)++Array.replicate (fd.ntmps - (⟨args'⟩:Array Value).size) undef)[t]?.getD undef)
  rw[Array.getElem?_append]
  by_cases hlt:t < args'.length
  ·rw[if_pos (by simpa using hlt)]
   obtain ⟨x, hx⟩ : ∃ x, args[t]? = some x := ⟨args[t]'(by omega), by simp⟩
   obtain⟨y,hy,hv⟩:=ha.get hx
   rw[hx,show (⟨args'⟩:Array Value)[t]?=some y by simpa using hy]
   exact hv
  ·rw[List.getElem?_eq_none (by omega)]
   exact .any _
 refine wp_mono (hrun.sound hT hc hm hs hgl hfull hcomp hok _ w hst) fun x a' w' ⟨e,F',H',h1,h2,h3⟩=>?_
 subst h1
 have fin : ∀ F' H', St (List.range tabs.length) (subHeap tabs os) R w [] r.n F' H' a' w' → FinQ tt tabs.length k r.results z F' H' → bodyPost P fd (fun e w' => ∃ (u v : Value) (os' : List AObj) (H' : AHeap) (R' : Ren), e = .returned u ∧ z = .tuple ⟨v :: os'.map encO⟩ ∧ VR R' v u ∧ Post (subHeap tabs os) R w H' R' w' ∧ k ≤ os'.length ∧
  ∀ i o,os'[i]?=some o→H'.get (tabs.length+i)=o∧plainO o) .normal a' w':=fun F' H' ⟨⟨R',hp,ht⟩,hd,_,_⟩ ⟨v,os',g1,hres,g2,g3⟩=>by
  rw[←e4] at hres
  obtain⟨u,hu,huv⟩:=aresults_ok hT hp.sim ht hres
  exact⟨hd,u,hu,u,v,os',H',R',rfl,g1,huv,hp,g2,g3⟩
 cases e with
 | normal =>
  obtain⟨F1,H1,hg,hq⟩:=h2
  have hg:GhS (subHeap tabs os).next F' H' F1 H1:=by rw[subHeap_next,hk];exact hg
  have hst1:∀ {F F1:Fr} {H H1:AHeap},GhS (subHeap tabs os).next F H F1 H1→St (List.range tabs.length) (subHeap tabs os) R w [] r.n F H a' w'→St (List.range tabs.length) (subHeap tabs os) R w [] r.n F1 H1 a' w':=fun hg=>by
   induction hg with
   | id=>exact fun h=>h
   | step h _ ih=>exact fun hst=>ih (hst.ghost hs hfull h)
  exact fin F1 H1 (hst1 hg h3) hq
 | exit j=>exact h2.elim
 | goto j=>exact h2.elim
 | ret=>exact fin F' H' h3 h2

theorem sub_sim {H:AHeap} {R Rs:Ren} {w:World} {olds:List (Option Nat)} {os:List AObj} (hs:Sim H R w) (hgl:GlR (List.range tabs.length) R) (hne:∀ t∈tabs,t≠[]) (hpl:∀ t∈tabs,∀ x∈t,plain1 x=true)
 (htab:tabsOk2 H tabs 0=true) (hRs:Rs=⟨fun i=>oo (nthL olds i) none fun o=>oo o none fun id=>R.f id,R.sz,R.ro⟩) (hRn:Renum R Rs olds) (hidx:∀ (i b:Nat),olds[i]?=some (some b)→idxOf b olds 0=some i)
 (hid:∀ i,i < tabs.length→olds[i]?=some (some i)) (hlen:olds.length=tabs.length+os.length) (hpo:∀ o∈os,plainO o)
 (hos:∀ (j id:Nat),olds[tabs.length+j]?=some (some id)→∃ d o,os[j]?=some o∧renObj olds d false (H.get id)=some o):Sim (subHeap tabs os) Rs w:=by
 have hRf:∀ i p,Rs.f i=some p→∃ id,olds[i]?=some (some id)∧R.f id=some p:=fun i p h=>by
  rw[hRs] at h
  obtain⟨o,ho,h4⟩:=oo_inv (show oo (nthL olds i) none (fun o=>oo o none fun id=>R.f id)=some p from h)
  obtain⟨id,hi,h5⟩:=oo_inv h4
  subst hi
  exact⟨id,by simpa using ho,h5⟩
 have htb:∀ i,i < tabs.length→∃ t sp anc,tabs[i]?=some t∧H.get i = .cells t true sp anc∧t∈tabs:=fun i hi=>by
  have ht:=List.getElem?_eq_getElem hi
  have:=tabsOk2_some htab i _ ht
  rw[Nat.zero_add] at this
  obtain⟨sp,anc,h⟩:=tab_imm this.1 this.2 (hne _ (List.getElem_mem hi))
  exact⟨_,sp,anc,ht,h,List.getElem_mem hi⟩
 have hlt:∀ (i:Nat) (id:Nat),olds[i]?=some (some id)→i < tabs.length+os.length:=fun i id h=>by rw[←hlen];exact(List.getElem?_eq_some_iff.1 h).1
 -- what stands there
 have hget:∀ i id,olds[i]?=some (some id)→tabs.length≤i→∃ d,renObj olds d false (H.get id)=some ((subHeap tabs os).get i):=fun i id h hi=>by
  obtain⟨j,rfl⟩:∃ j,i=tabs.length+j:=⟨i - tabs.length,by omega⟩
  obtain⟨d,o,h1,h2⟩:=hos j id h
  exact⟨d,by rw[subHeap_obj,h1];exact h2⟩
 refine ⟨fun i c β h => ?_, fun i c β h => ?_, fun i c β i' β' h h' hne' hw => ?_, fun i a ha => ?_, fun i hi => ?_, fun c C hc => ?_⟩
 ·obtain⟨id,h1,h2⟩:=hRf i _ h
  rw[subHeap_next]
  exact⟨hlt i id h1,(hs.dom id c β h2).2⟩
 ·obtain⟨id,h1,h2⟩:=hRf i _ h
  by_cases hi:i < tabs.length
  ·have h3:=hid i hi
   rw[h1] at h3;injection h3 with h3;injection h3 with h3;subst h3
   obtain⟨t,sp,anc,g1,g2,g3⟩:=htb id hi
   rw[subHeap_tab g1]
   have ho:=hs.obj id c β h2
   rw[g2] at ho
   obtain⟨C,ty,fz,k1,k2,k3,k4,k5⟩:=ho
   refine⟨C,ty,fz,k1,by rw[hRs];exact k2,k3,fun q x hx=>?_,fun h=>by cases h⟩
   obtain⟨y,n1,n2⟩:=k4 q x hx
   exact⟨y,n1,n2.closed (fun c C h=>by rw[hRs];exact h) (plain_closed (hpl t g3 x (List.mem_of_getElem? hx)))⟩
  ·obtain⟨d,h6⟩:=hget i id h1 (by omega)
   exact renObj_ok hRn h6 (fun h9=>by cases h9) (hs.obj id c β h2)
 ·obtain⟨id,h1,h2⟩:=hRf i _ h
  obtain⟨id',h1',h2'⟩:=hRf i' _ h'
  by_cases hi:i < tabs.length
  ·obtain⟨t,sp,anc,g1,g2,g3⟩:=htb i hi
   rw[subHeap_tab g1] at hw;cases hw
  ·obtain⟨d,h6⟩:=hget i id h1 (by omega)
   obtain⟨g1,g2,g3,g4,g5⟩:=renObj_write h6
   rw[g1] at hw
   have hidne:id≠id':=fun e=>by subst e;have:=(hidx i id h1).symm.trans (hidx i' id h1');injection this with this;exact hne' this
   rcases hs.sep id c β id' β' h2 h2' hidne hw with h7 | ⟨h7, _⟩
   ·by_cases hi':i' < tabs.length
    ·have h3:=hid i' hi'
     rw[h1'] at h3;injection h3 with h3;injection h3 with h3;subst h3
     obtain⟨t,sp,anc,g1,g2,g3⟩:=htb id' hi'
     rw[g2] at h7;cases h7
    ·obtain⟨d',h6'⟩:=hget i' id' h1' (by omega)
     left
     rw[h7] at h6'
     injection h6' with h6'
     exact h6'.symm
   ·have:=g4 hw id' h7
    rw[hidx i' id' h1'] at this;cases this
 ·by_cases hi:i < tabs.length
  ·obtain⟨t,sp,anc,g1,g2,g3⟩:=htb i hi
   rw[subHeap_tab g1] at ha;cases ha
  ·obtain⟨j,rfl⟩:∃ j,i=tabs.length+j:=⟨i - tabs.length,by omega⟩
   rw[subHeap_obj] at ha
   cases hj:os[j]? with
   | none=>rw[hj] at ha;cases ha
   | some o=>rw[hj] at ha;rw[Option.getD_some,plainO_anc (hpo o (List.mem_of_getElem? hj))] at ha;cases ha
 ·rw[subHeap_next] at hi
  obtain⟨j,rfl⟩:∃ j,i=tabs.length+j:=⟨i - tabs.length,by omega⟩
  rw[subHeap_obj,List.getElem?_eq_none (by omega)];rfl
 ·rw[hRs] at hc
  refine⟨(hs.ro c C hc).1,fun i β h=>?_⟩
  obtain⟨id,h1,h2⟩:=hRf i _ h
  by_cases hi:i < tabs.length
  ·obtain⟨t,sp,anc,g1,g2,g3⟩:=htb i hi
   rw[subHeap_tab g1];rfl
  ·obtain⟨d,h6⟩:=hget i id h1 (by omega)
   rw[(renObj_write h6).1]
   exact(hs.ro c C hc).2 id β h2
end
end Go.Sp
namespace Go.Sp

section
variable {P:Program} {tabs:List (List Value)}

theorem objF_ok (hne:∀ t∈tabs,t≠[]) (hpl:∀ t∈tabs,∀ x∈t,plain1 x=true) {g na:Nat} {rs:List Rt} {outs:List Bool} {f:List Value→Option Value} (hok:ObjOk P tabs na rs.length g f) {args:List Value} {H H':AHeap} {v:Value}
 (h:objF tabs na rs outs f args H=some (v,H')) :
 (∀ (as:Array Value) (w:World),(callFunc g as).run P w = .ok (.enter g as) w) ∧
 ∀ R w args',Sim H R w→GlR (List.range tabs.length) R→VRL R args args'→Calls P g ⟨args'⟩ w fun e w'=>∃ u R',e = .returned u∧VR R' v u∧Post H R w H' R' w':=by
 refine⟨hok.1,fun R w args' hs hgl ha=>?_⟩
 unfold objF at h
 dsimp only at h
 generalize hF:Fr.made (len args) args=F at h
 generalize hol:oldsOf F H rs (idents (len tabs))=olds at h
 have hm0:=oldsOf_keeps (F:=F) (H:=H) (rs:=rs) (o:=idents (len tabs))
 rw[hol] at hm0
 obtain⟨hc,h⟩:=bb_inv h
 obtain⟨htab,hc⟩:=an_inv hc
 obtain⟨hchk,hc⟩:=an_inv hc
 obtain⟨hlen,hc⟩:=an_inv hc
 obtain⟨hna,hwr⟩:=an_inv hc
 have hlen:=Nat.eq_of_beq_eq_true hlen
 have hna:=Nat.eq_of_beq_eq_true hna
 obtain⟨hroots,h⟩:=bb_inv h
 obtain⟨os,hos,h⟩:=oo_inv h
 obtain⟨as,has,h⟩:=oo_inv h
 obtain⟨z,hz,h⟩:=oo_inv h
 obtain⟨l,hl,h⟩:=oo_inv h
 simp only[len_eq,appL_eq,mapL_eq,dropL_eq] at hlen hna hwr hz hos hroots hm0
 cases l with
 | nil=>cases h
 | cons v0 es=>
 have h:oo (mapO decO es) none (fun os'=>
  bb (an (Nat.beq (len outs) (len os')) (Nat.ble (len rs) (len os')))
   (oo (mapO (backObj (invL olds H.next (len os' - len rs))) (zipL outs os')) none fun ns => oo (ren2 (invL olds H.next (len os' - len rs)) v0) none fun v' =>
     some (v',setJs (dropL (len tabs) olds) ns (H.kill (ancsOf H (dropL (len tabs) olds))))) none)=some (v,H'):=h
 obtain⟨os1,hdec,h⟩:=oo_inv h
 obtain⟨hc,h⟩:=bb_inv h
 obtain⟨ho1,ho2⟩:=an_inv hc
 have ho1:=Nat.eq_of_beq_eq_true ho1
 have ho2:=Nat.le_of_ble_eq_true ho2
 obtain⟨ns,hns,h⟩:=oo_inv h
 obtain⟨v',hv',h⟩:=oo_inv h
 injection h with h;injection h with e1 e2;subst e1;subst e2
 simp only[len_eq,dropL_eq] at ho1 ho2 hns hv' ⊢
 -- the numbers
 obtain⟨m0,hm0⟩:=hm0
 have hidx:∀ (i b:Nat),olds[i]?=some (some b)→idxOf b olds 0=some i:=fun i b hb=>by have:=idxChk_some hchk i b hb;simpa using this
 have hid:∀ i,i < tabs.length→olds[i]?=some (some i):=fun i hi=>by
  rw[hm0,List.getElem?_append_left (by rw[idents_length];exact hi),idents_get,if_pos hi]
 have uniq:∀ (i i' b:Nat),olds[i]?=some (some b)→olds[i']?=some (some b)→i=i':=fun i i' b h1 h2=>by
  have:=(hidx i b h1).symm.trans (hidx i' b h2);injection this
 have hinv:∀ (k id:Nat),olds[k]?=some (some id)→R.f id=none→EmptyO (H.get id):=by
  have:=olds_inv hs ha (len args) rs (idents tabs.length) (fun k id hk hr=>by
   rw[idents_get] at hk
   split at hk
   ·rename_i hlt
    injection hk with hk;injection hk with hk;subst hk
    rw[hgl k (by simpa using hlt)] at hr;cases hr
   ·cases hk) (by rw[hF];exact hroots)
  rw[hF] at this
  have e:oldsOf F H rs (idents tabs.length)=olds:=by rw[←hol,len_eq]
  rwa [e] at this
 -- the objects
 have hz1:(zipL (mapL Rt.deep rs) (olds.drop tabs.length)).length=rs.length:=by
  rw[zipL_length _ _ (by simp;omega)];simp
 obtain⟨ol,oget⟩:=mapO_some hos
 rw[mapL_eq] at hz1
 rw[hz1] at ol
 have hwrJ:∀ j id,olds[tabs.length+j]?=some (some id)→(H.get id).writable=true∧(H.get id).immB=false:=fun j id hj=>wrAll_ok hwr (i:=j) (by rw[List.getElem?_drop];exact hj)
 have hltJ:∀ j id,olds[tabs.length+j]?=some (some id)→id < H.next:=fun j id hj=>hs.wf.lt (fun h9=>by have:=(hwrJ j id hj).1;rw[h9] at this;cases this)
 have hob:∀ (j:Nat) q,olds[tabs.length+j]?=some q→∃ d o,os[j]?=some o∧newObj H [] olds (d,q)=some o:=fun j q hj=>by
  have hj2:(olds.drop tabs.length)[j]?=some q:=by rw[List.getElem?_drop];exact hj
  have hlt:j < (zipL (rs.map Rt.deep) (olds.drop tabs.length)).length:=by
   rw[hz1]
   have:=(List.getElem?_eq_some_iff.1 hj).1
   omega
  have hget:=List.getElem?_eq_getElem hlt
  obtain⟨_,g2⟩:=zipL_get _ _ _ _ hget
  obtain⟨b,hb,hf⟩:=oget j _ hget
  rw[hj2] at g2
  generalize (zipL (rs.map Rt.deep) (olds.drop tabs.length))[j]=p at hf g2
  obtain⟨d,o⟩:=p
  injection g2 with g2;simp only at g2;subst g2
  exact⟨d,b,hb,hf⟩
 have hosJ:∀ (j id:Nat),olds[tabs.length+j]?=some (some id)→∃ d o,os[j]?=some o∧renObj olds d false (H.get id)=some o:=fun j id hj=>hob j _ hj
 have hpo:∀ o∈os,plainO o:=fun o ho=>by
  obtain⟨j,hj⟩:=List.mem_iff_getElem?.1 ho
  have hlt:=(List.getElem?_eq_some_iff.1 hj).1
  obtain⟨q,hq⟩:∃ q,olds[tabs.length+j]?=some q:=⟨_,List.getElem?_eq_getElem (by omega)⟩
  obtain⟨d,o',h1,h2⟩:=hob j q hq
  rw[hj] at h1;injection h1 with h1;subst h1
  cases q with
  | none=>injection h2 with h2;exact .inl h2.symm
  | some id=>exact renObj_plain (wrAll_b hwr (i:=j) (by rw[List.getElem?_drop];exact hq)) (tr:=false) h2
 -- what the callee sees
 generalize hRs:(⟨fun i=>oo (nthL olds i) none fun o=>oo o none fun id=>R.f id,R.sz,R.ro⟩:Ren)=Rs
 have hRsf:∀ i id,olds[i]?=some (some id)→Rs.f i=R.f id:=fun i id hi=>by
  rw[←hRs]
  show oo (nthL olds i) none (fun o=>oo o none fun id=>R.f id)=_
  rw[nthL_eq,hi];rfl
 have hRsi:∀ i p,Rs.f i=some p→∃ id,olds[i]?=some (some id)∧R.f id=some p:=fun i p h=>by
  rw[←hRs] at h
  obtain⟨o,ho,h4⟩:=oo_inv (show oo (nthL olds i) none (fun o=>oo o none fun id=>R.f id)=some p from h)
  obtain⟨id,hi,h5⟩:=oo_inv h4
  subst hi
  exact⟨id,by simpa using ho,h5⟩
 have hRsz:Rs.sz=R.sz:=by rw[←hRs]
 have hRro:Rs.ro=R.ro:=by rw[←hRs]
 have hRn:Renum R Rs olds:=⟨fun b b' hb=>by
  obtain⟨_,h4⟩:=idxOf_some hb
  rw[Nat.sub_zero] at h4
  exact hRsf b' b h4,hRro,hRsz⟩
 have hsub:=sub_sim hs hgl hne hpl htab hRs.symm hRn hidx hid (by omega) hpo hosJ
 have has':VRL Rs as args':=mapO_VR (fun v u v'=>ren2_ok hRn) has ha
 have htabR:∀ i,i < tabs.length→Rs.f i=some (i,0):=fun i hi=>by rw[hRsf i i (hid i hi)];exact hgl i (by simpa using hi)
 have hemp:∀ (j:Nat) (o:AObj),os[j]?=some o→Rs.f (tabs.length+j)=none→EmptyO o:=fun j o hj hr=>by
  have hlt:=(List.getElem?_eq_some_iff.1 hj).1
  obtain⟨q,hq⟩:∃ q,olds[tabs.length+j]?=some q:=⟨_,List.getElem?_eq_getElem (by omega)⟩
  obtain⟨d,o',h1,h2⟩:=hob j q hq
  rw[hj] at h1;injection h1 with h1;subst h1
  cases q with
  | none=>injection h2 with h2;subst h2;trivial
  | some id =>
   rw[hRsf _ _ hq] at hr
   have he:=hinv _ id hq hr
   exact(calm_ren (tr:=false) he (Calm.refl _) h2).empty he
 have haslen:as.length=na:=by rw[has'.1,←ha.1];exact hna
 refine(hok.2 as os z haslen ol hpo hz Rs w args' htabR hemp hsub has').mono fun e w' ⟨u,v1,os2,H1,R1,he,hz',hu,hp,hk,hobs⟩=>?_
 -- the results
 have hpo2:∀ o∈os2,plainO o:=fun o ho=>by
  obtain⟨j,hj⟩:=List.mem_iff_getElem?.1 ho
  exact(hobs j o hj).2
 subst hz'
 have hl:v1=v0∧os2.map encO=es:=by
  have hl:some (v1::os2.map encO)=some (v0::es):=hl
  injection hl with hl;injection hl with a b;exact⟨a,b⟩
 obtain⟨rfl,rfl⟩:=hl
 rw[decOs_enc hpo2] at hdec
 injection hdec with hdec;subst hdec
 generalize hE:os2.length - rs.length=E at hns hv' ⊢
 have hz2:(zipL outs os2).length=os2.length:=by rw[zipL_length _ _ ho1];exact ho1
 obtain⟨nl,nget⟩:=mapO_some hns
 rw[hz2] at nl
 have hnsJ:∀ (j:Nat) o,os2[j]?=some o→∃ d o',ns[j]?=some o'∧renObj (invL olds H.next E) d false o=some o':=fun j o hj=>by
  have hlt:j < (zipL outs os2).length:=by rw[hz2];exact(List.getElem?_eq_some_iff.1 hj).1
  have hget:=List.getElem?_eq_getElem hlt
  obtain⟨_,g2⟩:=zipL_get _ _ _ _ hget
  obtain⟨b,hb,hf⟩:=nget j _ hget
  rw[hj] at g2
  generalize (zipL outs os2)[j]=p at hf g2
  obtain⟨d,o1⟩:=p
  injection g2 with g2;simp only at g2;subst g2
  exact⟨d,b,hb,hf⟩
 generalize hinvL:invL olds H.next E=inv at hns hv' hnsJ
 have iget:=invL_get olds H.next E
 rw[hinvL] at iget
 have hlt':∀ (i b:Nat),olds[i]?=some (some b)→b < H.next:=fun i b hi=>by
  by_cases h9:i < tabs.length
  ·rw[hid i h9] at hi;injection hi with hi;injection hi with hi;subst hi
   exact(hs.dom i i 0 (hgl i (by simpa using h9))).1
  ·obtain⟨j,rfl⟩:∃ j,i=tabs.length+j:=⟨i - tabs.length,by omega⟩
   exact hltJ j b hi
 -- a number here and there
 have A1:∀ (p i:Nat),inv[p]?=some (some i)→p < H.next→olds[i]?=some (some p):=fun p i h9 hlt=>by
  rw[iget,if_pos hlt] at h9
  injection h9 with h9
  obtain⟨_,h8⟩:=idxOf_some h9
  rwa [Nat.sub_zero] at h8
 have A2:∀ (p i:Nat),olds[i]?=some (some p)→inv[p]?=some (some i):=fun p i h9=>by rw[iget,if_pos (hlt' i p h9),hidx i p h9]
 have A3:∀ (p i:Nat),inv[p]?=some (some i)→¬ p < H.next→i=olds.length+(p - H.next)∧p < H.next+E:=fun p i h9 hge=>by
  rw[iget,if_neg hge] at h9
  split at h9
  ·injection h9 with h9;injection h9 with h9;exact⟨h9.symm,by assumption⟩
  ·cases h9
 have hlenO:olds.length=tabs.length+rs.length:=hlen
 have Auniq:∀ (p p' i:Nat),inv[p]?=some (some i)→inv[p']?=some (some i)→p=p':=fun p p' i h9 h8=>by
  by_cases a1:p < H.next
  ·have b1:=A1 p i h9 a1
   by_cases a2:p' < H.next
   ·have b2:=A1 p' i h8 a2
    rw[b1] at b2;injection b2 with b2;injection b2
   ·obtain⟨b2,_⟩:=A3 p' i h8 a2
    have:=(List.getElem?_eq_some_iff.1 b1).1
    omega
  ·obtain⟨b1,_⟩:=A3 p i h9 a1
   by_cases a2:p' < H.next
   ·have b2:=A1 p' i h8 a2
    have:=(List.getElem?_eq_some_iff.1 b2).1
    omega
   ·obtain⟨b2,_⟩:=A3 p' i h8 a2
    omega
 have htb:∀ i,i < tabs.length→∃ t sp anc,tabs[i]?=some t∧H.get i = .cells t true sp anc:=fun i hi=>by
  have ht:=List.getElem?_eq_getElem hi
  have:=tabsOk2_some htab i _ ht
  rw[Nat.zero_add] at this
  obtain⟨sp,anc,h⟩:=tab_imm this.1 this.2 (hne _ (List.getElem_mem hi))
  exact⟨_,sp,anc,ht,h⟩
 have subimm:∀ i,i < tabs.length→((subHeap tabs os).get i).immB=true:=fun i hi=>by
  obtain⟨t,sp,anc,g1,_⟩:=htb i hi
  rw[subHeap_tab g1];rfl
 -- who is forgotten
 generalize hanc:ancsOf H (olds.drop tabs.length)=ancs
 have ancm:∀ a,a∈ancs↔∃ j id,olds[tabs.length+j]?=some (some id)∧a∈(H.get id).ancOf:=fun a=>by
  rw[←hanc,ancsOf_mem]
  constructor
  ·rintro⟨j,id,h1,h2⟩;rw[List.getElem?_drop] at h1;exact⟨j,id,h1,h2⟩
  ·rintro⟨j,id,h1,h2⟩;exact⟨j,id,by rw[List.getElem?_drop];exact h1,h2⟩
 have ancw:∀ a,a∈ancs→(H.get a).immB=false∧(H.get a).writable=false:=fun a h9=>by
  obtain⟨j,id,h1,h2⟩:=(ancm a).1 h9
  exact(hs.anc id a h2).2
 -- the heap behind the call
 generalize hH2:setJs (olds.drop tabs.length) ns (H.kill ancs)=H2
 have hjl:(olds.drop tabs.length).length≤ns.length:=by rw[List.length_drop,nl];omega
 have hnext:H2.next=H.next+E:=by
  rw[←hH2,setJs_next _ _ _ hjl,AHeap.next_kill,List.length_drop,nl];omega
 have gOld:∀ p,(∀ j:Nat,olds[tabs.length+j]?≠some (some p))→p < H.next→H2.get p=if p∈ancs then .dead else H.get p:=fun p h9 hlt=>by
  rw[←hH2,setJs_other _ _ _ _ hjl (fun i=>by rw[List.getElem?_drop];exact h9 i),AHeap.next_kill,if_neg (by omega),AHeap.get_kill]
 have gJ:∀ (p j:Nat),olds[tabs.length+j]?=some (some p)→H2.get p=(ns[j]?).getD .dead:=fun p j hj=>by
  rw[←hH2]
  exact setJs_at _ _ _ p j hjl (by rw[List.getElem?_drop];exact hj) (fun i' h9=>by rw[List.getElem?_drop] at h9;have:=uniq _ _ _ h9 hj;omega) (by rw[AHeap.next_kill];exact hltJ j p hj)
 have gN:∀ q,q < E→H2.get (H.next+q)=(ns[rs.length+q]?).getD .dead:=fun q hq=>by
  rw[←hH2,setJs_other _ _ _ _ hjl (fun i h9=>by rw[List.getElem?_drop] at h9;have:=hltJ i _ h9;omega),AHeap.next_kill,if_pos ⟨by omega,by rw[List.length_drop,nl];omega⟩,List.length_drop]
  congr 2
  omega
 have gTab:∀ i,i < tabs.length→H2.get i=H.get i:=fun i hi=>by
  obtain⟨t,sp,anc,_,g2⟩:=htb i hi
  rw[gOld i (fun j h9=>by have:=uniq _ _ _ h9 (hid i hi);omega) ((hs.dom i i 0 (hgl i (by simpa using hi))).1),if_neg]
  intro h9
  have:=(ancw i h9).1
  rw[g2] at this;cases this
 have gA:∀ (p i:Nat),inv[p]?=some (some i)→tabs.length≤i→∃ d o',renObj inv d false (H1.get i)=some o'∧H2.get p=o'∧plainO (H1.get i):=fun p i h9 hi=>by
  obtain⟨j,rfl⟩:∃ j,i=tabs.length+j:=⟨i - tabs.length,by omega⟩
  have hj:j < os2.length:=by
   by_cases hlt:p < H.next
   ·have:=(List.getElem?_eq_some_iff.1 (A1 p _ h9 hlt)).1;omega
   ·have:=A3 p _ h9 hlt;omega
  obtain⟨o,ho⟩:∃ o,os2[j]?=some o:=⟨_,List.getElem?_eq_getElem hj⟩
  obtain⟨d,o',n1,n2⟩:=hnsJ j o ho
  obtain⟨b1,b2⟩:=hobs j o ho
  refine⟨d,o',by rw[b1];exact n2,?_,by rw[b1];exact b2⟩
  by_cases hlt:p < H.next
  ·rw[gJ p j (A1 p _ h9 hlt),n1];rfl
  ·obtain⟨c1,c2⟩:=A3 p _ h9 hlt
   rw[show p=H.next+(p - H.next) by omega,gN _ (by omega),show rs.length+(p - H.next)=j by omega,n1];rfl
 have gB:∀ p:Nat,(∀ i:Nat,inv[p]?≠some (some i))→H2.get p = .dead∨H2.get p=H.get p:=fun p h9=>by
  by_cases hlt:p < H.next
  ·rw[gOld p (fun j h8=>h9 _ (A2 p _ h8)) hlt]
   split
   ·exact .inl rfl
   ·exact .inr rfl
  ·by_cases h7:p < H.next+E
   ·exact absurd (by rw[iget,if_neg hlt,if_pos h7]) (h9 (olds.length+(p - H.next)))
   ·right
    rw[←hH2,setJs_other _ _ _ _ hjl (fun i h9=>by rw[List.getElem?_drop] at h9;have:=hltJ i _ h9;omega),AHeap.next_kill,if_neg (by rw[List.length_drop,nl];omega),AHeap.get_kill]
    split
    ·exact(hs.wf p (by omega)).symm
    ·rfl
 have gBk:∀ p:Nat,(∀ i:Nat,inv[p]?≠some (some i))→p∈ancs→H2.get p = .dead:=fun p h9 ha=>by
  have hlt:p < H.next:=by
   obtain⟨j,id,h1,h2⟩:=(ancm p).1 ha
   exact(hs.anc id p h2).1
  rw[gOld p (fun j h8=>h9 _ (A2 p _ h8)) hlt,if_pos ha]
 -- sizes
 have hszle:∀ i c β,Rs.f i=some (c,β)→R1.f i=some (c,β)∧R1.sz c=R.sz c:=fun i c β h9=>by
  have:=hp.le i c β h9
  rw[hRsz] at this;exact this
 generalize hsz2:(fun c=>@ite _ (∃ id β,R.f id=some (c,β)) (Classical.propDecidable _) (R.sz c) (R1.sz c):Nat→Nat)=sz2
 have sz2R:∀ id c β,R.f id=some (c,β)→sz2 c=R.sz c:=fun id c β h9=>by rw[←hsz2];exact if_pos ⟨id,β,h9⟩
 have sz21:∀ i c β,R1.f i=some (c,β)→sz2 c=R1.sz c:=fun i c β h9=>by
  by_cases hex : ∃ id β', R.f id = some (c, β')
  ·obtain ⟨id, β', hR⟩ := hex
   rw [sz2R id c β' hR]
   rcases hp.new i _ h9 with h8 | ⟨h8,_⟩
   ·exact(hszle i c β h8).2.symm
   ·rcases hp.fresh i c β h9 h8 with h7 | ⟨i0,β0,h7,_⟩
    ·have := (hs.dom id c β' hR).2; omega
    ·exact(hszle i0 c β0 h7).2.symm
  ·rw[←hsz2];exact if_neg hex
 have hle1:R1.le ⟨R1.f,sz2,R1.ro⟩:=⟨fun i c β h9=>⟨h9,sz21 i c β h9⟩,fun _ _ h9=>h9⟩
 generalize hR2:(⟨fun p=>match inv[p]? with | some (some i)=>R1.f i | _=>R.f p,sz2,R1.ro⟩:Ren)=R2
 have R2A:∀ (p i:Nat),inv[p]?=some (some i)→R2.f p=R1.f i:=fun p i h9=>by rw[←hR2];simp[h9]
 have R2B:∀ p:Nat,(∀ i:Nat,inv[p]?≠some (some i))→R2.f p=R.f p:=fun p h9=>by
  rw[←hR2]
  show (match inv[p]? with | some (some i)=>R1.f i | _=>R.f p)=_
  split
  ·rename_i i h8;exact absurd h8 (h9 i)
  ·rfl
 have R2sz:R2.sz=sz2:=by rw[←hR2]
 have R2ro:R2.ro=R1.ro:=by rw[←hR2]
 have hRn2:Renum ⟨R1.f,sz2,R1.ro⟩ R2 inv:=⟨fun b b' hb=>by
  obtain⟨_,h4⟩:=idxOf_some hb
  rw[Nat.sub_zero] at h4
  exact R2A b' b h4,R2ro,R2sz⟩
 have cls:∀ p:Nat,(∃ i:Nat,inv[p]?=some (some i))∨∀ i:Nat,inv[p]?≠some (some i):=fun p=>by
  by_cases h9:∃ i:Nat,inv[p]?=some (some i)
  ·exact .inl h9
  ·exact .inr fun i h8=>h9 ⟨i,h8⟩
 have ledom:∀ id c β,R.f id=some (c,β)→R2.f id=some (c,β):=fun id c β h9=>by
  rcases cls id with⟨i,hi⟩ | hB
  ·rw[R2A id i hi]
   have:=A1 id i hi (hs.dom id c β h9).1
   exact(hszle i c β (by rw[hRsf i id this];exact h9)).1
  ·rw[R2B id hB];exact h9
 have hle2:R.le R2:=⟨fun id c β h9=>⟨ledom id c β h9,by rw[R2sz];exact sz2R id c β h9⟩,fun c C h9=>by rw[R2ro];exact hp.le.ro c C (by rw[hRro];exact h9)⟩
 -- a block that the callee knows and another number of the caller
 have sepJ : ∀ (j id p c β β' : Nat), olds[tabs.length + j]? = some (some id) → R.f id = some (c, β) → R.f p = some (c, β') → p ≠ id → H.get p = .dead ∨ p ∈ ancs := fun j id p c β β' hj h1 h2 hne => by
  rcases hs.sep id c β p β' h1 h2 (fun e => hne e.symm) (hwrJ j id hj).1 with h9 | ⟨h9, _⟩
  ·exact .inl h9
  ·exact .inr ((ancm p).2 ⟨j,id,hj,h9⟩)
 have deadB : ∀ (j id p c β β' : Nat), olds[tabs.length + j]? = some (some id) → R.f id = some (c, β) → R.f p = some (c, β') → (∀ i : Nat, inv[p]? ≠ some (some i)) → H2.get p = .dead := fun j id p c β β' hj h1 h2 hB => by
  rcases sepJ j id p c β β' hj h1 h2 (fun e => by subst e; exact hB _ (A2 p _ hj)) with h9 | h9
  ·rcases gB p hB with h8 | h8
   ·exact h8
   ·rw[h8];exact h9
  ·exact gBk p hB h9
 -- where the callee's block is one of the caller's
 have shareJ : ∀ (i c β p β' : Nat), R1.f i = some (c, β) → tabs.length ≤ i → R.f p = some (c, β') → ∃ j id β0, olds[tabs.length + j]? = some (some id) ∧ R.f id = some (c, β0) := fun i c β p β' h1 hi h2 => by
  have hcs := (hs.dom p c β' h2).2
  have toJ:∀ i0 β0,Rs.f i0=some (c,β0)→tabs.length≤i0→∃ j id β0,olds[tabs.length+j]?=some (some id)∧R.f id=some (c,β0):=fun i0 β0 h9 hi0=>by
   obtain⟨id,h8,h7⟩:=hRsi i0 _ h9
   exact⟨i0 - tabs.length,id,β0,by rw[show tabs.length+(i0 - tabs.length)=i0 by omega];exact h8,h7⟩
  rcases hp.new i _ h1 with h9 | ⟨h9,_⟩
  ·exact toJ i β h9 hi
  ·rcases hp.fresh i c β h1 h9 with h8 | ⟨i0,β0,h8,h7⟩
   ·omega
   ·refine toJ i0 β0 h8 ?_
    apply Nat.le_of_not_lt
    intro hlt
    rw[subimm i0 hlt] at h7;cases h7
 have keepB:∀ (p c β:Nat),R.f p=some (c,β)→(∀ i:Nat,inv[p]?≠some (some i))→H2.get p ≠ .dead→w'.heap[c]?=w.heap[c]?:=fun p c β h1 hB hd=>by
  refine hp.frame c (hs.dom p c β h1).2 fun i β' h9 => ?_
  by_cases hi:i < tabs.length
  ·exact subimm i hi
  ·obtain⟨id,h8,h7⟩:=hRsi i _ h9
   exact absurd (deadB (i - tabs.length) id p c β' β (by rw [show tabs.length + (i - tabs.length) = i by omega]; exact h8) h7 h1 hB) hd
 have keepT:∀ i,i < tabs.length→w'.heap[i]?=w.heap[i]?:=fun i hi=>by
  obtain⟨t,sp,anc,_,g2⟩:=htb i hi
  have h1:=hgl i (by simpa using hi)
  refine hp.frame i (hs.dom i i 0 h1).2 fun i' β' h9 => ?_
  by_cases hi':i' < tabs.length
  ·exact subimm i' hi'
  ·obtain⟨id,h8,h7⟩:=hRsi i' _ h9
   have hj:olds[tabs.length+(i' - tabs.length)]?=some (some id):=by rw[show tabs.length+(i' - tabs.length)=i' by omega];exact h8
   rcases sepJ _ id i i β' 0 hj h7 h1 (fun e => by subst e; have := uniq _ _ _ h8 (hid i hi); omega) with h6 | h6
   ·rw[g2] at h6;cases h6
   ·have:=(ancw i h6).1
    rw[g2] at this;cases this
 have wfH2:H2.wf:=by
  rw[←hH2]
  exact setJs_wf (hs.wf.kill ancs) fun i id h9=>by rw[AHeap.next_kill];rw[List.getElem?_drop] at h9;exact hltJ i id h9
 have isTab:∀ (p i:Nat),inv[p]?=some (some i)→i < tabs.length→p=i:=fun p i h9 hi=>Auniq p i i h9 (A2 i i (hid i hi))
 have tabW:∀ i,i < tabs.length→(H2.get i).writable=false∧(H2.get i).immB=true:=fun i hi=>by
  obtain⟨t,sp,anc,_,g2⟩:=htb i hi
  rw[gTab i hi,g2];exact⟨rfl,rfl⟩
 have hsim2:Sim H2 R2 w':=by
  refine ⟨fun p c β h9 => ?_, fun p c β h9 => ?_, fun p c β p' β' h9 h9' hne' hw => ?_, fun p a h9 => ?_, wfH2, fun c C h9 => ?_⟩
  ·rw[hnext]
   rcases cls p with⟨i,hi⟩ | hB
   ·rw[R2A p i hi] at h9
    refine⟨?_,(hp.sim.dom i c β h9).2⟩
    by_cases hlt:p < H.next
    ·omega
    ·exact(A3 p i hi hlt).2
   ·rw[R2B p hB] at h9
    have:=hs.dom p c β h9
    exact⟨by omega,Nat.lt_of_lt_of_le this.2 hp.grow⟩
  ·rcases cls p with⟨i,hi⟩ | hB
   ·by_cases hlt:i < tabs.length
    ·have:=isTab p i hi hlt
     subst this
     have h8:=hgl p (by simpa using hlt)
     rw[ledom p p 0 h8] at h9
     injection h9 with h9;injection h9 with e1 e2;subst e1;subst e2
     rw[gTab p hlt,keepT p hlt]
     exact(hs.obj p p 0 h8).mono hle2 (hle2 p p 0 h8).2
    ·obtain⟨d,o',k1,k2,k3⟩:=gA p i hi (by omega)
     rw[R2A p i hi] at h9
     rw[k2]
     exact renObj_ok hRn2 k1 (fun h=>by cases h) ((hp.sim.obj i c β h9).mono hle1 (sz21 i c β h9))
   ·have h8:=h9
    rw[R2B p hB] at h8
    rcases gB p hB with h7 | h7
    ·rw[h7];trivial
    ·by_cases hd:H2.get p = .dead
     ·rw[hd];trivial
     ·rw[h7,keepB p c β h8 hB hd]
      exact(hs.obj p c β h8).mono hle2 (hle2 p c β h8).2
  ·rcases cls p with⟨i,hi⟩ | hB
   ·by_cases hlt:i < tabs.length
    ·have:=isTab p i hi hlt
     subst this
     rw[(tabW p hlt).1] at hw;cases hw
    ·obtain⟨d,o',k1,k2,k3⟩:=gA p i hi (by omega)
     rw[R2A p i hi] at h9
     rcases cls p' with⟨i',hi'⟩ | hB'
     ·rw[R2A p' i' hi'] at h9'
      have hii:i≠i':=fun e=>by subst e;exact hne' (Auniq p p' i hi hi')
      have hw1:(H1.get i).writable=true:=by rw[←(renObj_write k1).1,←k2];exact hw
      rcases hp.sim.sep i c β i' β' h9 h9' hii hw1 with h7 | ⟨h7, _⟩
      ·by_cases hlt':i' < tabs.length
       ·obtain⟨t,sp,anc,g1,_⟩:=htb i' hlt'
        have h6:=hp.imm i' (by rw[subHeap_next];omega) (subimm i' hlt')
        rw[h7,subHeap_tab g1] at h6;cases h6
       ·obtain⟨d',o2,q1,q2,q3⟩:=gA p' i' hi' (by omega)
        left
        rw[h7] at q1
        injection q1 with q1
        rw[q2,←q1]
      ·rw[plainO_anc k3] at h7;cases h7
     ·rw[R2B p' hB'] at h9'
      obtain ⟨j, id, β0, q1, q2⟩ := shareJ i c β p' β' h9 (by omega) h9'
      exact .inl (deadB j id p' c β0 β' q1 q2 h9' hB')
   ·have hwp : H2.get p = H.get p := by
     rcases gB p hB with h7 | h7
     ·rw[h7] at hw;cases hw
     ·exact h7
    rw[R2B p hB] at h9
    rcases cls p' with⟨i',hi'⟩ | hB'
    ·rw[R2A p' i' hi'] at h9'
     by_cases hlt':i' < tabs.length
     ·have:=isTab p' i' hi' hlt'
      subst this
      have h8:=hgl p' (by simpa using hlt')
      have h7:=ledom p' p' 0 h8
      rw[R2A p' p' hi'] at h7
      rw[h7] at h9'
      injection h9' with h9';injection h9' with e1 e2;subst e1;subst e2
      obtain⟨t,sp,anc,_,g2⟩:=htb p' hlt'
      rcases hs.sep p p' β p' 0 h9 h8 hne' (by rw[←hwp];exact hw) with h6 | ⟨h6,_⟩
      ·rw[g2] at h6;cases h6
      ·have:=(hs.anc p p' h6).2.1
       rw[g2] at this;cases this
     ·obtain ⟨j, id, β0, q1, q2⟩ := shareJ i' c β' p β h9' (by omega) h9
      have:=deadB j id p c β0 β q1 q2 h9 hB
      rw[this] at hw;cases hw
    ·rw[R2B p' hB'] at h9'
     rcases hs.sep p c β p' β' h9 h9' hne' (by rw [← hwp]; exact hw) with h6 | ⟨h6, h5⟩
     ·left
      rcases gB p' hB' with h7 | h7
      ·exact h7
      ·rw[h7];exact h6
     ·rcases gB p' hB' with h7 | h7
      ·exact .inl h7
      ·right
       rw[hwp,h7];exact⟨h6,h5⟩
  ·have hcase : ∀ q, H2.get q = H.get q ∨ H2.get q = .dead → a ∈ (H2.get q).ancOf → a < H2.next ∧ (H2.get a).immB = false ∧ (H2.get a).writable = false := fun q hq h8 => by
    rcases hq with hq | hq
    ·rw[hq] at h8
     obtain⟨b1,b2,b3⟩:=hs.anc q a h8
     refine⟨by omega,?_⟩
     rcases cls a with⟨i,hi⟩ | hB
     ·by_cases hlt:i < tabs.length
      ·have:=isTab a i hi hlt
       subst this
       obtain⟨t,sp,anc,_,g2⟩:=htb a hlt
       rw[g2] at b2;cases b2
      ·have h7:=A1 a i hi b1
       have:=(hwrJ (i - tabs.length) a (by rw[show tabs.length+(i - tabs.length)=i by omega];exact h7)).1
       rw[b3] at this;cases this
     ·rcases gB a hB with h7 | h7
      ·rw[h7];exact⟨rfl,rfl⟩
      ·rw[h7];exact⟨b2,b3⟩
    ·rw[hq] at h8;cases h8
   rcases cls p with⟨i,hi⟩ | hB
   ·by_cases hlt:i < tabs.length
    ·have:=isTab p i hi hlt
     subst this
     exact hcase p (.inl (gTab p hlt)) h9
    ·obtain⟨d,o',k1,k2,k3⟩:=gA p i hi (by omega)
     rw[k2,(renObj_write k1).2.2.1] at h9;cases h9
   ·exact hcase p ((gB p hB).symm) h9
  ·rw[R2ro] at h9
   refine⟨(hp.sim.ro c C h9).1,fun p β h8=>?_⟩
   rcases cls p with⟨i,hi⟩ | hB
   ·by_cases hlt:i < tabs.length
    ·have:=isTab p i hi hlt
     subst this
     exact(tabW p hlt).1
    ·obtain⟨d,o',k1,k2,k3⟩:=gA p i hi (by omega)
     rw[R2A p i hi] at h8
     rw[k2,(renObj_write k1).1]
     exact(hp.sim.ro c C h9).2 i β h8
   ·rw[R2B p hB] at h8
    have done':(H.get p).writable=false→(H2.get p).writable=false:=fun h7=>by
     rcases gB p hB with h6 | h6
     ·rw[h6];rfl
     ·rw[h6];exact h7
    rcases hp.rofresh c C h9 with h7 | h7 | ⟨i0,β0,h7,h6⟩
    ·rw[hRro] at h7
     exact done' ((hs.ro c C h7).2 p β h8)
    ·have:=(hs.dom p c β h8).2;omega
    ·obtain⟨id,q1,q2⟩:=hRsi i0 _ h7
     by_cases hlt:i0 < tabs.length
     ·rw[subimm i0 hlt] at h6;cases h6
     ·rw[deadB (i0 - tabs.length) id p c β0 β (by rw[show tabs.length+(i0 - tabs.length)=i0 by omega];exact q1) q2 h8 hB];rfl
 refine⟨u,R2,he,ren2_ok hRn2 (hu.mono hle1) hv',⟨hle2,fun p q h9=>?_,hsim2,by rw[hnext];omega,hp.grow,fun c hc hall=>?_,fun p hlt hr Q c β ob h9=>?_,fun p hlt him=>?_,fun p c β h9 h8=>?_,hp.side,fun c C h9=>?_⟩⟩
 ·rcases cls p with⟨i,hi⟩ | hB
  ·rw[R2A p i hi] at h9
   by_cases hlt:p < H.next
   ·have h8:=A1 p i hi hlt
    rcases hp.new i q h9 with h7 | ⟨h7,h6⟩
    ·left;rw[←hRsf i p h8];exact h7
    ·rw[subHeap_next] at h6
     have:=(List.getElem?_eq_some_iff.1 h8).1
     omega
   ·right
    refine⟨?_,by omega⟩
    cases h7:R.f p with
    | none=>rfl
    | some x=>have:=(hs.dom p x.1 x.2 h7).1;omega
  ·rw[R2B p hB] at h9;exact .inl h9
 ·refine hp.frame c hc fun i β h9=>?_
  by_cases hi:i < tabs.length
  ·exact subimm i hi
  ·obtain⟨id,h8,h7⟩:=hRsi i _ h9
   have h6:=hall id β h7
   rw[(hwrJ (i - tabs.length) id (by rw[show tabs.length+(i - tabs.length)=i by omega];exact h8)).2] at h6;cases h6
 ·rcases cls p with⟨i,hi⟩ | hB
  ·have h8:=A1 p i hi hlt
   by_cases hlt2:i < tabs.length
   ·have:=isTab p i hi hlt2
    subst this
    rw[gTab p hlt2];exact h9
   ·obtain⟨d,o',k1,k2,k3⟩:=gA p i hi (by omega)
    have he:=hinv i p h8 hr
    obtain⟨j,rfl⟩:∃ j,i=tabs.length+j:=⟨i - tabs.length,by omega⟩
    obtain⟨d2,o2,q1,q2⟩:=hosJ j p h8
    have c1:Calm (H.get p) o2:=calm_ren (tr:=false) he (Calm.refl _) q2
    have c2:Calm o2 (H1.get (tabs.length+j)):=fun Q c β ob h7=>by
     have:=hp.calm (tabs.length+j) (by rw[subHeap_next];have:=(List.getElem?_eq_some_iff.1 h8).1;omega) (by rw[hRsf _ _ h8];exact hr) Q c β ob
     rw[subHeap_obj,q1] at this
     exact this h7
    rw[k2]
    exact calm_ren (tr:=false) he (c1.trans c2) k1 Q c β ob h9
  ·rcases gB p hB with h7 | h7
   ·rw[h7];trivial
   ·rw[h7];exact h9
 ·rcases cls p with⟨i,hi⟩ | hB
  ·by_cases hlt2:i < tabs.length
   ·have:=isTab p i hi hlt2
    subst this
    exact gTab p hlt2
   ·have h8:=A1 p i hi hlt
    rw[(hwrJ (i - tabs.length) p (by rw[show tabs.length+(i - tabs.length)=i by omega];exact h8)).2] at him;cases him
  ·rw[gOld p (fun j h8=>hB _ (A2 p _ h8)) hlt,if_neg]
   intro h7
   rw[(ancw p h7).1] at him;cases him
 ·rcases cls p with⟨i,hi⟩ | hB
  ·rw[R2A p i hi] at h9
   have h7:Rs.f i=none:=by
    by_cases hlt:p < H.next
    ·rw[hRsf i p (A1 p i hi hlt)];exact h8
    ·obtain⟨b1,_⟩:=A3 p i hi hlt
     cases h6:Rs.f i with
     | none=>rfl
     | some x =>
      obtain⟨id,q1,_⟩:=hRsi i _ h6
      have:=(List.getElem?_eq_some_iff.1 q1).1
      omega
   rcases hp.fresh i c β h9 h7 with h6 | ⟨i0,β0,h6,h5⟩
   ·exact .inl h6
   ·obtain⟨id,q1,q2⟩:=hRsi i0 _ h6
    by_cases hlt:i0 < tabs.length
    ·rw[subimm i0 hlt] at h5;cases h5
    ·exact .inr ⟨id,β0,q2,(hwrJ (i0 - tabs.length) id (by rw[show tabs.length+(i0 - tabs.length)=i0 by omega];exact q1)).2⟩
  ·rw[R2B p hB,h8] at h9;cases h9
 ·rw[R2ro] at h9
  rcases hp.rofresh c C h9 with h7 | h7 | ⟨i0,β0,h7,h6⟩
  ·exact .inl (by rw[←hRro];exact h7)
  ·exact .inr (.inl h7)
  ·obtain⟨id,q1,q2⟩:=hRsi i0 _ h7
   by_cases hlt:i0 < tabs.length
   ·rw[subimm i0 hlt] at h6;cases h6
   ·exact .inr (.inr ⟨id,β0,q2,(hwrJ (i0 - tabs.length) id (by rw[show tabs.length+(i0 - tabs.length)=i0 by omega];exact q1)).2⟩)
end
end Go.Sp
