/- Made from wip. -/
import Derived.Test.YtciohfkjabeooaaGreatDoorSpRun
import Derived.Laws.IdiomRangeMap

namespace Go.Sp

structure Ar (P:Program) (gl:List Nat) (f:FuncId) (r:Xq):Prop where
 ok : ∃ fd c, P.funcs[f]? = some fd ∧ fd.body = some c ∧ fd.ntmps = r.n ∧ fd.results.toList = r.results ∧ (fd.name == "runtime.NumGoroutine") = false ∧ Fx c r.body ∧ AU gl c = true

theorem A9 {P:Program} {gl:List Nat} {f:FuncId} {r:Xq} (h:Ar P gl f r) (as:Array Value) (w:World):(callFunc f as).run P w = .ok (.enter f as) w:=by
 obtain⟨fd,c,h1,h2,_,_,h5,_⟩:=h.ok
 have h5 : ¬ fd.name = "runtime.NumGoroutine" := by simpa using h5
 simp[callFunc,h1,h2,h5]

def Gd (tmps:Array Value):ResultVar→Sem Value
 | .tmp t=>pure (tmps.getD t undef)
 | .cell a t=>do loadVar t (←asAddr (tmps.getD a undef))

section
variable {P:Program} {tt:TT} (hT:Jm P tt)

include hT in
theorem VD {H:Aa} {R:Ren} {w:World} (hs:Ck H R w) {F:Fr} {tmps:Array Value} (ht:∀ t,VR R (F.get t) (tmps.getD t undef)) {r:ResultVar} {v:Value} (h:Q6 tt F H r=some v) :
 ∃ u,(Gd tmps r).run P w = .ok u w∧VR R v u:=by
 cases r with
 | tmp t=>injection h with h;subst h;exact⟨_,rfl,ht t⟩
 | cell a t =>
  have h:Ma tt H t (F.get a)=some v:=h
  have ha:=ht a
  obtain⟨i,hi,h1⟩:=Ab h
  cases hp:FO (F.get a) with
  | some p =>
   rw[hp,Ac,Bg] at h1
   obtain⟨o,ho,h3⟩:=Ab h1
   rw[Dg hp] at ha
   obtain⟨c,β,hid,hc'⟩:=ha.ptr_l
   obtain⟨C,ty,fz,hC,_,hfit,hc⟩:=hs.cells hid ho
   obtain⟨u,hu,hv⟩:=Ia hT hi h3 hC hfit hc
   exact⟨u,by simp[Gd,hc',asAddr,hu],hv⟩
  | none =>
   rw[hp,Az] at h1
   obtain⟨q,hq,h2⟩:=Ab h1
   obtain⟨c,o,C,hro,hc',hfit,hcr,_⟩:=ha.fp_l hq
   obtain⟨⟨ty,fz,hC⟩,_⟩:=hs.ro c C hro
   obtain⟨u,hu,hv⟩:=Ia hT hi h2 hC hfit hcr
   exact⟨u,by simp[Gd,hc',asAddr,hu],hv⟩

include hT in
theorem Rw {H:Aa} {R:Ren} {w:World} (hs:Ck H R w) {F:Fr} {tmps:Array Value} (ht:∀ t,VR R (F.get t) (tmps.getD t undef)) {rs:List ResultVar} {vs:List Value} (h:Ll tt F H rs=some vs) :
 ∃ us,(rs.mapM (Gd tmps):Sem (List Value)).run P w = .ok us w∧Cf R vs us:=by
 induction rs generalizing vs with
 | nil=>injection h with h;subst h;exact⟨[],by simp,.nil⟩
 | cons r rs ih =>
  obtain⟨v,hv,h1⟩:=Ab (show oo (Q6 tt F H r) none (fun v=>oo (Ll tt F H rs) none fun l=>some (v::l))=some vs from h)
  obtain⟨l,hl,h2⟩:=Ab h1
  injection h2 with h2;subst h2
  obtain⟨u,hu,huv⟩:=VD hT hs ht hv
  obtain⟨us,hus,husv⟩:=ih hl
  exact⟨u::us,by simp[List.mapM_cons,hu,hus],.cons huv husv⟩

include hT in
theorem IW {H:Aa} {R:Ren} {w:World} (hs:Ck H R w) {F:Fr} {tmps:Array Value} (ht:∀ t,VR R (F.get t) (tmps.getD t undef)) {fd:Func} {v:Value} (h:DV tt F H fd.results.toList=some v) :
 ∃ u,(results fd tmps).run P w = .ok u w∧VR R v u:=by
 obtain⟨vs,hvs,h1⟩:=Ab h
 obtain⟨us,hus,hl⟩:=Rw hT hs ht hvs
 have hrun:(fd.results.mapM (Gd tmps):Sem (Array Value)).run P w = .ok us.toArray w:=by
  rw[Array.mapM_eq_mapM_toList,Sem.run_map,hus];rfl
 have hres:(results fd tmps).run P w = .ok (if h:us.toArray.size=1 then us.toArray[0] else .tuple us.toArray) w:=by
  have:results fd tmps=(do let vs ←fd.results.mapM (Gd tmps);pure (if h:vs.size=1 then vs[0] else .tuple vs)):=by
   unfold results Gd;rfl
  rw[this]
  simp only[Sem.run_bind,hrun,Result.andThen_ok,Sem.run_pure]
 refine⟨_,hres,?_⟩
 cases vs with
 | nil =>
  injection h1 with h1;subst h1
  rw[hl.unnil];exact .tuple rfl Cf.nil.2
 | cons a r =>
  cases r with
  | nil =>
   injection h1 with h1;subst h1
   obtain⟨b,rfl,hb⟩:=hl.un1
   simpa using hb
  | cons b r =>
   injection h1 with h1;subst h1
   have hlen:=hl.1
   rw[dif_neg (by simp at hlen ⊢;omega)]
   exact .tuple hl.1 hl.2

noncomputable def aY (tt:TT) (K7:FuncId→Option Xq) (call:A8) (n:Nat):A8:=fun f args H=>oo (K7 f) none fun fn=>bb (Nat.ble (len args) fn.n) (Xr tt fn.results (MZ tt call n fn.body (Fr.made fn.n args) H)) none
include hT in
theorem Qd {gl:List Nat} {K7:FuncId→Option Xq} (hf:∀ f r,K7 f=some r→Ar P gl f r) (hm:P.follows .mixedOrders=true) {call:A8} (ih:CO P gl call) (n:Nat):CO P gl (aY tt K7 call n):=by
 intro g args H v H' h
 obtain⟨r,hr,h1⟩:=Ab (show oo (K7 g) none (fun fn=>bb (Nat.ble (len args) fn.n) (Xr tt fn.results (MZ tt call n fn.body (Fr.made fn.n args) H)) none)=some (v,H') from h)
 have hfn:=hf g r hr
 refine⟨A9 hfn,fun R w args' hs hgl ha=>?_⟩
 obtain⟨fd,c,e1,e2,e3,e4,_,hcomp,hok⟩:=hfn.ok
 obtain⟨hle,h2⟩:=Ae h1
 have hle:=Nat.le_of_ble_eq_true hle
 rw[AV] at hle
 obtain⟨s,hs1,h3⟩:=Ab h2
 have hres:DV tt s.F s.H r.results=some v∧s.H=H'∧(s.e.exit' = .normal∨s.e.exit' = .ret):=by
  obtain⟨e,F,H2⟩:=s
  cases e with
  | normal=>obtain⟨k1,k2⟩:=Bl h3;exact⟨k1,k2.symm,.inl rfl⟩
  | exit j=>cases h3
  | goto j=>cases h3
  | ret=>obtain⟨k1,k2⟩:=Bl h3;exact⟨k1,k2.symm,.inr rfl⟩
 obtain⟨hres,rfl,hex⟩:=hres
 refine calls_of_wp e1 e2 ?_
 have hlen:=ha.1
 have hsize:((⟨args'⟩:Array Value)++Array.replicate (fd.ntmps - (⟨args'⟩:Array Value).size) undef).size=r.n:=by simp;omega
 refine aX hT ih hm hcomp n hok (Fr.made r.n args) H R _ w s hs1 hs hgl (by rw[Fr.n_made];exact hsize.symm) (fun t=>?_) _ fun a' w' R' k1 k2 k3 k4 k5=>?_
 ·rw[Fr.get_made,Array.getD_eq_getD_getElem?]
  show VR R _ (((⟨args'⟩:Array Value)++Array.replicate (fd.ntmps - (⟨args'⟩:Array Value).size) undef)[t]?.getD undef)
  rw[Array.getElem?_append]
  by_cases hlt:t < args'.length
  ·rw[if_pos (by simpa using hlt)]
   obtain ⟨x, hx⟩ : ∃ x, args[t]? = some x := ⟨args[t]'(by omega), by simp⟩
   obtain⟨y,hy,hv⟩:=ha.get hx
   rw[hx,show (⟨args'⟩:Array Value)[t]?=some y by simpa using hy]
   exact hv
  ·rw[if_neg (by simpa using hlt),List.getElem?_eq_none (by omega),Array.getElem?_replicate]
   exact .any _
 ·rw[←e4] at hres
  obtain⟨u,hu,huv⟩:=IW hT k5.sim k4 hres
  have:bodyPost P fd (fun e w'=>∃ u R',e = .returned u∧VR R' v u∧Ba H R w s.H R' w') .normal a' w':=⟨k1,u,hu,u,R',rfl,huv,k5⟩
  rcases hex with h9 | h9 <;> rw[h9] <;> exact this
include hT in
theorem Rx {gl:List Nat} {K7:FuncId→Option Xq} (hf:∀ f r,K7 f=some r→Ar P gl f r) (hm:P.follows .mixedOrders=true) (n:Nat):CO P gl (Cr tt K7 n):=by
 induction n with
 | zero=>intro g args H v H' h;cases h
 | succ n ih=>exact Qd hT hf hm ih n
end
end Go.Sp
namespace Go.Sp
noncomputable section

def CG {α β:Type} (f:α→Option β) (l:List α):Option (List β):=
 List.rec (motive:=fun _=>Option (List β)) (some []) (fun a _ ih=>oo (f a) none fun b=>oo ih none fun r=>some (b::r)) l

def XD (v:Value):Option Nat:=oo (FO v) (oo (IA v) (oo (IC v) none fun m=>m) fun s=>some s.id) fun p=>some p.1

def idxOf (b:Nat) (olds:List (Option Nat)):Nat→Option Nat:=
 List.rec (motive:=fun _=>Nat→Option Nat) (fun _=>none) (fun o _ ih j=>oo o (ih (Nat.succ j)) fun i=>bb (Nat.beq i b) (some j) (ih (Nat.succ j))) olds
def NS (olds:List (Option Nat)) (l:List (Option Nat)):Nat→Bool:=
 List.rec (motive:=fun _=>Nat→Bool) (fun _=>true) (fun o _ ih j=>an (oo o true fun i=>oo (idxOf i olds 0) false fun k=>Nat.beq k j) (ih (Nat.succ j))) l

def TC (olds:List (Option Nat)) (v:Value):Option Value:=
 vv v (fun _ => some v) (fun _ _ => some v) (fun _ => some v)
  (fun a=>oo a (some v) fun ad=>Addr.rec (motive:=fun _=>Option Value) (fun b o s=>oo (idxOf b olds 0) none fun b'=>some (.pointer (some ⟨b',o,s⟩))) ad)
  (fun a l c=>oo a (some v) fun ad=>Addr.rec (motive:=fun _=>Option Value) (fun b o s=>oo (idxOf b olds 0) none fun b'=>some (.slice (some ⟨b',o,s⟩) l c)) ad)
  (fun m=>oo m (some v) fun b=>oo (idxOf b olds 0) none fun b'=>some (.map (some b')))
  (fun _ _ _=>none) (some v) (fun _ _=>some v) (some v) (fun _=>none) (fun _=>none) none
def Ry (olds:List (Option Nat)) (v:Value):Option Value:=
 vv v (fun _ => some v) (fun _ _ => some v) (fun _ => some v) (fun _ => TC olds v) (fun _ _ _ => TC olds v) (fun _ => TC olds v)
  (fun f a b=>oo (CG (TC olds) (JS a)) none fun a'=>oo (CG (TC olds) (JS b)) none fun b'=>some (.func f ⟨a'⟩ ⟨b'⟩)) (some v) (fun _ _=>some v) (some v) (fun _=>none) (fun _=>none) none
def kD (olds:List (Option Nat)) (v:Value):Option Value:=oo (Bt v) (Ry olds v) fun l=>oo (CG (Ry olds) l) none fun l'=>some (.agg ⟨l'⟩)
def Rz (olds:List (Option Nat)) (v:Value):Option Value:=oo (CQ v) (kD olds v) fun l=>oo (CG (kD olds) l) none fun l'=>some (.tuple ⟨l'⟩)

def F4 (e:EO):Bool:=EO.rec (motive:=fun _=>Bool) (fun k v _=>an (closed2 k) (closed2 v)) e
def EE (olds:List (Option Nat)) (deep tr:Bool) (o:AJ):Option AJ:=
 AJ.rec (motive := fun _ => Option AJ)
  (fun xs imm spent anc => bb (an (Au (fun a => nt (isS (idxOf a olds 0))) anc) (Dp (nt imm) (an (nt deep) (ll anc true fun _ _ => false))))
    (bb deep (oo (CG (Ry olds) xs) none fun xs'=>some (.cells xs' imm spent [])) (bb (Dp tr (Au Ah xs)) (some (.cells xs imm spent [])) none)) none)
  (fun es clock=>bb (Dp tr (Au F4 es)) (some (.map es clock)) none) (fun m s l c=>oo m (some (.iter none s l c)) fun id=>oo (idxOf id olds 0) none fun j=>some (.iter (some j) s l c)) (some .dead) o
def iQ (o:AJ):Bool:=AJ.rec (motive:=fun _=>Bool) (fun xs _ _ _=>Au Ah xs) (fun es _=>Au F4 es) (fun _ _ _ _=>true) true o

inductive Rt where
 | tmp (t:Nat) (deep:Bool)
 | cell (j i:Nat) (deep:Bool)
 | cap (t c:Nat) (deep:Bool)
 | ccap (j i c:Nat) (deep:Bool)
 | itm (j:Nat) (deep:Bool)
def Rt.deep (r:Rt):Bool:=Rt.rec (motive:=fun _=>Bool) (fun _ d=>d) (fun _ _ d=>d) (fun _ _ d=>d) (fun _ _ _ d=>d) (fun _ d=>d) r
def aZ (H:Aa) (olds:List (Option Nat)) (j:Nat):Value:=oo (AL olds j) EP fun o=>oo o EP fun id=>oo (Xj (H.get id)) EP fun it=>oo it.m EP fun m=>.map (some m)
def capOf (v:Value) (c:Nat):Value:=oo (GH v) EP fun g=>wF.rec (motive:=fun _=>Value) (fun _ a b=>oo (AL (Br a b) c) EP fun v=>v) g
def cellOf (H:Aa) (olds:List (Option Nat)) (j i:Nat):Value:=oo (AL olds j) EP fun o=>oo o EP fun id=>oo (Bv (H.get id)) EP fun o=>oo (AL o.xs i) EP fun v=>v
def Rt.val (F:Fr) (H:Aa) (olds:List (Option Nat)) (r:Rt):Value:=
 Rt.rec (motive:=fun _=>Value) (fun t _=>F.get t) (fun j i _=>cellOf H olds j i) (fun t c _=>capOf (F.get t) c) (fun j i c _=>capOf (cellOf H olds j i) c) (fun j _=>aZ H olds j) r
def NT (olds:List (Option Nat)) (v:Value):List (Option Nat):=Br olds [oo (XD v) none fun id=>oo (idxOf id olds 0) (some id) fun _=>none]
def E8 (F:Fr) (H:Aa) (rs:List Rt):List (Option Nat)→List (Option Nat):=
 List.rec (motive:=fun _=>List (Option Nat)→List (Option Nat)) (fun o=>o) (fun r _ ih o=>ih (NT o (r.val F H o))) rs
def DY (n:Nat):List (Option Nat):=Nat.rec (motive:=fun _=>List (Option Nat)) [] (fun m r=>Br r [some m]) n

def Ei (H:Aa) (i:Nat):List Value:=oo (Bv (H.get i)) [] fun o=>o.xs
def newObj (H:Aa) (trs:List Nat) (olds:List (Option Nat)) (p:Bool×Option Nat):Option AJ:=pp p fun deep o=>oo o (some .dead) fun id=>EE olds deep (ED id trs) (H.get id)
def Gf {α β:Type} (l:List α):List β→List (α×β):=
 List.rec (motive:=fun _=>List β→List (α×β)) (fun _=>[]) (fun a _ ih m=>ll m [] fun b m=>(a,b)::ih m) l
def JJ (l:List AJ):Nat→Tr AJ→Tr AJ:=List.rec (motive:=fun _=>Nat→Tr AJ→Tr AJ) (fun _ T=>T) (fun o _ ih i T=>ih (Nat.succ i) (T.set i o)) l
def kE (l:List (Nat×Value)):Tr Value→Tr Value:=List.rec (motive:=fun _=>Tr Value→Tr Value) (fun T=>T) (fun p _ ih T=>pp p fun t v=>ih (T.set t v)) l

def gc (trs:List Nat) (ents:List Bool) (rs:List Rt) (live:List Nat) (F:Fr) (H:Aa):Option (Fr×Aa):=
 (fun olds => bb (an (NS olds olds 0) (Nat.beq (len olds) (len ents + len rs)))
   (oo (CG (newObj H trs olds) (Gf (Br ents (AP Rt.deep rs)) olds)) none fun os =>
     oo (CG (fun t=>oo (Rz olds (F.get t)) none fun v=>some (t,v)) live) none fun vs=>
      some (⟨F.n,kE vs .nil⟩,⟨len olds,JJ os 0 .nil,H.lz⟩)) none) (E8 F H rs (DY (len ents)))

def freeze (n0 t sz:Nat) (ex:Bool) (F:Fr) (H:Aa):Option (Fr×Aa):=
 oo (IA (F.get t)) (oo (Le (F.get t)) (bb (DN (F.get t)) (some (F.put (some t) (FP sz 0 2 []),H)) none) fun _=>some (F,H)) fun s=>oo (Bv (H.get s.id)) none fun o=>
  bb (an (Nat.ble n0 s.id) (an (Dp (nt ex) (an (Nat.beq (s.cap % 2) 1) (Nat.beq (s.cap / 2) s.len))) (an (nt o.spent) (an (Nat.ble (s.off + s.len * s.sz) (len o.xs)) (Au Ah (Aq (s.len * s.sz) (Am s.off o.xs)))))))
   (some (F.put (some t) (FP s.sz s.len (bb ex 1 0) (Aq (s.len*s.sz) (Am s.off o.xs))),bb o.imm H (H.set s.id .dead))) none
end

theorem Di {α β:Type} {f:α→Option β} {l:List α} {r:List β} (h:CG f l=some r):r.length=l.length∧∀ (i:Nat) (a:α),l[i]?=some a→∃ b,r[i]?=some b∧f a=some b:=by
 induction l generalizing r with
 | nil=>injection h with h;subst h;exact⟨rfl,by simp⟩
 | cons a l ih =>
  obtain⟨b,hb,h1⟩:=Ab (show oo (f a) none (fun b=>oo (CG f l) none fun r=>some (b::r))=some r from h)
  obtain⟨q,hq,h2⟩:=Ab h1
  injection h2 with h2;subst h2
  obtain⟨k1,k2⟩:=ih hq
  refine⟨by simp[k1],fun i x hx=>?_⟩
  cases i with
  | zero=>simp at hx;subst hx;exact⟨b,rfl,hb⟩
  | succ i=>exact k2 i x (by simpa using hx)

theorem Il {b:Nat} {olds:List (Option Nat)} {j k:Nat} (h:idxOf b olds j=some k):j≤k∧olds[k - j]?=some (some b):=by
 induction olds generalizing j with
 | nil=>cases h
 | cons o olds ih =>
  have h:oo o (idxOf b olds (j+1)) (fun i=>bb (Nat.beq i b) (some j) (idxOf b olds (j+1)))=some k:=h
  have tail:idxOf b olds (j+1)=some k→j≤k∧(o::olds)[k - j]?=some (some b):=fun h=>by
   obtain⟨h1,h2⟩:=ih h
   refine⟨by omega,?_⟩
   rw[show k - j=(k - (j+1))+1 by omega,List.getElem?_cons_succ];exact h2
  cases o with
  | none=>exact tail h
  | some i =>
   rw[Ac,BL] at h
   split at h
   ·rename_i he
    have he:=Nat.eq_of_beq_eq_true he
    injection h with h;subst h;subst he
    exact⟨Nat.le_refl _,by simp⟩
   ·exact tail h
theorem Mq {olds l:List (Option Nat)} {j:Nat} (h:NS olds l j=true):∀ (i b:Nat),l[i]?=some (some b)→idxOf b olds 0=some (j+i):=by
 induction l generalizing j with
 | nil=>intro i b hb;simp at hb
 | cons o l ih =>
  obtain⟨h1,h2⟩:=Av (show an (oo o true fun i=>oo (idxOf i olds 0) false fun k=>Nat.beq k j) (NS olds l (j+1))=true from h)
  intro i b hb
  cases i with
  | zero =>
   simp at hb;subst hb
   rw[Ac] at h1
   cases hk:idxOf b olds 0 with
   | none=>rw[hk] at h1;cases h1
   | some k=>rw[hk] at h1;rw[Nat.eq_of_beq_eq_true h1];rfl
  | succ i =>
   have:=ih h2 i b (by simpa using hb)
   rw[this];congr 1;omega

theorem VR.closed {R R':Ren} (hro:∀ c C,R.ro c=some C→R'.ro c=some C) {v u:Value} (h:VR R v u):Ah v=true→VR R' v u:=by
 induction h with
 | bool b=>exact fun _=>.bool b
 | int k n=>exact fun _=>.int k n
 | string s=>exact fun _=>.string s
 | nilFunc=>exact fun _=>.nilFunc
 | nilIface=>exact fun _=>.nilIface
 | ptrNil=>exact fun _=>.ptrNil
 | ptr h=>exact fun h=>by cases h
 | slNil=>exact fun _=>.slNil
 | sl h=>exact fun h=>by cases h
 | slE h=>exact fun h=>by cases h
 | slN h=>exact fun h=>by cases h
 | mapNil=>exact fun _=>.mapNil
 | map h=>exact fun h=>by cases h
 | fs hc hn hcap hex hfl hfit hC hcl hl _ ih=>exact fun _=>.fs (hro _ _ hc) hn hcap hex hfl hfit hC hcl hl fun i x y hx hy=>ih i x y hx hy (hcl x (List.mem_of_getElem? hx))
 | fsN sz fl h3=>exact fun _=>.fsN sz fl h3
 | fsE hfl=>exact fun _=>.fsE hfl
 | fp hc hfit hC hcl hl _ ih=>exact fun _=>.fp (hro _ _ hc) hfit hC hcl hl fun i x y hx hy=>ih i x y hx hy (hcl x (List.mem_of_getElem? hx))
 | any u=>exact fun h=>by cases h
 | ifc t k n=>exact fun _=>.ifc t k n
 | agg=>exact fun h=>by cases h
 | tuple=>exact fun h=>by cases h
 | func=>exact fun h=>by cases h

structure TD (R R':Ren) (olds:List (Option Nat)):Prop where
 f:∀ b b',idxOf b olds 0=some b'→R'.f b'=R.f b
 ro:R'.ro=R.ro
 sz:R'.sz=R.sz

section
variable {R R':Ren} {olds:List (Option Nat)} (hR:TD R R' olds)
include hR

theorem RA {v u v':Value} (hv:VR R v u) (h:TC olds v=some v'):VR R' v' u:=by
 have hcl:Ah v=true→VR R' v u:=hv.closed fun c C h=>by rw[hR.ro];exact h
 cases hv with
 | bool b=>injection h with h;subst h;exact hcl rfl
 | int k n=>injection h with h;subst h;exact hcl rfl
 | string s=>injection h with h;subst h;exact hcl rfl
 | nilFunc=>injection h with h;subst h;exact hcl rfl
 | nilIface=>injection h with h;subst h;exact hcl rfl
 | ptrNil=>injection h with h;subst h;exact hcl rfl
 | slNil=>injection h with h;subst h;exact hcl rfl
 | mapNil=>injection h with h;subst h;exact hcl rfl
 | fs=>injection h with h;subst h;exact hcl rfl
 | fsN=>injection h with h;subst h;exact hcl rfl
 | fsE=>injection h with h;subst h;exact hcl rfl
 | fp=>injection h with h;subst h;exact hcl rfl
 | any u=>injection h with h;subst h;exact .any u
 | ifc t k n=>injection h with h;subst h;exact .ifc t k n
 | @ptr id off c β hf =>
  obtain⟨b',hb,h1⟩:=Ab (show oo (idxOf id olds 0) none (fun b'=>some (Value.pointer (some ⟨b',off,none⟩)))=some v' from h)
  injection h1 with h1;subst h1
  exact .ptr (by rw[hR.f id b' hb];exact hf)
 | @sl id off sz ln c2 c β cap hf h1 h2 h3 h4 =>
  obtain⟨b',hb,h5⟩:=Ab (show oo (idxOf id olds 0) none (fun b'=>some (Value.slice (some ⟨b',off,some sz⟩) ln c2))=some v' from h)
  injection h5 with h5;subst h5
  exact .sl (by rw[hR.f id b' hb];exact hf) h1 h2 h3 (by rw[hR.sz];exact h4)
 | @slE id off sz c2 c o h0 =>
  obtain⟨b',hb,h5⟩:=Ab (show oo (idxOf id olds 0) none (fun b'=>some (Value.slice (some ⟨b',off,some sz⟩) 0 c2))=some v' from h)
  injection h5 with h5;subst h5
  exact .slE h0
 | @slN id off sz c2 h0 =>
  obtain⟨b',hb,h5⟩:=Ab (show oo (idxOf id olds 0) none (fun b'=>some (Value.slice (some ⟨b',off,some sz⟩) 0 c2))=some v' from h)
  injection h5 with h5;subst h5
  exact .slN h0
 | @map id c hf =>
  obtain⟨b',hb,h5⟩:=Ab (show oo (idxOf id olds 0) none (fun b'=>some (Value.map (some b')))=some v' from h)
  injection h5 with h5;subst h5
  exact .map (by rw[hR.f id b' hb];exact hf)
 | agg=>cases h
 | tuple=>cases h
 | func=>cases h

omit hR in
theorem Im {f:Value→Option Value} (hf:∀ v u v',VR R v u→f v=some v'→VR R' v' u) {xs ys us:List Value} (h:CG f xs=some ys) (hl:Cf R xs us):Cf R' ys us:=by
 obtain⟨h1,h2⟩:=Di h
 refine⟨by rw[h1];exact hl.1,fun i y u hy hu=>?_⟩
 have hi:i < xs.length:=by rw[←h1];exact(List.getElem?_eq_some_iff.1 hy).1
 have hx:=List.getElem?_eq_getElem hi
 obtain⟨b,hb,hfb⟩:=h2 i _ hx
 rw[hy] at hb;injection hb with hb;subst hb
 exact hf _ _ _ (hl.2 i _ u hx hu) hfb

theorem RB {v u v':Value} (hv:VR R v u) (h:Ry olds v=some v'):VR R' v' u:=by
 cases v
 case func f a b=>
  obtain⟨a',ha,h1⟩:=Ab (show oo (CG (TC olds) (JS a)) none (fun a'=>oo (CG (TC olds) (JS b)) none fun b'=>some (Value.func f ⟨a'⟩ ⟨b'⟩))=some v' from h)
  obtain⟨b',hb,h2⟩:=Ab h1
  injection h2 with h2;subst h2
  cases hv with
  | func fn hl hh hl' hh' =>
   have k1:=Im (R:=R) (R':=R') (fun v u v'=>RA hR) ha ⟨hl,hh⟩
   have k2:=Im (R:=R) (R':=R') (fun v u v'=>RA hR) hb ⟨hl',hh'⟩
   exact .func f k1.1 k1.2 k2.1 k2.2
 case agg=>cases h
 case tuple=>cases h
 case float=>cases h
 case complex=>cases h
 case chan=>cases h
 all_goals exact RA hR hv h

theorem XE {v u v':Value} (hv:VR R v u) (h:kD olds v=some v'):VR R' v' u:=by
 unfold kD at h
 cases ha:Bt v with
 | none=>rw[ha,Az] at h;exact RB hR hv h
 | some l =>
  rw[ha,Ac] at h
  obtain⟨l',hl',h1⟩:=Ab h
  injection h1 with h1;subst h1
  rw[BQ ha] at hv
  obtain⟨us,rfl,hl⟩:=hv.agg_l
  have:=Im (R:=R) (R':=R') (fun v u v'=>RB hR) hl' hl
  exact .agg this.1 this.2
theorem RD {v u v':Value} (hv:VR R v u) (h:Rz olds v=some v'):VR R' v' u:=by
 unfold Rz at h
 cases ha:CQ v with
 | none=>rw[ha,Az] at h;exact XE hR hv h
 | some l =>
  rw[ha,Ac] at h
  obtain⟨l',hl',h1⟩:=Ab h
  injection h1 with h1;subst h1
  rw[EU ha] at hv
  obtain⟨us,rfl,hl⟩:=hv.tuple_l
  have:=Im (R:=R) (R':=R') (fun v u v'=>XE hR) hl' hl
  exact .tuple this.1 this.2

theorem NU {v u:Value} (hv:VR R v u) (h:closed2 v=true):VR R' v u:=by
 unfold closed2 at h
 cases ha:Bt v with
 | none=>rw[ha,Az] at h;exact hv.closed (fun c C h=>by rw[hR.ro];exact h) h
 | some l =>
  rw[ha,Ac,Bh,List.all_eq_true] at h
  rw[BQ ha] at hv ⊢
  obtain⟨us,rfl,hl⟩:=hv.agg_l
  exact .agg hl.1 fun i x y hx hy=>(hl.2 i x y hx hy).closed (fun c C h=>by rw[hR.ro];exact h) (h x (List.mem_of_getElem? hx))

theorem LD {deep tr:Bool} {o o':AJ} (h:EE olds deep tr o=some o') (htr:tr=true→iQ o=true) {c β:Nat} {ob:Option Obj} (ho:FH R o c β ob):FH R' o' c β ob:=by
 cases o with
 | dead=>injection h with h;subst h;trivial
 | iter m s l c =>
  have h:oo m (some (AJ.iter none s l c)) (fun id=>oo (idxOf id olds 0) none fun j=>some (AJ.iter (some j) s l c))=some o':=h
  obtain⟨h1,m',S,h2,h3,h4⟩:=ho
  cases m with
  | none=>injection h with h;subst h;exact⟨h1,m',S,h2,h3,h4⟩
  | some id =>
   obtain⟨j,hj,h5⟩:=Ab (show oo (idxOf id olds 0) none (fun j=>some (AJ.iter (some j) s l c))=some o' from h)
   injection h5 with h5;subst h5
   obtain⟨c0,g1,g2⟩:=h4
   exact⟨h1,m',S,h2,h3,c0,by rw[hR.f id j hj];exact g1,g2⟩
 | map es clock =>
  obtain⟨hall,h1⟩:=Ae (show bb (Dp tr (Au F4 es)) (some (AJ.map es clock)) none=some o' from h)
  injection h1 with h1;subst h1
  have hall:Au F4 es=true:=by
   rw[Ed,Bool.or_eq_true] at hall
   rcases hall with h9 | h9
   ·exact htr h9
   ·exact h9
  rw[Bh,List.all_eq_true] at hall
  obtain⟨h1,Es,h2,h3,h4⟩:=ho
  refine⟨h1,Es,h2,h3,fun i e E he hE=>?_⟩
  obtain⟨k1,k2,k3⟩:=h4 i e E he hE
  have:=hall e (List.mem_of_getElem? he)
  obtain⟨key,val,born⟩:=e
  obtain⟨g1,g2⟩:=Av (show an (closed2 key) (closed2 val)=true from this)
  exact⟨NU hR k1 g1,NU hR k2 g2,k3⟩
 | cells xs imm spent anc =>
  obtain⟨_,h1⟩:=Ae (show bb _ (bb deep (oo (CG (Ry olds) xs) none fun xs'=>some (AJ.cells xs' imm spent [])) (bb (Dp tr (Au Ah xs)) (some (AJ.cells xs imm spent [])) none)) none=some o' from h)
  obtain⟨C,t,fz,k1,k2,k3,k4,k5⟩:=ho
  rw[BL] at h1
  split at h1
  ·obtain⟨xs',hxs,h2⟩:=Ab h1
   injection h2 with h2;subst h2
   obtain⟨g1,g2⟩:=Di hxs
   refine⟨C,t,fz,k1,by rw[hR.sz];exact k2,by rw[g1];exact k3,fun i x hx=>?_,k5⟩
   have hi:i < xs.length:=by rw[←g1];exact(List.getElem?_eq_some_iff.1 hx).1
   have hxi:=List.getElem?_eq_getElem hi
   obtain⟨b,hb,hfb⟩:=g2 i _ hxi
   rw[hx] at hb;injection hb with hb;subst hb
   obtain⟨y,hy,hv⟩:=k4 i _ hxi
   exact⟨y,hy,RB hR hv hfb⟩
  ·obtain⟨hall,h2⟩:=Ae h1
   injection h2 with h2;subst h2
   have hall:Au Ah xs=true:=by
    rw[Ed,Bool.or_eq_true] at hall
    rcases hall with h9 | h9
    ·exact htr h9
    ·exact h9
   rw[Bh,List.all_eq_true] at hall
   refine⟨C,t,fz,k1,by rw[hR.sz];exact k2,k3,fun i x hx=>?_,k5⟩
   obtain⟨y,hy,hv⟩:=k4 i x hx
   exact⟨y,hy,hv.closed (fun c C h=>by rw[hR.ro];exact h) (hall x (List.mem_of_getElem? hx))⟩
end

theorem CE {olds:List (Option Nat)} {deep tr:Bool} {o o':AJ} (h:EE olds deep tr o=some o'):o'.writable=o.writable∧o'.immB=o.immB∧o'.ancOf=[]∧(o.writable=true→∀ a∈o.ancOf,idxOf a olds 0=none)∧(o.immB=true→o'=o):=by
 cases o with
 | dead=>injection h with h;subst h;exact⟨rfl,rfl,rfl,fun h=>(by cases h),fun h=>(by cases h)⟩
 | iter m s l c =>
  have h:oo m (some (AJ.iter none s l c)) (fun id=>oo (idxOf id olds 0) none fun j=>some (AJ.iter (some j) s l c))=some o':=h
  cases m with
  | none=>injection h with h;subst h;exact⟨rfl,rfl,rfl,fun _ a ha=>(by cases ha),fun h=>(by cases h)⟩
  | some id =>
   obtain⟨j,hj,h5⟩:=Ab (show oo (idxOf id olds 0) none (fun j=>some (AJ.iter (some j) s l c))=some o' from h)
   injection h5 with h5;subst h5
   exact⟨rfl,rfl,rfl,fun _ a ha=>(by cases ha),fun h=>(by cases h)⟩
 | map es clock =>
  obtain⟨hall,h1⟩:=Ae (show bb (Dp tr (Au F4 es)) (some (AJ.map es clock)) none=some o' from h)
  injection h1 with h1;subst h1
  exact⟨rfl,rfl,rfl,fun _ a ha=>(by cases ha),fun h=>(by cases h)⟩
 | cells xs imm spent anc =>
  obtain⟨hc,h1⟩:=Ae (show bb (an (Au (fun a=>nt (isS (idxOf a olds 0))) anc) (Dp (nt imm) (an (nt deep) (ll anc true fun _ _=>false)))) (bb deep (oo (CG (Ry olds) xs) none fun xs'=>some (AJ.cells xs' imm spent [])) (bb (Dp tr (Au Ah xs)) (some (AJ.cells xs imm spent [])) none)) none=some o' from h)
  obtain⟨hc1,hc2⟩:=Av hc
  rw[Bh,List.all_eq_true] at hc1
  have hanc:∀ a∈anc,idxOf a olds 0=none:=fun a ha=>by
   have:=hc1 a ha
   cases hi:idxOf a olds 0 with
   | none=>rfl
   | some k=>rw[hi] at this;cases this
  rw[BL] at h1
  split at h1
  ·rename_i hd
   obtain⟨xs',hxs,h2⟩:=Ab h1
   injection h2 with h2;subst h2
   refine⟨rfl,rfl,rfl,fun _=>hanc,fun hi=>?_⟩
   have hi:imm=true:=hi
   rw[hi,hd] at hc2
   cases hc2
  ·obtain⟨hall,h2⟩:=Ae h1
   injection h2 with h2;subst h2
   refine⟨rfl,rfl,rfl,fun _=>hanc,fun hi=>?_⟩
   have hi:imm=true:=hi
   rw[hi] at hc2
   obtain⟨_,h9⟩:=Av (show an (nt deep) (ll anc true fun _ _=>false)=true from hc2)
   cases anc with
   | nil=>rfl
   | cons a l=>cases h9

theorem J6 (n i:Nat):(DY n)[i]?=if i < n then some (some i) else none:=by
 induction n with
 | zero=>show ([]:List (Option Nat))[i]?=_;simp
 | succ n ih =>
  show (Br (DY n) [some n])[i]?=_
  have hl:(DY n).length=n:=by
   clear ih
   induction n with
   | zero=>rfl
   | succ n ih=>show (Br (DY n) [some n]).length=_;simp[ih]
  rw[BH]
  by_cases h:i < n
  ·rw[List.getElem?_append_left (by rw[hl];exact h),ih,if_pos h,if_pos (by omega)]
  ·rw[List.getElem?_append_right (by rw[hl];omega),hl]
   by_cases h2:i=n
   ·subst h2;simp
   ·rw[if_neg (by omega)]
    rw[List.getElem?_eq_none];simp;omega
theorem JK (n:Nat):(DY n).length=n:=by
 induction n with
 | zero=>rfl
 | succ n ih=>show (Br (DY n) [some n]).length=_;simp[ih]

theorem Kz {F:Fr} {H:Aa} {rs:List Rt} {o:List (Option Nat)}:∃ m,E8 F H rs o=o++m:=by
 induction rs generalizing o with
 | nil=>exact⟨[],by simp[E8]⟩
 | cons r rs ih =>
  obtain⟨m,hm⟩:=ih (o:=NT o (r.val F H o))
  refine⟨[oo (XD (r.val F H o)) none fun id=>oo (idxOf id o 0) (some id) fun _=>none]++m,?_⟩
  show E8 F H rs (NT o (r.val F H o))=_
  rw[hm];simp[NT]

theorem LF (l:List AJ) (i:Nat) (T:Tr AJ) (j:Nat):(JJ l i T).get j=if i≤j∧j < i+l.length then l[j - i]? else T.get j:=by
 induction l generalizing i T with
 | nil=>show T.get j=_;rw[if_neg (by simp)]
 | cons o l ih =>
  show (JJ l (i+1) (T.set i o)).get j=_
  rw[ih]
  by_cases h:i+1≤j∧j < i+1+l.length
  ·rw[if_pos h,if_pos (by simp;omega),show j - i=(j - (i+1))+1 by omega,List.getElem?_cons_succ]
  ·rw[if_neg h,Tr.get_set]
   by_cases h2:i=j
   ·subst h2;simp
   ·rw[if_neg h2,if_neg (by simp;omega)]
theorem bA (l:List (Nat×Value)) (T:Tr Value) (t:Nat) (p:Value→Prop) (h0:∀ v,T.get t=some v→p v) (h:∀ v,(t,v)∈l→p v):∀ v,(kE l T).get t=some v→p v:=by
 induction l generalizing T with
 | nil=>exact h0
 | cons q l ih =>
  obtain⟨a,b⟩:=q
  refine ih (T.set a b) (fun v hv=>?_) fun v hv=>h v (by simp[hv])
  rw[Tr.get_set] at hv
  split at hv
  ·rename_i he;subst he
   injection hv with hv;subst hv
   exact h b (by simp)
  ·exact h0 v hv

theorem KA {α β:Type} (l:List α) (m:List β) (i:Nat) (p:α×β) (h:(Gf l m)[i]?=some p):l[i]?=some p.1∧m[i]?=some p.2:=by
 induction l generalizing m i with
 | nil=>simp[Gf] at h
 | cons a l ih =>
  cases m with
  | nil=>exact absurd h (by show ([]:List (α×β))[i]?=some p→False;simp)
  | cons b m =>
   have h:((a,b)::Gf l m)[i]?=some p:=h
   cases i with
   | zero=>simp at h;subst h;exact⟨rfl,rfl⟩
   | succ i=>simpa using ih m i (by simpa using h)
theorem IX {α β:Type} (l:List α) (m:List β) (h:l.length=m.length):(Gf l m).length=l.length:=by
 induction l generalizing m with
 | nil=>rfl
 | cons a l ih =>
  cases m with
  | nil=>cases h
  | cons b m=>show (Gf l m).length+1=_;rw[ih m (by simpa using h)];rfl

def Em:AJ→Prop
 | .dead=>True
 | .cells xs _ _ _=>xs=[]
 | _=>False
def Calm (o o':AJ):Prop:=∀ (Q:Ren) (c β:Nat) (ob:Option Obj),FH Q o c β ob→FH Q o' c β ob
theorem Calm.empty {o o':AJ} (he:Em o) (hc:Calm o o'):Em o':=by
 cases o with
 | dead =>
  have:=hc ⟨fun _=>none,fun _=>0,fun _=>none⟩ 1 1 none trivial
  cases o' with
  | dead=>trivial
  | cells xs i s a=>obtain⟨C,t,fz,h9,_⟩:=this;cases h9
  | map es c=>obtain⟨h9,_⟩:=this;cases h9
  | iter=>obtain⟨h9,_⟩:=this;cases h9
 | cells xs imm sp anc =>
  have he:xs=[]:=he
  subst he
  have:=hc ⟨fun _=>none,fun _=>0,fun _=>none⟩ 0 0 (some (.cells #[] 0 (0,0))) ⟨#[],0,(0,0),rfl,rfl,Nat.le_refl _,fun i x h=>by simp at h,fun _=>rfl⟩
  cases o' with
  | dead=>trivial
  | cells ys i s a =>
   obtain⟨C,t,fz,h9,h8,h7,_⟩:=this
   injection h9 with h9;injection h9 with h9 _ _;subst h9
   have h7:0+ys.length≤0:=h7
   exact List.eq_nil_of_length_eq_zero (by omega)
  | map es c=>obtain⟨_,Es,h9,_⟩:=this;cases h9
  | iter=>obtain⟨_,_,_,h9,_⟩:=this;cases h9
 | map=>exact he.elim
 | iter=>exact he.elim
theorem Calm.refl (o:AJ):Calm o o:=fun _ _ _ _ h=>h
theorem Calm.trans {a b c:AJ} (h:Calm a b) (h':Calm b c):Calm a c:=fun Q x y z h0=>h' Q x y z (h Q x y z h0)
theorem KC {olds:List (Option Nat)} {deep tr:Bool} {o o1 o2:AJ} (he:Em o) (hc:Calm o o1) (h:EE olds deep tr o1=some o2):Calm o o2:=by
 have h1:=hc.empty he
 cases o1 with
 | dead=>injection h with h;subst h;exact hc
 | cells xs imm sp anc =>
  have h1:xs=[]:=h1
  subst h1
  obtain⟨_,h2⟩:=Ae (show bb _ (bb deep (oo (CG (Ry olds) []) none fun xs'=>some (AJ.cells xs' imm sp [])) (bb (Dp tr (Au Ah [])) (some (AJ.cells [] imm sp [])) none)) none=some o2 from h)
  have h3:o2 = .cells [] imm sp []:=by
   rw[BL] at h2
   split at h2
   ·injection h2 with h2;exact h2.symm
   ·obtain⟨_,h2⟩:=Ae h2
    injection h2 with h2;exact h2.symm
  subst h3
  exact fun Q c β ob h0=>hc Q c β ob h0
 | map=>exact h1.elim
 | iter=>exact h1.elim

theorem J7 {R R':Ren} (hro:∀ c C,R.ro c=some C→R'.ro c=some C) {v u:Value} (hv:VR R v u) (h:closed2 v=true):VR R' v u:=by
 unfold closed2 at h
 cases ha:Bt v with
 | none=>rw[ha,Az] at h;exact hv.closed hro h
 | some l =>
  rw[ha,Ac,Bh,List.all_eq_true] at h
  rw[BQ ha] at hv ⊢
  obtain⟨us,rfl,hl⟩:=hv.agg_l
  exact .agg hl.1 fun i x y hx hy=>(hl.2 i x y hx hy).closed hro (h x (List.mem_of_getElem? hx))
theorem Ab5 {H0:Aa} {R0:Ren} {w0:World} {trs:List Nat} {ents:List Bool} {rs:List Rt} {live:List Nat} {F F':Fr} {H H':Aa} {R:Ren} {w:World} {tmps:Array Value}
 (h:gc trs ents rs live F H=some (F',H')) (htr:∀ id,ED id trs=true→iQ (H.get id)=true) (hs0:Ck H0 R0 w0) (hfull:∀ id,id < H0.next→R0.f id=none→Em (H0.get id)) (hn0:H0.next≤ents.length)
 (hp:Ba H0 R0 w0 H R w) (ht:∀ t,VR R (F.get t) (tmps.getD t undef)) :
 ∃ R',Ba H0 R0 w0 H' R' w∧F'.n=F.n∧(∀ t,VR R' (F'.get t) (tmps.getD t undef))∧R'.ro=R.ro:=by
 unfold gc at h
 generalize holds:E8 F H rs (DY (len ents))=olds at h
 obtain⟨hc,h1⟩:=Ae h
 obtain⟨hchk,hlen⟩:=Av hc
 obtain⟨os,hos,h2⟩:=Ab h1
 obtain⟨vs,hvs,h3⟩:=Ab h2
 injection h3 with h3;injection h3 with e1 e2;subst e1;subst e2
 have hlen:=Nat.eq_of_beq_eq_true hlen
 simp only[AV] at hlen
 have hz:(Gf (Br ents (AP Rt.deep rs)) olds).length=olds.length:=by
  rw[IX _ _ (by simp;omega)];simp;omega
 obtain⟨ol,oget⟩:=Di hos
 rw[hz] at ol
 have hidx:∀ (i b:Nat),olds[i]?=some (some b)→idxOf b olds 0=some i:=fun i b hb=>by have:=Mq hchk i b hb;simpa using this
 obtain⟨m,hm⟩:=Kz (F:=F) (H:=H) (rs:=rs) (o:=DY (len ents))
 rw[holds] at hm
 have hid:∀ i,i < ents.length→olds[i]?=some (some i):=fun i hi=>by
  rw[hm,List.getElem?_append_left (by rw[JK,AV];exact hi),J6,AV,if_pos hi]
 let R':Ren:=⟨fun k=>oo (AL olds k) none fun o=>oo o none fun id=>R.f id,R.sz,R.ro⟩
 have hRf:∀ k p,R'.f k=some p→∃ id,olds[k]?=some (some id)∧R.f id=some p:=fun k p hk=>by
  obtain⟨o,ho,h4⟩:=Ab (show oo (AL olds k) none (fun o=>oo o none fun id=>R.f id)=some p from hk)
  obtain⟨id,hi,h5⟩:=Ab h4
  subst hi
  exact⟨id,by simpa using ho,h5⟩
 have hRn:TD R R' olds:=⟨fun b b' hb=>by
  obtain⟨_,h4⟩:=Il hb
  show oo (AL olds b') none (fun o=>oo o none fun id=>R.f id)=R.f b
  rw[Nat.sub_zero] at h4
  rw[BZ,h4];rfl,rfl,rfl⟩
 have hnew:∀ k id,olds[k]?=some (some id)→∃ d o',os[k]?=some o'∧EE olds d (ED id trs) (H.get id)=some o':=fun k id hk=>by
  have hlt:k < (Gf (Br ents (AP Rt.deep rs)) olds).length:=by rw[hz];exact(List.getElem?_eq_some_iff.1 hk).1
  have hget:=List.getElem?_eq_getElem hlt
  obtain⟨_,g2⟩:=KA _ _ _ _ hget
  obtain⟨b,hb,hf⟩:=oget k _ hget
  rw[hk] at g2
  generalize (Gf (Br ents (AP Rt.deep rs)) olds)[k]=q at hf g2
  obtain⟨d,o⟩:=q
  injection g2 with g2;simp only at g2;subst g2
  exact⟨d,b,hb,hf⟩
 have hH:∀ k,(Aa.mk (len olds) (JJ os 0 .nil) H.lz).get k=if k < olds.length then (os[k]?).getD .dead else .dead:=fun k=>by
  rw[Aa.get_mk,LF]
  by_cases hk:k < olds.length
  ·rw[if_pos (by rw[ol];omega),if_pos hk,Nat.sub_zero]
  ·rw[if_neg (by rw[ol];omega),if_neg hk];rfl
 have hHk:∀ k id,olds[k]?=some (some id)→∃ d,EE olds d (ED id trs) (H.get id)=some ((Aa.mk (len olds) (JJ os 0 .nil) H.lz).get k):=fun k id hk=>by
  obtain⟨d,o',h4,h5⟩:=hnew k id hk
  refine⟨d,?_⟩
  rw[hH,if_pos (List.getElem?_eq_some_iff.1 hk).1,h4];exact h5
 have hsim:=hp.sim
 have hsim':Ck (Aa.mk (len olds) (JJ os 0 .nil) H.lz) R' w:=by
  refine ⟨fun k c β hk => ?_, fun k c β hk => ?_, fun k c β k' β' hk hk' hne hw => ?_, fun k a ha => ?_, fun k hk => ?_, fun c C hc => ⟨(hsim.ro c C hc).1, fun k β hk => ?_⟩⟩
  ·obtain⟨id,h4,h5⟩:=hRf k _ hk
   refine⟨?_,(hsim.dom id c β h5).2⟩
   show k < len olds
   rw[AV];exact(List.getElem?_eq_some_iff.1 h4).1
  ·obtain⟨id,h4,h5⟩:=hRf k _ hk
   obtain⟨d,h6⟩:=hHk k id h4
   exact LD hRn h6 (fun h9=>htr id h9) (hsim.obj id c β h5)
  ·obtain⟨id,h4,h5⟩:=hRf k _ hk
   obtain⟨id',h4',h5'⟩:=hRf k' _ hk'
   obtain⟨d,h6⟩:=hHk k id h4
   obtain⟨d',h6'⟩:=hHk k' id' h4'
   obtain⟨g1,g2,g3,g4,g5⟩:=CE h6
   rw[g1] at hw
   have hidne:id≠id':=fun e=>by subst e;have:=(hidx k id h4).symm.trans (hidx k' id h4');injection this with this;exact hne this
   rcases hsim.sep id c β id' β' h5 h5' hidne hw with h7 | ⟨h7, _⟩
   ·left
    rw[h7] at h6'
    injection h6' with h6'
    exact h6'.symm
   ·have:=g4 hw id' h7
    rw[hidx k' id' h4'] at this;cases this
  ·by_cases hk:k < olds.length
   ·obtain⟨o,ho⟩:∃ o,olds[k]?=some o:=⟨_,List.getElem?_eq_getElem hk⟩
    cases o with
    | some id =>
     obtain⟨d,h6⟩:=hHk k id ho
     rw[(CE h6).2.2.1] at ha;cases ha
    | none =>
     have hlt:k < (Gf (Br ents (AP Rt.deep rs)) olds).length:=by rw[hz];exact hk
     have hget:=List.getElem?_eq_getElem hlt
     obtain⟨_,g2⟩:=KA _ _ _ _ hget
     obtain⟨b,hb,hf⟩:=oget k _ hget
     rw[ho] at g2
     generalize (Gf (Br ents (AP Rt.deep rs)) olds)[k]=q at hf g2
     obtain⟨d,o⟩:=q
     injection g2 with g2;simp only at g2;subst g2
     injection hf with hf;subst hf
     rw[hH,if_pos hk,hb] at ha;cases ha
   ·rw[hH,if_neg hk] at ha;cases ha
  ·have hk:len olds≤k:=hk
   rw[AV] at hk
   rw[hH,if_neg (by omega)]
  ·obtain⟨id,h4,h5⟩:=hRf k _ hk
   obtain⟨d,h6⟩:=hHk k id h4
   rw[(CE h6).1]
   exact(hsim.ro c C hc).2 id β h5
 have hR0:∀ id,ents.length≤id→R0.f id=none:=fun id hid=>by
  cases h9:R0.f id with
  | none=>rfl
  | some p=>have:=(hs0.dom id p.1 p.2 h9).1;omega
 have hlow:∀ id,id < ents.length→R'.f id=R.f id:=fun id hi=>hRn.f id id (hidx id id (hid id hi))
 refine⟨R',⟨⟨fun id c β h0=>?_,hp.le.ro⟩,fun k p hk=>?_,hsim',?_,hp.grow,hp.frame,fun id hi hr Q c β ob ho=>?_,fun id hi him=>?_,fun k c β hk hr=>?_,hp.side,hp.rofresh⟩,rfl,fun t=>?_,rfl⟩
 ·have hd:=(hs0.dom id c β h0).1
  rw[hlow id (by omega)]
  exact hp.le id c β h0
 ·by_cases hk2:k < ents.length
  ·rw[hlow k hk2] at hk;exact hp.new k p hk
  ·exact .inr ⟨hR0 k (by omega),by omega⟩
 ·show H0.next≤len olds
  rw[AV];omega
 ·obtain⟨d,h6⟩:=hHk id id (hid id (by omega))
  exact KC (hfull id hi hr) (fun Q c β ob h=>hp.calm id hi hr Q c β ob h) h6 Q c β ob ho
 ·obtain⟨d,h6⟩:=hHk id id (hid id (by omega))
  have h7:=hp.imm id hi him
  have:=(CE h6).2.2.2.2 (by rw[h7];exact him)
  rw[this,h7]
 ·obtain⟨id,h4,h5⟩:=hRf k _ hk
  refine hp.fresh id c β h5 ?_
  by_cases hk2:k < ents.length
  ·have:=hid k hk2
   rw[h4] at this;injection this with this;injection this with this;subst this
   exact hr
  ·cases h9:R0.f id with
   | none=>rfl
   | some p =>
    have hd:=(hs0.dom id p.1 p.2 h9).1
    have:=(hidx k id h4).symm.trans (hidx id id (hid id (by omega)))
    injection this with this
    omega
 ·obtain⟨vl,vget⟩:=Di hvs
  rw[Fr.get_mk]
  cases hg:(kE vs .nil).get t with
  | none=>exact .any _
  | some v =>
   refine bA vs .nil t (fun v=>VR R' v (tmps.getD t undef)) (fun v hv=>by cases hv) (fun v hv=>?_) v hg
   obtain⟨i,hi⟩:=List.mem_iff_getElem?.1 hv
   have hlt:i < live.length:=by rw[←vl];exact(List.getElem?_eq_some_iff.1 hi).1
   obtain⟨b,hb,hf⟩:=vget i _ (List.getElem?_eq_getElem hlt)
   rw[hi] at hb;injection hb with hb;subst hb
   obtain⟨v2,hv2,h7⟩:=Ab hf
   injection h7 with h7;injection h7 with g1 g2
   subst g2
   rw[g1] at hv2
   exact RD hRn (ht t) hv2

theorem Za {H0:Aa} {R0:Ren} {w0:World} {n0 t sz:Nat} {ex:Bool} {F F':Fr} {H H':Aa} {R:Ren} {w:World} {tmps:Array Value}
 (h:freeze n0 t sz ex F H=some (F',H')) (hs0:Ck H0 R0 w0) (hn0:H0.next≤n0)
 (hp:Ba H0 R0 w0 H R w) (ht:∀ t,VR R (F.get t) (tmps.getD t undef)) :
 ∃ R',Ba H0 R0 w0 H' R' w∧F'.n=F.n∧∀ t,VR R' (F'.get t) (tmps.getD t undef):=by
 unfold freeze at h
 have putVR:∀ (R':Ren) (v:Value),R.le R'→VR R' v (tmps.getD t undef)→∀ t',VR R' ((F.put (some t) v).get t') (tmps.getD t' undef):=fun R' v hle hv t'=>by
  rw[Fr.get_put]
  split
  ·rename_i he;rw[←he.1];exact hv
  ·exact(ht t').mono hle
 cases hsl:IA (F.get t) with
 | none =>
  rw[hsl,Az] at h
  cases hf:Le (F.get t) with
  | some f =>
   rw[hf,Ac] at h
   injection h with h;injection h with e1 e2;subst e1;subst e2
   exact⟨R,hp,rfl,ht⟩
  | none =>
   rw[hf,Az] at h
   obtain⟨hn,h1⟩:=Ae h
   injection h1 with h1;injection h1 with e1 e2;subst e1;subst e2
   refine⟨R,hp,Fr.n_put ..,putVR R _ R.le_refl ?_⟩
   have:=ht t
   rw[CB hn] at this
   rw[this.slNil_l]
   exact .fsN sz 2 (by decide)
 | some s =>
  rw[hsl,Ac] at h
  obtain⟨o,ho,h1⟩:=Ab h
  obtain⟨hc,h2⟩:=Ae h1
  obtain⟨c1,hc⟩:=Av hc
  obtain⟨c2,hc⟩:=Av hc
  obtain⟨c3,hc⟩:=Av hc
  obtain⟨c4,c5⟩:=Av hc
  have c1:=Nat.le_of_ble_eq_true c1
  have c3:=Dh c3
  simp only[AV] at c4
  have c4:=Nat.le_of_ble_eq_true c4
  rw[Bh,List.all_eq_true] at c5
  simp only[Cg,Bz] at c5 h2
  injection h2 with h2;injection h2 with e1 e2;subst e1;subst e2
  have ho':=Et ho
  rw[c3] at ho'
  have hsim:=hp.sim
  have hflag:(bb ex 1 0:Nat)≠2:=by cases ex <;> simp
  have hx:=ht t
  have dead : ∀ (R' : Ren), R.le R' → R'.f = R.f → R'.sz = R.sz → (∀ c C, R'.ro c = some C → R.ro c = some C ∨ ∃ β, R.f s.id = some (c, β) ∧ ∃ ty fz, w.heap[c]? = some (.cells C ty fz)) →
   Ba H0 R0 w0 (bb o.imm H (H.set s.id .dead)) R' w:=fun R' hle hRf hRs hro=>by
   have hget:∀ id,(bb o.imm H (H.set s.id .dead)).get id=if id=s.id∧o.imm=false then .dead else H.get id:=fun id=>by
    cases hi:o.imm with
    | true=>simp
    | false =>
     simp only[AA,Aa.get_set]
     by_cases he:s.id=id
     ·subst he;simp
     ·rw[if_neg he,if_neg (by simp;exact fun h=>he h.symm)]
   have hnext:(bb o.imm H (H.set s.id .dead)).next=H.next:=by cases o.imm <;> simp
   have hwr:∀ id,(H.get id).writable=false→((bb o.imm H (H.set s.id .dead)).get id).writable=false:=fun id h=>by
    rw[hget];split
    ·rfl
    ·exact h
   have hkeep:∀ id,id < H0.next→(bb o.imm H (H.set s.id .dead)).get id=H.get id:=fun id hi=>by
    rw[hget,if_neg];rintro⟨rfl,_⟩;omega
   refine ⟨⟨fun id c β h0 => by rw [hRf, hRs]; exact hp.le id c β h0, fun c C h0 => hle.ro c C (hp.le.ro c C h0)⟩, fun id p h0 => by rw [hRf] at h0; exact hp.new id p h0, ?_, by rw [hnext]; exact hp.next, hp.grow, hp.frame,
    fun id hi hr Q c β ob h0=>by rw[hkeep id hi];exact hp.calm id hi hr Q c β ob h0,fun id hi him=>by rw[hkeep id hi];exact hp.imm id hi him,fun id c β h0 hr=>by rw[hRf] at h0;exact hp.fresh id c β h0 hr,hp.side,fun c C h0=>?_⟩
   ·refine ⟨fun id c β h0 => by rw [hRf] at h0; rw [hnext]; exact hsim.dom id c β h0, fun id c β h0 => ?_, fun id c β id' β' h0 h0' hne hw => ?_, fun id a ha => ?_, fun id hi => ?_, fun c C h0 => ?_⟩
    ·rw[hRf] at h0
     rw[hget];split
     ·trivial
     ·exact(hsim.obj id c β h0).mono hle (by rw[hRs])
    ·rw[hRf] at h0 h0'
     have hg1:=hget id
     have hg2:=hget id'
     by_cases hn:id=s.id∧o.imm=false
     ·rw[if_pos hn] at hg1;rw[hg1] at hw;cases hw
     ·rw[if_neg hn] at hg1
      rw[hg1] at hw ⊢
      by_cases hn':id'=s.id∧o.imm=false
      ·rw[if_pos hn'] at hg2;exact .inl hg2
      ·rw [if_neg hn'] at hg2; rw [hg2]; exact hsim.sep id c β id' β' h0 h0' hne hw
    ·rw[hget] at ha
     split at ha
     ·cases ha
     ·have:=hsim.anc id a ha
      rw[hnext,hget]
      refine⟨this.1,?_⟩
      split
      ·exact⟨rfl,rfl⟩
      ·exact this.2
    ·rw[hnext] at hi
     rw[hget];split
     ·rfl
     ·exact hsim.wf id hi
    ·rcases hro c C h0 with h1 | ⟨β,h1,ty,fz,h2⟩
     ·exact⟨(hsim.ro c C h1).1,fun id β h9=>by rw[hRf] at h9;exact hwr id ((hsim.ro c C h1).2 id β h9)⟩
     ·refine ⟨⟨ty, fz, h2⟩, fun id β' h9 => ?_⟩
      rw[hRf] at h9
      rw[hget]
      split
      ·rfl
      ·rename_i hn
       by_cases he:id=s.id
       ·subst he
        have him:o.imm=true:=by
         cases hi:o.imm with
         | true=>rfl
         | false=>exact absurd ⟨rfl,hi⟩ hn
        rw[ho',him];rfl
       ·cases hwi:(H.get id).writable with
        | false=>rfl
        | true =>
         rcases hsim.sep id c β' s.id β h9 h1 he hwi with h3 | ⟨h3, _⟩
         ·rw[ho'] at h3;cases h3
         ·have h4:=hsim.anc id s.id h3
          rw[ho'] at h4
          have h5:o.imm=false:=h4.2.1
          have h6:(!o.imm && !false)=false:=h4.2.2
          rw[h5] at h6;cases h6
   ·rcases hro c C h0 with h1 | ⟨β,h1,_⟩
    ·exact hp.rofresh c C h1
    ·have hr : R0.f s.id = none := by
      cases h9:R0.f s.id with
      | none=>rfl
      | some p=>have:=(hs0.dom s.id p.1 p.2 h9).1;omega
     rcases hp.fresh s.id c β h1 hr with h2 | h2
     ·exact .inr (.inl h2)
     ·exact .inr (.inr h2)
  rcases hx.sl_l hsl with⟨c,β,cap,hid,hv,k1,k2,k3,k4⟩ | ⟨c,o2,hv,k0,k00⟩ | ⟨hv,k0,k00⟩
  ·obtain⟨C,ty,fz,hC,hsz,hcf,hcr⟩:=hsim.cells hid ho
   let R':Ren:=⟨R.f,R.sz,fun c'=>if c'=c then some C else R.ro c'⟩
   have hle:R.le R':=⟨fun id c β h=>⟨h,rfl⟩,fun c' C' h=>by
    show (if c'=c then some C else R.ro c')=some C'
    split
    ·rename_i he;subst he
     obtain⟨⟨t',fz',h9⟩,_⟩:=hsim.ro c' C' h
     rw[hC] at h9;injection h9 with h9;injection h9 with h9;rw[h9]
    ·exact h⟩
   refine⟨R',dead R' hle rfl rfl fun c' C' h=>?_,Fr.n_put ..,putVR R' _ hle ?_⟩
   ·have h:(if c'=c then some C else R.ro c')=some C':=h
    by_cases he:c'=c
    ·rw[if_pos he] at h
     have h:C=C':=by injection h
     subst h;subst he
     exact .inr ⟨β,hid,ty,fz,hC⟩
    ·rw[if_neg he] at h;exact .inl h
   ·rw[hv]
    refine .mkFs (C:=C) (by show (if c=c then some C else R.ro c)=some C;simp) (by simp;omega) (by omega) (fun he=>?_) hflag (by simp;omega) ?_ c5
    ·cases ex with
     | false=>cases he
     | true =>
      obtain⟨g1,g2⟩:=Av c2
      have g1:=Nat.eq_of_beq_eq_true g1
      have g2:=Nat.eq_of_beq_eq_true g2
      rw[k3 g1,g2]
    ·exact(hcr.mono hle).part _ _
  ·refine⟨R,dead R R.le_refl rfl rfl fun c' C' h=>.inl h,Fr.n_put ..,putVR R _ R.le_refl ?_⟩
   rw[hv,k0]
   simp only[Nat.zero_mul,List.take_zero]
   exact .fsE hflag
  ·refine⟨R,dead R R.le_refl rfl rfl fun c' C' h=>.inl h,Fr.n_put ..,putVR R _ R.le_refl ?_⟩
   rw[hv,k0]
   simp only[Nat.zero_mul,List.take_zero]
   exact .fsN _ _ (by cases ex <;> simp)

noncomputable def Cq (n0:Nat) (ex:Bool) (v:Value) (H:Aa):Option (Value×Aa):=
 oo (IA v) none fun s=>oo (Bv (H.get s.id)) none fun o=>
  bb (an (Nat.ble n0 s.id) (an (Dp (nt ex) (an (Nat.beq (s.cap % 2) 1) (Nat.beq (s.cap / 2) s.len))) (an (nt o.spent) (an (Nat.ble (s.off + s.len * s.sz) (len o.xs)) (Au Ah (Aq (s.len * s.sz) (Am s.off o.xs)))))))
   (some (FP s.sz s.len (bb ex 1 0) (Aq (s.len*s.sz) (Am s.off o.xs)),bb o.imm H (H.set s.id .dead))) none

theorem Gg {H0:Aa} {R0:Ren} {w0:World} {n0:Nat} {ex:Bool} {v v' u:Value} {H H':Aa} {R:Ren} {w:World}
 (h:Cq n0 ex v H=some (v',H')) (hs0:Ck H0 R0 w0) (hn0:H0.next≤n0)
 (hp:Ba H0 R0 w0 H R w) (hx:VR R v u) :
 ∃ R',R.le R'∧R'.f=R.f∧Ba H0 R0 w0 H' R' w∧VR R' v' u:=by
 obtain⟨s,hsl,h⟩:=Ab h
 obtain⟨o,ho,h1⟩:=Ab h
 obtain⟨hc,h2⟩:=Ae h1
 obtain⟨c1,hc⟩:=Av hc
 obtain⟨c2,hc⟩:=Av hc
 obtain⟨c3,hc⟩:=Av hc
 obtain⟨c4,c5⟩:=Av hc
 have c1:=Nat.le_of_ble_eq_true c1
 have c3:=Dh c3
 simp only[AV] at c4
 have c4:=Nat.le_of_ble_eq_true c4
 rw[Bh,List.all_eq_true] at c5
 simp only[Cg,Bz] at c5 h2
 injection h2 with h2;injection h2 with e1 e2;subst e1;subst e2
 have ho':=Et ho
 rw[c3] at ho'
 have hsim:=hp.sim
 have hflag:(bb ex 1 0:Nat)≠2:=by cases ex <;> simp
 have dead : ∀ (R' : Ren), R.le R' → R'.f = R.f → R'.sz = R.sz → (∀ c C, R'.ro c = some C → R.ro c = some C ∨ ∃ β, R.f s.id = some (c, β) ∧ ∃ ty fz, w.heap[c]? = some (.cells C ty fz)) →
  Ba H0 R0 w0 (bb o.imm H (H.set s.id .dead)) R' w:=fun R' hle hRf hRs hro=>by
  have hget:∀ id,(bb o.imm H (H.set s.id .dead)).get id=if id=s.id∧o.imm=false then .dead else H.get id:=fun id=>by
   cases hi:o.imm with
   | true=>simp
   | false =>
    simp only[AA,Aa.get_set]
    by_cases he:s.id=id
    ·subst he;simp
    ·rw[if_neg he,if_neg (by simp;exact fun h=>he h.symm)]
  have hnext:(bb o.imm H (H.set s.id .dead)).next=H.next:=by cases o.imm <;> simp
  have hwr:∀ id,(H.get id).writable=false→((bb o.imm H (H.set s.id .dead)).get id).writable=false:=fun id h=>by
   rw[hget];split
   ·rfl
   ·exact h
  have hkeep:∀ id,id < H0.next→(bb o.imm H (H.set s.id .dead)).get id=H.get id:=fun id hi=>by
   rw[hget,if_neg];rintro⟨rfl,_⟩;omega
  refine ⟨⟨fun id c β h0 => by rw [hRf, hRs]; exact hp.le id c β h0, fun c C h0 => hle.ro c C (hp.le.ro c C h0)⟩, fun id p h0 => by rw [hRf] at h0; exact hp.new id p h0, ?_, by rw [hnext]; exact hp.next, hp.grow, hp.frame,
   fun id hi hr Q c β ob h0=>by rw[hkeep id hi];exact hp.calm id hi hr Q c β ob h0,fun id hi him=>by rw[hkeep id hi];exact hp.imm id hi him,fun id c β h0 hr=>by rw[hRf] at h0;exact hp.fresh id c β h0 hr,hp.side,fun c C h0=>?_⟩
  ·refine ⟨fun id c β h0 => by rw [hRf] at h0; rw [hnext]; exact hsim.dom id c β h0, fun id c β h0 => ?_, fun id c β id' β' h0 h0' hne hw => ?_, fun id a ha => ?_, fun id hi => ?_, fun c C h0 => ?_⟩
   ·rw[hRf] at h0
    rw[hget];split
    ·trivial
    ·exact(hsim.obj id c β h0).mono hle (by rw[hRs])
   ·rw[hRf] at h0 h0'
    have hg1:=hget id
    have hg2:=hget id'
    by_cases hn:id=s.id∧o.imm=false
    ·rw[if_pos hn] at hg1;rw[hg1] at hw;cases hw
    ·rw[if_neg hn] at hg1
     rw[hg1] at hw ⊢
     by_cases hn':id'=s.id∧o.imm=false
     ·rw[if_pos hn'] at hg2;exact .inl hg2
     ·rw [if_neg hn'] at hg2; rw [hg2]; exact hsim.sep id c β id' β' h0 h0' hne hw
   ·rw[hget] at ha
    split at ha
    ·cases ha
    ·have:=hsim.anc id a ha
     rw[hnext,hget]
     refine⟨this.1,?_⟩
     split
     ·exact⟨rfl,rfl⟩
     ·exact this.2
   ·rw[hnext] at hi
    rw[hget];split
    ·rfl
    ·exact hsim.wf id hi
   ·rcases hro c C h0 with h1 | ⟨β,h1,ty,fz,h2⟩
    ·exact⟨(hsim.ro c C h1).1,fun id β h9=>by rw[hRf] at h9;exact hwr id ((hsim.ro c C h1).2 id β h9)⟩
    ·refine ⟨⟨ty, fz, h2⟩, fun id β' h9 => ?_⟩
     rw[hRf] at h9
     rw[hget]
     split
     ·rfl
     ·rename_i hn
      by_cases he:id=s.id
      ·subst he
       have him:o.imm=true:=by
        cases hi:o.imm with
        | true=>rfl
        | false=>exact absurd ⟨rfl,hi⟩ hn
       rw[ho',him];rfl
      ·cases hwi:(H.get id).writable with
       | false=>rfl
       | true =>
        rcases hsim.sep id c β' s.id β h9 h1 he hwi with h3 | ⟨h3, _⟩
        ·rw[ho'] at h3;cases h3
        ·have h4:=hsim.anc id s.id h3
         rw[ho'] at h4
         have h5:o.imm=false:=h4.2.1
         have h6:(!o.imm && !false)=false:=h4.2.2
         rw[h5] at h6;cases h6
  ·rcases hro c C h0 with h1 | ⟨β,h1,_⟩
   ·exact hp.rofresh c C h1
   ·have hr : R0.f s.id = none := by
     cases h9:R0.f s.id with
     | none=>rfl
     | some p=>have:=(hs0.dom s.id p.1 p.2 h9).1;omega
    rcases hp.fresh s.id c β h1 hr with h2 | h2
    ·exact .inr (.inl h2)
    ·exact .inr (.inr h2)
 rcases hx.sl_l hsl with⟨c,β,cap,hid,hv,k1,k2,k3,k4⟩ | ⟨c,o2,hv,k0,k00⟩ | ⟨hv,k0,k00⟩
 ·obtain⟨C,ty,fz,hC,hsz,hcf,hcr⟩:=hsim.cells hid ho
  let R':Ren:=⟨R.f,R.sz,fun c'=>if c'=c then some C else R.ro c'⟩
  have hle:R.le R':=⟨fun id c β h=>⟨h,rfl⟩,fun c' C' h=>by
   show (if c'=c then some C else R.ro c')=some C'
   split
   ·rename_i he;subst he
    obtain⟨⟨t',fz',h9⟩,_⟩:=hsim.ro c' C' h
    rw[hC] at h9;injection h9 with h9;injection h9 with h9;rw[h9]
   ·exact h⟩
  refine⟨R',hle,rfl,dead R' hle rfl rfl fun c' C' h=>?_,?_⟩
  ·have h:(if c'=c then some C else R.ro c')=some C':=h
   by_cases he:c'=c
   ·rw[if_pos he] at h
    have h:C=C':=by injection h
    subst h;subst he
    exact .inr ⟨β,hid,ty,fz,hC⟩
   ·rw[if_neg he] at h;exact .inl h
  ·rw[hv]
   refine .mkFs (C:=C) (by show (if c=c then some C else R.ro c)=some C;simp) (by simp;omega) (by omega) (fun he=>?_) hflag (by simp;omega) ?_ c5
   ·cases ex with
    | false=>cases he
    | true =>
     obtain⟨g1,g2⟩:=Av c2
     have g1:=Nat.eq_of_beq_eq_true g1
     have g2:=Nat.eq_of_beq_eq_true g2
     rw[k3 g1,g2]
   ·exact(hcr.mono hle).part _ _
 ·refine⟨R,R.le_refl,rfl,dead R R.le_refl rfl rfl fun c' C' h=>.inl h,?_⟩
  rw[hv,k0]
  simp only[Nat.zero_mul,List.take_zero]
  exact .fsE hflag
 ·refine⟨R,R.le_refl,rfl,dead R R.le_refl rfl rfl fun c' C' h=>.inl h,?_⟩
  rw[hv,k0]
  simp only[Nat.zero_mul,List.take_zero]
  exact .fsN _ _ (by cases ex <;> simp)

noncomputable def thaw (t sz:Nat) (F:Fr) (H:Aa):Option (Fr×Aa):=
 bb (Dp (DN (F.get t)) (oo (Le (F.get t)) false fun f=>Nat.beq f.fl 2)) (some (F.put (some t) (.slice (some ⟨H.next,0,some sz⟩) 0 0),H.push (.cells [] false false []))) none

theorem kF {H0:Aa} {R0:Ren} {w0:World} {t sz:Nat} {F F':Fr} {H H':Aa} {R:Ren} {w:World} {tmps:Array Value}
 (h:thaw t sz F H=some (F',H')) (hp:Ba H0 R0 w0 H R w) (ht:∀ t,VR R (F.get t) (tmps.getD t undef)) :
 ∃ R',Ba H0 R0 w0 H' R' w∧F'.n=F.n∧∀ t,VR R' (F'.get t) (tmps.getD t undef):=by
 obtain⟨hc,h1⟩:=Ae h
 injection h1 with h1;injection h1 with e1 e2;subst e1;subst e2
 refine⟨R,hp.absPush rfl,Fr.n_put ..,fun t'=>?_⟩
 rw[Fr.get_put]
 split
 ·rename_i he
  rw[←he.1]
  have hx:=ht t
  rw[Ed,Bool.or_eq_true] at hc
  rcases hc with hc | hc
  ·rw[CB hc] at hx
   rw[hx.slNil_l];exact .slN (by simp)
  ·cases hf:Le (F.get t) with
   | none=>rw[hf] at hc;cases hc
   | some f =>
    rw[hf,Ac] at hc
    have hc:=Nat.eq_of_beq_eq_true hc
    rcases hx.fs_l hf with⟨_,_,h9⟩ | ⟨h9,_⟩ | ⟨_,_,_,_,_,_,_,_,_,h9,_⟩
    ·rw[h9];exact .slN (by simp)
    ·exact absurd hc h9
    ·exact absurd hc h9
 ·exact ht t'
end Go.Sp
namespace Go.Sp
noncomputable section
def IY (es:List EO) (seen:List Nat):List EO:=List.rec (motive:=fun _=>List EO) [] (fun e _ ih=>bb (ED e.born seen) ih (e::ih)) es
end
theorem Qe {es:List EO} {seen:List Nat} {e:EO}:e∈IY es seen↔e∈es∧e.born ∉ seen:=by
 induction es with
 | nil=>exact⟨fun h=>(by cases h),fun h=>(by cases h.1)⟩
 | cons a es ih =>
  show e∈bb (ED a.born seen) (IY es seen) (a::IY es seen)↔_
  cases hm:ED a.born seen with
  | true =>
   rw[Ak,ih]
   have:=CS.1 hm
   constructor
   ·rintro⟨h1,h2⟩;exact⟨List.mem_cons_of_mem _ h1,h2⟩
   ·rintro⟨h1,h2⟩
    rcases List.mem_cons.1 h1 with rfl | h1
    ·exact absurd this h2
    ·exact⟨h1,h2⟩
  | false =>
   have hn:a.born ∉ seen:=fun h=>by rw[CS.2 h] at hm;cases hm
   rw[AA,List.mem_cons,ih]
   constructor
   ·rintro(rfl | ⟨h1,h2⟩)
    ·exact⟨List.mem_cons_self,hn⟩
    ·exact⟨List.mem_cons_of_mem _ h1,h2⟩
   ·rintro⟨h1,h2⟩
    rcases List.mem_cons.1 h1 with rfl | h1
    ·exact .inl rfl
    ·exact .inr ⟨h1,h2⟩
theorem NV {w:World} {c:Nat} {m m':Option Nat} {a0 b0 a1 b1:Nat} {S S':Array Nat} (h:w.heap[c]?=some (.mapIter m a0 S b0)) (a:Addr):World.frozen? { w with heap:=w.heap.setIfInBounds c (.mapIter m' a1 S' b1) } a=w.frozen? a:=by
 refine EC (fun k=>?_) a
 show (∀ C t fz,_→∃ C' t',(w.heap.setIfInBounds c (.mapIter m' a1 S' b1))[k]?=_)∧(_→∀ C t fz,(w.heap.setIfInBounds c (.mapIter m' a1 S' b1))[k]?=_→_)
 rw[Array.getElem?_setIfInBounds]
 by_cases hk:c=k
 ·subst hk
  rw[if_pos rfl,h]
  exact⟨fun C t fz e=>by simp at e,fun _ C t fz e=>by split at e <;> simp at e⟩
 ·rw[if_neg hk]
  exact⟨fun C t fz e=>⟨C,t,e⟩,fun hn C t fz e=>absurd e (hn C t fz)⟩
theorem Zb {H:Aa} {R:Ren} {w:World} {id c since st st':Nat} {m m':Option Nat} {seen seen':List Nat} {S':Array Nat} (hs:Ck H R w) (hg:H.get id = .iter m since seen st) (hid:R.f id=some (c,0)) (hS:S'.toList=seen') (hm:aA R m m') :
 Ba H R w (H.set id (.iter m since seen' st')) R { w with heap:=w.heap.setIfInBounds c (.mapIter m' since S' st') }:=by
 have hd:=hs.dom id c 0 hid
 have hother:∀ j,j≠id→(H.set id (.iter m since seen' st')).get j=H.get j:=fun j hj=>by rw[Aa.get_set,if_neg (Ne.symm hj)]
 have hself:(H.set id (.iter m since seen' st')).get id = .iter m since seen' st':=by rw[Aa.get_set,if_pos rfl]
 obtain⟨m0,S0,hmap⟩:∃ m0 S0,w.heap[c]?=some (.mapIter m0 since S0 st):=by
  have h9:=hs.obj id c 0 hid
  rw[hg] at h9
  obtain⟨_,m0,S0,h10,_⟩:=h9
  exact⟨m0,S0,h10⟩
 have hheap:∀ k,k≠c→(w.heap.setIfInBounds c (.mapIter m' since S' st'))[k]?=w.heap[k]?:=fun k hk=>by rw[Array.getElem?_setIfInBounds_ne (Ne.symm hk)]
 refine ⟨Ren.le_refl R, fun i p h => .inl h, ⟨?_, ?_, ?_, ?_, hs.wf.set hd.1 _, fun c' C' hc' => ?_⟩, by simp, by simp, ?_, ?_, ?_, fun i c' β' h h' => (by rw [h] at h'; cases h'), ⟨rfl, rfl, fun a _ => NV hmap a⟩, fun _ _ h => .inl h⟩
 ·intro i c' β' h
  have := hs.dom i c' β' h
  simpa using this
 ·intro i c' β' h
  show FH R _ c' β' (w.heap.setIfInBounds c (.mapIter m' since S' st'))[c']?
  by_cases hi:i=id
  ·subst hi
   rw[hid] at h;cases h
   rw[hself]
   refine⟨rfl,m',S',?_,hS,hm⟩
   simp[hd.2]
  ·rw[hother i hi]
   by_cases hc:c'=c
   ·subst hc
    have hsep := hs.sep id c' 0 i β' hid h (Ne.symm hi) (by rw [hg]; rfl)
    rcases hsep with h1 | ⟨h1,_⟩
    ·rw[h1];trivial
    ·rw[hg] at h1;cases h1
   ·rw [hheap c' hc]; exact hs.obj i c' β' h
 ·intro i c' β' i' β'' h h' hne hwr
  by_cases hi:i=id
  ·subst hi
   have hsep := hs.sep i c' β' i' β'' h h' hne (by rw [hg]; rfl)
   rw[hother i' (Ne.symm hne)]
   rcases hsep with h1 | ⟨h1,_⟩
   ·exact .inl h1
   ·rw[hg] at h1;cases h1
  ·rw[hother i hi] at hwr ⊢
   have hsep := hs.sep i c' β' i' β'' h h' hne hwr
   by_cases hi':i'=id
   ·subst hi'
    rcases hsep with h1 | ⟨h1,h2⟩
    ·rw[hg] at h1;cases h1
    ·right
     refine⟨h1,?_⟩
     rw[hself]
     rw[hg] at h2
     exact h2
   ·rw[hother i' hi'];exact hsep
 ·intro i a ha
  have key:a < H.next∧(H.get a).immB=false∧(H.get a).writable=false:=by
   by_cases hi:i=id
   ·subst hi;rw[hself] at ha;cases ha
   ·rw[hother i hi] at ha;exact hs.anc i a ha
  refine⟨by simpa using key.1,?_⟩
  by_cases ha':a=id
  ·subst ha';have:=key.2.2;rw[hg] at this;cases this
  ·rw[hother a ha'];exact key.2
 ·obtain⟨⟨t',fz',h1⟩,h2⟩:=hs.ro c' C' hc'
  have hne:c'≠c:=fun e=>by subst e;have:=h2 id 0 hid;rw[hg] at this;cases this
  refine ⟨⟨t', fz', ?_⟩, fun i β' h => ?_⟩
  ·show (w.heap.setIfInBounds c (.mapIter m' since S' st'))[c']?=_
   rw[hheap c' hne];exact h1
  ·have := h2 i β' h
   by_cases hi:i=id
   ·subst hi;rw[hg] at this;cases this
   ·rw[hother i hi];exact this
 ·intro c' hc' hall
  show (w.heap.setIfInBounds c (.mapIter m' since S' st'))[c']?=_
  by_cases h:c'=c
  ·subst h;have:=hall id 0 hid;rw[hg] at this;cases this
  ·exact hheap c' h
 ·intro i hi hr
  by_cases h:i=id
  ·subst h;rw[hid] at hr;cases hr
  ·rw[hother i h];exact fun _ _ _ _ h=>h
 ·intro i hi him
  by_cases h:i=id
  ·subst h;rw[hg] at him;cases him
  ·exact hother i h


variable {P:Program}
theorem RF {w:World} {ty:TypeId} {r bm since c0 clock:Nat} {seen:Array Nat} {es:Array MapEntry} (hr:w.heap[r]?=some (.mapIter (some bm) since seen c0)) (hb:w.heap[bm]?=some (.map es clock)) (hold:∀ x∈es.toList,x.born < since) (hsc:since≤c0) :
 ((leftOf es seen).size=0∧(Instr.next (.pointer (some ⟨r,0,none⟩)) false ty).run P w = .ok (.tuple #[.bool false]) w) ∨
 ∃ e∈(leftOf es seen).toList,∃ w1:World,w1.Alike w∧(Instr.next (.pointer (some ⟨r,0,none⟩)) false ty).run P w = .ok (.tuple #[.bool true,e.key,e.val]) { w1 with heap:=w.heap.setIfInBounds r (.mapIter (some bm) since (seen.push e.born) clock) }:=by
 simp only[Instr.next,getObj,Sem.run_bind,Sem.run,hr,hb,Result.andThen,next_test_false seen es since c0 hold hsc,Bool.false_eq_true,if_false]
 unfold leftOf
 have hmem:∀ x∈(Array.filter (fun e=>!seen.contains e.born) es).toList,x.born < since:=fun x hx=>hold x (by simp at hx ⊢;exact hx.1)
 generalize Array.filter (fun e=>!seen.contains e.born) es=L at hmem ⊢
 have e1:L.filter (fun x=>decide (x.born < since))=L:=Array.filter_eq_self.2 (fun x hx=>by simpa using hmem x (by simpa using hx))
 have e2:L.filter (fun x=>decide (x.born ≥ since)) = #[]:=by
  rw[Array.filter_eq_empty_iff]
  intro x hx
  have:=hmem x (by simpa using hx)
  simp
  omega
 simp only[e1,e2,Array.append_empty]
 by_cases h0:L.size=0
 ·left
  have:L = #[]:=Array.eq_empty_of_size_eq_zero h0
  subst this
  refine⟨rfl,?_⟩
  simp[choose,Sem.run,Question.forced]
 ·right
  have hne:L.isEmpty=false:=by simp[Array.isEmpty,h0]
  simp only[hne,Bool.false_eq_true,if_false,Array.empty_append,Array.size_map]
  have hch:∃ (j:Nat) (w1:World),j < L.size∧w1.Alike w∧(choose (Question.mapNext L.size)).run P w = .ok j w1:=by
   by_cases hf:L.size≤1
   ·exact⟨0,w,by omega,⟨rfl,rfl,rfl⟩,by simp[choose,Sem.run,Question.forced,hf]⟩
   ·exact ⟨_, w.drew, Nat.mod_lt _ (by omega), ⟨rfl, rfl, rfl⟩, by
     simp only[choose,Sem.run,Question.forced,decide_eq_true_eq,hf,if_false,Question.cut]
     rfl⟩
  obtain⟨j,w1,hj,hal,hrun⟩:=hch
  refine⟨L[j],by simp,w1,hal,?_⟩
  have hw1:w1.heap[r]?=some (.mapIter (some bm) since seen c0):=by rw[hal.1];exact hr
  simp only[hrun,Array.getElem?_map,Array.getElem?_eq_getElem hj,Option.map_some,Sem.run_bind,setObj,Sem.run,hw1,Result.andThen]
  rw[hal.1]
  rfl
theorem CR.mem {R:Ren} {es:List EO} {Es:List MapEntry} (h:CR R es Es) {E:MapEntry} (hE:E∈Es):∃ e∈es,Tc R e E:=by
 obtain⟨i,hi⟩:=List.mem_iff_getElem?.1 hE
 have hlt:i < es.length:=by rw[h.1];exact(List.getElem?_eq_some_iff.1 hi).1
 exact⟨es[i],List.getElem_mem hlt,h.2 i _ E (List.getElem?_eq_getElem hlt) hi⟩
theorem CR.mem' {R:Ren} {es:List EO} {Es:List MapEntry} (h:CR R es Es) {e:EO} (he:e∈es):∃ E∈Es,Tc R e E:=by
 obtain⟨i,hi⟩:=List.mem_iff_getElem?.1 he
 have hlt:i < Es.length:=by rw[←h.1];exact(List.getElem?_eq_some_iff.1 hi).1
 exact⟨Es[i],List.getElem_mem hlt,h.2 i e _ hi (List.getElem?_eq_getElem hlt)⟩
theorem NW {es:Array MapEntry} {S:Array Nat} {E:MapEntry}:E∈(leftOf es S).toList↔E∈es.toList∧E.born ∉ S.toList:=by
 unfold leftOf
 simp
theorem kG {H:Aa} {R:Ren} {w:World} (hs:Ck H R w) {a:Act} {o:Oper} {x:Operand} (ho:o.op = .next x false) {id mid since st clock:Nat} {seen:List Nat} {es:List EO}
 (hx:VR R (.pointer (some ⟨id,0,none⟩)) (a.eval x)) (hi:H.get id = .iter (some mid) since seen st) (hm:H.get mid = .map es clock) (hold:Au (fun e=>Nat.blt e.born since) es=true) (hst:Nat.ble since st=true) {next:Act→World→Prop} {Q:Exit→Act→World→Prop}
 (h0:IY es seen=[]→next (a.put o.dst (.tuple #[.bool false])) w)
 (h1:∀ e∈IY es seen,∀ w' k v,VR R e.key k→VR R e.val v→Ba H R w (H.set id (.iter (some mid) since (Br seen [e.born]) clock)) R w'→next (a.put o.dst (.tuple #[.bool true,k,v])) w'):o.wp P a w next Q:=by
 obtain⟨dst,op,ty,pos,after,guard⟩:=o
 simp only at ho;subst ho
 generalize hxe:a.eval x=u at hx
 cases hx with
 | @ptr _ off c β hf =>
  have hob:=hs.obj id c β hf
  rw[hi] at hob
  obtain⟨hβ,m',S,hc,hS,cm,hmf,hm'⟩:=hob
  subst hβ;subst hm'
  have hmo:=hs.obj mid cm 0 hmf
  rw[hm] at hmo
  obtain⟨_,Es,hEs,hE⟩:=hmo
  have hold':∀ X∈Es.toList,X.born < since:=fun X hX=>by
   obtain⟨e,he,_,_,hb⟩:=hE.mem hX
   rw[Bh,List.all_eq_true] at hold
   have:=Nat.le_of_ble_eq_true (hold e he)
   omega
  unfold Oper.wp
  rcases RF (P:=P) (ty:=ty) hc hEs hold' (Nat.le_of_ble_eq_true hst) with⟨hz,hrun⟩ | ⟨E,hEm,w1,hal,hrun⟩
  ·have hl : IY es seen = [] := by
    cases hq:IY es seen with
    | nil=>rfl
    | cons e r =>
     exfalso
     have he:e∈IY es seen:=by rw[hq];exact List.mem_cons_self
     obtain⟨g1,g2⟩:=Qe.1 he
     obtain⟨E,hE1,_,_,hb⟩:=hE.mem' g1
     have:E∈(leftOf Es S).toList:=NW.2 ⟨hE1,by rw[←hb,hS];exact g2⟩
     have h9:=Array.eq_empty_of_size_eq_zero hz
     rw[h9] at this;simp at this
   have hr2:(execOp a.eval ⟨dst,.next x false,ty,pos,after,guard⟩).run P w = .ok (.value (.tuple #[.bool false])) w:=by
    show (do pure (.value (←Instr.next (a.eval x) false ty)):Sem Next).run P w=_
    rw[hxe]
    simp[hrun]
   rw[hr2]
   exact h0 hl
  ·obtain⟨g1,g2⟩:=NW.1 hEm
   obtain⟨e,he,k1,k2,hb⟩:=hE.mem g1
   have hel:e∈IY es seen:=Qe.2 ⟨he,by rw[hb,←hS];exact g2⟩
   have hr2:(execOp a.eval ⟨dst,.next x false,ty,pos,after,guard⟩).run P w = .ok (.value (.tuple #[.bool true,E.key,E.val])) { w1 with heap:=w.heap.setIfInBounds c (.mapIter (some cm) since (S.push E.born) clock) }:=by
    show (do pure (.value (←Instr.next (a.eval x) false ty)):Sem Next).run P w=_
    rw[hxe]
    simp[hrun]
   rw[hr2]
   have hp:=Zb (st':=clock) (S':=S.push E.born) (seen':=Br seen [e.born]) (m':=some cm) hs hi hf (by rw[Array.toList_push,hS,BH,hb]) ⟨cm,hmf,rfl⟩
   exact h1 e hel _ _ _ k1 k2 (hp.of_heap rfl hal.2.1 hal.2.2)
end Go.Sp
