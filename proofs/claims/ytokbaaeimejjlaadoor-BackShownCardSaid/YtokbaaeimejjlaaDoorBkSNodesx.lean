/- Made from wip. -/
import Derived.Test.YtokbaaeimejjlaaDoorSpSymx
import Derived.Test.YtokbaaeimejjlaaDoorSpClo3x
import Derived.Test.YtokbaaeimejjlaaDoorSpMorex
import Derived.Sort.Grow
import Derived.Lib.SlicesCompact
import Derived.Test.YtokbaaeimejjlaaDoorSpFramex

namespace Go.Sp

theorem Quiet.dead {n0:Nat} {H:Aa} {id:Nat} {xs:List Value} {spent:Bool} {anc:List Nat} (h1:H.get id = .cells xs false spent anc):Quiet n0 H (H.set id .dead):=fun H0 R0 w0 R w hs0 _ hp=>by
 have hs:=hp.sim
 have hget:∀ i,(H.set id .dead).get i=if id=i then .dead else H.get i:=fun i=>Aa.get_set _ _ _ _
 have hwr:∀ i,(H.get i).writable=false→((H.set id .dead).get i).writable=false:=fun i h=>by
  rw[hget];split
  ·rfl
  ·exact h
 refine ⟨R, R.le_refl, rfl, hp.le, hp.new, ⟨fun i c β h => by rw [Aa.next_set]; exact hs.dom i c β h, fun i c β h => ?_, fun i c β i' β' h h' hne hw => ?_, fun i a ha => ?_, fun i hi => ?_, fun c C h => ⟨(hs.ro c C h).1, fun i β h' => hwr i ((hs.ro c C h).2 i β h')⟩⟩,
  by rw[Aa.next_set];exact hp.next,hp.grow,hp.frame,fun i hi hr Q c β ob h=>?_,fun i hi h=>?_,hp.fresh,hp.side,hp.rofresh⟩
 ·rw[hget];split
  ·trivial
  ·exact hs.obj i c β h
 ·rw[hget] at hw
  split at hw
  ·cases hw
  ·rename_i he
   rw[hget i']
   split
   ·exact .inl rfl
   ·rw [hget i, if_neg he]; exact hs.sep i c β i' β' h h' hne hw
 ·rw[hget] at ha
  split at ha
  ·cases ha
  ·obtain⟨h1,h2,h3⟩:=hs.anc i a ha
   refine⟨by rw[Aa.next_set];exact h1,?_,hwr a h3⟩
   rw[hget];split
   ·rfl
   ·exact h2
 ·rw[Aa.next_set] at hi
  rw[hget];split
  ·rfl
  ·exact hs.wf i hi
 ·rw[hget];split
  ·trivial
  ·exact hp.calm i hi hr Q c β ob h
 ·rw[hget];split
  ·rename_i he
   subst he
   have:=hp.imm id hi h
   rw[h1] at this
   rw[←this] at h;cases h
  ·exact hp.imm i hi h
theorem Quiet.push {n0:Nat} {H:Aa} {o:AJ} (h:o.ancOf=[]):Quiet n0 H (H.push o):=fun H0 R0 w0 R w _ _ hp=>⟨R,R.le_refl,rfl,hp.absPush h⟩

theorem FU.frzP {n0 m:Nat} {H:Aa} {id off:Nat} {xs:List Value} {anc:List Nat} (hn:Nat.ble n0 m=true) (hm:Nat.ble m id=true) (h1:H.get id = .cells xs false false anc) (hne:Nat.ble 1 (len xs)=true) (hc:Au Ah xs=true) :
 FU n0 H (.pointer (some ⟨id,off,none⟩)) (H.set id .dead) (Cv off xs):=fun H0 R0 w0 R w u hs hn0 hp hv=>by
 obtain⟨c,β,hid,rfl⟩:=hv.ptr_l
 have hne:1≤xs.length:=by have:=Nat.le_of_ble_eq_true hne;rwa [AV] at this
 obtain⟨C,t,fz,k1,k2,k3,k4⟩:=hp.sim.cells (o:=⟨xs,false,false,anc⟩) hid (by rw[h1];rfl)
 have hfz:Cq m false (.slice (some ⟨id,0,some 1⟩) xs.length (2*xs.length)) H=some (FP 1 xs.length 0 xs,H.set id .dead):=by
  unfold Cq
  show oo (Bv (H.get id)) none _=_
  rw[h1]
  have ht:Aq (xs.length*1) (Am 0 xs)=xs:=by rw[Cg,Bz,List.drop_zero,List.take_of_length_le (by omega)]
  show bb (an (Nat.ble m id) (an true (an true (an (Nat.ble (0+xs.length*1) (len xs)) (Au Ah (Aq (xs.length*1) (Am 0 xs))))))) (some (FP 1 xs.length 0 (Aq (xs.length*1) (Am 0 xs)),_)) none=_
  rw[ht,hm,hc,AV,Nat.ble_eq_true_of_le (by omega)]
  rfl
 obtain ⟨R', q1, q0, q2, q3⟩ := Gg (u := .slice (some ⟨c, β + 0, none⟩) xs.length xs.length) hfz hs (Nat.le_trans hn0 (Nat.le_of_ble_eq_true hn)) hp (.sl hid (by omega) (by omega) (fun h => by omega) (by
  have k2:C.size=R.sz c:=k2
  have k3:β+xs.length≤C.size:=k3
  omega))
 refine⟨R',q1,q0,q2,?_⟩
 rcases q3.fs_l (f:=⟨1,xs.length,0,xs⟩) rfl with⟨e,_⟩ | ⟨_,e,_⟩ | ⟨c',o',cap,C',hro,he,hl,_,_,_,hfit,hcr,hcl⟩
 ·have e:xs.length=0:=e;omega
 ·have e:xs.length=0:=e;omega
 ·injection he with he1 he2 he3
  injection he1 with he1
  injection he1 with e1 e2 e3
  subst e1
  have e2:β=o':=by omega
  subst e2
  exact .mkFp hro hfit hcr hcl

noncomputable def Xc (v:Value):Bool:=vv v (fun _=>false) (fun _ _=>false) (fun _=>false) (fun a=>nt (isS a)) (fun _ _ _=>false) (fun _=>false) (fun _ _ _=>false) false (fun _ _=>false) false (fun _=>false) (fun _=>false) false
theorem PL {v:Value} (h:Xc v=true):v = .pointer none:=by
 cases v <;> simp only[Xc,vv] at h <;> try (cases h;done)
 rename_i a;cases a with
 | none=>rfl
 | some a=>cases h
section
variable {n0:Nat}
theorem E9.frzP (m t id off:Nat) (xs:List Value) (c:Bool) {F F':Fr} {H H':Aa} {anc:List Nat} (hcl:Au Ah xs=c) (hc:c=true) (r:E9 n0 (F.put (some t) (Cv off xs)) (H.set id .dead) F' H')
 (hv:F.get t = .pointer (some ⟨id,off,none⟩):=by kernel_rfl) (hn:Nat.ble n0 m=true:=by kernel_rfl) (hm:Nat.ble m id=true:=by kernel_rfl) (h1:H.get id = .cells xs false false anc:=by kernel_rfl) (hne:Nat.ble 1 (len xs)=true:=by kernel_rfl):E9 n0 F H F' H':=
 .step (.tell (by rw[hv];exact .frzP hn hm h1 hne (hcl.trans hc))) r
end
end Go.Sp
namespace Go.Sp
open Go.Sort

noncomputable section
def Dy (z:Int):Value:=.int .i64 z
def Cs (zs:List Int):List Int:=zs.mergeSort fun x y=>decide (x≤y)
def RO (zs:List Int):List Int:=Lib.compact zs
end

theorem Ba.growW {H H':Aa} {R R':Ren} {w w1 w2:World} (hp:Ba H R w H' R' w1) {os:Array Obj} (e:w2.heap=w1.heap++os) (e1:w2.os=w1.os) (e2:w2.output=w1.output):Ba H R w H' R' w2:=by
 have hget:∀ c,c < w1.heap.size→w2.heap[c]?=w1.heap[c]?:=fun c hc=>by rw[e,Array.getElem?_append_left hc]
 have hsz:w1.heap.size≤w2.heap.size:=by rw[e];simp
 have hs:=hp.sim
 refine ⟨hp.le, hp.new, ⟨fun id c β h => ⟨(hs.dom id c β h).1, Nat.lt_of_lt_of_le (hs.dom id c β h).2 hsz⟩, fun id c β h => by rw [hget c (hs.dom id c β h).2]; exact hs.obj id c β h, hs.sep, hs.anc, hs.wf, fun c C h => ?_⟩,
  hp.next,Nat.le_trans hp.grow hsz,fun c hc h=>by rw[hget c (Nat.lt_of_lt_of_le hc hp.grow)];exact hp.frame c hc h,hp.calm,hp.imm,hp.fresh,⟨e1.trans hp.side.1,e2.trans hp.side.2.1,fun a ha=>?_⟩,hp.rofresh⟩
 ·obtain⟨⟨t,fz,h1⟩,h2⟩:=hs.ro c C h
  exact⟨⟨t,fz,by rw[hget c (Array.getElem?_eq_some_iff.1 h1).1];exact h1⟩,h2⟩
 ·rw[←hp.side.2.2 a ha]
  unfold World.frozen?
  rw[hget a.block (Nat.lt_of_lt_of_le ha hp.grow)]

theorem JP (l:List Int):AP Dy l=l.map Dy:=by
 induction l with
 | nil=>rfl
 | cons x l ih=>show Dy x::AP Dy l=_;rw[ih];rfl
theorem Fh (l:List Int):(AP Dy l).length=l.length:=by rw[JP];simp

theorem Xd {H H':Aa} {R:Ren} {w:World} {id c β:Nat} {vals:List Int} (hs:Ck H R w) (hw:Ej H id 0 (AP Dy vals)=some H') (hid:R.f id=some (c,β)) (n:Nat) (os:Array Obj) :
 Ba H R w H' R (grow (putRow (Value.int .i64) (Go.Sort.ahead w n) c β vals.toArray) os):=by
 have hv:Cf R (AP Dy vals) (AP Dy vals):=JX fun x hx=>by
  rw[JP] at hx
  obtain⟨z,_,rfl⟩:=List.mem_map.1 hx
  rfl
 obtain⟨C,t,hC,hfit,_,hp⟩:=F8 hs hw hid hv
 refine hp.growW (os:=os) ?_ rfl rfl
 show (putRow (Value.int .i64) (Go.Sort.ahead w n) c β vals.toArray).heap++os=_
 congr 1
 apply Array.ext_getElem?
 intro k
 by_cases hk:c=k
 ·subst hk
  rw[setRow_heap w c C _ t (0,0) hC]
  show (Array.modify w.heap c (onCells (putCells (Value.int .i64) β vals.toArray)))[c]?=_
  rw[Array.getElem?_modify,if_pos rfl,hC]
  show some (Obj.cells _ _ _)=some (Obj.cells _ _ _)
  congr 2
  apply Array.ext_getElem?
  intro j
  rw[Fh] at hfit
  simp only[putCells,Array.getElem?_mapIdx,List.getElem?_toArray,JP,List.length_map,Nat.add_zero]
  by_cases h1:β≤j∧j < β+vals.length
  ·have hj:j < C.size:=by omega
   have hj2:j - β < vals.length:=by omega
   rw[Array.getElem?_eq_getElem hj,Option.map_some,if_pos (by simpa using h1)]
   rw[List.append_assoc,List.getElem?_append_right (by simp;omega),List.getElem?_append_left (by simp;omega)]
   simp only[List.length_take,Array.length_toList,List.getElem?_map]
   rw[show j - min β C.size=j - β by omega,List.getElem?_eq_getElem hj2]
   simp[Dy,getElem!_pos,hj2]
  ·by_cases h2:j < β
   ·rw[List.append_assoc,List.getElem?_append_left (by simp;omega),List.getElem?_take_of_lt h2]
    simp only[Array.getElem?_toList]
    cases hcj:C[j]? with
    | none=>rfl
    | some y=>rw[Option.map_some,if_neg (by simpa using h1)]
   ·rw[List.getElem?_append_right (by simp;omega),List.getElem?_drop]
    simp only[Array.getElem?_toList]
    have:β+vals.length+(j - (List.take β C.toList++List.map Dy vals).length)=j:=by simp;omega
    rw[this]
    cases hcj:C[j]? with
    | none=>rfl
    | some y=>rw[Option.map_some,if_neg (by simpa using h1)]
 ·rw[setRow_other _ _ _ _ (fun h=>hk h.symm)]
  show (Array.modify w.heap c _)[k]?=_
  rw[Array.getElem?_modify,if_neg hk]

section
variable {P:Program} {g:FuncId}

end

theorem Ua {H:Aa} {id:Nat} {xs:List Value} {anc:List Nat} {vals:List Int} (hg:H.get id = .cells xs false false anc) (hl:vals.length=xs.length) :
 Ej H id 0 (AP Dy vals)=some ((H.kill anc).set id (.cells (AP Dy vals) false false [])):=by
 unfold Ej
 have h1:Nat.ble (0+len (AP Dy vals)) (len xs)=true:=by rw[AV,AV,Fh];exact Nat.ble_eq_true_of_le (by omega)
 have h2:Au D6 (AP Dy vals)=true:=by
  rw[Bh,List.all_eq_true,JP]
  intro x hx
  obtain⟨z,_,rfl⟩:=List.mem_map.1 hx
  rfl
 have h3:BM (AP Dy vals) 0 xs=AP Dy vals:=by
  show Br (AP Dy vals) (Am (len (AP Dy vals)) xs)=_
  rw[BH,Bz,AV,Fh,List.drop_of_length_le (by omega),List.append_nil]
 rw[hg]
 show bb (an (nt false) (an (nt false) (an (Nat.ble (0+len (AP Dy vals)) (len xs)) (Au D6 (AP Dy vals))))) (some ((H.kill anc).set id (.cells (BM (AP Dy vals) 0 xs) false false []))) none=_
 rw[h1,h2,h3];rfl

end Go.Sp
namespace Go.Sp
open Go
noncomputable section
def sortedF (g:FuncId) (args:List Value) (H:Aa):Option (Value×Aa):=ll args none fun x r=>ll r (oo (Om g 0 x) none fun l=>ll l none fun p l2=>ll l2 (oo (FO p) none fun q=>pp q fun id off=>oo (Bv (H.get id)) none fun o=>oo (AL o.xs off) none fun sv=>oo (Bj 1 sv) none fun s=>oo (CG (Bi .i64) s.cs) none fun zs=>
 bb (an (Nat.beq (len zs) s.n) (Nat.ble (len zs) 1000000)) (some (Sl.v 1 ⟨len zs,bb (MQ zs) 2 0,AP Dy (Cs zs)⟩,H.push .dead)) none) fun _ _=>none) fun _ _=>none
end
theorem WE {g:FuncId} {H:Aa} {id:Nat} {o:H7} {s:Sl} {zs:List Int} (ho:Bv (H.get id)=some o) (hx:AL o.xs 0=some (Sl.v 1 s)) (hz:CG (Bi .i64) s.cs=some zs) (hc:an (Nat.beq (len zs) s.n) (Nat.ble (len zs) 1000000)=true) :
 sortedF g [.func (.func g) ⟨[]⟩ ⟨[.pointer (some ⟨id,0,none⟩)]⟩] H=some (Sl.v 1 ⟨len zs,bb (MQ zs) 2 0,AP Dy (Cs zs)⟩,H.push .dead):=by
 have hf:Om g 0 (.func (.func g) ⟨[]⟩ ⟨[.pointer (some ⟨id,0,none⟩)]⟩)=some [.pointer (some ⟨id,0,none⟩)]:=by
  show bb (an (Nat.beq g g) (Nat.beq 0 0)) (some [Value.pointer (some ⟨id,0,none⟩)]) none=_
  rw[show Nat.beq g g=true from by simp];rfl
 unfold sortedF
 show oo (Om g 0 (.func (.func g) ⟨[]⟩ ⟨[.pointer (some ⟨id,0,none⟩)]⟩)) none _=_
 rw[hf]
 show oo (Bv (H.get id)) none (fun o=>oo (AL o.xs 0) none fun sv=>oo (Bj 1 sv) none fun s=>oo (CG (Bi .i64) s.cs) none fun zs=>bb (an (Nat.beq (len zs) s.n) (Nat.ble (len zs) 1000000)) (some (Sl.v 1 ⟨len zs,bb (MQ zs) 2 0,AP Dy (Cs zs)⟩,H.push .dead)) none)=_
 rw[ho,Ac,hx,Ac,show Bj 1 (Sl.v 1 s)=some s from rfl,Ac,hz,Ac,hc,Ak]
end Go.Sp
namespace Go.BkQ
open Go Go.Sp
noncomputable section
def IV (z:Int):Value:=.int .i64 z
def vH (rows cols t r c:Nat):Nat×Nat:=
 bb (Nat.beq t 1) (rows - 1 - c, r) (bb (Nat.beq t 2) (rows - 1 - r, cols - 1 - c) (bb (Nat.beq t 3) (c, cols - 1 - r) (bb (Nat.beq t 4) (r, cols - 1 - c)
  (bb (Nat.beq t 5) (rows - 1 - r,c) (bb (Nat.beq t 6) (c,r) (bb (Nat.beq t 7) (rows - 1 - c,cols - 1 - r) (r,c)))))))
def vI (rows cols t i:Nat):Nat:=Nat.rec (motive:=fun _=>Nat) 0 (fun _ _=>pp (vH rows cols t (i / cols) (i % cols)) fun r c=>r*cols+c) cols
def upN (n:Nat):List Nat:=Nat.rec (motive:=fun _=>List Nat) [] (fun k ih=>Br ih [k]) n
def cellL (rows cols t:Nat):List Nat:=AP (vI rows cols t) (upN (rows*cols))
def Gt (l:List Nat):List Value:=AP (fun n=>IV (.ofNat n)) l
def Ub (l:List Nat):Value:=FP 1 (len l) 0 (Gt l)
def triples:List (Nat×Nat×Nat):=[(1,1,0),(1,1,1),(1,1,2),(1,1,3),(1,1,4),(1,1,5),(1,1,6),(1,1,7),(1,2,0),(1,2,2),(1,2,4),(1,2,5),(1,3,0),(1,3,2),(1,3,4),(1,3,5),(1,4,0),(1,4,2),(1,4,4),(1,4,5),(2,1,0),(2,1,2),(2,1,4),(2,1,5),(2,2,0),(2,2,1),(2,2,2),(2,2,3),(2,2,4),(2,2,5),(2,2,6),(2,2,7),(2,3,0),(2,3,2),(2,3,4),(2,3,5),(2,4,0),(2,4,2),(2,4,4),(2,4,5),(3,1,0),(3,1,2),(3,1,4),(3,1,5),(3,2,0),(3,2,2),(3,2,4),(3,2,5),(3,3,0),(3,3,1),(3,3,2),(3,3,3),(3,3,4),(3,3,5),(3,3,6),(3,3,7),(3,4,0),(3,4,2),(3,4,4),(3,4,5),(4,1,0),(4,1,2),(4,1,4),(4,1,5),(4,2,0),(4,2,2),(4,2,4),(4,2,5),(4,3,0),(4,3,2),(4,3,4),(4,3,5),(4,4,0),(4,4,1),(4,4,2),(4,4,3),(4,4,4),(4,4,5),(4,4,6),(4,4,7)]
def bM (l:List (Nat×Nat×Nat)) (r c t:Nat):Bool:=List.rec (motive:=fun _=>Bool) false (fun p _ ih=>Dp (an (Nat.beq p.1 r) (an (Nat.beq p.2.1 c) (Nat.beq p.2.2 t))) ih) l
def cellsM (args : List Value) : Option Value := ll args none fun a r => ll r none fun b r => ll r (oo (Bt a) none fun l => ll l none fun v1 l => ll l none fun v2 l => ll l none fun v3 l => ll l none fun v4 l => ll l
 (oo (Bi .i64 v1) none fun z1 => oo (EA z1) none fun rows => oo (Bi .i64 v2) none fun z2 => oo (EA z2) none fun cols => oo (Bi .i64 b) none fun z3 => oo (EA z3) none fun t =>
   bb (bM triples rows cols t) (some (Ub (cellL rows cols t))) none) fun _ _=>none) fun _ _=>none
def trueF (args:List Value):Option Value:=ll args (some (.bool true)) fun _ _=>none
end
theorem UH {a b:Bool} (h:Dp a b=true):a=true∨b=true:=by
 cases a with
 | true=>exact .inl rfl
 | false=>exact .inr h
theorem RP {l:List (Nat×Nat×Nat)} {r c t:Nat} (h:bM l r c t=true):(r,c,t)∈l:=by
 induction l with
 | nil=>cases h
 | cons p l ih =>
  rcases UH (show Dp (an (Nat.beq p.1 r) (an (Nat.beq p.2.1 c) (Nat.beq p.2.2 t))) (bM l r c t)=true from h) with h | h
  ·obtain⟨h1,h⟩:=Av h
   obtain⟨h2,h3⟩:=Av h
   obtain⟨p1,p2,p3⟩:=p
   have h1:p1=r:=Nat.eq_of_beq_eq_true h1
   have h2:p2=c:=Nat.eq_of_beq_eq_true h2
   have h3:p3=t:=Nat.eq_of_beq_eq_true h3
   subst h1;subst h2;subst h3
   exact List.mem_cons_self
  ·exact List.mem_cons_of_mem _ (ih h)
theorem Ud {args:List Value} {v:Value} (h:cellsM args=some v):∃ r c t v3 v4,args=[.agg ⟨[IV (.ofNat r),IV (.ofNat c),v3,v4]⟩,IV (.ofNat t)]∧(r,c,t)∈triples∧v=Ub (cellL r c t):=by
 replace h:=Ad h;obtain⟨a,r1,rfl,h⟩:=h
 replace h:=Ad h;obtain⟨b,r2,rfl,h⟩:=h
 replace h:=AC h;obtain⟨rfl,h⟩:=h
 replace h:=Ab h;obtain⟨l,hl,h⟩:=h
 replace h:=Ad h;obtain⟨v1,l1,rfl,h⟩:=h
 replace h:=Ad h;obtain⟨v2,l2,rfl,h⟩:=h
 replace h:=Ad h;obtain⟨v3,l3,rfl,h⟩:=h
 replace h:=Ad h;obtain⟨v4,l4,rfl,h⟩:=h
 replace h:=AC h;obtain⟨rfl,h⟩:=h
 replace h:=Ab h;obtain⟨z1,h1,h⟩:=h
 replace h:=Ab h;obtain⟨r,h2,h⟩:=h
 replace h:=Ab h;obtain⟨z2,h3,h⟩:=h
 replace h:=Ab h;obtain⟨c,h4,h⟩:=h
 replace h:=Ab h;obtain⟨z3,h5,h⟩:=h
 replace h:=Ab h;obtain⟨t,h6,h⟩:=h
 replace h:=Ae h;obtain⟨hc,h⟩:=h
 injection h with h
 refine⟨r,c,t,v3,v4,?_,RP hc,h.symm⟩
 rw[BQ hl,Eh h1,Eh h3,Eh h5,AR h2,AR h4,AR h6];rfl
end Go.BkQ
set_option maxRecDepth 100000
namespace Go.BkS
open Go.Sp
def AdS:RC:=.reg [] [Ce 22 1 24,rq 23 (cf 9 #[tp 22,ki 3,ki 3] #[24,3,3]) 28,Ap 21 23 28,EM 24 21 0 27,EM 25 21 1 25,rq 3 (.alloc 27) 0,rn (.store 27 (tp 3) (tp 24)) 0,AQ 4 25 25]
def AdT:RC:=.reg [] [Ap 26 4 25,EN 27 26 25,AQ 5 27 3]
def AdU:RC:=.reg [] [DR 28 27 3 3,Ce 29 28 25,EN 30 29 25,rq 31 (.move (ki 0)) 3]
def AdV:RC:=.reg [] [D5 33 25 29 31,Ce 34 33 3,AQ 8 34 3]
def AdW:RC:=.reg [] [Ap 35 4 25,DR 36 27 3 0,Ce 37 36 3,DR 38 27 3 1,Ce 39 38 3,Ap 40 8 3,rq 41 (cf 10 #[tp 35,tp 37,tp 39,tp 40] #[25,3,3,3]) 25,AQ 9 41 25]
def vJ:RC:=.reg [] [Ap 42 4 25,EN 43 42 25,rq 44 (.move (ki 0)) 3]
def vK:RC:=.reg [0,1,2,3,4,5,6,7,8] [Ap 47 4 25,Ap 48 11 3,D5 49 25 47 48,Ce 50 49 3,Ap 51 9 25,Ap 52 11 3,D5 53 25 51 52,Ce 54 53 3,rq 55 (.binOp .neq 3 (tp 50) (tp 54) 3) 4]
def vL:RC:=.reg [] [Ap 56 10 3,Ap 57 11 3,rq 58 (.binOp .shl 3 (ki 1) (tp 57) 3) 3,rq 59 (.binOp .or 3 (tp 56) (tp 58) 3) 3,AQ 10 59 3]
def vM:RC:=.seq (.reg [] [Ap 46 44 3,AQ 11 46 3]) (.seq vK (.cond (tp 55) vL .skip))
def vN:RC:=.reg [] [FB 60 44,Ap 44 60 3]
def vO:RC:=.seq (.reg [] [L8 45 44 43]) (.seq (.cond (tp 45) .skip (.exit 2)) (.seq (.block 3 vM) vN))
def vP:RC:=.reg [] [Ap 61 10 3,rq 62 (.binOp .gtr 3 (tp 61) (ki 0) 3) 4]
def vQ:RC:=.reg [] [Ap 63 6 25,Ap 64 10 3,rq 65 (.buildSlice 25 1 #[(0,(tp 64))]) 25,rq 66 (cb .append #[tp 63,tp 65] #[25,25]) 25,AQ 6 66 25]
def vR:RC:=.seq (.seq vJ (.block 2 (.loop vO))) (.seq vP (.cond (tp 62) vQ .skip))
def vS:RC:=.seq AdV (.seq AdW (.seq (.reg [] [Cz 10 0 3]) vR))
def vT:RC:=.reg [] [FB 67 31,Ap 31 67 3]
def vU:RC:=.seq (.reg [] [L8 32 31 30]) (.seq (.cond (tp 32) .skip (.exit 0)) (.seq (.block 1 vS) vT))
def vV:RC:=.reg [] [Ce 69 3 27,Ap 70 4 25,rq 71 (cf 20 #[tp 69,tp 70] #[27,25]) 33,Ap 68 71 33,EM 72 68 0 25,EM 73 68 1 32,AQ 12 72 25,AQ 13 73 32]
def vW:RC:=.reg [] [Ap 74 13 32,rq 75 (.binOp .neq 32 (tp 74) (ki 0) 32) 4,Ap 76 75 4,DD 77 12 25 76 false,rg 78 (cb .len #[tp 77] #[25]) 3 76 false,DD 79 6 25 76 false,rg 80 (cb .len #[tp 79] #[25]) 3 76 false,rg 81 (.binOp .gtr 3 (tp 78) (tp 80) 3) 4 76 false,rq 82 (.pick (tp 76) (kb true) (tp 81)) 4]
def vX:RC:=.cond (tp 82) (.seq (.reg [] [rq 2 (.assign (kb false)) 4]) .ret) .skip
def vY:RC:=.reg [] [Ap 83 15 3,Ap 84 5 3,rq 85 (.binOp .shl 3 (ki 1) (tp 84) 3) 3,rq 86 (.binOp .lss 3 (tp 83) (tp 85) 3) 4]
def vZ:RC:=.reg [] [Ap 89 17 3,Ap 90 5 3,rq 91 (.binOp .lss 3 (tp 89) (tp 90) 3) 4]
def wB:RC:=.reg [] [Ap 94 15 3,Ap 95 17 3,rq 96 (.binOp .shr 3 (tp 94) (tp 95) 3) 3,rq 97 (.binOp .and 3 (tp 96) (ki 1) 3) 3,rq 98 (.binOp .eql 3 (tp 97) (ki 1) 3) 4]
def wC:RC:=.reg [] [Ap 99 16 25,Ap 100 17 3,rq 101 (.buildSlice 25 1 #[(0,(tp 100))]) 25,rq 102 (cb .append #[tp 99,tp 101] #[25,25]) 25,AQ 16 102 25]
def wI:RC:=.reg [] [Ap 92 17 3,FB 93 92,AQ 17 93 3]
def wJ:RC:=.seq (.seq vZ (.cond (tp 91) .skip (.exit 6))) (.seq (.block 7 (.seq wB (.cond (tp 98) wC .skip))) wI)
def wK:RC:=.reg [] [Ap 103 6 25,EN 104 103 25,rq 105 (.move (ki 0)) 3]
def wL:RC:=.reg [] [D5 107 25 103 105,Ce 108 107 3,AQ 20 108 3]
def wM:RC:=.reg [] [Ap 109 18 4,Ap 110 109 4,DD 111 20 3 110 true,DD 112 15 3 110 true,rg 113 (.binOp .and 3 (tp 111) (tp 112) 3) 3 110 true,rg 114 (.binOp .neq 3 (tp 113) (ki 0) 3) 4 110 true,rq 115 (.pick (tp 110) (tp 114) (kb false)) 4,AQ 18 115 4]
def wN:RC:=.reg [] [FB 116 105,Ap 105 116 3]
def wO:RC:=.seq (.cond (tp 106) .skip (.exit 8)) (.seq (.block 9 (.seq wL wM)) wN)
def wP:RC:=.loop (.seq (.reg [] [L8 106 105 104]) wO)
def wQ:RC:=.reg [] [Ap 117 18 4,Ap 118 117 4,DD 119 16 25 118 true,rg 120 (cb .len #[tp 119] #[25]) 3 118 true,DD 121 12 25 118 true,rg 122 (cb .len #[tp 121] #[25]) 3 118 true,rg 123 (.binOp .lss 3 (tp 120) (tp 122) 3) 4 118 true,DD 124 123 4 118 true,DD 125 16 25 124 false,rg 126 (cb .len #[tp 125] #[25]) 3 124 false,DD 127 12 25 124 false,rg 128 (cb .len #[tp 127] #[25]) 3 124 false,rg 129 (.binOp .eql 3 (tp 126) (tp 128) 3) 4 124 false,DD 130 129 4 124 false,DD 131 16 25 130 true,DD 132 12 25 130 true,rg 133 (cf 13 #[tp 131,tp 132] #[25,25]) 4 130 true,rg 134 (.pick (tp 130) (tp 133) (kb false)) 4 124 false,rg 135 (.pick (tp 124) (kb true) (tp 134)) 4 118 true,rq 136 (.pick (tp 118) (tp 135) (kb false)) 4]
def wR:RC:=.cond (tp 136) (.seq (.reg [] [rq 2 (.assign (kb false)) 4]) .ret) .skip
def wS:RC:=.reg [] [Ap 137 14 4,Ap 138 137 4,DD 139 18 4 138 false,DD 140 139 4 138 false,DD 141 16 25 140 true,DD 142 12 25 140 true,rg 143 (cf 12 #[tp 141,tp 142] #[25,25]) 4 140 true,rg 144 (.pick (tp 140) (tp 143) (kb false)) 4 138 false,rq 145 (.pick (tp 138) (kb true) (tp 144)) 4,AQ 14 145 4]
def wT:RC:=.reg [] [Ce 146 3 27,Ap 147 4 25,Ap 148 16 25,rq 149 (cf 21 #[tp 146,tp 147,tp 148] #[27,25,25]) 32,rq 150 (.binOp .eql 32 (tp 149) (ki 0) 32) 4,Ap 151 18 4,rq 152 (.binOp .neq 4 (tp 150) (tp 151) 4) 4]
def wU:RC:=.cond (tp 152) (.seq (.reg [] [rq 2 (.assign (kb false)) 4]) .ret) .skip
def wV:RC:=.seq (.seq wK (.block 8 wP)) (.seq (.seq wQ wR) (.seq wS (.seq wT wU)))
def gZ:RC:=.seq (.seq (.reg [] [Cz 17 0 3]) (.block 6 (.loop wJ))) (.seq (.reg [] [rq 18 (.assign (kb true)) 4]) wV)
def iB:RC:=.block 5 (.seq (.reg [] [rq 16 (.assign (.const (.slice none 0 0))) 25]) gZ)
def iC:RC:=.reg [] [Ap 87 15 3,FB 88 87,AQ 15 88 3]
def iD:RC:=.loop (.seq (.seq vY (.cond (tp 86) .skip (.exit 4))) (.seq iB iC))
def iE:RC:=.reg [] [Ap 153 14 4,Ap 154 153 4,rg 155 (cf 19 #[] #[]) 4 154 true,rq 156 (.pick (tp 154) (tp 155) (kb false)) 4,AQ 2 156 4]
def Xe:RC:=.seq iE .ret
def iF:RC:=.seq (.seq (.reg [] [Cz 15 0 3]) (.block 4 iD)) Xe
def iG:RC:=.seq (.seq vW vX) (.seq (.reg [] [rq 14 (.assign (kb false)) 4]) iF)
def Xf:RC:=.seq vV iG
def iH:RC:=.seq (.reg [] [rq 6 (.assign (.const (.slice none 0 0))) 25]) (.seq (.seq AdU (.block 0 (.loop vU))) Xf)
def PM:RC:=.seq (.reg [] [rq 1 (.box 24 (tp 0)) 0,rq 2 (.assign (kb false)) 4]) (.seq AdS (.seq AdT iH))
def AdX:RC:=.reg [] [rq 3 (.box 24 (tp 0)) 0,rq 6 (.alloc 27) 0,rq 7 (.assign (.const (.slice none 0 0))) 25]
def AdY:RC:=.reg [0,1,2,3,4,5,6,7,8,9,10,11,12,13,14,15,16,17,18,19,20] [DR 13 24 3 0,Ce 14 13 5,rq 15 (.convert 5 3 (tp 14)) 3,Ap 16 1 3,rq 17 (.binOp .rem 3 (tp 15) (tp 16) 3) 3,rq 18 (.binOp .add 3 (ki 1) (tp 17) 3) 3,DR 19 24 3 1,Ce 20 19 5,rq 21 (.convert 5 3 (tp 20)) 3,Ap 22 1 3,rq 23 (.binOp .rem 3 (tp 21) (tp 22) 3) 3,rq 24 (.binOp .add 3 (ki 1) (tp 23) 3) 3,DR 25 24 3 2,Ce 26 25 5,rq 27 (.convert 5 3 (tp 26)) 3,Ap 28 2 3,rq 29 (.binOp .rem 3 (tp 27) (tp 28) 3) 3,rq 30 (.binOp .add 3 (ki 1) (tp 29) 3) 3,rq 31 (.build 27 #[(0,(tp 18)),(1,(tp 24)),(2,(tp 30))]) 27,rq 8 (.alloc 27) 0,rn (.store 27 (tp 8) (tp 31)) 0]
def AdZ:RC:=.reg [] [rq 32 (.buildSlice 25 1 #[(0,(ki 0))]) 25,rq 33 (.buildSlice 25 2 #[(0,(ki 0)),(1,(ki 2))]) 25,rq 34 (.buildSlice 25 2 #[(0,(ki 0)),(1,(ki 4))]) 25,rq 35 (.buildSlice 25 2 #[(0,(ki 0)),(1,(ki 5))]) 25,rq 36 (.buildSlice 25 4 #[(0,(ki 0)),(1,(ki 2)),(2,(ki 4)),(3,(ki 5))]) 25,rq 37 (.buildSlice 25 4 #[(0,(ki 0)),(1,(ki 1)),(2,(ki 2)),(3,(ki 3))]) 25,rq 38 (.buildSlice 25 2 #[(0,(ki 0)),(1,(ki 6))]) 25,rq 39 (.buildSlice 25 2 #[(0,(ki 0)),(1,(ki 7))]) 25,rq 40 (.buildSlice 25 4 #[(0,(ki 0)),(1,(ki 2)),(2,(ki 6)),(3,(ki 7))]) 25,rq 41 (.buildSlice 25 8 #[(0,(ki 0)),(1,(ki 1)),(2,(ki 2)),(3,(ki 3)),(4,(ki 4)),(5,(ki 5)),(6,(ki 6)),(7,(ki 7))]) 25,rq 42 (.buildSlice 30 10 #[(0,(tp 32)),(1,(tp 33)),(2,(tp 34)),(3,(tp 35)),(4,(tp 36)),(5,(tp 37)),(6,(tp 38)),(7,(tp 39)),(8,(tp 40)),(9,(tp 41))]) 30,AQ 9 42 30]
def Ad0:RC:=.reg [] [DR 43 27 8 0,Ce 44 43 3,DR 45 27 8 1,Ce 46 45 3,rq 47 (.binOp .eql 3 (tp 44) (tp 46) 3) 4]
def Ad1:RC:=.reg [] [Ap 48 9 30,DR 49 24 3 3,Ce 50 49 5,rq 51 (.convert 5 3 (tp 50)) 3,Ap 52 10 3,rq 53 (.binOp .rem 3 (tp 51) (tp 52) 3) 3,D5 54 30 48 53,Ce 55 54 25,DR 56 27 8 3,rn (.store 25 (tp 56) (tp 55)) 0]
def wW:RC:=.reg [] [DR 57 27 8 0,Ce 58 57 3,DR 59 27 8 1,Ce 60 59 3,rq 61 (.binOp .mul 3 (tp 58) (tp 60) 3) 3,rq 62 (.move (ki 0)) 3]
def wZ:RC:=.reg [0,1,2,3,4,5,6,7,8,9,10,11] [Ap 65 11 25,Ap 66 12 3,DR 67 24 3 4,D5 68 22 67 66,Ce 69 68 5,rq 70 (.convert 5 3 (tp 69)) 3,DR 71 27 8 2,Ce 72 71 3,rq 73 (.binOp .rem 3 (tp 70) (tp 72) 3) 3,rq 74 (.buildSlice 25 1 #[(0,(tp 73))]) 25,rq 75 (cb .append #[tp 65,tp 74] #[25,25]) 25,AQ 11 75 25]
def xA:RC:=.seq (.reg [] [Ap 64 62 3,AQ 12 64 3]) wZ
def xB:RC:=.reg [] [FB 76 62,Ap 62 76 3]
def xC:RC:=.seq (.reg [] [rq 63 (.binOp .lss 3 (tp 62) (tp 61) 3) 4]) (.seq (.cond (tp 63) .skip (.exit 0)) (.seq (.block 1 xA) xB))
def xD:RC:=.reg [] [Ce 77 8 27,Ap 78 11 25,rn (.store 27 (tp 6) (tp 77)) 0,AQ 7 78 25]
def eQ:RC:=.seq xD .ret
def xE:RC:=.seq (.reg [] [rq 11 (.assign (.const (.slice none 0 0))) 25]) (.seq (.seq wW (.block 0 (.loop xC))) eQ)
def eT:RC:=.seq Ad1 xE
def xG:RC:=.seq (.seq Ad0 (.cond (tp 47) (.reg [] [Cz 10 10 3]) .skip)) eT
def xH:RC:=.seq AdY (.seq AdZ (.seq (.reg [] [Cz 10 5 3]) xG))
def UI:RC:=.seq AdX xH
def xI:RC:=.reg [] [Ap 19 3 3,AQ 9 19 3,rq 10 (.assign (kb false)) 4]
def xJ:RC:=.reg [] [rq 22 (.binOp .eql 3 (tp 20) (ki 4) 3) 4,AQ 21 22 4]
def xK:RC:=.reg [] [rq 24 (.binOp .eql 3 (tp 20) (ki 5) 3) 4,AQ 23 24 4]
def xL:RC:=.reg [] [rq 26 (.binOp .eql 3 (tp 20) (ki 6) 3) 4,AQ 25 26 4]
def xM:RC:=.reg [] [rq 28 (.binOp .eql 3 (tp 20) (ki 7) 3) 4,AQ 27 28 4]
def iI:RC:=.cond (tp 27) (.reg [] [Cz 9 3 3,rq 10 (.assign (kb true)) 4]) .skip
def iJ:RC:=.cond (tp 25) (.reg [] [Cz 9 1 3,rq 10 (.assign (kb true)) 4]) (.seq xM iI)
def iK:RC:=.cond (tp 23) (.reg [] [Cz 9 2 3,rq 10 (.assign (kb true)) 4]) (.seq xL iJ)
def iL:RC:=.cond (tp 21) (.reg [] [Cz 9 0 3,rq 10 (.assign (kb true)) 4]) (.seq xK iK)
def iM:RC:=.reg [] [rq 29 (.buildSlice 25 0 #[]) 25,Ap 30 0 25,rq 31 (cb .append #[tp 29,tp 30] #[25,25]) 25,AQ 11 31 25]
def iN:RC:=.reg [] [Ap 39 1 3,rq 40 (.binOp .sub 3 (tp 39) (ki 1) 3) 3,AQ 14 40 3]
def iO:RC:=.reg [] [Ap 41 14 3,rq 42 (.binOp .geq 3 (tp 41) (ki 0) 3) 4]
def iR:RC:=.reg [] [Ap 45 12 25,Ap 46 11 25,Ap 47 14 3,Ap 48 2 3,rq 49 (.binOp .mul 3 (tp 47) (tp 48) 3) 3,Ap 50 13 3,rq 51 (.binOp .add 3 (tp 49) (tp 50) 3) 3,D5 52 25 46 51,Ce 53 52 3,rq 54 (.buildSlice 25 1 #[(0,(tp 53))]) 25,rq 55 (cb .append #[tp 45,tp 54] #[25,25]) 25,AQ 12 55 25]
def iT:RC:=.reg [] [Ap 43 14 3,rq 44 (.binOp .sub 3 (tp 43) (ki 1) 3) 3,AQ 14 44 3]
def iU:RC:=.seq (.seq iO (.cond (tp 42) .skip (.exit 5))) (.seq (.block 6 iR) iT)
def iV:RC:=.seq (.reg [] [Ap 38 36 3,AQ 13 38 3]) (.seq iN (.block 5 (.loop iU)))
def iW:RC:=.reg [] [FB 56 36,Ap 36 56 3]
def iX:RC:=.seq (.reg [] [rq 37 (.binOp .lss 3 (tp 36) (tp 35) 3) 4]) (.seq (.cond (tp 37) .skip (.exit 3)) (.seq (.block 4 iV) iW))
def iY:RC:=.seq (.reg [] [Ap 35 2 3,rq 36 (.move (ki 0)) 3]) (.block 3 (.loop iX))
def iZ:RC:=.reg [] [Ap 58 2 3,Ap 59 1 3,AQ 1 58 3,AQ 2 59 3]
def jA:RC:=.seq (.reg [] [Ap 57 12 25,AQ 11 57 25]) iZ
def jC:RC:=.seq (.reg [] [rq 12 (.assign (.const (.slice none 0 0))) 25]) (.seq iY jA)
def jD:RC:=.reg [] [FB 60 33,Ap 33 60 3]
def jE:RC:=.seq (.reg [] [rq 34 (.binOp .lss 3 (tp 33) (tp 32) 3) 4]) (.seq (.cond (tp 34) .skip (.exit 1)) (.seq (.block 2 jC) jD))
def jJ:RC:=.seq (.reg [] [Ap 32 9 3,rq 33 (.move (ki 0)) 3]) (.block 1 (.loop jE))
def jK:RC:=.reg [] [Ap 62 11 25,EN 63 62 25,rq 64 (.move (ki 0)) 3]
def jL:RC:=.reg [0,1,2,3,4,5,6,7] [Ap 67 15 3,Ap 68 2 3,rq 69 (.binOp .quo 3 (tp 67) (tp 68) 3) 3,Ap 70 15 3,Ap 71 2 3,rq 72 (.binOp .rem 3 (tp 70) (tp 71) 3) 3,AQ 16 69 3,AQ 17 72 3]
def kQ:RC:=.reg [] [Ap 73 17 3,Ap 74 2 3,rq 75 (.binOp .sub 3 (tp 74) (ki 1) 3) 3,Ap 76 17 3,rq 77 (.binOp .sub 3 (tp 75) (tp 76) 3) 3,rq 78 (.binOp .lss 3 (tp 73) (tp 77) 3) 4]
def kR:RC:=.reg [] [Ap 79 16 3,Ap 80 2 3,rq 81 (.binOp .mul 3 (tp 79) (tp 80) 3) 3,Ap 82 2 3,rq 83 (.binOp .add 3 (tp 81) (tp 82) 3) 3,rq 84 (.binOp .sub 3 (tp 83) (ki 1) 3) 3,Ap 85 17 3,rq 86 (.binOp .sub 3 (tp 84) (tp 85) 3) 3,AQ 18 86 3]
def kS:RC:=.reg [0,1,2,3,4,5,6,7,8,9,10,11,12,13,14,15] [Ap 87 11 25,Ap 88 15 3,Ap 89 11 25,Ap 90 18 3,Ap 91 11 25,Ap 92 18 3,D5 93 25 91 92,Ce 94 93 3,Ap 95 11 25,Ap 96 15 3,D5 97 25 95 96,Ce 98 97 3,D5 99 25 87 88,rn (.store 3 (tp 99) (tp 94)) 0,D5 100 25 89 90,rn (.store 3 (tp 100) (tp 98)) 0]
def kT:RC:=.seq (.reg [] [Ap 66 64 3,AQ 15 66 3]) (.seq jL (.seq kQ (.cond (tp 78) (.seq kR kS) .skip)))
def kU:RC:=.reg [] [FB 101 64,Ap 64 101 3]
def kV:RC:=.seq (.reg [] [L8 65 64 63]) (.seq (.cond (tp 65) .skip (.exit 7)) (.seq (.block 8 kT) kU))
def kW:RC:=.seq (.reg [] [Ap 61 10 4]) (.cond (tp 61) (.seq jK (.block 7 (.loop kV))) .skip)
def Xg:RC:=.seq (.reg [] [Ap 102 11 25,AQ 8 102 25]) .ret
def Xh:RC:=.seq kW Xg
def XJ:RC:=.seq iM (.seq jJ Xh)
def kX:RC:=.seq (.seq (.reg [] [Ap 20 3 3]) (.block 0 (.seq xJ iL))) XJ
def PN:RC:=.seq (.reg [] [rq 8 (.assign (.const (.slice none 0 0))) 25]) (.seq xI kX)
def xN:RC:=.reg [] [Ap 6 0 25,EN 7 6 25,Ap 8 1 25,EN 9 8 25,rq 10 (.binOp .neq 3 (tp 7) (tp 9) 3) 4]
def xO:RC:=.cond (tp 10) (.seq (.reg [] [rq 4 (.assign (kb false)) 4]) .ret) .skip
def xP:RC:=.reg [] [Ap 11 5 3,Ap 12 0 25,EN 13 12 25,rq 14 (.binOp .lss 3 (tp 11) (tp 13) 3) 4]
def kY:RC:=.reg [0,1,2,3,4,5,6,7,8] [Ap 17 0 25,Ap 18 5 3,D5 19 25 17 18,Ce 20 19 3,Ap 21 1 25,Ap 22 5 3,D5 23 25 21 22,Ce 24 23 3,rq 25 (.binOp .neq 3 (tp 20) (tp 24) 3) 4]
def kZ:RC:=.cond (tp 25) (.seq (.reg [] [rq 4 (.assign (kb false)) 4]) .ret) .skip
def lH:RC:=.reg [] [Ap 15 5 3,FB 16 15,AQ 5 16 3]
def lI:RC:=.seq (.seq xP (.cond (tp 14) .skip (.exit 0))) (.seq (.block 1 (.seq kY kZ)) lH)
def XK:RC:=.seq (.reg [] [rq 4 (.assign (kb true)) 4]) .ret
def lJ:RC:=.seq (.seq (.reg [] [Cz 5 0 3]) (.block 0 (.loop lI))) XK
def PO:RC:=.seq (.reg [] [rq 4 (.assign (kb false)) 4]) (.seq (.seq xN xO) lJ)
def xQ:RC:=.reg [] [Ap 6 0 25,EN 7 6 25,rq 8 (.move (ki 0)) 3]
def xR:RC:=.reg [0,1,2,3,4,5,6,7,8] [Ap 11 0 25,Ap 12 5 3,D5 13 25 11 12,Ce 14 13 3,Ap 15 1 25,Ap 16 5 3,D5 17 25 15 16,Ce 18 17 3,rq 19 (.binOp .neq 3 (tp 14) (tp 18) 3) 4]
def xS:RC:=.reg [0,1,2,3,4,5,6,7,8,9] [Ap 20 0 25,Ap 21 5 3,D5 22 25 20 21,Ce 23 22 3,Ap 24 1 25,Ap 25 5 3,D5 26 25 24 25,Ce 27 26 3,rq 28 (.binOp .lss 3 (tp 23) (tp 27) 3) 4,AQ 4 28 4]
def lK:RC:=.seq (.reg [] [Ap 10 8 3,AQ 5 10 3]) (.seq xR (.cond (tp 19) (.seq xS .ret) .skip))
def lL:RC:=.reg [] [FB 29 8,Ap 8 29 3]
def lM:RC:=.seq (.reg [] [L8 9 8 7]) (.seq (.cond (tp 9) .skip (.exit 0)) (.seq (.block 1 lK) lL))
def XL:RC:=.seq (.reg [] [rq 4 (.assign (kb false)) 4]) .ret
def PP:RC:=.seq (.reg [] [rq 4 (.assign (kb false)) 4]) (.seq (.seq xQ (.block 0 (.loop lM))) XL)
def xU:RC:=.reg [] [rq 2 (.box 27 (tp 0)) 0,rq 3 (.box 25 (tp 1)) 0,rq 4 (.assign (.const (.slice none 0 0))) 25,Cz 5 0 32]
def xV:RC:=.reg [] [Ce 12 2 27,Ce 13 3 25,rq 14 (.buildSlice 30 1 #[(0,(tp 13))]) 30,rq 15 (cf 32 #[tp 12,tp 14] #[27,30]) 62,Ap 11 15 62,EM 16 11 0 61,EM 17 11 1 32,rq 6 (.alloc 61) 0,rn (.store 61 (tp 6) (tp 16)) 0,AQ 7 17 32]
def xW:RC:=.reg [] [Ap 18 7 32,rq 19 (.binOp .neq 32 (tp 18) (ki 0) 32) 4]
def xX:RC:=.reg [] [Ap 20 7 32,rq 4 (.assign (.const (.slice none 0 0))) 25,AQ 5 20 32]
def lN:RC:=.reg [] [rq 21 (.makeFunc (.func 40) #[] #[tp 6,tp 3,tp 9,tp 8,tp 10]) 72,rn (.store 72 (tp 10) (tp 21)) 0]
def lQ:RC:=.reg [] [Ce 22 10 72,rq 23 (.call ⟨.value (tp 22),#[(.const (.slice none 0 0)),ki 0],#[25,3]⟩) 0]
def lS:RC:=.reg [] [Ce 24 8 25,AQ 4 24 25,Cz 5 0 32]
def lT:RC:=.seq (.reg [] [rq 10 (.alloc 72) 0]) (.seq lN (.seq lQ (.seq lS .ret)))
def lU:RC:=.seq (.reg [] [rq 9 (.alloc 3) 0,rn (.store 3 (tp 9) (ki 64)) 0]) lT
def lV:RC:=.seq (.seq xW (.cond (tp 19) (.seq xX .ret) .skip)) (.seq (.reg [] [rq 8 (.alloc 25) 0]) lU)
def PQ:RC:=.seq xU (.seq xV lV)
def xY:RC:=.reg [] [Ce 16 3 27,Ap 17 1 25,rq 18 (.buildSlice 30 1 #[(0,(tp 17))]) 30,rq 19 (cf 32 #[tp 16,tp 18] #[27,30]) 62,Ap 15 19 62,EM 20 15 0 61,EM 21 15 1 32,AQ 7 20 61,AQ 8 21 32]
def xZ:RC:=.reg [] [Ap 22 8 32,rq 23 (.binOp .neq 32 (tp 22) (ki 0) 32) 4]
def yA:RC:=.seq (.reg [] [Ap 24 8 32,AQ 6 24 32]) .ret
def yB:RC:=.reg [] [Ap 25 2 25,EN 26 25 25,rq 27 (.move (ki 0)) 3]
def lW:RC:=.reg [] [D5 29 25 25 27,Ce 30 29 3,AQ 12 30 3]
def lX:RC:=.reg [] [Ap 32 12 3,Ap 33 1 25,EN 34 33 25,rq 35 (.binOp .sub 3 (tp 34) (ki 1) 3) 3,rq 36 (cf 48 #[ki 0,tp 32,tp 35] #[3,3,3]) 4,rq 37 (.unOp .not 4 (tp 36)) 4,AQ 31 37 4]
def lY:RC:=.reg [] [Ap 39 12 3,Ap 40 9 3,rq 41 (.binOp .leq 3 (tp 39) (tp 40) 3) 4,AQ 38 41 4]
def lZ:RC:=.seq lY (.cond (tp 38) (.seq (.reg [] [Cz 6 7 32]) .ret) .skip)
def mD:RC:=.seq lX (.cond (tp 31) (.seq (.reg [] [Cz 6 2 32]) .ret) lZ)
def mE:RC:=.reg [] [Ap 43 10 69,Ap 44 12 3,rq 45 (.binOp .shl 69 (.const (.int .u16 1)) (tp 44) 3) 69,rq 46 (.binOp .or 69 (tp 43) (tp 45) 69) 69,AQ 10 46 69]
def mF:RC:=.seq (.reg [] [Ap 42 12 3,AQ 9 42 3]) mE
def mG:RC:=.reg [] [FB 47 27,Ap 27 47 3]
def mH:RC:=.seq (.cond (tp 28) .skip (.exit 0)) (.seq (.block 1 (.seq lW (.seq (.block 2 mD) mF))) mG)
def mI:RC:=.loop (.seq (.reg [] [L8 28 27 26]) mH)
def mJ:RC:=.reg [] [Ap 48 7 61,rq 49 (.nilCheck (tp 48)) 0,DR 50 66 49 0,DR 51 27 50 3,Ce 52 51 25,EN 53 52 25,rq 54 (.move (ki 0)) 3]
def mK:RC:=.reg [] [Ap 57 7 61,Ap 58 1 25,Ap 59 13 3,rq 60 (cf 36 #[tp 57,tp 58,tp 59] #[61,25,3]) 69,AQ 14 60 69]
def mM:RC:=.reg [] [Ap 61 14 69,rq 62 (.binOp .neq 69 (tp 61) (.const (.int .u16 0)) 69) 4,Ap 63 62 4,DD 64 14 69 63 true,DD 65 10 69 63 true,rg 66 (.binOp .and 69 (tp 64) (tp 65) 69) 69 63 true,rg 67 (.binOp .eql 69 (tp 66) (.const (.int .u16 0)) 69) 4 63 true,rq 68 (.pick (tp 63) (tp 67) (kb false)) 4]
def mO:RC:=.seq mM (.cond (tp 68) (.seq (.reg [] [Cz 6 14 32]) .ret) .skip)
def mP:RC:=.seq (.reg [] [Ap 56 54 3,AQ 13 56 3]) (.seq mK mO)
def mQ:RC:=.reg [] [FB 69 54,Ap 54 69 3]
def nD:RC:=.seq (.reg [] [L8 55 54 53]) (.seq (.cond (tp 55) .skip (.exit 3)) (.seq (.block 4 mP) mQ))
def XM:RC:=.seq (.reg [] [Cz 6 0 32]) .ret
def Ue:RC:=.seq (.seq mJ (.block 3 (.loop nD))) XM
def nG:RC:=.seq (.reg [] [rq 10 (.assign (.const (.int .u16 0))) 69]) (.seq (.seq yB (.block 0 mI)) Ue)
def nH:RC:=.seq (.seq xZ (.cond (tp 23) yA .skip)) (.seq (.reg [] [rq 9 (.assign (ki (-1))) 3]) nG)
def Qp:RC:=.seq (.reg [] [rq 3 (.box 27 (tp 0)) 0,Cz 6 0 32]) (.seq xY nH)
def UJ:RC:=.seq (.reg [] [rq 2 (.assign (.const (.slice none 0 0))) 25]) (.seq (.reg [] [Ap 3 0 25,AQ 2 3 25]) .ret)
def yC:RC:=.reg [] [rq 2 (.box 27 (tp 0)) 0,rq 4 (.assign (.const (.pointer none))) 61,Cz 5 0 32]
def yD:RC:=.reg [] [Ce 12 2 27,rq 13 (cf 49 #[tp 12] #[27]) 62,Ap 11 13 62,EM 14 11 0 61,EM 15 11 1 32,AQ 6 14 61,AQ 7 15 32]
def yE:RC:=.reg [] [Ap 16 7 32,rq 17 (.binOp .neq 32 (tp 16) (ki 0) 32) 4]
def yF:RC:=.reg [] [Ap 18 7 32,rq 4 (.assign (.const (.pointer none))) 61,AQ 5 18 32]
def yG:RC:=.reg [] [Ap 19 1 30,EN 20 19 30,rq 21 (.move (ki 0)) 3]
def nI:RC:=.reg [] [D5 23 30 19 21,Ce 24 23 25,AQ 9 24 25]
def nJ:RC:=.reg [] [Ap 25 6 61,Ap 26 9 25,rq 27 (cf 58 #[tp 25,tp 26] #[61,25]) 32,AQ 10 27 32]
def nK:RC:=.reg [] [Ap 28 10 32,rq 29 (.binOp .neq 32 (tp 28) (ki 0) 32) 4]
def nL:RC:=.reg [] [Ap 30 10 32,rq 4 (.assign (.const (.pointer none))) 61,AQ 5 30 32]
def nM:RC:=.seq nI (.seq nJ (.seq nK (.cond (tp 29) (.seq nL .ret) .skip)))
def nN:RC:=.reg [] [FB 31 21,Ap 21 31 3]
def nO:RC:=.seq (.reg [] [L8 22 21 20]) (.seq (.cond (tp 22) .skip (.exit 0)) (.seq (.block 1 nM) nN))
def nP:RC:=.reg [] [Ap 32 6 61,AQ 4 32 61,Cz 5 0 32]
def Uf:RC:=.seq nP .ret
def nQ:RC:=.seq (.seq yE (.cond (tp 17) (.seq yF .ret) .skip)) (.seq (.seq yG (.block 0 (.loop nO))) Uf)
def Qq:RC:=.seq yC (.seq yD nQ)
def yH:RC:=.reg [] [Ap 10 0 61,rq 11 (.nilCheck (tp 10)) 0,DR 12 66 11 1,Ce 13 12 30,Ap 14 2 3,D5 15 30 13 14,Ce 16 15 25,EN 17 16 25,rq 18 (.move (ki 0)) 3]
def yI:RC:=.reg [] [Ap 20 18 3,D5 21 25 16 18,Ce 22 21 3,AQ 8 20 3,AQ 9 22 3]
def yJ:RC:=.reg [0,1,2,3,4,5,6,7,8] [Ap 23 1 25,Ap 24 9 3,D5 25 25 23 24,Ce 26 25 3,Ap 27 1 25,Ap 28 8 3,D5 29 25 27 28,Ce 30 29 3,rq 31 (.binOp .neq 3 (tp 26) (tp 30) 3) 4]
def yK:RC:=.reg [] [Ap 32 7 69,Ap 33 8 3,rq 34 (.binOp .shl 69 (.const (.int .u16 1)) (tp 33) 3) 69,rq 35 (.binOp .or 69 (tp 32) (tp 34) 69) 69,AQ 7 35 69]
def nR:RC:=.reg [] [FB 36 18,Ap 18 36 3]
def nS:RC:=.seq (.block 1 (.seq yI (.seq yJ (.cond (tp 31) yK .skip)))) nR
def nT:RC:=.seq (.reg [] [L8 19 18 17]) (.seq (.cond (tp 19) .skip (.exit 0)) nS)
def XN:RC:=.seq (.reg [] [Ap 37 7 69,AQ 6 37 69]) .ret
def nU:RC:=.seq (.reg [] [rq 7 (.assign (.const (.int .u16 0))) 69]) (.seq (.seq yH (.block 0 (.loop nT))) XN)
def Qr:RC:=.seq (.reg [] [rq 6 (.assign (.const (.int .u16 0))) 69]) nU
def yL:RC:=.reg [] [Ap 9 0 25,EN 10 9 25,rq 11 (.move (ki 0)) 3]
def yM:RC:=.reg [] [Ap 13 11 3,D5 14 25 9 11,Ce 15 14 3,AQ 5 13 3,AQ 6 15 3]
def yN:RC:=.reg [] [Ap 16 5 3,Ap 17 1 25,EN 18 17 25,rq 19 (.binOp .geq 3 (tp 16) (tp 18) 3) 4]
def yO:RC:=.seq yN (.cond (tp 19) (.seq (.reg [] [Cz 4 1 3]) .ret) .skip)
def nV:RC:=.reg [] [Ap 20 1 25,Ap 21 5 3,D5 22 25 20 21,Ce 23 22 3,AQ 7 23 3]
def nW:RC:=.reg [] [Ap 24 6 3,Ap 25 7 3,rq 26 (cf 65 #[tp 24,tp 25] #[3,3]) 3,AQ 8 26 3]
def nX:RC:=.reg [] [Ap 27 8 3,rq 28 (.binOp .neq 3 (tp 27) (ki 0) 3) 4]
def nY:RC:=.cond (tp 28) (.seq (.reg [] [Ap 29 8 3,AQ 4 29 3]) .ret) .skip
def nZ:RC:=.seq yM (.seq yO (.seq nV (.seq nW (.seq nX nY))))
def oD:RC:=.reg [] [FB 30 11,Ap 11 30 3]
def oF:RC:=.seq (.reg [] [L8 12 11 10]) (.seq (.cond (tp 12) .skip (.exit 0)) (.seq (.block 1 nZ) oD))
def oG:RC:=.reg [] [Ap 31 0 25,EN 32 31 25,Ap 33 1 25,EN 34 33 25,rq 35 (.binOp .lss 3 (tp 32) (tp 34) 3) 4]
def oH:RC:=.seq oG (.cond (tp 35) (.seq (.reg [] [rq 4 (.assign (ki (-1))) 3]) .ret) .skip)
def XO:RC:=.seq oH (.seq (.reg [] [Cz 4 0 3]) .ret)
def Qs:RC:=.seq (.reg [] [Cz 4 0 3]) (.seq (.seq yL (.block 0 (.loop oF))) XO)
def yP:RC:=.reg [] [Ap 3 0 25,Ap 4 0 25,EN 5 4 25,Ap 6 0 25,EN 7 6 25,rq 8 (.slice 25 (tp 3) none (some (tp 5)) (some (tp 7))) 25,AQ 2 8 25]
def UK:RC:=.seq (.reg [] [rq 2 (.assign (.const (.slice none 0 0))) 25]) (.seq yP .ret)
def yQ:RC:=.reg [] [Ap 3 0 69,rq 4 (.binOp .eql 69 (tp 3) (.const (.int .u16 0)) 69) 4]
def yR:RC:=.seq yQ (.cond (tp 4) (.seq (.reg [] [Cz 2 16 3]) .ret) .skip)
def yS:RC:=.reg [] [Ap 5 0 69,Ap 6 0 69,rq 7 (.unOp .neg 69 (tp 6)) 69,rq 8 (.binOp .and 69 (tp 5) (tp 7) 69) 69,rq 9 (.convert 69 99 (tp 8)) 99,rq 10 (.binOp .mul 99 (tp 9) (.const (.int .u32 125613361)) 99) 99,rq 11 (.binOp .shr 99 (tp 10) (.const (.int .u64 27)) 100) 99,rq 12 (.indexAddr 98 (.global 0) (tp 11)) 0,Ce 13 12 5,rq 14 (.convert 5 3 (tp 13)) 3,AQ 2 14 3]
def UL:RC:=.seq (.reg [] [Cz 2 0 3]) (.seq yR (.seq yS .ret))
def yT:RC:=.reg [] [Ap 7 0 3,Ap 8 1 3,rq 9 (.binOp .leq 3 (tp 7) (tp 8) 3) 4,Ap 10 9 4,DD 11 1 3 10 true,DD 12 2 3 10 true,rg 13 (.binOp .leq 3 (tp 11) (tp 12) 3) 4 10 true,rq 14 (.pick (tp 10) (tp 13) (kb false)) 4,AQ 6 14 4]
def UM:RC:=.seq (.reg [] [rq 6 (.assign (kb false)) 4]) (.seq yT .ret)
def yU:RC:=.reg [] [rq 1 (.box 27 (tp 0)) 0,rq 2 (.assign (.const (.pointer none))) 61,Cz 3 0 32]
def yV:RC:=.reg [] [DR 14 27 1 0,Ce 15 14 3,rq 16 (cf 48 #[ki 1,tp 15,ki 4] #[3,3,3]) 4,rq 17 (.unOp .not 4 (tp 16)) 4,Ap 18 17 4,rg 19 (.fieldAddr 27 (tp 1) 1) 0 18 false,rg 20 (.load 3 (tp 19)) 3 18 false,rg 21 (cf 48 #[ki 1,tp 20,ki 4] #[3,3,3]) 4 18 false,rg 22 (.unOp .not 4 (tp 21)) 4 18 false,rq 23 (.pick (tp 18) (kb true) (tp 22)) 4,Ap 24 23 4,rg 25 (.fieldAddr 27 (tp 1) 2) 0 24 false,rg 26 (.load 3 (tp 25)) 3 24 false,rg 27 (cf 48 #[ki 1,tp 26,ki 4] #[3,3,3]) 4 24 false,rg 28 (.unOp .not 4 (tp 27)) 4 24 false,rq 29 (.pick (tp 24) (kb true) (tp 28)) 4]
def zC:RC:=.reg [] [rq 2 (.assign (.const (.pointer none))) 61,Cz 3 1 32]
def zD:RC:=.reg [] [Ce 30 1 27,rq 31 (.build 66 #[(0,(tp 30))]) 66,rq 32 (.box 66 (tp 31)) 61,AQ 4 32 61]
def zF:RC:=.reg [] [DR 33 27 1 3,Ce 34 33 25,EN 35 34 25,rq 36 (.move (ki 0)) 3]
def oI:RC:=.reg [] [D5 38 25 34 36,Ce 39 38 3,AQ 8 39 3]
def oJ:RC:=.reg [] [Ap 41 8 3,rq 42 (cf 48 #[ki 0,tp 41,ki 7] #[3,3,3]) 4,rq 43 (.unOp .not 4 (tp 42)) 4,AQ 40 43 4]
def oK:RC:=.reg [] [rq 2 (.assign (.const (.pointer none))) 61,Cz 3 2 32]
def oL:RC:=.reg [] [DR 45 27 1 0,Ce 46 45 3,DR 47 27 1 1,Ce 48 47 3,rq 49 (.binOp .neq 3 (tp 46) (tp 48) 3) 4,Ap 50 49 4,DD 51 8 3 50 true,rg 52 (cf 51 #[tp 51] #[3]) 86 50 true,rg 53 (.field 86 (tp 52) 0) 3 50 true,rg 54 (.binOp .rem 3 (tp 53) (ki 2) 3) 3 50 true,rg 55 (.binOp .eql 3 (tp 54) (ki 1) 3) 4 50 true,rq 56 (.pick (tp 50) (tp 55) (kb false)) 4,AQ 44 56 4]
def oM:RC:=.reg [] [rq 2 (.assign (.const (.pointer none))) 61,Cz 3 8 32]
def oN:RC:=.reg [] [Ap 58 8 3,Ap 59 5 3,rq 60 (.binOp .leq 3 (tp 58) (tp 59) 3) 4,AQ 57 60 4]
def oO:RC:=.reg [] [rq 2 (.assign (.const (.pointer none))) 61,Cz 3 7 32]
def oP:RC:=.cond (tp 44) (.seq oM .ret) (.seq oN (.cond (tp 57) (.seq oO .ret) .skip))
def oQ:RC:=.block 2 (.seq oJ (.cond (tp 40) (.seq oK .ret) (.seq oL oP)))
def oU:RC:=.reg [] [Ap 62 6 5,Ap 63 8 3,rq 64 (.binOp .shl 5 (.const (.int .u8 1)) (tp 63) 3) 5,rq 65 (.binOp .or 5 (tp 62) (tp 64) 5) 5,AQ 6 65 5]
def oV:RC:=.reg [0,1,2,3,4,5,6,7,8,9,10,11,12] [Ap 66 4 61,Ap 67 4 61,rq 68 (.nilCheck (tp 67)) 0,DR 69 66 68 1,Ce 70 69 30,Ce 71 1 27,Ap 72 8 3,⟨(some 73),cf 66 #[tp 71,tp 72] #[27,3],25,none,[(tp 69)]⟩,rq 74 (.buildSlice 30 1 #[(0,(tp 73))]) 30,rq 75 (cb .append #[tp 70,tp 74] #[30,30]) 30,rq 76 (.nilCheck (tp 66)) 0,DR 77 66 76 1,rn (.store 30 (tp 77) (tp 75)) 0]
def oW:RC:=.seq (.reg [] [Ap 61 8 3,AQ 5 61 3]) (.seq oU oV)
def oZ:RC:=.reg [] [FB 78 36,Ap 36 78 3]
def pE:RC:=.seq (.cond (tp 37) .skip (.exit 0)) (.seq (.block 1 (.seq oI (.seq oQ oW))) oZ)
def pF:RC:=.loop (.seq (.reg [] [L8 37 36 35]) pE)
def pG:RC:=.reg [] [Ap 79 6 5,rq 80 (.binOp .and 5 (tp 79) (.const (.int .u8 1)) 5) 5,rq 81 (.binOp .eql 5 (tp 80) (.const (.int .u8 0)) 5) 4]
def pI:RC:=.reg [] [rq 2 (.assign (.const (.pointer none))) 61,Cz 3 21 32]
def pJ:RC:=.reg [] [DR 82 27 1 3,Ce 83 82 25,EN 84 83 25,rq 85 (.move (ki 0)) 3]
def pK:RC:=.reg [] [D5 87 25 83 85,Ce 88 87 3,AQ 10 88 3]
def pM:RC:=.reg [] [DR 89 27 1 3,Ce 90 89 25,EN 91 90 25,rq 92 (.move (ki 0)) 3]
def pO:RC:=.reg [] [D5 94 25 90 92,Ce 95 94 3,AQ 12 95 3]
def pQ:RC:=.reg [] [Ap 96 10 3,rq 97 (cf 51 #[tp 96] #[3]) 86,Ap 98 12 3,rq 99 (cf 51 #[tp 98] #[3]) 86,rq 100 (cf 52 #[tp 97,tp 99] #[86,86]) 86,rq 101 (cf 53 #[tp 100] #[86]) 3,AQ 13 101 3]
def pR:RC:=.reg [] [Ap 102 6 5,Ap 103 13 3,rq 104 (.binOp .shr 5 (tp 102) (tp 103) 3) 5,rq 105 (.binOp .and 5 (tp 104) (.const (.int .u8 1)) 5) 5,rq 106 (.binOp .eql 5 (tp 105) (.const (.int .u8 0)) 5) 4]
def pV:RC:=.reg [] [rq 2 (.assign (.const (.pointer none))) 61,Cz 3 21 32]
def pW:RC:=.seq pO (.seq pQ (.seq pR (.cond (tp 106) (.seq pV .ret) .skip)))
def pX:RC:=.reg [] [FB 107 92,Ap 92 107 3]
def pY:RC:=.seq (.reg [] [L8 93 92 91]) (.seq (.cond (tp 93) .skip (.exit 5)) (.seq (.block 6 pW) pX))
def qB:RC:=.reg [] [FB 108 85,Ap 85 108 3]
def qC:RC:=.seq (.block 4 (.seq pK (.seq pM (.block 5 (.loop pY))))) qB
def qR:RC:=.seq (.reg [] [L8 86 85 84]) (.seq (.cond (tp 86) .skip (.exit 3)) qC)
def qU:RC:=.reg [] [Ap 109 4 61,AQ 2 109 61,Cz 3 0 32]
def XP:RC:=.seq qU .ret
def XQ:RC:=.seq (.seq pG (.cond (tp 81) (.seq pI .ret) .skip)) (.seq (.seq pJ (.block 3 (.loop qR))) XP)
def qV:RC:=.seq (.reg [] [rq 6 (.assign (.const (.int .u8 0))) 5]) (.seq (.seq zF (.block 0 pF)) XQ)
def qW:RC:=.seq (.seq yV (.cond (tp 29) (.seq zC .ret) .skip)) (.seq zD (.seq (.reg [] [rq 5 (.assign (ki (-1))) 3]) qV))
def Qt:RC:=.seq yU qW
def zG:RC:=.reg [] [rq 5 (.binOp .eql 3 (tp 3) (ki 4) 3) 4,AQ 4 5 4]
def zH:RC:=.reg [] [rq 6 (.build 86 #[(0,(ki 0)),(1,(kb true))]) 86,rn (.store 86 (tp 2) (tp 6)) 0]
def zJ:RC:=.reg [] [rq 8 (.binOp .eql 3 (tp 3) (ki 5) 3) 4,AQ 7 8 4]
def zK:RC:=.reg [] [rq 9 (.build 86 #[(0,(ki 2)),(1,(kb true))]) 86,rn (.store 86 (tp 2) (tp 9)) 0]
def zL:RC:=.reg [] [rq 11 (.binOp .eql 3 (tp 3) (ki 6) 3) 4,AQ 10 11 4]
def zM:RC:=.reg [] [rq 12 (.build 86 #[(0,(ki 1)),(1,(kb true))]) 86,rn (.store 86 (tp 2) (tp 12)) 0]
def qX:RC:=.reg [] [rq 14 (.binOp .eql 3 (tp 3) (ki 7) 3) 4,AQ 13 14 4]
def qY:RC:=.reg [] [rq 15 (.build 86 #[(0,(ki 3)),(1,(kb true))]) 86,rn (.store 86 (tp 2) (tp 15)) 0]
def qZ:RC:=.cond (tp 10) (.seq zM .ret) (.seq qX (.cond (tp 13) (.seq qY .ret) .skip))
def rA:RC:=.cond (tp 4) (.seq zH .ret) (.seq zJ (.cond (tp 7) (.seq zK .ret) (.seq zL qZ)))
def rC:RC:=.reg [] [Ap 16 0 3,rq 17 (.build 86 #[(0,(tp 16)),(1,(kb false))]) 86,rn (.store 86 (tp 2) (tp 17)) 0]
def rD:RC:=.seq (.seq (.reg [] [Ap 3 0 3]) (.block 0 (.seq zG rA))) (.seq rC .ret)
def Qu:RC:=.seq (.reg [] [rq 2 (.alloc 86) 0]) rD
def zO:RC:=.reg [] [rq 2 (.box 86 (tp 0)) 0,rq 3 (.box 86 (tp 1)) 0,rq 4 (.alloc 86) 0]
def zP:RC:=.reg [] [DR 7 86 3 0,Ce 8 7 3,rq 9 (.unOp .neg 3 (tp 8)) 3,DR 10 86 3 0,rn (.store 3 (tp 10) (tp 9)) 0]
def zQ:RC:=.seq (.reg [] [DR 5 86 2 1,Ce 6 5 4]) (.cond (tp 6) zP .skip)
def zR:RC:=.reg [] [DR 11 86 2 0,Ce 12 11 3,DR 13 86 3 0,Ce 14 13 3,rq 15 (.binOp .add 3 (tp 12) (tp 14) 3) 3,DR 16 86 2 1,Ce 17 16 4,DR 18 86 3 1,Ce 19 18 4,rq 20 (.binOp .neq 4 (tp 17) (tp 19) 4) 4,rq 21 (.build 86 #[(0,(tp 15)),(1,(tp 20))]) 86,rn (.store 86 (tp 4) (tp 21)) 0]
def eU:RC:=.seq zR .ret
def UN:RC:=.seq zO (.seq zQ eU)
def zS:RC:=.reg [] [DR 4 86 1 0,Ce 5 4 3,rq 6 (.binOp .add 3 (tp 5) (ki 4) 3) 3,rq 7 (.binOp .rem 3 (tp 6) (ki 4) 3) 3,AQ 3 7 3]
def zT:RC:=.reg [] [DR 9 86 1 1,Ce 10 9 4,rq 11 (.unOp .not 4 (tp 10)) 4,AQ 8 11 4]
def zU:RC:=.reg [] [Ap 14 3 3,rq 15 (.binOp .eql 3 (tp 14) (ki 0) 3) 4,AQ 13 15 4]
def zV:RC:=.reg [] [Ap 17 3 3,rq 18 (.binOp .eql 3 (tp 17) (ki 1) 3) 4,AQ 16 18 4]
def rE:RC:=.reg [] [Ap 20 3 3,rq 21 (.binOp .eql 3 (tp 20) (ki 2) 3) 4,AQ 19 21 4]
def rF:RC:=.seq rE (.cond (tp 19) (.seq (.reg [] [Cz 2 5 3]) .ret) .skip)
def rH:RC:=.seq zV (.cond (tp 16) (.seq (.reg [] [Cz 2 6 3]) .ret) rF)
def rJ:RC:=.seq zU (.cond (tp 13) (.seq (.reg [] [Cz 2 4 3]) .ret) rH)
def rM:RC:=.cond (tp 8) (.seq (.reg [] [Ap 12 3 3,AQ 2 12 3]) .ret) rJ
def rO:RC:=.seq (.block 0 (.seq zT rM)) (.seq (.reg [] [Cz 2 7 3]) .ret)
def Qv:RC:=.seq (.reg [] [rq 1 (.box 86 (tp 0)) 0,Cz 2 0 3]) (.seq zS rO)
def zW:RC:=.reg [0,1,2,3,4,5,6,7,8,9,10,11,12,13,14] [Ap 6 1 25,EN 7 6 25,Ap 8 0 61,rq 9 (.nilCheck (tp 8)) 0,DR 10 66 9 0,DR 11 27 10 0,Ce 12 11 3,Ap 13 0 61,rq 14 (.nilCheck (tp 13)) 0,DR 15 66 14 0,DR 16 27 15 1,Ce 17 16 3,rq 18 (.binOp .mul 3 (tp 12) (tp 17) 3) 3,rq 19 (.binOp .neq 3 (tp 7) (tp 18) 3) 4,AQ 5 19 4]
def zX:RC:=.reg [0,1,2,3,4,6,7,8,9,10,5,11,12,13] [Ap 21 1 25,rq 22 (cf 68 #[tp 21] #[25]) 3,rq 23 (.binOp .lss 3 (tp 22) (ki 0) 3) 4,Ap 24 23 4,DD 25 1 25 24 false,DD 27 0 61 24 false,rg 28 (.nilCheck (tp 27)) 0 24 false,rg 29 (.fieldAddr 66 (tp 28) 0) 0 24 false,rg 30 (.fieldAddr 27 (tp 29) 2) 0 24 false,rg 31 (.load 3 (tp 30)) 3 24 false,⟨(some 26),cf 69 #[tp 25] #[25],3,(some ((some 24),false)),[(tp 30)]⟩,rg 32 (.binOp .geq 3 (tp 26) (tp 31) 3) 4 24 false,rq 33 (.pick (tp 24) (kb true) (tp 32)) 4,AQ 20 33 4]
def zZ:RC:=.seq zX (.cond (tp 20) (.seq (.reg [] [Cz 4 1 32]) .ret) .skip)
def rP:RC:=.seq zW (.cond (tp 5) (.seq (.reg [] [Cz 4 5 32]) .ret) zZ)
def rQ:RC:=.seq (.block 0 rP) (.seq (.reg [] [Cz 4 0 32]) .ret)
def Qw:RC:=.seq (.reg [] [Cz 4 0 32]) rQ
def Aaa:RC:=.reg [] [Ap 7 0 3,rq 8 (cf 74 #[tp 7] #[3]) 4,AQ 5 8 4]
def Aab:RC:=.reg [] [Ap 9 1 3,rq 10 (cf 74 #[tp 9] #[3]) 4,AQ 6 10 4]
def Aac:RC:=.seq (.reg [] [Ap 12 6 4]) (.cond (tp 12) (.seq (.reg [] [Cz 4 0 3]) .ret) .skip)
def rR:RC:=.cond (tp 11) (.seq Aac (.seq (.reg [] [rq 4 (.assign (ki (-1))) 3]) .ret)) .skip
def rT:RC:=.seq (.reg [] [Ap 13 6 4]) (.cond (tp 13) (.seq (.reg [] [Cz 4 1 3]) .ret) .skip)
def rU:RC:=.reg [] [Ap 14 0 3,Ap 15 1 3,rq 16 (.binOp .lss 3 (tp 14) (tp 15) 3) 4]
def rV:RC:=.seq rU (.cond (tp 16) (.seq (.reg [] [rq 4 (.assign (ki (-1))) 3]) .ret) .skip)
def rW:RC:=.reg [] [Ap 17 0 3,Ap 18 1 3,rq 19 (.binOp .gtr 3 (tp 17) (tp 18) 3) 4]
def rX:RC:=.seq rW (.cond (tp 19) (.seq (.reg [] [Cz 4 1 3]) .ret) .skip)
def rY:RC:=.seq rV (.seq rX (.seq (.reg [] [Cz 4 0 3]) .ret))
def rZ:RC:=.seq (.seq (.reg [] [Ap 11 5 4]) rR) (.seq rT rY)
def Qz:RC:=.seq (.reg [] [Cz 4 0 3]) (.seq Aaa (.seq Aab rZ))
def Aad:RC:=.reg [] [Ap 5 0 25,EN 6 5 25,rq 7 (.binOp .lss 3 (tp 6) (ki 1) 3) 4]
def Aae:RC:=.reg [] [rq 8 (.makeInterface 9 (.const (.string ⟨#[115,108,105,99,101,115,46,77,105,110,58,32,101,109,112,116,121,32,108,105,115,116]⟩))) 20,rn (.panic (tp 8)) 0]
def Aaf:RC:=.reg [] [Ap 9 0 25,rq 10 (.indexAddr 25 (tp 9) (ki 0)) 0,Ce 11 10 3,AQ 3 11 3]
def Aag:RC:=.reg [] [Ap 12 4 3,Ap 13 0 25,EN 14 13 25,rq 15 (.binOp .lss 3 (tp 12) (tp 14) 3) 4]
def sD:RC:=.reg [] [Ap 18 3 3,Ap 19 0 25,Ap 20 4 3,D5 21 25 19 20,Ce 22 21 3,rq 23 (cb .min #[tp 18,tp 22] #[3,3]) 3,AQ 3 23 3]
def sF:RC:=.reg [] [Ap 16 4 3,FB 17 16,AQ 4 17 3]
def sG:RC:=.seq (.seq Aag (.cond (tp 15) .skip (.exit 0))) (.seq (.block 1 sD) sF)
def XR:RC:=.seq (.reg [] [Ap 24 3 3,AQ 2 24 3]) .ret
def sI:RC:=.seq (.seq (.reg [] [Cz 4 1 3]) (.block 0 (.loop sG))) XR
def XT:RC:=.seq Aaf sI
def QA:RC:=.seq (.reg [] [Cz 2 0 3]) (.seq (.seq Aad (.cond (tp 7) Aae .skip)) XT)
def Aah:RC:=.reg [] [Ap 5 0 25,EN 6 5 25,rq 7 (.binOp .lss 3 (tp 6) (ki 1) 3) 4]
def Aai:RC:=.reg [] [rq 8 (.makeInterface 9 (.const (.string ⟨#[115,108,105,99,101,115,46,77,97,120,58,32,101,109,112,116,121,32,108,105,115,116]⟩))) 20,rn (.panic (tp 8)) 0]
def Aaj:RC:=.reg [] [Ap 9 0 25,rq 10 (.indexAddr 25 (tp 9) (ki 0)) 0,Ce 11 10 3,AQ 3 11 3]
def Aak:RC:=.reg [] [Ap 12 4 3,Ap 13 0 25,EN 14 13 25,rq 15 (.binOp .lss 3 (tp 12) (tp 14) 3) 4]
def sJ:RC:=.reg [] [Ap 18 3 3,Ap 19 0 25,Ap 20 4 3,D5 21 25 19 20,Ce 22 21 3,rq 23 (cb .max #[tp 18,tp 22] #[3,3]) 3,AQ 3 23 3]
def sK:RC:=.reg [] [Ap 16 4 3,FB 17 16,AQ 4 17 3]
def sM:RC:=.seq (.seq Aak (.cond (tp 15) .skip (.exit 0))) (.seq (.block 1 sJ) sK)
def XU:RC:=.seq (.reg [] [Ap 24 3 3,AQ 2 24 3]) .ret
def sN:RC:=.seq (.seq (.reg [] [Cz 4 1 3]) (.block 0 (.loop sM))) XU
def XZ:RC:=.seq Aaj sN
def QB:RC:=.seq (.reg [] [Cz 2 0 3]) (.seq (.seq Aah (.cond (tp 7) Aai .skip)) XZ)
def Aal:RC:=.reg [] [Ap 3 0 3,Ap 4 0 3,rq 5 (.binOp .neq 3 (tp 3) (tp 4) 3) 4,AQ 2 5 4]
def UO:RC:=.seq (.reg [] [rq 2 (.assign (kb false)) 4]) (.seq Aal .ret)
def Aam:RC:=.reg [] [Ap 12 1 3,Ce 13 2 61,rq 14 (.nilCheck (tp 13)) 0,DR 15 66 14 0,DR 16 27 15 3,Ce 17 16 25,EN 18 17 25,rq 19 (.binOp .lss 3 (tp 12) (tp 18) 3) 4]
def Aan:RC:=.reg [] [Ce 20 2 61,Ce 21 3 25,Ap 22 1 3,rq 23 (cf 36 #[tp 20,tp 21,tp 22] #[61,25,3]) 69,rq 9 (.alloc 69) 0,rn (.store 69 (tp 9) (tp 23)) 0]
def Aao:RC:=.reg [] [Ce 24 9 69,rq 25 (.binOp .neq 69 (tp 24) (.const (.int .u16 0)) 69) 4,Ap 26 25 4,DD 27 0 25 26 true,rg 28 (.makeFunc (.func 42) #[] #[tp 9]) 74 26 true,rg 29 (cf 41 #[tp 27,tp 28] #[25,74]) 4 26 true,rg 30 (.unOp .not 4 (tp 29)) 4 26 true,rq 31 (.pick (tp 26) (tp 30) (kb false)) 4]
def Aap:RC:=.reg [] [Ap 32 1 3,FB 33 32,AQ 1 33 3]
def sO:RC:=.block 1 (.seq Aan (.seq (.seq Aao (.cond (tp 31) (.exit 0) .skip)) Aap))
def sP:RC:=.block 0 (.loop (.seq (.seq Aam (.cond (tp 19) .skip (.exit 0))) sO))
def sQ:RC:=.reg [] [Ap 34 1 3,Ce 35 2 61,rq 36 (.nilCheck (tp 35)) 0,DR 37 66 36 0,DR 38 27 37 3,Ce 39 38 25,EN 40 39 25,rq 41 (.binOp .eql 3 (tp 34) (tp 40) 3) 4]
def sS:RC:=.reg [] [Ap 42 0 25,rq 43 (cf 44 #[tp 42] #[25]) 77,rq 44 (cf 43 #[tp 43] #[77]) 25,AQ 10 44 25]
def sU:RC:=.reg [] [Ap 45 10 25,EN 46 45 25,Ce 47 4 3,rq 48 (.binOp .lss 3 (tp 46) (tp 47) 3) 4,Ap 49 48 4,DD 50 10 25 49 false,rg 51 (cb .len #[tp 50] #[25]) 3 49 false,rg 52 (.load 3 (tp 4)) 3 49 false,rg 53 (.binOp .eql 3 (tp 51) (tp 52) 3) 4 49 false,DD 54 53 4 49 false,DD 55 10 25 54 true,rg 56 (.load 25 (tp 5)) 25 54 true,rg 57 (cf 45 #[tp 55,tp 56] #[25,25]) 3 54 true,rg 58 (.binOp .lss 3 (tp 57) (ki 0) 3) 4 54 true,rg 59 (.pick (tp 54) (tp 58) (kb false)) 4 49 false,rq 60 (.pick (tp 49) (kb true) (tp 59)) 4]
def sV:RC:=.reg [] [Ap 61 10 25,Ap 62 10 25,EN 63 62 25,rn (.store 25 (tp 5) (tp 61)) 0,rn (.store 3 (tp 4) (tp 63)) 0]
def sW:RC:=.cond (tp 41) (.seq sS (.seq (.seq sU (.cond (tp 60) sV .skip)) .ret)) .skip
def sZ:RC:=.reg [] [Ap 64 0 25,EN 65 64 25,Ce 66 4 3,rq 67 (.binOp .eql 3 (tp 65) (tp 66) 3) 4]
def tC:RC:=.reg [] [Ce 68 2 61,Ce 69 3 25,Ap 70 1 3,rq 71 (cf 36 #[tp 68,tp 69,tp 70] #[61,25,3]) 69,AQ 11 71 69]
def tF:RC:=.reg [] [Ap 72 11 69,rq 73 (.binOp .neq 69 (tp 72) (.const (.int .u16 0)) 69) 4]
def tH:RC:=.reg [0,1,3,7,8,2,4,5,6,9] [Ce 78 6 72,Ap 79 0 25,Ap 81 11 69,Ap 85 1 3,FB 86 85,⟨(some 80),cf 46 #[tp 79] #[25],25,none,[(tp 6)]⟩,⟨(some 82),cf 47 #[tp 81] #[69],3,none,[(tp 6)]⟩,rq 83 (.buildSlice 25 1 #[(0,(tp 82))]) 25,⟨(some 84),cb .append #[tp 80,tp 83] #[25,25],25,none,[(tp 6)]⟩,rq 87 (.call ⟨.value (tp 78),#[tp 84,tp 86],#[25,3]⟩) 0]
def tJ:RC:=.reg [] [Ap 74 11 69,Ap 75 11 69,rq 76 (.binOp .sub 69 (tp 75) (.const (.int .u16 1)) 69) 69,rq 77 (.binOp .and 69 (tp 74) (tp 76) 69) 69,AQ 11 77 69]
def tK:RC:=.seq (.seq tF (.cond (tp 73) .skip (.exit 2))) (.seq (.block 3 tH) tJ)
def tL:RC:=.seq (.seq sZ (.cond (tp 67) .ret .skip)) (.seq tC (.block 2 (.loop tK)))
def X0:RC:=.seq (.seq sQ sW) tL
def MU:RC:=.seq sP X0
def Aaq:RC:=.reg [] [Ap 5 0 25,Ap 6 1 74,rq 7 (cf 61 #[tp 5,tp 6] #[25,74]) 3,rq 8 (.binOp .geq 3 (tp 7) (ki 0) 3) 4,AQ 4 8 4]
def RQ:RC:=.seq (.reg [] [rq 4 (.assign (kb false)) 4]) (.seq Aaq .ret)
def Aar:RC:=.reg [] [Ap 6 0 25,EN 7 6 25,rq 8 (.move (ki 0)) 3]
def Aas:RC:=.reg [] [Ap 11 1 74,Ap 12 0 25,Ap 13 5 3,D5 14 25 12 13,Ce 15 14 3,rq 16 (.call ⟨.value (tp 11),#[tp 15],#[3]⟩) 4]
def Aat:RC:=.cond (tp 16) (.seq (.reg [] [Ap 17 5 3,AQ 4 17 3]) .ret) .skip
def tN:RC:=.seq (.reg [] [Ap 10 8 3,AQ 5 10 3]) (.seq Aas Aat)
def tO:RC:=.reg [] [FB 18 8,Ap 8 18 3]
def tQ:RC:=.seq (.reg [] [L8 9 8 7]) (.seq (.cond (tp 9) .skip (.exit 0)) (.seq (.block 1 tN) tO))
def X3:RC:=.seq (.reg [] [rq 4 (.assign (ki (-1))) 3]) .ret
def M8:RC:=.seq (.reg [] [Cz 4 0 3]) (.seq (.seq Aar (.block 0 (.loop tQ))) X3)
def Aau:RC:=.reg [] [Ce 4 1 69,Ap 5 0 3,rq 6 (.binOp .shr 69 (tp 4) (tp 5) 3) 69,rq 7 (.binOp .and 69 (tp 6) (.const (.int .u16 1)) 69) 69,rq 8 (.binOp .eql 69 (tp 7) (.const (.int .u16 1)) 69) 4,AQ 3 8 4]
def RS:RC:=.seq (.reg [] [rq 3 (.assign (kb false)) 4]) (.seq Aau .ret)
def Aav:RC:=.reg [] [rq 3 (.makeFunc (.func 64) #[] #[tp 1]) 76,AQ 2 3 77]
def RU:RC:=.seq (.reg [] [rq 1 (.box 25 (tp 0)) 0,rq 2 (.assign (.const .nilFunc)) 77]) (.seq Aav .ret)
end Go.BkS
