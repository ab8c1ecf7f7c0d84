/- Made from wip. -/
import Derived.Test.YtokbaaeimejjlaaDoorSpSymx
import Derived.Test.YtokbaaeimejjlaaDoorSpClo3x
import Derived.Test.YtokbaaeimejjlaaDoorSpMorex
import Derived.Sort.Grow
import Derived.Lib.SlicesCompact

namespace Go.Sp

theorem Quiet.dead {n0:Nat} {H:Aa} {id:Nat} {xs:List Value} {spent:Bool} {anc:List Nat} (h1:H.get id = .cells xs false spent anc):Quiet n0 H (H.set id .dead):=fun H0 R0 w0 R w hs0 _ hp=>by
 have hs:=hp.sim
 have hget:∀ i,(H.set id .dead).get i=if id=i then .dead else H.get i:=fun i=>Aa.get_set _ _ _ _
 have hwr:∀ i,(H.get i).writable=false→((H.set id .dead).get i).writable=false:=fun i h=>by
  rw[hget];split
  ·rfl
  ·exact h
 refine ⟨R, R.le_refl, rfl, hp.le, hp.new, ⟨fun i c β h => by rw [Aa.next_set]; exact hs.dom i c β h, fun i c β h => ?_, fun i c β i' β' h h' hne hw => ?_, fun i a ha => ?_, fun i hi => ?_, fun c C h => ⟨(hs.ro c C h).1, fun i β h' => hwr i ((hs.ro c C h).2 i β h')⟩⟩,
  by rw[Aa.next_set];exact hp.next,hp.grow,hp.frame,fun i hi hr Q c β ob h=>?_,fun i hi h=>?_,hp.fresh,hp.side,hp.rofresh⟩
 ·rw[hget];split
  ·trivial
  ·exact hs.obj i c β h
 ·rw[hget] at hw
  split at hw
  ·cases hw
  ·rename_i he
   rw[hget i']
   split
   ·exact .inl rfl
   ·rw [hget i, if_neg he]; exact hs.sep i c β i' β' h h' hne hw
 ·rw[hget] at ha
  split at ha
  ·cases ha
  ·obtain⟨h1,h2,h3⟩:=hs.anc i a ha
   refine⟨by rw[Aa.next_set];exact h1,?_,hwr a h3⟩
   rw[hget];split
   ·rfl
   ·exact h2
 ·rw[Aa.next_set] at hi
  rw[hget];split
  ·rfl
  ·exact hs.wf i hi
 ·rw[hget];split
  ·trivial
  ·exact hp.calm i hi hr Q c β ob h
 ·rw[hget];split
  ·rename_i he
   subst he
   have:=hp.imm id hi h
   rw[h1] at this
   rw[←this] at h;cases h
  ·exact hp.imm i hi h
theorem Quiet.push {n0:Nat} {H:Aa} {o:AJ} (h:o.ancOf=[]):Quiet n0 H (H.push o):=fun H0 R0 w0 R w _ _ hp=>⟨R,R.le_refl,rfl,hp.absPush h⟩

theorem FU.frzP {n0 m:Nat} {H:Aa} {id off:Nat} {xs:List Value} {anc:List Nat} (hn:Nat.ble n0 m=true) (hm:Nat.ble m id=true) (h1:H.get id = .cells xs false false anc) (hne:Nat.ble 1 (len xs)=true) (hc:Au Ah xs=true) :
 FU n0 H (.pointer (some ⟨id,off,none⟩)) (H.set id .dead) (Cv off xs):=fun H0 R0 w0 R w u hs hn0 hp hv=>by
 obtain⟨c,β,hid,rfl⟩:=hv.ptr_l
 have hne:1≤xs.length:=by have:=Nat.le_of_ble_eq_true hne;rwa [AV] at this
 obtain⟨C,t,fz,k1,k2,k3,k4⟩:=hp.sim.cells (o:=⟨xs,false,false,anc⟩) hid (by rw[h1];rfl)
 have hfz:Cq m false (.slice (some ⟨id,0,some 1⟩) xs.length (2*xs.length)) H=some (FP 1 xs.length 0 xs,H.set id .dead):=by
  unfold Cq
  show oo (Bv (H.get id)) none _=_
  rw[h1]
  have ht:Aq (xs.length*1) (Am 0 xs)=xs:=by rw[Cg,Bz,List.drop_zero,List.take_of_length_le (by omega)]
  show bb (an (Nat.ble m id) (an true (an true (an (Nat.ble (0+xs.length*1) (len xs)) (Au Ah (Aq (xs.length*1) (Am 0 xs))))))) (some (FP 1 xs.length 0 (Aq (xs.length*1) (Am 0 xs)),_)) none=_
  rw[ht,hm,hc,AV,Nat.ble_eq_true_of_le (by omega)]
  rfl
 obtain ⟨R', q1, q0, q2, q3⟩ := Gg (u := .slice (some ⟨c, β + 0, none⟩) xs.length xs.length) hfz hs (Nat.le_trans hn0 (Nat.le_of_ble_eq_true hn)) hp (.sl hid (by omega) (by omega) (fun h => by omega) (by
  have k2:C.size=R.sz c:=k2
  have k3:β+xs.length≤C.size:=k3
  omega))
 refine⟨R',q1,q0,q2,?_⟩
 rcases q3.fs_l (f:=⟨1,xs.length,0,xs⟩) rfl with⟨e,_⟩ | ⟨_,e,_⟩ | ⟨c',o',cap,C',hro,he,hl,_,_,_,hfit,hcr,hcl⟩
 ·have e:xs.length=0:=e;omega
 ·have e:xs.length=0:=e;omega
 ·injection he with he1 he2 he3
  injection he1 with he1
  injection he1 with e1 e2 e3
  subst e1
  have e2:β=o':=by omega
  subst e2
  exact .mkFp hro hfit hcr hcl

noncomputable def WE (v:Value):Bool:=vv v (fun _=>false) (fun _ _=>false) (fun _=>false) (fun a=>nt (isS a)) (fun _ _ _=>false) (fun _=>false) (fun _ _ _=>false) false (fun _ _=>false) false (fun _=>false) (fun _=>false) false
theorem MG {v:Value} (h:WE v=true):v = .pointer none:=by
 cases v <;> simp only[WE,vv] at h <;> try (cases h;done)
 rename_i a;cases a with
 | none=>rfl
 | some a=>cases h
section
variable {n0:Nat}
theorem E9.frzP (m t id off:Nat) (xs:List Value) (c:Bool) {F F':Fr} {H H':Aa} {anc:List Nat} (hcl:Au Ah xs=c) (hc:c=true) (r:E9 n0 (F.put (some t) (Cv off xs)) (H.set id .dead) F' H')
 (hv:F.get t = .pointer (some ⟨id,off,none⟩):=by kernel_rfl) (hn:Nat.ble n0 m=true:=by kernel_rfl) (hm:Nat.ble m id=true:=by kernel_rfl) (h1:H.get id = .cells xs false false anc:=by kernel_rfl) (hne:Nat.ble 1 (len xs)=true:=by kernel_rfl):E9 n0 F H F' H':=
 .step (.tell (by rw[hv];exact .frzP hn hm h1 hne (hcl.trans hc))) r
end
end Go.Sp
namespace Go.Sp
open Go.Sort

noncomputable section
def DL (z:Int):Value:=.int .i64 z
def CY (zs:List Int):List Int:=zs.mergeSort fun x y=>decide (x≤y)
def UO (zs:List Int):List Int:=Lib.compact zs
def Aan (off sz n ln:Nat):Bool:=an (Nat.beq off 0) (an (Nat.beq sz 1) (an (Nat.beq n ln) (an (Nat.ble 1 ln) (Nat.ble ln 1000000))))
def LJ (args:List Value) (H:Aa):Option (Value×Aa):=
 ll args none fun x r=>ll r (oo (IA x) none fun s=>ss s fun id off sz ln _=>oo (Bv (H.get id)) none fun o=>oo (CG (Bi .i64) o.xs) none fun zs=>
  bb (Aan off sz (len o.xs) ln) (oo (Ej H id 0 (AP DL (CY zs))) none fun H'=>some (.tuple ⟨[]⟩,H')) none) fun _ _=>none
end

theorem Ba.growW {H H':Aa} {R R':Ren} {w w1 w2:World} (hp:Ba H R w H' R' w1) {os:Array Obj} (e:w2.heap=w1.heap++os) (e1:w2.os=w1.os) (e2:w2.output=w1.output):Ba H R w H' R' w2:=by
 have hget:∀ c,c < w1.heap.size→w2.heap[c]?=w1.heap[c]?:=fun c hc=>by rw[e,Array.getElem?_append_left hc]
 have hsz:w1.heap.size≤w2.heap.size:=by rw[e];simp
 have hs:=hp.sim
 refine ⟨hp.le, hp.new, ⟨fun id c β h => ⟨(hs.dom id c β h).1, Nat.lt_of_lt_of_le (hs.dom id c β h).2 hsz⟩, fun id c β h => by rw [hget c (hs.dom id c β h).2]; exact hs.obj id c β h, hs.sep, hs.anc, hs.wf, fun c C h => ?_⟩,
  hp.next,Nat.le_trans hp.grow hsz,fun c hc h=>by rw[hget c (Nat.lt_of_lt_of_le hc hp.grow)];exact hp.frame c hc h,hp.calm,hp.imm,hp.fresh,⟨e1.trans hp.side.1,e2.trans hp.side.2.1,fun a ha=>?_⟩,hp.rofresh⟩
 ·obtain⟨⟨t,fz,h1⟩,h2⟩:=hs.ro c C h
  exact⟨⟨t,fz,by rw[hget c (Array.getElem?_eq_some_iff.1 h1).1];exact h1⟩,h2⟩
 ·rw[←hp.side.2.2 a ha]
  unfold World.frozen?
  rw[hget a.block (Nat.lt_of_lt_of_le ha hp.grow)]

theorem LQ (l:List Int):AP DL l=l.map DL:=by
 induction l with
 | nil=>rfl
 | cons x l ih=>show DL x::AP DL l=_;rw[ih];rfl
theorem FX (l:List Int):(AP DL l).length=l.length:=by rw[LQ];simp

theorem dS {H H':Aa} {R:Ren} {w:World} {id c β:Nat} {vals:List Int} (hs:Ck H R w) (hw:Ej H id 0 (AP DL vals)=some H') (hid:R.f id=some (c,β)) (n:Nat) (os:Array Obj) :
 Ba H R w H' R (grow (putRow (Value.int .i64) (Go.Sort.ahead w n) c β vals.toArray) os):=by
 have hv:Cf R (AP DL vals) (AP DL vals):=JX fun x hx=>by
  rw[LQ] at hx
  obtain⟨z,_,rfl⟩:=List.mem_map.1 hx
  rfl
 obtain⟨C,t,hC,hfit,_,hp⟩:=F8 hs hw hid hv
 refine hp.growW (os:=os) ?_ rfl rfl
 show (putRow (Value.int .i64) (Go.Sort.ahead w n) c β vals.toArray).heap++os=_
 congr 1
 apply Array.ext_getElem?
 intro k
 by_cases hk:c=k
 ·subst hk
  rw[setRow_heap w c C _ t (0,0) hC]
  show (Array.modify w.heap c (onCells (putCells (Value.int .i64) β vals.toArray)))[c]?=_
  rw[Array.getElem?_modify,if_pos rfl,hC]
  show some (Obj.cells _ _ _)=some (Obj.cells _ _ _)
  congr 2
  apply Array.ext_getElem?
  intro j
  rw[FX] at hfit
  simp only[putCells,Array.getElem?_mapIdx,List.getElem?_toArray,LQ,List.length_map,Nat.add_zero]
  by_cases h1:β≤j∧j < β+vals.length
  ·have hj:j < C.size:=by omega
   have hj2:j - β < vals.length:=by omega
   rw[Array.getElem?_eq_getElem hj,Option.map_some,if_pos (by simpa using h1)]
   rw[List.append_assoc,List.getElem?_append_right (by simp;omega),List.getElem?_append_left (by simp;omega)]
   simp only[List.length_take,Array.length_toList,List.getElem?_map]
   rw[show j - min β C.size=j - β by omega,List.getElem?_eq_getElem hj2]
   simp[DL,getElem!_pos,hj2]
  ·by_cases h2:j < β
   ·rw[List.append_assoc,List.getElem?_append_left (by simp;omega),List.getElem?_take_of_lt h2]
    simp only[Array.getElem?_toList]
    cases hcj:C[j]? with
    | none=>rfl
    | some y=>rw[Option.map_some,if_neg (by simpa using h1)]
   ·rw[List.getElem?_append_right (by simp;omega),List.getElem?_drop]
    simp only[Array.getElem?_toList]
    have:β+vals.length+(j - (List.take β C.toList++List.map DL vals).length)=j:=by simp;omega
    rw[this]
    cases hcj:C[j]? with
    | none=>rfl
    | some y=>rw[Option.map_some,if_neg (by simpa using h1)]
 ·rw[setRow_other _ _ _ _ (fun h=>hk h.symm)]
  show (Array.modify w.heap c _)[k]?=_
  rw[Array.getElem?_modify,if_neg hk]

section
variable {P:Program} {g:FuncId}

end

theorem WF {H:Aa} {id:Nat} {xs:List Value} {anc:List Nat} {vals:List Int} (hg:H.get id = .cells xs false false anc) (hl:vals.length=xs.length) :
 Ej H id 0 (AP DL vals)=some ((H.kill anc).set id (.cells (AP DL vals) false false [])):=by
 unfold Ej
 have h1:Nat.ble (0+len (AP DL vals)) (len xs)=true:=by rw[AV,AV,FX];exact Nat.ble_eq_true_of_le (by omega)
 have h2:Au D6 (AP DL vals)=true:=by
  rw[Bh,List.all_eq_true,LQ]
  intro x hx
  obtain⟨z,_,rfl⟩:=List.mem_map.1 hx
  rfl
 have h3:BM (AP DL vals) 0 xs=AP DL vals:=by
  show Br (AP DL vals) (Am (len (AP DL vals)) xs)=_
  rw[BH,Bz,AV,FX,List.drop_of_length_le (by omega),List.append_nil]
 rw[hg]
 show bb (an (nt false) (an (nt false) (an (Nat.ble (0+len (AP DL vals)) (len xs)) (Au D6 (AP DL vals))))) (some ((H.kill anc).set id (.cells (BM (AP DL vals) 0 xs) false false []))) none=_
 rw[h1,h2,h3];rfl

end Go.Sp
namespace Go.Sp
open Go
noncomputable section
def sortedF (g:FuncId) (args:List Value) (H:Aa):Option (Value×Aa):=ll args none fun x r=>ll r (oo (Om g 0 x) none fun l=>ll l none fun p l2=>ll l2 (oo (FO p) none fun q=>pp q fun id off=>oo (Bv (H.get id)) none fun o=>oo (AL o.xs off) none fun sv=>oo (Bj 1 sv) none fun s=>oo (CG (Bi .i64) s.cs) none fun zs=>
 bb (an (Nat.beq (len zs) s.n) (Nat.ble (len zs) 1000000)) (some (Sl.v 1 ⟨len zs,bb (MQ zs) 2 0,AP DL (CY zs)⟩,H.push .dead)) none) fun _ _=>none) fun _ _=>none
end
theorem YA {g:FuncId} {H:Aa} {id:Nat} {o:H7} {s:Sl} {zs:List Int} (ho:Bv (H.get id)=some o) (hx:AL o.xs 0=some (Sl.v 1 s)) (hz:CG (Bi .i64) s.cs=some zs) (hc:an (Nat.beq (len zs) s.n) (Nat.ble (len zs) 1000000)=true) :
 sortedF g [.func (.func g) ⟨[]⟩ ⟨[.pointer (some ⟨id,0,none⟩)]⟩] H=some (Sl.v 1 ⟨len zs,bb (MQ zs) 2 0,AP DL (CY zs)⟩,H.push .dead):=by
 have hf:Om g 0 (.func (.func g) ⟨[]⟩ ⟨[.pointer (some ⟨id,0,none⟩)]⟩)=some [.pointer (some ⟨id,0,none⟩)]:=by
  show bb (an (Nat.beq g g) (Nat.beq 0 0)) (some [Value.pointer (some ⟨id,0,none⟩)]) none=_
  rw[show Nat.beq g g=true from by simp];rfl
 unfold sortedF
 show oo (Om g 0 (.func (.func g) ⟨[]⟩ ⟨[.pointer (some ⟨id,0,none⟩)]⟩)) none _=_
 rw[hf]
 show oo (Bv (H.get id)) none (fun o=>oo (AL o.xs 0) none fun sv=>oo (Bj 1 sv) none fun s=>oo (CG (Bi .i64) s.cs) none fun zs=>bb (an (Nat.beq (len zs) s.n) (Nat.ble (len zs) 1000000)) (some (Sl.v 1 ⟨len zs,bb (MQ zs) 2 0,AP DL (CY zs)⟩,H.push .dead)) none)=_
 rw[ho,Ac,hx,Ac,show Bj 1 (Sl.v 1 s)=some s from rfl,Ac,hz,Ac,hc,Ak]
end Go.Sp
namespace Go.BkQ
open Go Go.Sp
noncomputable section
def IV (z:Int):Value:=.int .i64 z
def Ael (rows cols t r c:Nat):Nat×Nat:=
 bb (Nat.beq t 1) (rows - 1 - c, r) (bb (Nat.beq t 2) (rows - 1 - r, cols - 1 - c) (bb (Nat.beq t 3) (c, cols - 1 - r) (bb (Nat.beq t 4) (r, cols - 1 - c)
  (bb (Nat.beq t 5) (rows - 1 - r,c) (bb (Nat.beq t 6) (c,r) (bb (Nat.beq t 7) (rows - 1 - c,cols - 1 - r) (r,c)))))))
def Aem (rows cols t i:Nat):Nat:=Nat.rec (motive:=fun _=>Nat) 0 (fun _ _=>pp (Ael rows cols t (i / cols) (i % cols)) fun r c=>r*cols+c) cols
def upN (n:Nat):List Nat:=Nat.rec (motive:=fun _=>List Nat) [] (fun k ih=>Br ih [k]) n
def cellL (rows cols t:Nat):List Nat:=AP (Aem rows cols t) (upN (rows*cols))
def Fh (l:List Nat):List Value:=AP (fun n=>IV (.ofNat n)) l
def Pj (l:List Nat):Value:=FP 1 (len l) 0 (Fh l)
def triples:List (Nat×Nat×Nat):=[(1,1,0),(1,1,1),(1,1,2),(1,1,3),(1,1,4),(1,1,5),(1,1,6),(1,1,7),(1,2,0),(1,2,2),(1,2,4),(1,2,5),(1,3,0),(1,3,2),(1,3,4),(1,3,5),(1,4,0),(1,4,2),(1,4,4),(1,4,5),(2,1,0),(2,1,2),(2,1,4),(2,1,5),(2,2,0),(2,2,1),(2,2,2),(2,2,3),(2,2,4),(2,2,5),(2,2,6),(2,2,7),(2,3,0),(2,3,2),(2,3,4),(2,3,5),(2,4,0),(2,4,2),(2,4,4),(2,4,5),(3,1,0),(3,1,2),(3,1,4),(3,1,5),(3,2,0),(3,2,2),(3,2,4),(3,2,5),(3,3,0),(3,3,1),(3,3,2),(3,3,3),(3,3,4),(3,3,5),(3,3,6),(3,3,7),(3,4,0),(3,4,2),(3,4,4),(3,4,5),(4,1,0),(4,1,2),(4,1,4),(4,1,5),(4,2,0),(4,2,2),(4,2,4),(4,2,5),(4,3,0),(4,3,2),(4,3,4),(4,3,5),(4,4,0),(4,4,1),(4,4,2),(4,4,3),(4,4,4),(4,4,5),(4,4,6),(4,4,7)]
def Aao (l:List (Nat×Nat×Nat)) (r c t:Nat):Bool:=List.rec (motive:=fun _=>Bool) false (fun p _ ih=>Dp (an (Nat.beq p.1 r) (an (Nat.beq p.2.1 c) (Nat.beq p.2.2 t))) ih) l
def cellsM (args : List Value) : Option Value := ll args none fun a r => ll r none fun b r => ll r (oo (Bt a) none fun l => ll l none fun v1 l => ll l none fun v2 l => ll l none fun v3 l => ll l none fun v4 l => ll l
 (oo (Bi .i64 v1) none fun z1 => oo (EA z1) none fun rows => oo (Bi .i64 v2) none fun z2 => oo (EA z2) none fun cols => oo (Bi .i64 b) none fun z3 => oo (EA z3) none fun t =>
   bb (Aao triples rows cols t) (some (Pj (cellL rows cols t))) none) fun _ _=>none) fun _ _=>none
def trueF (args:List Value):Option Value:=ll args (some (.bool true)) fun _ _=>none
end
theorem Ug {a b:Bool} (h:Dp a b=true):a=true∨b=true:=by
 cases a with
 | true=>exact .inl rfl
 | false=>exact .inr h
theorem dU {l:List (Nat×Nat×Nat)} {r c t:Nat} (h:Aao l r c t=true):(r,c,t)∈l:=by
 induction l with
 | nil=>cases h
 | cons p l ih =>
  rcases Ug (show Dp (an (Nat.beq p.1 r) (an (Nat.beq p.2.1 c) (Nat.beq p.2.2 t))) (Aao l r c t)=true from h) with h | h
  ·obtain⟨h1,h⟩:=Av h
   obtain⟨h2,h3⟩:=Av h
   obtain⟨p1,p2,p3⟩:=p
   have h1:p1=r:=Nat.eq_of_beq_eq_true h1
   have h2:p2=c:=Nat.eq_of_beq_eq_true h2
   have h3:p3=t:=Nat.eq_of_beq_eq_true h3
   subst h1;subst h2;subst h3
   exact List.mem_cons_self
  ·exact List.mem_cons_of_mem _ (ih h)
theorem WG {args:List Value} {v:Value} (h:cellsM args=some v):∃ r c t v3 v4,args=[.agg ⟨[IV (.ofNat r),IV (.ofNat c),v3,v4]⟩,IV (.ofNat t)]∧(r,c,t)∈triples∧v=Pj (cellL r c t):=by
 replace h:=Ad h;obtain⟨a,r1,rfl,h⟩:=h
 replace h:=Ad h;obtain⟨b,r2,rfl,h⟩:=h
 replace h:=AC h;obtain⟨rfl,h⟩:=h
 replace h:=Ab h;obtain⟨l,hl,h⟩:=h
 replace h:=Ad h;obtain⟨v1,l1,rfl,h⟩:=h
 replace h:=Ad h;obtain⟨v2,l2,rfl,h⟩:=h
 replace h:=Ad h;obtain⟨v3,l3,rfl,h⟩:=h
 replace h:=Ad h;obtain⟨v4,l4,rfl,h⟩:=h
 replace h:=AC h;obtain⟨rfl,h⟩:=h
 replace h:=Ab h;obtain⟨z1,h1,h⟩:=h
 replace h:=Ab h;obtain⟨r,h2,h⟩:=h
 replace h:=Ab h;obtain⟨z2,h3,h⟩:=h
 replace h:=Ab h;obtain⟨c,h4,h⟩:=h
 replace h:=Ab h;obtain⟨z3,h5,h⟩:=h
 replace h:=Ab h;obtain⟨t,h6,h⟩:=h
 replace h:=Ae h;obtain⟨hc,h⟩:=h
 injection h with h
 refine⟨r,c,t,v3,v4,?_,dU hc,h.symm⟩
 rw[BQ hl,Eh h1,Eh h3,Eh h5,AR h2,AR h4,AR h6];rfl
end Go.BkQ
