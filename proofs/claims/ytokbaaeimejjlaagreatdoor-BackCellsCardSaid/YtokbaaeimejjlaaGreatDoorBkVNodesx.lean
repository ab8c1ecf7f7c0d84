/- Made from wip. -/
import Derived.Test.YtokbaaeimejjlaaGreatDoorSpSymx
import Derived.Test.YtokbaaeimejjlaaGreatDoorSpClo3x
import Derived.Test.YtokbaaeimejjlaaGreatDoorSpMorex
import Derived.Sort.Grow
import Derived.Lib.SlicesCompact
import Derived.Test.YtokbaaeimejjlaaGreatDoorSpFramex

namespace Go.Sp

theorem Quiet.dead {n0:Nat} {H:Aa} {id:Nat} {xs:List Value} {spent:Bool} {anc:List Nat} (h1:H.get id = .cells xs false spent anc):Quiet n0 H (H.set id .dead):=fun H0 R0 w0 R w hs0 _ hp=>by
 have hs:=hp.sim
 have hget:∀ i,(H.set id .dead).get i=if id=i then .dead else H.get i:=fun i=>Aa.get_set _ _ _ _
 have hwr:∀ i,(H.get i).writable=false→((H.set id .dead).get i).writable=false:=fun i h=>by
  rw[hget];split
  ·rfl
  ·exact h
 refine ⟨R, R.le_refl, rfl, hp.le, hp.new, ⟨fun i c β h => by rw [Aa.next_set]; exact hs.dom i c β h, fun i c β h => ?_, fun i c β i' β' h h' hne hw => ?_, fun i a ha => ?_, fun i hi => ?_, fun c C h => ⟨(hs.ro c C h).1, fun i β h' => hwr i ((hs.ro c C h).2 i β h')⟩⟩,
  by rw[Aa.next_set];exact hp.next,hp.grow,hp.frame,fun i hi hr Q c β ob h=>?_,fun i hi h=>?_,hp.fresh,hp.side,hp.rofresh⟩
 ·rw[hget];split
  ·trivial
  ·exact hs.obj i c β h
 ·rw[hget] at hw
  split at hw
  ·cases hw
  ·rename_i he
   rw[hget i']
   split
   ·exact .inl rfl
   ·rw [hget i, if_neg he]; exact hs.sep i c β i' β' h h' hne hw
 ·rw[hget] at ha
  split at ha
  ·cases ha
  ·obtain⟨h1,h2,h3⟩:=hs.anc i a ha
   refine⟨by rw[Aa.next_set];exact h1,?_,hwr a h3⟩
   rw[hget];split
   ·rfl
   ·exact h2
 ·rw[Aa.next_set] at hi
  rw[hget];split
  ·rfl
  ·exact hs.wf i hi
 ·rw[hget];split
  ·trivial
  ·exact hp.calm i hi hr Q c β ob h
 ·rw[hget];split
  ·rename_i he
   subst he
   have:=hp.imm id hi h
   rw[h1] at this
   rw[←this] at h;cases h
  ·exact hp.imm i hi h
theorem Quiet.push {n0:Nat} {H:Aa} {o:AJ} (h:o.ancOf=[]):Quiet n0 H (H.push o):=fun H0 R0 w0 R w _ _ hp=>⟨R,R.le_refl,rfl,hp.absPush h⟩

theorem FU.frzP {n0 m:Nat} {H:Aa} {id off:Nat} {xs:List Value} {anc:List Nat} (hn:Nat.ble n0 m=true) (hm:Nat.ble m id=true) (h1:H.get id = .cells xs false false anc) (hne:Nat.ble 1 (len xs)=true) (hc:Au Ah xs=true) :
 FU n0 H (.pointer (some ⟨id,off,none⟩)) (H.set id .dead) (Cv off xs):=fun H0 R0 w0 R w u hs hn0 hp hv=>by
 obtain⟨c,β,hid,rfl⟩:=hv.ptr_l
 have hne:1≤xs.length:=by have:=Nat.le_of_ble_eq_true hne;rwa [AV] at this
 obtain⟨C,t,fz,k1,k2,k3,k4⟩:=hp.sim.cells (o:=⟨xs,false,false,anc⟩) hid (by rw[h1];rfl)
 have hfz:Cq m false (.slice (some ⟨id,0,some 1⟩) xs.length (2*xs.length)) H=some (FP 1 xs.length 0 xs,H.set id .dead):=by
  unfold Cq
  show oo (Bv (H.get id)) none _=_
  rw[h1]
  have ht:Aq (xs.length*1) (Am 0 xs)=xs:=by rw[Cg,Bz,List.drop_zero,List.take_of_length_le (by omega)]
  show bb (an (Nat.ble m id) (an true (an true (an (Nat.ble (0+xs.length*1) (len xs)) (Au Ah (Aq (xs.length*1) (Am 0 xs))))))) (some (FP 1 xs.length 0 (Aq (xs.length*1) (Am 0 xs)),_)) none=_
  rw[ht,hm,hc,AV,Nat.ble_eq_true_of_le (by omega)]
  rfl
 obtain ⟨R', q1, q0, q2, q3⟩ := Gg (u := .slice (some ⟨c, β + 0, none⟩) xs.length xs.length) hfz hs (Nat.le_trans hn0 (Nat.le_of_ble_eq_true hn)) hp (.sl hid (by omega) (by omega) (fun h => by omega) (by
  have k2:C.size=R.sz c:=k2
  have k3:β+xs.length≤C.size:=k3
  omega))
 refine⟨R',q1,q0,q2,?_⟩
 rcases q3.fs_l (f:=⟨1,xs.length,0,xs⟩) rfl with⟨e,_⟩ | ⟨_,e,_⟩ | ⟨c',o',cap,C',hro,he,hl,_,_,_,hfit,hcr,hcl⟩
 ·have e:xs.length=0:=e;omega
 ·have e:xs.length=0:=e;omega
 ·injection he with he1 he2 he3
  injection he1 with he1
  injection he1 with e1 e2 e3
  subst e1
  have e2:β=o':=by omega
  subst e2
  exact .mkFp hro hfit hcr hcl

noncomputable def WQ (v:Value):Bool:=vv v (fun _=>false) (fun _ _=>false) (fun _=>false) (fun a=>nt (isS a)) (fun _ _ _=>false) (fun _=>false) (fun _ _ _=>false) false (fun _ _=>false) false (fun _=>false) (fun _=>false) false
theorem TY {v:Value} (h:WQ v=true):v = .pointer none:=by
 cases v <;> simp only[WQ,vv] at h <;> try (cases h;done)
 rename_i a;cases a with
 | none=>rfl
 | some a=>cases h
section
variable {n0:Nat}
theorem E9.frzP (m t id off:Nat) (xs:List Value) (c:Bool) {F F':Fr} {H H':Aa} {anc:List Nat} (hcl:Au Ah xs=c) (hc:c=true) (r:E9 n0 (F.put (some t) (Cv off xs)) (H.set id .dead) F' H')
 (hv:F.get t = .pointer (some ⟨id,off,none⟩):=by kernel_rfl) (hn:Nat.ble n0 m=true:=by kernel_rfl) (hm:Nat.ble m id=true:=by kernel_rfl) (h1:H.get id = .cells xs false false anc:=by kernel_rfl) (hne:Nat.ble 1 (len xs)=true:=by kernel_rfl):E9 n0 F H F' H':=
 .step (.tell (by rw[hv];exact .frzP hn hm h1 hne (hcl.trans hc))) r
end
end Go.Sp
namespace Go.Sp
open Go.Sort

noncomputable section
def Dy (z:Int):Value:=.int .i64 z
def CY (zs:List Int):List Int:=zs.mergeSort fun x y=>decide (x≤y)
def UU (zs:List Int):List Int:=Lib.compact zs
end

theorem Ba.growW {H H':Aa} {R R':Ren} {w w1 w2:World} (hp:Ba H R w H' R' w1) {os:Array Obj} (e:w2.heap=w1.heap++os) (e1:w2.os=w1.os) (e2:w2.output=w1.output):Ba H R w H' R' w2:=by
 have hget:∀ c,c < w1.heap.size→w2.heap[c]?=w1.heap[c]?:=fun c hc=>by rw[e,Array.getElem?_append_left hc]
 have hsz:w1.heap.size≤w2.heap.size:=by rw[e];simp
 have hs:=hp.sim
 refine ⟨hp.le, hp.new, ⟨fun id c β h => ⟨(hs.dom id c β h).1, Nat.lt_of_lt_of_le (hs.dom id c β h).2 hsz⟩, fun id c β h => by rw [hget c (hs.dom id c β h).2]; exact hs.obj id c β h, hs.sep, hs.anc, hs.wf, fun c C h => ?_⟩,
  hp.next,Nat.le_trans hp.grow hsz,fun c hc h=>by rw[hget c (Nat.lt_of_lt_of_le hc hp.grow)];exact hp.frame c hc h,hp.calm,hp.imm,hp.fresh,⟨e1.trans hp.side.1,e2.trans hp.side.2.1,fun a ha=>?_⟩,hp.rofresh⟩
 ·obtain⟨⟨t,fz,h1⟩,h2⟩:=hs.ro c C h
  exact⟨⟨t,fz,by rw[hget c (Array.getElem?_eq_some_iff.1 h1).1];exact h1⟩,h2⟩
 ·rw[←hp.side.2.2 a ha]
  unfold World.frozen?
  rw[hget a.block (Nat.lt_of_lt_of_le ha hp.grow)]

theorem L6 (l:List Int):AP Dy l=l.map Dy:=by
 induction l with
 | nil=>rfl
 | cons x l ih=>show Dy x::AP Dy l=_;rw[ih];rfl
theorem FL (l:List Int):(AP Dy l).length=l.length:=by rw[L6];simp

theorem cZ {H H':Aa} {R:Ren} {w:World} {id c β:Nat} {vals:List Int} (hs:Ck H R w) (hw:Ej H id 0 (AP Dy vals)=some H') (hid:R.f id=some (c,β)) (n:Nat) (os:Array Obj) :
 Ba H R w H' R (grow (putRow (Value.int .i64) (Go.Sort.ahead w n) c β vals.toArray) os):=by
 have hv:Cf R (AP Dy vals) (AP Dy vals):=JX fun x hx=>by
  rw[L6] at hx
  obtain⟨z,_,rfl⟩:=List.mem_map.1 hx
  rfl
 obtain⟨C,t,hC,hfit,_,hp⟩:=F8 hs hw hid hv
 refine hp.growW (os:=os) ?_ rfl rfl
 show (putRow (Value.int .i64) (Go.Sort.ahead w n) c β vals.toArray).heap++os=_
 congr 1
 apply Array.ext_getElem?
 intro k
 by_cases hk:c=k
 ·subst hk
  rw[setRow_heap w c C _ t (0,0) hC]
  show (Array.modify w.heap c (onCells (putCells (Value.int .i64) β vals.toArray)))[c]?=_
  rw[Array.getElem?_modify,if_pos rfl,hC]
  show some (Obj.cells _ _ _)=some (Obj.cells _ _ _)
  congr 2
  apply Array.ext_getElem?
  intro j
  rw[FL] at hfit
  simp only[putCells,Array.getElem?_mapIdx,List.getElem?_toArray,L6,List.length_map,Nat.add_zero]
  by_cases h1:β≤j∧j < β+vals.length
  ·have hj:j < C.size:=by omega
   have hj2:j - β < vals.length:=by omega
   rw[Array.getElem?_eq_getElem hj,Option.map_some,if_pos (by simpa using h1)]
   rw[List.append_assoc,List.getElem?_append_right (by simp;omega),List.getElem?_append_left (by simp;omega)]
   simp only[List.length_take,Array.length_toList,List.getElem?_map]
   rw[show j - min β C.size=j - β by omega,List.getElem?_eq_getElem hj2]
   simp[Dy,getElem!_pos,hj2]
  ·by_cases h2:j < β
   ·rw[List.append_assoc,List.getElem?_append_left (by simp;omega),List.getElem?_take_of_lt h2]
    simp only[Array.getElem?_toList]
    cases hcj:C[j]? with
    | none=>rfl
    | some y=>rw[Option.map_some,if_neg (by simpa using h1)]
   ·rw[List.getElem?_append_right (by simp;omega),List.getElem?_drop]
    simp only[Array.getElem?_toList]
    have:β+vals.length+(j - (List.take β C.toList++List.map Dy vals).length)=j:=by simp;omega
    rw[this]
    cases hcj:C[j]? with
    | none=>rfl
    | some y=>rw[Option.map_some,if_neg (by simpa using h1)]
 ·rw[setRow_other _ _ _ _ (fun h=>hk h.symm)]
  show (Array.modify w.heap c _)[k]?=_
  rw[Array.getElem?_modify,if_neg hk]

section
variable {P:Program} {g:FuncId}

end

theorem WR {H:Aa} {id:Nat} {xs:List Value} {anc:List Nat} {vals:List Int} (hg:H.get id = .cells xs false false anc) (hl:vals.length=xs.length) :
 Ej H id 0 (AP Dy vals)=some ((H.kill anc).set id (.cells (AP Dy vals) false false [])):=by
 unfold Ej
 have h1:Nat.ble (0+len (AP Dy vals)) (len xs)=true:=by rw[AV,AV,FL];exact Nat.ble_eq_true_of_le (by omega)
 have h2:Au D6 (AP Dy vals)=true:=by
  rw[Bh,List.all_eq_true,L6]
  intro x hx
  obtain⟨z,_,rfl⟩:=List.mem_map.1 hx
  rfl
 have h3:setL (AP Dy vals) 0 xs=AP Dy vals:=by
  show Br (AP Dy vals) (Am (len (AP Dy vals)) xs)=_
  rw[BH,Bz,AV,FL,List.drop_of_length_le (by omega),List.append_nil]
 rw[hg]
 show bb (an (nt false) (an (nt false) (an (Nat.ble (0+len (AP Dy vals)) (len xs)) (Au D6 (AP Dy vals))))) (some ((H.kill anc).set id (.cells (setL (AP Dy vals) 0 xs) false false []))) none=_
 rw[h1,h2,h3];rfl

end Go.Sp
namespace Go.Sp
open Go
noncomputable section
def sortedF (g:FuncId) (args:List Value) (H:Aa):Option (Value×Aa):=ll args none fun x r=>ll r (oo (Om g 0 x) none fun l=>ll l none fun p l2=>ll l2 (oo (FO p) none fun q=>pp q fun id off=>oo (Bv (H.get id)) none fun o=>oo (AL o.xs off) none fun sv=>oo (Bj 1 sv) none fun s=>oo (CG (Bi .i64) s.cs) none fun zs=>
 bb (an (Nat.beq (len zs) s.n) (Nat.ble (len zs) 1000000)) (some (Sl.v 1 ⟨len zs,bb (MQ zs) 2 0,AP Dy (CY zs)⟩,H.push .dead)) none) fun _ _=>none) fun _ _=>none
end
theorem ZK {g:FuncId} {H:Aa} {id:Nat} {o:H7} {s:Sl} {zs:List Int} (ho:Bv (H.get id)=some o) (hx:AL o.xs 0=some (Sl.v 1 s)) (hz:CG (Bi .i64) s.cs=some zs) (hc:an (Nat.beq (len zs) s.n) (Nat.ble (len zs) 1000000)=true) :
 sortedF g [.func (.func g) ⟨[]⟩ ⟨[.pointer (some ⟨id,0,none⟩)]⟩] H=some (Sl.v 1 ⟨len zs,bb (MQ zs) 2 0,AP Dy (CY zs)⟩,H.push .dead):=by
 have hf:Om g 0 (.func (.func g) ⟨[]⟩ ⟨[.pointer (some ⟨id,0,none⟩)]⟩)=some [.pointer (some ⟨id,0,none⟩)]:=by
  show bb (an (Nat.beq g g) (Nat.beq 0 0)) (some [Value.pointer (some ⟨id,0,none⟩)]) none=_
  rw[show Nat.beq g g=true from by simp];rfl
 unfold sortedF
 show oo (Om g 0 (.func (.func g) ⟨[]⟩ ⟨[.pointer (some ⟨id,0,none⟩)]⟩)) none _=_
 rw[hf]
 show oo (Bv (H.get id)) none (fun o=>oo (AL o.xs 0) none fun sv=>oo (Bj 1 sv) none fun s=>oo (CG (Bi .i64) s.cs) none fun zs=>bb (an (Nat.beq (len zs) s.n) (Nat.ble (len zs) 1000000)) (some (Sl.v 1 ⟨len zs,bb (MQ zs) 2 0,AP Dy (CY zs)⟩,H.push .dead)) none)=_
 rw[ho,Ac,hx,Ac,show Bj 1 (Sl.v 1 s)=some s from rfl,Ac,hz,Ac,hc,Ak]
end Go.Sp
namespace Go.BkQ
open Go Go.Sp
noncomputable section
def IV (z:Int):Value:=.int .i64 z
def Acf (rows cols t r c:Nat):Nat×Nat:=
 bb (Nat.beq t 1) (rows - 1 - c, r) (bb (Nat.beq t 2) (rows - 1 - r, cols - 1 - c) (bb (Nat.beq t 3) (c, cols - 1 - r) (bb (Nat.beq t 4) (r, cols - 1 - c)
  (bb (Nat.beq t 5) (rows - 1 - r,c) (bb (Nat.beq t 6) (c,r) (bb (Nat.beq t 7) (rows - 1 - c,cols - 1 - r) (r,c)))))))
def HV (rows cols t i:Nat):Nat:=Nat.rec (motive:=fun _=>Nat) 0 (fun _ _=>pp (Acf rows cols t (i / cols) (i % cols)) fun r c=>r*cols+c) cols
def upN (n:Nat):List Nat:=Nat.rec (motive:=fun _=>List Nat) [] (fun k ih=>Br ih [k]) n
def cellL (rows cols t:Nat):List Nat:=AP (HV rows cols t) (upN (rows*cols))
def Ji (l:List Nat):List Value:=AP (fun n=>IV (.ofNat n)) l
def Kb (l:List Nat):Value:=FP 1 (len l) 0 (Ji l)
def triples:List (Nat×Nat×Nat):=[(1,1,0),(1,1,1),(1,1,2),(1,1,3),(1,1,4),(1,1,5),(1,1,6),(1,1,7),(1,2,0),(1,2,2),(1,2,4),(1,2,5),(1,3,0),(1,3,2),(1,3,4),(1,3,5),(1,4,0),(1,4,2),(1,4,4),(1,4,5),(2,1,0),(2,1,2),(2,1,4),(2,1,5),(2,2,0),(2,2,1),(2,2,2),(2,2,3),(2,2,4),(2,2,5),(2,2,6),(2,2,7),(2,3,0),(2,3,2),(2,3,4),(2,3,5),(2,4,0),(2,4,2),(2,4,4),(2,4,5),(3,1,0),(3,1,2),(3,1,4),(3,1,5),(3,2,0),(3,2,2),(3,2,4),(3,2,5),(3,3,0),(3,3,1),(3,3,2),(3,3,3),(3,3,4),(3,3,5),(3,3,6),(3,3,7),(3,4,0),(3,4,2),(3,4,4),(3,4,5),(4,1,0),(4,1,2),(4,1,4),(4,1,5),(4,2,0),(4,2,2),(4,2,4),(4,2,5),(4,3,0),(4,3,2),(4,3,4),(4,3,5),(4,4,0),(4,4,1),(4,4,2),(4,4,3),(4,4,4),(4,4,5),(4,4,6),(4,4,7)]
def WS (l:List (Nat×Nat×Nat)) (r c t:Nat):Bool:=List.rec (motive:=fun _=>Bool) false (fun p _ ih=>Dp (an (Nat.beq p.1 r) (an (Nat.beq p.2.1 c) (Nat.beq p.2.2 t))) ih) l
def cellsM (args : List Value) : Option Value := ll args none fun a r => ll r none fun b r => ll r (oo (Bt a) none fun l => ll l none fun v1 l => ll l none fun v2 l => ll l none fun v3 l => ll l none fun v4 l => ll l
 (oo (Bi .i64 v1) none fun z1 => oo (EA z1) none fun rows => oo (Bi .i64 v2) none fun z2 => oo (EA z2) none fun cols => oo (Bi .i64 b) none fun z3 => oo (EA z3) none fun t =>
   bb (WS triples rows cols t) (some (Kb (cellL rows cols t))) none) fun _ _=>none) fun _ _=>none
def trueF (args:List Value):Option Value:=ll args (some (.bool true)) fun _ _=>none
end
theorem lS {a b:Bool} (h:Dp a b=true):a=true∨b=true:=by
 cases a with
 | true=>exact .inl rfl
 | false=>exact .inr h
theorem dA {l:List (Nat×Nat×Nat)} {r c t:Nat} (h:WS l r c t=true):(r,c,t)∈l:=by
 induction l with
 | nil=>cases h
 | cons p l ih =>
  rcases lS (show Dp (an (Nat.beq p.1 r) (an (Nat.beq p.2.1 c) (Nat.beq p.2.2 t))) (WS l r c t)=true from h) with h | h
  ·obtain⟨h1,h⟩:=Av h
   obtain⟨h2,h3⟩:=Av h
   obtain⟨p1,p2,p3⟩:=p
   have h1:p1=r:=Nat.eq_of_beq_eq_true h1
   have h2:p2=c:=Nat.eq_of_beq_eq_true h2
   have h3:p3=t:=Nat.eq_of_beq_eq_true h3
   subst h1;subst h2;subst h3
   exact List.mem_cons_self
  ·exact List.mem_cons_of_mem _ (ih h)
theorem WT {args:List Value} {v:Value} (h:cellsM args=some v):∃ r c t v3 v4,args=[.agg ⟨[IV (.ofNat r),IV (.ofNat c),v3,v4]⟩,IV (.ofNat t)]∧(r,c,t)∈triples∧v=Kb (cellL r c t):=by
 replace h:=Ad h;obtain⟨a,r1,rfl,h⟩:=h
 replace h:=Ad h;obtain⟨b,r2,rfl,h⟩:=h
 replace h:=AC h;obtain⟨rfl,h⟩:=h
 replace h:=Ab h;obtain⟨l,hl,h⟩:=h
 replace h:=Ad h;obtain⟨v1,l1,rfl,h⟩:=h
 replace h:=Ad h;obtain⟨v2,l2,rfl,h⟩:=h
 replace h:=Ad h;obtain⟨v3,l3,rfl,h⟩:=h
 replace h:=Ad h;obtain⟨v4,l4,rfl,h⟩:=h
 replace h:=AC h;obtain⟨rfl,h⟩:=h
 replace h:=Ab h;obtain⟨z1,h1,h⟩:=h
 replace h:=Ab h;obtain⟨r,h2,h⟩:=h
 replace h:=Ab h;obtain⟨z2,h3,h⟩:=h
 replace h:=Ab h;obtain⟨c,h4,h⟩:=h
 replace h:=Ab h;obtain⟨z3,h5,h⟩:=h
 replace h:=Ab h;obtain⟨t,h6,h⟩:=h
 replace h:=Ae h;obtain⟨hc,h⟩:=h
 injection h with h
 refine⟨r,c,t,v3,v4,?_,dA hc,h.symm⟩
 rw[BQ hl,Eh h1,Eh h3,Eh h5,AR h2,AR h4,AR h6];rfl
end Go.BkQ
set_option maxRecDepth 100000
namespace Go.BkV
open Go.Sp
def AiK:RC:=.reg [] [Ce 12 3 24,Ap 13 1 22,Ap 14 2 22,rq 15 (cf 9 #[tp 12,tp 13,tp 14] #[24,22,22]) 4]
def AiL:RC:=.cond (tp 15) (.seq (.reg [] [rq 16 (cf 10 #[] #[]) 4,AQ 6 16 4]) .ret) .skip
def AiM:RC:=.reg [] [Ce 17 3 24,rq 7 (.alloc 27) 0,rn (.store 27 (tp 7) (tp 17)) 0]
def AiN:RC:=.reg [] [Ce 19 3 24,Ap 20 1 22,rq 21 (cf 29 #[tp 19,tp 20] #[24,22]) 29,Ap 18 21 29,EM 22 18 0 22,EM 23 18 1 28,AQ 8 22 22,AQ 9 23 28]
def AiO:RC:=.reg [] [Ce 25 7 27,Ap 26 1 22,rq 27 (cf 30 #[tp 25,tp 26] #[27,22]) 29,Ap 24 27 29,EM 28 24 0 22,EM 29 24 1 28,AQ 10 28 22,AQ 11 29 28]
def AiP:RC:=.reg [0,1,2,3,4,5,6,7,8,9,10,11,13,14,15,12,16,17,18,19,20,21,22] [Ap 30 8 22,Ap 31 10 22,rq 32 (cf 17 #[tp 30,tp 31] #[22,22]) 4,Ap 33 32 4,DD 34 9 28 33 true,DD 35 11 28 33 true,rg 36 (.binOp .eql 28 (tp 34) (tp 35) 28) 4 33 true,rq 37 (.pick (tp 33) (tp 36) (kb false)) 4,Ap 38 37 4,rg 39 (.load 24 (tp 3)) 24 38 true,DD 40 1 22 38 true,DD 41 2 22 38 true,rg 43 (.load 27 (tp 7)) 27 38 true,DD 44 1 22 38 true,DD 45 2 22 38 true,⟨(some 42),cf 31 #[tp 39,tp 40,tp 41] #[24,22,22],28,(some ((some 38),true)),[(tp 7)]⟩,rg 46 (cf 32 #[tp 43,tp 44,tp 45] #[27,22,22]) 28 38 true,rg 47 (.binOp .eql 28 (tp 42) (tp 46) 28) 4 38 true,rq 48 (.pick (tp 38) (tp 47) (kb false)) 4,Ap 49 48 4,rg 50 (cf 10 #[] #[]) 4 49 true,rq 51 (.pick (tp 49) (tp 50) (kb false)) 4,AQ 6 51 4]
def Acg:RC:=.seq (.seq AiK AiL) (.seq AiM (.seq AiN (.seq AiO (.seq AiP .ret))))
def XT:RC:=.seq (.reg [] [rq 3 (.box 24 (tp 0)) 0,rq 6 (.assign (kb false)) 4]) Acg
def AiQ:RC:=.reg [] [DR 7 24 3 3,Ce 8 7 22,EN 9 8 22,rq 10 (.binOp .gtr 3 (tp 9) (ki 30) 3) 4,Ap 11 10 4,DD 12 1 22 11 false,rg 13 (cb .len #[tp 12] #[22]) 3 11 false,rg 14 (.binOp .gtr 3 (tp 13) (ki 60) 3) 4 11 false,rq 15 (.pick (tp 11) (kb true) (tp 14)) 4,Ap 16 15 4,DD 17 2 22 16 false,rg 18 (cb .len #[tp 17] #[22]) 3 16 false,rg 19 (.binOp .gtr 3 (tp 18) (ki 60) 3) 4 16 false,rq 20 (.pick (tp 16) (kb true) (tp 19)) 4,AQ 6 20 4]
def lT:RC:=.seq (.reg [] [rq 3 (.box 24 (tp 0)) 0,rq 6 (.assign (kb false)) 4]) (.seq AiQ .ret)
def Ach:RC:=.reg [] [Ap 6 0 22,EN 7 6 22,Ap 8 1 22,EN 9 8 22,rq 10 (.binOp .neq 3 (tp 7) (tp 9) 3) 4]
def Aci:RC:=.cond (tp 10) (.seq (.reg [] [rq 4 (.assign (kb false)) 4]) .ret) .skip
def Acj:RC:=.reg [] [Ap 11 5 3,Ap 12 0 22,EN 13 12 22,rq 14 (.binOp .lss 3 (tp 11) (tp 13) 3) 4]
def rF:RC:=.reg [0,1,2,3,4,5,6,7,8] [Ap 17 0 22,Ap 18 5 3,D5 19 22 17 18,Ce 20 19 3,Ap 21 1 22,Ap 22 5 3,D5 23 22 21 22,Ce 24 23 3,rq 25 (.binOp .neq 3 (tp 20) (tp 24) 3) 4]
def rH:RC:=.cond (tp 25) (.seq (.reg [] [rq 4 (.assign (kb false)) 4]) .ret) .skip
def rJ:RC:=.reg [] [Ap 15 5 3,FB 16 15,AQ 5 16 3]
def rM:RC:=.seq (.seq Acj (.cond (tp 14) .skip (.exit 0))) (.seq (.block 1 (.seq rF rH)) rJ)
def dB:RC:=.seq (.reg [] [rq 4 (.assign (kb true)) 4]) .ret
def rO:RC:=.seq (.seq (.reg [] [Cz 5 0 3]) (.block 0 (.loop rM))) dB
def TZ:RC:=.seq (.reg [] [rq 4 (.assign (kb false)) 4]) (.seq (.seq Ach Aci) rO)
def Ack:RC:=.reg [] [rq 2 (.box 24 (tp 0)) 0,rq 3 (.box 22 (tp 1)) 0,rq 4 (.assign (.const (.slice none 0 0))) 22,Cz 5 0 28]
def Acl:RC:=.reg [] [Ce 12 2 24,Ce 13 3 22,rq 14 (.buildSlice 39 1 #[(0,(tp 13))]) 39,rq 15 (cf 43 #[tp 12,tp 14] #[24,39]) 65,Ap 11 15 65,EM 16 11 0 64,EM 17 11 1 28,rq 6 (.alloc 64) 0,rn (.store 64 (tp 6) (tp 16)) 0,AQ 7 17 28]
def Acm:RC:=.reg [] [Ap 18 7 28,rq 19 (.binOp .neq 28 (tp 18) (ki 0) 28) 4]
def Acn:RC:=.reg [] [Ap 20 7 28,rq 4 (.assign (.const (.slice none 0 0))) 22,AQ 5 20 28]
def rP:RC:=.reg [] [rq 21 (.makeFunc (.func 65) #[] #[tp 6,tp 3,tp 9,tp 8,tp 10]) 87,rn (.store 87 (tp 10) (tp 21)) 0]
def rQ:RC:=.reg [] [Ce 22 10 87,rq 23 (.call ⟨.value (tp 22),#[(.const (.slice none 0 0)),ki 0],#[22,3]⟩) 0]
def rR:RC:=.reg [] [Ce 24 8 22,AQ 4 24 22,Cz 5 0 28]
def rT:RC:=.seq (.reg [] [rq 10 (.alloc 87) 0]) (.seq rP (.seq rQ (.seq rR .ret)))
def rU:RC:=.seq (.reg [] [rq 9 (.alloc 3) 0,rn (.store 3 (tp 9) (ki 64)) 0]) rT
def rV:RC:=.seq (.seq Acm (.cond (tp 19) (.seq Acn .ret) .skip)) (.seq (.reg [] [rq 8 (.alloc 22) 0]) rU)
def T9:RC:=.seq Ack (.seq Acl rV)
def Aco:RC:=.reg [] [rq 2 (.box 27 (tp 0)) 0,rq 4 (.assign (.const (.slice none 0 0))) 22,Cz 5 0 28]
def Acp:RC:=.reg [] [Ce 10 2 27,Ap 11 1 22,rq 12 (cf 46 #[tp 10,tp 11] #[27,22]) 28,AQ 6 12 28]
def Acr:RC:=.reg [] [Ap 13 6 28,rq 14 (.binOp .neq 28 (tp 13) (ki 0) 28) 4]
def Acs:RC:=.reg [] [Ap 15 6 28,rq 4 (.assign (.const (.slice none 0 0))) 22,AQ 5 15 28]
def Acu:RC:=.reg [] [Ap 18 7 3,Ap 19 1 22,EN 20 19 22,rq 21 (cf 73 #[tp 18,tp 20,(.const (.slice none 0 0))] #[3,3,22]) 39,AQ 8 21 39]
def rW:RC:=.reg [] [Ap 22 9 3,Ap 23 8 39,EN 24 23 39,rq 25 (.binOp .lss 3 (tp 22) (tp 24) 3) 4]
def rX:RC:=.reg [0,1,2,3,4,5,6] [Ce 28 2 27,Ap 29 1 22,Ap 30 8 39,Ap 31 9 3,D5 32 39 30 31,Ce 33 32 22,rq 34 (cf 74 #[tp 28,tp 29,tp 33] #[27,22,22]) 4]
def rY:RC:=.reg [] [Ap 35 8 39,Ap 36 9 3,D5 37 39 35 36,Ce 38 37 22,AQ 4 38 22,Cz 5 0 28]
def rZ:RC:=.reg [] [Ap 26 9 3,FB 27 26,AQ 9 27 3]
def sD:RC:=.seq (.block 3 (.seq rX (.cond (tp 34) (.seq rY .ret) .skip))) rZ
def sF:RC:=.block 2 (.loop (.seq (.seq rW (.cond (tp 25) .skip (.exit 2))) sD))
def sG:RC:=.block 1 (.seq Acu (.seq (.reg [] [Cz 9 0 3]) sF))
def sH:RC:=.reg [] [Ap 16 7 3,FB 17 16,AQ 7 17 3]
def sI:RC:=.seq (.reg [] [Cz 7 0 3]) (.block 0 (.loop (.seq sG sH)))
def sJ:RC:=.seq Acp (.seq (.seq Acr (.cond (tp 14) (.seq Acs .ret) .skip)) sI)
def Ua:RC:=.seq Aco sJ
def Acv:RC:=.reg [] [Ce 16 3 24,Ap 17 1 22,rq 18 (.buildSlice 39 1 #[(0,(tp 17))]) 39,rq 19 (cf 43 #[tp 16,tp 18] #[24,39]) 65,Ap 15 19 65,EM 20 15 0 64,EM 21 15 1 28,AQ 7 20 64,AQ 8 21 28]
def Acw:RC:=.reg [] [Ap 22 8 28,rq 23 (.binOp .neq 28 (tp 22) (ki 0) 28) 4]
def Acx:RC:=.seq (.reg [] [Ap 24 8 28,AQ 6 24 28]) .ret
def Acy:RC:=.reg [] [Ap 25 2 22,EN 26 25 22,rq 27 (.move (ki 0)) 3]
def sK:RC:=.reg [] [D5 29 22 25 27,Ce 30 29 3,AQ 12 30 3]
def sM:RC:=.reg [] [Ap 32 12 3,Ap 33 1 22,EN 34 33 22,rq 35 (.binOp .sub 3 (tp 34) (ki 1) 3) 3,rq 36 (cf 59 #[ki 0,tp 32,tp 35] #[3,3,3]) 4,rq 37 (.unOp .not 4 (tp 36)) 4,AQ 31 37 4]
def sN:RC:=.reg [] [Ap 39 12 3,Ap 40 9 3,rq 41 (.binOp .leq 3 (tp 39) (tp 40) 3) 4,AQ 38 41 4]
def sO:RC:=.seq sN (.cond (tp 38) (.seq (.reg [] [Cz 6 7 28]) .ret) .skip)
def sP:RC:=.seq sM (.cond (tp 31) (.seq (.reg [] [Cz 6 2 28]) .ret) sO)
def sQ:RC:=.reg [] [Ap 43 10 74,Ap 44 12 3,rq 45 (.binOp .shl 74 (.const (.int .u16 1)) (tp 44) 3) 74,rq 46 (.binOp .or 74 (tp 43) (tp 45) 74) 74,AQ 10 46 74]
def sS:RC:=.seq (.reg [] [Ap 42 12 3,AQ 9 42 3]) sQ
def sU:RC:=.reg [] [FB 47 27,Ap 27 47 3]
def sV:RC:=.seq (.cond (tp 28) .skip (.exit 0)) (.seq (.block 1 (.seq sK (.seq (.block 2 sP) sS))) sU)
def sW:RC:=.loop (.seq (.reg [] [L8 28 27 26]) sV)
def sZ:RC:=.reg [] [Ap 48 7 64,rq 49 (.nilCheck (tp 48)) 0,DR 50 69 49 0,DR 51 24 50 3,Ce 52 51 22,EN 53 52 22,rq 54 (.move (ki 0)) 3]
def tC:RC:=.reg [] [Ap 57 7 64,Ap 58 1 22,Ap 59 13 3,rq 60 (cf 51 #[tp 57,tp 58,tp 59] #[64,22,3]) 74,AQ 14 60 74]
def tF:RC:=.reg [] [Ap 61 14 74,rq 62 (.binOp .neq 74 (tp 61) (.const (.int .u16 0)) 74) 4,Ap 63 62 4,DD 64 14 74 63 true,DD 65 10 74 63 true,rg 66 (.binOp .and 74 (tp 64) (tp 65) 74) 74 63 true,rg 67 (.binOp .eql 74 (tp 66) (.const (.int .u16 0)) 74) 4 63 true,rq 68 (.pick (tp 63) (tp 67) (kb false)) 4]
def tH:RC:=.seq tF (.cond (tp 68) (.seq (.reg [] [Cz 6 14 28]) .ret) .skip)
def tJ:RC:=.seq (.reg [] [Ap 56 54 3,AQ 13 56 3]) (.seq tC tH)
def tK:RC:=.reg [] [FB 69 54,Ap 54 69 3]
def tL:RC:=.seq (.reg [] [L8 55 54 53]) (.seq (.cond (tp 55) .skip (.exit 3)) (.seq (.block 4 tJ) tK))
def dC:RC:=.seq (.reg [] [Cz 6 0 28]) .ret
def WU:RC:=.seq (.seq sZ (.block 3 (.loop tL))) dC
def tN:RC:=.seq (.reg [] [rq 10 (.assign (.const (.int .u16 0))) 74]) (.seq (.seq Acy (.block 0 sW)) WU)
def tO:RC:=.seq (.seq Acw (.cond (tp 23) Acx .skip)) (.seq (.reg [] [rq 9 (.assign (ki (-1))) 3]) tN)
def Ub:RC:=.seq (.reg [] [rq 3 (.box 24 (tp 0)) 0,Cz 6 0 28]) (.seq Acv tO)
def Acz:RC:=.reg [] [Ce 9 3 27,Ap 10 1 22,rq 11 (cf 46 #[tp 9,tp 10] #[27,22]) 28,AQ 7 11 28]
def AcA:RC:=.reg [] [Ap 12 8 3,Ap 13 2 22,EN 14 13 22,rq 15 (.binOp .lss 3 (tp 12) (tp 14) 3) 4,Ap 16 15 4,DD 17 7 28 16 true,rg 18 (.binOp .eql 28 (tp 17) (ki 0) 28) 4 16 true,rq 19 (.pick (tp 16) (tp 18) (kb false)) 4]
def AcB:RC:=.reg [] [Ap 22 2 22,Ap 23 8 3,D5 24 22 22 23,Ce 25 24 3,Ap 26 1 22,EN 27 26 22,rq 28 (.binOp .sub 3 (tp 27) (ki 1) 3) 3,rq 29 (cf 62 #[tp 25,ki 0,tp 28] #[3,3,3]) 4,rq 30 (.unOp .not 4 (tp 29)) 4]
def AcC:RC:=.reg [0,1,2,3,4,5,6,7,8,9,10,11,12,13] [Ap 31 8 3,rq 32 (.binOp .gtr 3 (tp 31) (ki 0) 3) 4,Ap 33 32 4,DD 34 2 22 33 true,DD 35 8 3 33 true,rg 36 (.indexAddr 22 (tp 34) (tp 35)) 0 33 true,rg 37 (.load 3 (tp 36)) 3 33 true,DD 38 2 22 33 true,DD 39 8 3 33 true,rg 40 (.binOp .sub 3 (tp 39) (ki 1) 3) 3 33 true,rg 41 (.indexAddr 22 (tp 38) (tp 40)) 0 33 true,rg 42 (.load 3 (tp 41)) 3 33 true,rg 43 (.binOp .leq 3 (tp 37) (tp 42) 3) 4 33 true,rq 44 (.pick (tp 33) (tp 43) (kb false)) 4]
def tQ:RC:=.cond (tp 30) (.reg [] [Cz 7 2 28]) (.seq AcC (.cond (tp 44) (.reg [] [Cz 7 7 28]) .skip))
def tT:RC:=.reg [] [Ap 20 8 3,FB 21 20,AQ 8 21 3]
def tV:RC:=.seq (.seq AcA (.cond (tp 19) .skip (.exit 0))) (.seq (.block 1 (.seq AcB tQ)) tT)
def tX:RC:=.reg [] [Ap 45 7 28,rq 46 (.binOp .eql 28 (tp 45) (ki 0) 28) 4,Ap 47 46 4,rg 48 (.load 27 (tp 3)) 27 47 true,DD 49 1 22 47 true,DD 50 2 22 47 true,rg 51 (cf 74 #[tp 48,tp 49,tp 50] #[27,22,22]) 4 47 true,rg 52 (.unOp .not 4 (tp 51)) 4 47 true,rq 53 (.pick (tp 47) (tp 52) (kb false)) 4]
def tY:RC:=.seq tX (.cond (tp 53) (.reg [] [Cz 7 14 28]) .skip)
def dP:RC:=.seq (.reg [] [Ap 54 7 28,AQ 6 54 28]) .ret
def dQ:RC:=.seq tY dP
def tZ:RC:=.seq (.seq (.reg [] [Cz 8 0 3]) (.block 0 (.loop tV))) dQ
def Ud:RC:=.seq (.reg [] [rq 3 (.box 27 (tp 0)) 0,Cz 6 0 28]) (.seq Acz tZ)
def AcD:RC:=.reg [] [Ap 10 0 3,rq 11 (cf 62 #[tp 10,ki 0,ki 7] #[3,3,3]) 4,rq 12 (.unOp .not 4 (tp 11)) 4,Ap 13 12 4,DD 14 1 3 13 false,rg 15 (cf 62 #[tp 14,ki 0,ki 7] #[3,3,3]) 4 13 false,rg 16 (.unOp .not 4 (tp 15)) 4 13 false,rq 17 (.pick (tp 13) (kb true) (tp 16)) 4]
def AcE:RC:=.cond (tp 17) (.seq (.reg [] [Cz 4 0 3,Cz 5 2 28]) .ret) .skip
def AcF:RC:=.reg [] [rq 18 (.build 27 #[(0,(ki 2)),(1,(ki 2))]) 27,rq 6 (.alloc 27) 0,rn (.store 27 (tp 6) (tp 18)) 0]
def AcG:RC:=.reg [] [rq 19 (.buildSlice 22 4 #[(0,(ki 0)),(1,(ki 1)),(2,(ki 2)),(3,(ki 3))]) 22,AQ 7 19 22]
def AcH:RC:=.reg [0,1,2,3,5,4,6,7] [Ce 20 6 27,Ce 21 6 27,Ap 22 7 22,Ap 23 0 3,Ap 25 1 3,⟨(some 24),cf 48 #[tp 21,tp 22,tp 23] #[27,22,3],22,none,[(tp 6)]⟩,rq 26 (cf 48 #[tp 20,tp 24,tp 25] #[27,22,3]) 22,AQ 8 26 22]
def uA:RC:=.reg [] [Ce 27 6 27,Ap 28 7 22,Ap 29 9 3,rq 30 (cf 48 #[tp 27,tp 28,tp 29] #[27,22,3]) 22,Ap 31 8 22,rq 32 (cf 50 #[tp 30,tp 31] #[22,22]) 4,rq 33 (.unOp .not 4 (tp 32)) 4]
def uB:RC:=.reg [] [Ap 34 9 3,FB 35 34,AQ 9 35 3]
def uC:RC:=.loop (.seq (.seq uA (.cond (tp 33) .skip (.exit 0))) (.block 1 uB))
def uD:RC:=.reg [] [Ap 36 9 3,AQ 4 36 3,Cz 5 0 28]
def dR:RC:=.seq uD .ret
def uE:RC:=.seq (.reg [] [Cz 9 0 3]) (.seq (.block 0 uC) dR)
def Ue:RC:=.seq (.reg [] [Cz 4 0 3,Cz 5 0 28]) (.seq (.seq AcD AcE) (.seq AcF (.seq AcG (.seq AcH uE))))
def AcI:RC:=.reg [] [DR 9 27 1 0,Ce 10 9 3,rq 11 (cf 62 #[tp 10,ki 1,ki 4] #[3,3,3]) 4,rq 12 (.unOp .not 4 (tp 11)) 4,Ap 13 12 4,rg 14 (.fieldAddr 27 (tp 1) 1) 0 13 false,rg 15 (.load 3 (tp 14)) 3 13 false,rg 16 (cf 62 #[tp 15,ki 1,ki 4] #[3,3,3]) 4 13 false,rg 17 (.unOp .not 4 (tp 16)) 4 13 false,rq 18 (.pick (tp 13) (kb true) (tp 17)) 4,Ap 19 18 4,rg 20 (.fieldAddr 27 (tp 1) 2) 0 19 false,rg 21 (.load 3 (tp 20)) 3 19 false,rg 22 (cf 62 #[tp 21,ki 1,ki 4] #[3,3,3]) 4 19 false,rg 23 (.unOp .not 4 (tp 22)) 4 19 false,rq 24 (.pick (tp 19) (kb true) (tp 23)) 4]
def AcJ:RC:=.seq AcI (.cond (tp 24) (.seq (.reg [] [Cz 2 1 28]) .ret) .skip)
def AcK:RC:=.reg [] [Ap 25 3 3,DR 26 27 1 3,Ce 27 26 22,EN 28 27 22,rq 29 (.binOp .lss 3 (tp 25) (tp 28) 3) 4]
def uF:RC:=.reg [] [DR 32 27 1 3,Ce 33 32 22,Ap 34 3 3,D5 35 22 33 34,Ce 36 35 3,AQ 4 36 3]
def uG:RC:=.reg [] [Ap 37 4 3,rq 38 (cf 62 #[tp 37,ki 0,ki 7] #[3,3,3]) 4,rq 39 (.unOp .not 4 (tp 38)) 4]
def uH:RC:=.seq uG (.cond (tp 39) (.seq (.reg [] [Cz 2 2 28]) .ret) .skip)
def uI:RC:=.reg [] [DR 40 27 1 0,Ce 41 40 3,DR 42 27 1 1,Ce 43 42 3,rq 44 (.binOp .neq 3 (tp 41) (tp 43) 3) 4,Ap 45 44 4,DD 46 4 3 45 true,rg 47 (.binOp .eql 3 (tp 46) (ki 1) 3) 4 45 true,DD 48 47 4 45 true,DD 49 4 3 48 false,rg 50 (.binOp .eql 3 (tp 49) (ki 3) 3) 4 48 false,rg 51 (.pick (tp 48) (kb true) (tp 50)) 4 45 true,DD 52 51 4 45 true,DD 53 4 3 52 false,rg 54 (.binOp .gtr 3 (tp 53) (ki 5) 3) 4 52 false,rg 55 (.pick (tp 52) (kb true) (tp 54)) 4 45 true,rq 56 (.pick (tp 45) (tp 55) (kb false)) 4]
def uJ:RC:=.seq uI (.cond (tp 56) (.seq (.reg [] [Cz 2 8 28]) .ret) .skip)
def uK:RC:=.reg [] [Ap 57 3 3,rq 58 (.binOp .gtr 3 (tp 57) (ki 0) 3) 4,Ap 59 58 4,DD 60 4 3 59 true,rg 61 (.fieldAddr 27 (tp 1) 3) 0 59 true,rg 62 (.load 22 (tp 61)) 22 59 true,DD 63 3 3 59 true,rg 64 (.binOp .sub 3 (tp 63) (ki 1) 3) 3 59 true,rg 65 (.indexAddr 22 (tp 62) (tp 64)) 0 59 true,rg 66 (.load 3 (tp 65)) 3 59 true,rg 67 (.binOp .leq 3 (tp 60) (tp 66) 3) 4 59 true,rq 68 (.pick (tp 59) (tp 67) (kb false)) 4]
def uL:RC:=.seq uK (.cond (tp 68) (.seq (.reg [] [Cz 2 7 28]) .ret) .skip)
def uM:RC:=.reg [] [Ap 30 3 3,FB 31 30,AQ 3 31 3]
def uN:RC:=.seq (.block 1 (.seq uF (.seq uH (.seq uJ uL)))) uM
def uO:RC:=.block 0 (.loop (.seq (.seq AcK (.cond (tp 29) .skip (.exit 0))) uN))
def uP:RC:=.reg [] [DR 69 27 1 3,Ce 70 69 22,rq 71 (cf 47 #[tp 70,ki 0] #[22,3]) 4,rq 72 (.unOp .not 4 (tp 71)) 4]
def uQ:RC:=.seq uP (.cond (tp 72) (.seq (.reg [] [Cz 2 21 28]) .ret) .skip)
def uR:RC:=.reg [] [Ap 73 5 3,DR 74 27 1 3,Ce 75 74 22,EN 76 75 22,rq 77 (.binOp .lss 3 (tp 73) (tp 76) 3) 4]
def uS:RC:=.reg [] [Ap 80 6 3,DR 81 27 1 3,Ce 82 81 22,EN 83 82 22,rq 84 (.binOp .lss 3 (tp 80) (tp 83) 3) 4]
def uT:RC:=.reg [0,1,2,3,4,5,6,7,8,9,10,11,12,13,14,15] [DR 88 27 1 3,Ce 89 88 22,Ap 90 5 3,D5 91 22 89 90,Ce 92 91 3,DR 93 27 1 3,Ce 94 93 22,Ap 95 6 3,D5 96 22 94 95,Ce 97 96 3,rq 98 (cf 34 #[tp 92,tp 97] #[3,3]) 32,Ap 87 98 32,EM 99 87 0 3,EM 100 87 1 28,AQ 7 99 3,AQ 8 100 28]
def uU:RC:=.reg [] [DR 101 27 1 3,Ce 102 101 22,Ap 103 7 3,rq 104 (cf 47 #[tp 102,tp 103] #[22,3]) 4,rq 105 (.unOp .not 4 (tp 104)) 4]
def uV:RC:=.seq uU (.cond (tp 105) (.seq (.reg [] [Cz 2 21 28]) .ret) .skip)
def uW:RC:=.reg [] [Ap 85 6 3,FB 86 85,AQ 6 86 3]
def uX:RC:=.seq (.seq uS (.cond (tp 84) .skip (.exit 4))) (.seq (.block 5 (.seq uT uV)) uW)
def uY:RC:=.block 3 (.seq (.reg [] [Cz 6 0 3]) (.block 4 (.loop uX)))
def uZ:RC:=.reg [] [Ap 78 5 3,FB 79 78,AQ 5 79 3]
def vB:RC:=.seq (.seq uR (.cond (tp 77) .skip (.exit 2))) (.seq uY uZ)
def dS:RC:=.seq (.reg [] [Cz 2 0 28]) .ret
def vC:RC:=.seq (.seq (.reg [] [Cz 5 0 3]) (.block 2 (.loop vB))) dS
def dU:RC:=.seq uQ vC
def vD:RC:=.seq AcJ (.seq (.seq (.reg [] [Cz 3 0 3]) uO) dU)
def Uf:RC:=.seq (.reg [] [rq 1 (.box 27 (tp 0)) 0,Cz 2 0 28]) vD
def AcL:RC:=.reg [] [rq 2 (.box 24 (tp 0)) 0,rq 4 (.assign (.const (.pointer none))) 64,Cz 5 0 28]
def AcM:RC:=.reg [] [Ce 12 2 24,rq 13 (cf 55 #[tp 12] #[24]) 65,Ap 11 13 65,EM 14 11 0 64,EM 15 11 1 28,AQ 6 14 64,AQ 7 15 28]
def AcN:RC:=.reg [] [Ap 16 7 28,rq 17 (.binOp .neq 28 (tp 16) (ki 0) 28) 4]
def AcO:RC:=.reg [] [Ap 18 7 28,rq 4 (.assign (.const (.pointer none))) 64,AQ 5 18 28]
def AcP:RC:=.reg [] [Ap 19 1 39,EN 20 19 39,rq 21 (.move (ki 0)) 3]
def vE:RC:=.reg [] [D5 23 39 19 21,Ce 24 23 22,AQ 9 24 22]
def vF:RC:=.reg [] [Ap 25 6 64,Ap 26 9 22,rq 27 (cf 80 #[tp 25,tp 26] #[64,22]) 28,AQ 10 27 28]
def vG:RC:=.reg [] [Ap 28 10 28,rq 29 (.binOp .neq 28 (tp 28) (ki 0) 28) 4]
def vH:RC:=.reg [] [Ap 30 10 28,rq 4 (.assign (.const (.pointer none))) 64,AQ 5 30 28]
def vI:RC:=.seq vE (.seq vF (.seq vG (.cond (tp 29) (.seq vH .ret) .skip)))
def vJ:RC:=.reg [] [FB 31 21,Ap 21 31 3]
def vK:RC:=.seq (.reg [] [L8 22 21 20]) (.seq (.cond (tp 22) .skip (.exit 0)) (.seq (.block 1 vI) vJ))
def vL:RC:=.reg [] [Ap 32 6 64,AQ 4 32 64,Cz 5 0 28]
def WV:RC:=.seq vL .ret
def vM:RC:=.seq (.seq AcN (.cond (tp 17) (.seq AcO .ret) .skip)) (.seq (.seq AcP (.block 0 (.loop vK))) WV)
def Ug:RC:=.seq AcL (.seq AcM vM)
def AcQ:RC:=.reg [] [Ce 7 2 27,rq 8 (cf 36 #[tp 7] #[27]) 28,AQ 5 8 28]
def AcR:RC:=.reg [] [Ap 9 5 28,rq 10 (.binOp .eql 28 (tp 9) (ki 0) 28) 4,Ap 11 10 4,DD 12 1 22 11 true,rg 13 (cb .len #[tp 12] #[22]) 3 11 true,rg 14 (.fieldAddr 27 (tp 2) 0) 0 11 true,rg 15 (.load 3 (tp 14)) 3 11 true,rg 16 (.fieldAddr 27 (tp 2) 1) 0 11 true,rg 17 (.load 3 (tp 16)) 3 11 true,rg 18 (.binOp .mul 3 (tp 15) (tp 17) 3) 3 11 true,rg 19 (.binOp .neq 3 (tp 13) (tp 18) 3) 4 11 true,rq 20 (.pick (tp 11) (tp 19) (kb false)) 4]
def AcS:RC:=.reg [] [Ap 21 6 3,Ap 22 1 22,EN 23 22 22,rq 24 (.binOp .lss 3 (tp 21) (tp 23) 3) 4,Ap 25 24 4,DD 26 5 28 25 true,rg 27 (.binOp .eql 28 (tp 26) (ki 0) 28) 4 25 true,rq 28 (.pick (tp 25) (tp 27) (kb false)) 4]
def vN:RC:=.reg [0,1,2,3,4,5,6,7,8] [Ap 31 1 22,Ap 32 6 3,D5 33 22 31 32,Ce 34 33 3,DR 35 27 2 2,Ce 36 35 3,rq 37 (.binOp .sub 3 (tp 36) (ki 1) 3) 3,rq 38 (cf 62 #[tp 34,ki 0,tp 37] #[3,3,3]) 4,rq 39 (.unOp .not 4 (tp 38)) 4]
def vO:RC:=.block 1 (.seq vN (.cond (tp 39) (.reg [] [Cz 5 1 28]) .skip))
def vP:RC:=.reg [] [Ap 29 6 3,FB 30 29,AQ 6 30 3]
def vQ:RC:=.loop (.seq (.seq AcS (.cond (tp 28) .skip (.exit 0))) (.seq vO vP))
def dV:RC:=.seq (.reg [] [Ap 40 5 28,AQ 4 40 28]) .ret
def dX:RC:=.seq (.seq (.reg [] [Cz 6 0 3]) (.block 0 vQ)) dV
def vR:RC:=.seq (.seq AcR (.cond (tp 20) (.reg [] [Cz 5 5 28]) .skip)) dX
def Uh:RC:=.seq (.reg [] [rq 2 (.box 27 (tp 0)) 0,Cz 4 0 28]) (.seq AcQ vR)
def AcT:RC:=.reg [] [Ap 6 5 3,Ap 7 0 22,EN 8 7 22,rq 9 (.binOp .lss 3 (tp 6) (tp 8) 3) 4]
def AcU:RC:=.reg [] [Ap 12 0 22,Ap 13 5 3,D5 14 22 12 13,Ce 15 14 3,Ap 16 1 3,rq 17 (.binOp .eql 3 (tp 15) (tp 16) 3) 4]
def AcV:RC:=.seq AcU (.cond (tp 17) (.seq (.reg [] [rq 4 (.assign (kb true)) 4]) .ret) .skip)
def vS:RC:=.reg [] [Ap 10 5 3,FB 11 10,AQ 5 11 3]
def vT:RC:=.seq (.seq AcT (.cond (tp 9) .skip (.exit 0))) (.seq (.block 1 AcV) vS)
def dY:RC:=.seq (.reg [] [rq 4 (.assign (kb false)) 4]) .ret
def vU:RC:=.seq (.seq (.reg [] [Cz 5 0 3]) (.block 0 (.loop vT))) dY
def Ui:RC:=.seq (.reg [] [rq 4 (.assign (kb false)) 4]) vU
def AcW:RC:=.reg [] [Ap 6 5 3,Ap 7 0 22,EN 8 7 22,rq 9 (.binOp .lss 3 (tp 6) (tp 8) 3) 4]
def AcX:RC:=.reg [0,1,2,3,4,5,6,7,8] [Ap 12 0 22,Ap 13 5 3,D5 14 22 12 13,Ce 15 14 3,Ap 16 1 22,Ap 17 5 3,D5 18 22 16 17,Ce 19 18 3,rq 20 (.binOp .neq 3 (tp 15) (tp 19) 3) 4]
def AcY:RC:=.cond (tp 20) (.seq (.reg [] [rq 4 (.assign (kb false)) 4]) .ret) .skip
def vV:RC:=.reg [] [Ap 10 5 3,FB 11 10,AQ 5 11 3]
def vW:RC:=.seq (.seq AcW (.cond (tp 9) .skip (.exit 0))) (.seq (.block 1 (.seq AcX AcY)) vV)
def dZ:RC:=.seq (.reg [] [rq 4 (.assign (kb true)) 4]) .ret
def vX:RC:=.seq (.seq (.reg [] [Cz 5 0 3]) (.block 0 (.loop vW))) dZ
def Uj:RC:=.seq (.reg [] [rq 4 (.assign (kb false)) 4]) vX
def AcZ:RC:=.reg [] [Ap 10 0 64,rq 11 (.nilCheck (tp 10)) 0,DR 12 69 11 1,Ce 13 12 39,Ap 14 2 3,D5 15 39 13 14,Ce 16 15 22,EN 17 16 22,rq 18 (.move (ki 0)) 3]
def Ac0:RC:=.reg [] [Ap 20 18 3,D5 21 22 16 18,Ce 22 21 3,AQ 8 20 3,AQ 9 22 3]
def Ac1:RC:=.reg [0,1,2,3,4,5,6,7,8] [Ap 23 1 22,Ap 24 9 3,D5 25 22 23 24,Ce 26 25 3,Ap 27 1 22,Ap 28 8 3,D5 29 22 27 28,Ce 30 29 3,rq 31 (.binOp .neq 3 (tp 26) (tp 30) 3) 4]
def Ac2:RC:=.reg [] [Ap 32 7 74,Ap 33 8 3,rq 34 (.binOp .shl 74 (.const (.int .u16 1)) (tp 33) 3) 74,rq 35 (.binOp .or 74 (tp 32) (tp 34) 74) 74,AQ 7 35 74]
def vY:RC:=.reg [] [FB 36 18,Ap 18 36 3]
def vZ:RC:=.seq (.block 1 (.seq Ac0 (.seq Ac1 (.cond (tp 31) Ac2 .skip)))) vY
def wB:RC:=.seq (.reg [] [L8 19 18 17]) (.seq (.cond (tp 19) .skip (.exit 0)) vZ)
def eB:RC:=.seq (.reg [] [Ap 37 7 74,AQ 6 37 74]) .ret
def wC:RC:=.seq (.reg [] [rq 7 (.assign (.const (.int .u16 0))) 74]) (.seq (.seq AcZ (.block 0 (.loop wB))) eB)
def Uk:RC:=.seq (.reg [] [rq 6 (.assign (.const (.int .u16 0))) 74]) wC
def Ac3:RC:=.reg [] [rq 1 (.box 24 (tp 0)) 0,rq 2 (.assign (.const (.pointer none))) 64,Cz 3 0 28]
def Ac4:RC:=.reg [] [DR 14 24 1 0,Ce 15 14 3,rq 16 (cf 59 #[ki 1,tp 15,ki 4] #[3,3,3]) 4,rq 17 (.unOp .not 4 (tp 16)) 4,Ap 18 17 4,rg 19 (.fieldAddr 24 (tp 1) 1) 0 18 false,rg 20 (.load 3 (tp 19)) 3 18 false,rg 21 (cf 59 #[ki 1,tp 20,ki 4] #[3,3,3]) 4 18 false,rg 22 (.unOp .not 4 (tp 21)) 4 18 false,rq 23 (.pick (tp 18) (kb true) (tp 22)) 4,Ap 24 23 4,rg 25 (.fieldAddr 24 (tp 1) 2) 0 24 false,rg 26 (.load 3 (tp 25)) 3 24 false,rg 27 (cf 59 #[ki 1,tp 26,ki 4] #[3,3,3]) 4 24 false,rg 28 (.unOp .not 4 (tp 27)) 4 24 false,rq 29 (.pick (tp 24) (kb true) (tp 28)) 4]
def Ac5:RC:=.reg [] [rq 2 (.assign (.const (.pointer none))) 64,Cz 3 1 28]
def Ac6:RC:=.reg [] [Ce 30 1 24,rq 31 (.build 69 #[(0,(tp 30))]) 69,rq 32 (.box 69 (tp 31)) 64,AQ 4 32 64]
def Ac7:RC:=.reg [] [DR 33 24 1 3,Ce 34 33 22,EN 35 34 22,rq 36 (.move (ki 0)) 3]
def wI:RC:=.reg [] [D5 38 22 34 36,Ce 39 38 3,AQ 8 39 3]
def wJ:RC:=.reg [] [Ap 41 8 3,rq 42 (cf 59 #[ki 0,tp 41,ki 7] #[3,3,3]) 4,rq 43 (.unOp .not 4 (tp 42)) 4,AQ 40 43 4]
def wK:RC:=.reg [] [rq 2 (.assign (.const (.pointer none))) 64,Cz 3 2 28]
def wL:RC:=.reg [] [DR 45 24 1 0,Ce 46 45 3,DR 47 24 1 1,Ce 48 47 3,rq 49 (.binOp .neq 3 (tp 46) (tp 48) 3) 4,Ap 50 49 4,DD 51 8 3 50 true,rg 52 (cf 75 #[tp 51] #[3]) 99 50 true,rg 53 (.field 99 (tp 52) 0) 3 50 true,rg 54 (.binOp .rem 3 (tp 53) (ki 2) 3) 3 50 true,rg 55 (.binOp .eql 3 (tp 54) (ki 1) 3) 4 50 true,rq 56 (.pick (tp 50) (tp 55) (kb false)) 4,AQ 44 56 4]
def wM:RC:=.reg [] [rq 2 (.assign (.const (.pointer none))) 64,Cz 3 8 28]
def wN:RC:=.reg [] [Ap 58 8 3,Ap 59 5 3,rq 60 (.binOp .leq 3 (tp 58) (tp 59) 3) 4,AQ 57 60 4]
def wO:RC:=.reg [] [rq 2 (.assign (.const (.pointer none))) 64,Cz 3 7 28]
def wP:RC:=.cond (tp 44) (.seq wM .ret) (.seq wN (.cond (tp 57) (.seq wO .ret) .skip))
def wQ:RC:=.block 2 (.seq wJ (.cond (tp 40) (.seq wK .ret) (.seq wL wP)))
def wR:RC:=.reg [] [Ap 62 6 5,Ap 63 8 3,rq 64 (.binOp .shl 5 (.const (.int .u8 1)) (tp 63) 3) 5,rq 65 (.binOp .or 5 (tp 62) (tp 64) 5) 5,AQ 6 65 5]
def wS:RC:=.reg [0,1,2,3,4,5,6,7,8,9,10,11,12] [Ap 66 4 64,Ap 67 4 64,rq 68 (.nilCheck (tp 67)) 0,DR 69 69 68 1,Ce 70 69 39,Ce 71 1 24,Ap 72 8 3,⟨(some 73),cf 84 #[tp 71,tp 72] #[24,3],22,none,[(tp 69)]⟩,rq 74 (.buildSlice 39 1 #[(0,(tp 73))]) 39,rq 75 (cb .append #[tp 70,tp 74] #[39,39]) 39,rq 76 (.nilCheck (tp 66)) 0,DR 77 69 76 1,rn (.store 39 (tp 77) (tp 75)) 0]
def wT:RC:=.seq (.reg [] [Ap 61 8 3,AQ 5 61 3]) (.seq wR wS)
def wU:RC:=.reg [] [FB 78 36,Ap 36 78 3]
def wV:RC:=.seq (.cond (tp 37) .skip (.exit 0)) (.seq (.block 1 (.seq wI (.seq wQ wT))) wU)
def wW:RC:=.loop (.seq (.reg [] [L8 37 36 35]) wV)
def wZ:RC:=.reg [] [Ap 79 6 5,rq 80 (.binOp .and 5 (tp 79) (.const (.int .u8 1)) 5) 5,rq 81 (.binOp .eql 5 (tp 80) (.const (.int .u8 0)) 5) 4]
def xA:RC:=.reg [] [rq 2 (.assign (.const (.pointer none))) 64,Cz 3 21 28]
def xB:RC:=.reg [] [DR 82 24 1 3,Ce 83 82 22,EN 84 83 22,rq 85 (.move (ki 0)) 3]
def xC:RC:=.reg [] [D5 87 22 83 85,Ce 88 87 3,AQ 10 88 3]
def xD:RC:=.reg [] [DR 89 24 1 3,Ce 90 89 22,EN 91 90 22,rq 92 (.move (ki 0)) 3]
def xE:RC:=.reg [] [D5 94 22 90 92,Ce 95 94 3,AQ 12 95 3]
def xG:RC:=.reg [] [Ap 96 10 3,rq 97 (cf 75 #[tp 96] #[3]) 99,Ap 98 12 3,rq 99 (cf 75 #[tp 98] #[3]) 99,rq 100 (cf 76 #[tp 97,tp 99] #[99,99]) 99,rq 101 (cf 77 #[tp 100] #[99]) 3,AQ 13 101 3]
def xH:RC:=.reg [] [Ap 102 6 5,Ap 103 13 3,rq 104 (.binOp .shr 5 (tp 102) (tp 103) 3) 5,rq 105 (.binOp .and 5 (tp 104) (.const (.int .u8 1)) 5) 5,rq 106 (.binOp .eql 5 (tp 105) (.const (.int .u8 0)) 5) 4]
def xI:RC:=.reg [] [rq 2 (.assign (.const (.pointer none))) 64,Cz 3 21 28]
def xJ:RC:=.seq xE (.seq xG (.seq xH (.cond (tp 106) (.seq xI .ret) .skip)))
def xK:RC:=.reg [] [FB 107 92,Ap 92 107 3]
def xL:RC:=.seq (.reg [] [L8 93 92 91]) (.seq (.cond (tp 93) .skip (.exit 5)) (.seq (.block 6 xJ) xK))
def xM:RC:=.reg [] [FB 108 85,Ap 85 108 3]
def xN:RC:=.seq (.block 4 (.seq xC (.seq xD (.block 5 (.loop xL))))) xM
def xO:RC:=.seq (.reg [] [L8 86 85 84]) (.seq (.cond (tp 86) .skip (.exit 3)) xN)
def xP:RC:=.reg [] [Ap 109 4 64,AQ 2 109 64,Cz 3 0 28]
def eF:RC:=.seq xP .ret
def eG:RC:=.seq (.seq wZ (.cond (tp 81) (.seq xA .ret) .skip)) (.seq (.seq xB (.block 3 (.loop xO))) eF)
def xQ:RC:=.seq (.reg [] [rq 6 (.assign (.const (.int .u8 0))) 5]) (.seq (.seq Ac7 (.block 0 wW)) eG)
def xR:RC:=.seq (.seq Ac4 (.cond (tp 29) (.seq Ac5 .ret) .skip)) (.seq Ac6 (.seq (.reg [] [rq 5 (.assign (ki (-1))) 3]) xQ))
def Ul:RC:=.seq Ac3 xR
def Ac8:RC:=.reg [] [Ap 7 0 3,Ap 8 1 3,rq 9 (.binOp .leq 3 (tp 7) (tp 8) 3) 4,Ap 10 9 4,DD 11 1 3 10 true,DD 12 2 3 10 true,rg 13 (.binOp .leq 3 (tp 11) (tp 12) 3) 4 10 true,rq 14 (.pick (tp 10) (tp 13) (kb false)) 4,AQ 6 14 4]
def XU:RC:=.seq (.reg [] [rq 6 (.assign (kb false)) 4]) (.seq Ac8 .ret)
def Ac9:RC:=.reg [] [Ap 7 0 3,Ap 8 1 3,rq 9 (.binOp .geq 3 (tp 7) (tp 8) 3) 4,Ap 10 9 4,DD 11 0 3 10 true,DD 12 2 3 10 true,rg 13 (.binOp .leq 3 (tp 11) (tp 12) 3) 4 10 true,rq 14 (.pick (tp 10) (tp 13) (kb false)) 4,AQ 6 14 4]
def XZ:RC:=.seq (.reg [] [rq 6 (.assign (kb false)) 4]) (.seq Ac9 .ret)
def Ada:RC:=.reg [] [Ap 9 0 22,EN 10 9 22,rq 11 (.move (ki 0)) 3]
def Adb:RC:=.reg [] [Ap 13 11 3,D5 14 22 9 11,Ce 15 14 3,AQ 5 13 3,AQ 6 15 3]
def Adc:RC:=.reg [] [Ap 16 5 3,Ap 17 1 22,EN 18 17 22,rq 19 (.binOp .geq 3 (tp 16) (tp 18) 3) 4]
def Ade:RC:=.seq Adc (.cond (tp 19) (.seq (.reg [] [Cz 4 1 3]) .ret) .skip)
def xS:RC:=.reg [] [Ap 20 1 22,Ap 21 5 3,D5 22 22 20 21,Ce 23 22 3,AQ 7 23 3]
def xU:RC:=.reg [] [Ap 24 6 3,Ap 25 7 3,rq 26 (cf 90 #[tp 24,tp 25] #[3,3]) 3,AQ 8 26 3]
def xV:RC:=.reg [] [Ap 27 8 3,rq 28 (.binOp .neq 3 (tp 27) (ki 0) 3) 4]
def xW:RC:=.cond (tp 28) (.seq (.reg [] [Ap 29 8 3,AQ 4 29 3]) .ret) .skip
def xX:RC:=.seq Adb (.seq Ade (.seq xS (.seq xU (.seq xV xW))))
def xY:RC:=.reg [] [FB 30 11,Ap 11 30 3]
def xZ:RC:=.seq (.reg [] [L8 12 11 10]) (.seq (.cond (tp 12) .skip (.exit 0)) (.seq (.block 1 xX) xY))
def yA:RC:=.reg [] [Ap 31 0 22,EN 32 31 22,Ap 33 1 22,EN 34 33 22,rq 35 (.binOp .lss 3 (tp 32) (tp 34) 3) 4]
def yB:RC:=.seq yA (.cond (tp 35) (.seq (.reg [] [rq 4 (.assign (ki (-1))) 3]) .ret) .skip)
def eH:RC:=.seq yB (.seq (.reg [] [Cz 4 0 3]) .ret)
def Um:RC:=.seq (.reg [] [Cz 4 0 3]) (.seq (.seq Ada (.block 0 (.loop xZ))) eH)
def Adf:RC:=.reg [] [Ap 3 0 22,Ap 4 0 22,EN 5 4 22,Ap 6 0 22,EN 7 6 22,rq 8 (.slice 22 (tp 3) none (some (tp 5)) (some (tp 7))) 22,AQ 2 8 22]
def X0:RC:=.seq (.reg [] [rq 2 (.assign (.const (.slice none 0 0))) 22]) (.seq Adf .ret)
def Adg:RC:=.reg [] [Ap 3 0 74,rq 4 (.binOp .eql 74 (tp 3) (.const (.int .u16 0)) 74) 4]
def Adh:RC:=.seq Adg (.cond (tp 4) (.seq (.reg [] [Cz 2 16 3]) .ret) .skip)
def Adi:RC:=.reg [] [Ap 5 0 74,Ap 6 0 74,rq 7 (.unOp .neg 74 (tp 6)) 74,rq 8 (.binOp .and 74 (tp 5) (tp 7) 74) 74,rq 9 (.convert 74 113 (tp 8)) 113,rq 10 (.binOp .mul 113 (tp 9) (.const (.int .u32 125613361)) 113) 113,rq 11 (.binOp .shr 113 (tp 10) (.const (.int .u64 27)) 114) 113,rq 12 (.indexAddr 112 (.global 0) (tp 11)) 0,Ce 13 12 5,rq 14 (.convert 5 3 (tp 13)) 3,AQ 2 14 3]
def X3:RC:=.seq (.reg [] [Cz 2 0 3]) (.seq Adh (.seq Adi .ret))
def Adj:RC:=.reg [] [Ap 11 7 3,DR 12 27 3 3,Ce 13 12 22,EN 14 13 22,rq 15 (.binOp .lss 3 (tp 11) (tp 14) 3) 4]
def Adk:RC:=.reg [0,1,2,3,4,5,6,7,8] [Ce 18 3 27,Ap 19 1 22,DR 20 27 3 3,Ce 21 20 22,Ap 22 7 3,D5 23 22 21 22,Ce 24 23 3,rq 25 (cf 48 #[tp 18,tp 19,tp 24] #[27,22,3]) 22,AQ 8 25 22]
def Adl:RC:=.reg [] [Ap 26 8 22,Ap 27 1 22,rq 28 (cf 50 #[tp 26,tp 27] #[22,22]) 4,AQ 9 28 4]
def Adm:RC:=.reg [] [Ap 29 10 3,Ap 30 2 22,EN 31 30 22,rq 32 (.binOp .lss 3 (tp 29) (tp 31) 3) 4]
def yC:RC:=.reg [0,1,2,3,4,5,6,7,8,9,10,11,12,13,14,15,16,17,18] [Ap 35 9 4,Ap 36 35 4,DD 37 8 22 36 false,DD 38 2 22 36 false,DD 39 10 3 36 false,rg 40 (.indexAddr 22 (tp 38) (tp 39)) 0 36 false,rg 41 (.load 3 (tp 40)) 3 36 false,rg 42 (.indexAddr 22 (tp 37) (tp 41)) 0 36 false,rg 43 (.load 3 (tp 42)) 3 36 false,DD 44 1 22 36 false,DD 45 2 22 36 false,DD 46 10 3 36 false,rg 47 (.indexAddr 22 (tp 45) (tp 46)) 0 36 false,rg 48 (.load 3 (tp 47)) 3 36 false,rg 49 (.indexAddr 22 (tp 44) (tp 48)) 0 36 false,rg 50 (.load 3 (tp 49)) 3 36 false,rg 51 (.binOp .neq 3 (tp 43) (tp 50) 3) 4 36 false,rq 52 (.pick (tp 36) (kb true) (tp 51)) 4,AQ 9 52 4]
def yD:RC:=.reg [] [Ap 33 10 3,FB 34 33,AQ 10 34 3]
def yE:RC:=.seq (.seq Adm (.cond (tp 32) .skip (.exit 2))) (.seq (.block 3 yC) yD)
def yF:RC:=.cond (tp 54) (.seq (.reg [] [rq 6 (.assign (kb false)) 4]) .ret) .skip
def yG:RC:=.seq (.reg [] [Ap 53 9 4,rq 54 (.unOp .not 4 (tp 53)) 4]) yF
def yH:RC:=.seq (.seq (.reg [] [Cz 10 0 3]) (.block 2 (.loop yE))) yG
def yI:RC:=.reg [] [Ap 16 7 3,FB 17 16,AQ 7 17 3]
def yJ:RC:=.seq (.seq Adj (.cond (tp 15) .skip (.exit 0))) (.seq (.block 1 (.seq Adk (.seq Adl yH))) yI)
def eO:RC:=.seq (.reg [] [rq 6 (.assign (kb true)) 4]) .ret
def yK:RC:=.seq (.seq (.reg [] [Cz 7 0 3]) (.block 0 (.loop yJ))) eO
def Un:RC:=.seq (.reg [] [rq 3 (.box 27 (tp 0)) 0,rq 6 (.assign (kb false)) 4]) yK
def Adn:RC:=.reg [] [rq 5 (.binOp .eql 3 (tp 3) (ki 4) 3) 4,AQ 4 5 4]
def Ado:RC:=.reg [] [rq 6 (.build 99 #[(0,(ki 0)),(1,(kb true))]) 99,rn (.store 99 (tp 2) (tp 6)) 0]
def Adp:RC:=.reg [] [rq 8 (.binOp .eql 3 (tp 3) (ki 5) 3) 4,AQ 7 8 4]
def Adq:RC:=.reg [] [rq 9 (.build 99 #[(0,(ki 2)),(1,(kb true))]) 99,rn (.store 99 (tp 2) (tp 9)) 0]
def Adr:RC:=.reg [] [rq 11 (.binOp .eql 3 (tp 3) (ki 6) 3) 4,AQ 10 11 4]
def Ads:RC:=.reg [] [rq 12 (.build 99 #[(0,(ki 1)),(1,(kb true))]) 99,rn (.store 99 (tp 2) (tp 12)) 0]
def yL:RC:=.reg [] [rq 14 (.binOp .eql 3 (tp 3) (ki 7) 3) 4,AQ 13 14 4]
def yM:RC:=.reg [] [rq 15 (.build 99 #[(0,(ki 3)),(1,(kb true))]) 99,rn (.store 99 (tp 2) (tp 15)) 0]
def yN:RC:=.cond (tp 10) (.seq Ads .ret) (.seq yL (.cond (tp 13) (.seq yM .ret) .skip))
def yO:RC:=.cond (tp 4) (.seq Ado .ret) (.seq Adp (.cond (tp 7) (.seq Adq .ret) (.seq Adr yN)))
def yP:RC:=.reg [] [Ap 16 0 3,rq 17 (.build 99 #[(0,(tp 16)),(1,(kb false))]) 99,rn (.store 99 (tp 2) (tp 17)) 0]
def yQ:RC:=.seq (.seq (.reg [] [Ap 3 0 3]) (.block 0 (.seq Adn yO))) (.seq yP .ret)
def Uo:RC:=.seq (.reg [] [rq 2 (.alloc 99) 0]) yQ
def Adt:RC:=.reg [] [rq 2 (.box 99 (tp 0)) 0,rq 3 (.box 99 (tp 1)) 0,rq 4 (.alloc 99) 0]
def Adu:RC:=.reg [] [DR 7 99 3 0,Ce 8 7 3,rq 9 (.unOp .neg 3 (tp 8)) 3,DR 10 99 3 0,rn (.store 3 (tp 10) (tp 9)) 0]
def Adv:RC:=.seq (.reg [] [DR 5 99 2 1,Ce 6 5 4]) (.cond (tp 6) Adu .skip)
def Adw:RC:=.reg [] [DR 11 99 2 0,Ce 12 11 3,DR 13 99 3 0,Ce 14 13 3,rq 15 (.binOp .add 3 (tp 12) (tp 14) 3) 3,DR 16 99 2 1,Ce 17 16 4,DR 18 99 3 1,Ce 19 18 4,rq 20 (.binOp .neq 4 (tp 17) (tp 19) 4) 4,rq 21 (.build 99 #[(0,(tp 15)),(1,(tp 20))]) 99,rn (.store 99 (tp 4) (tp 21)) 0]
def nV:RC:=.seq Adw .ret
def X4:RC:=.seq Adt (.seq Adv nV)
def Adx:RC:=.reg [] [DR 4 99 1 0,Ce 5 4 3,rq 6 (.binOp .add 3 (tp 5) (ki 4) 3) 3,rq 7 (.binOp .rem 3 (tp 6) (ki 4) 3) 3,AQ 3 7 3]
def Ady:RC:=.reg [] [DR 9 99 1 1,Ce 10 9 4,rq 11 (.unOp .not 4 (tp 10)) 4,AQ 8 11 4]
def Adz:RC:=.reg [] [Ap 14 3 3,rq 15 (.binOp .eql 3 (tp 14) (ki 0) 3) 4,AQ 13 15 4]
def AdA:RC:=.reg [] [Ap 17 3 3,rq 18 (.binOp .eql 3 (tp 17) (ki 1) 3) 4,AQ 16 18 4]
def yR:RC:=.reg [] [Ap 20 3 3,rq 21 (.binOp .eql 3 (tp 20) (ki 2) 3) 4,AQ 19 21 4]
def yS:RC:=.seq yR (.cond (tp 19) (.seq (.reg [] [Cz 2 5 3]) .ret) .skip)
def yT:RC:=.seq AdA (.cond (tp 16) (.seq (.reg [] [Cz 2 6 3]) .ret) yS)
def yU:RC:=.seq Adz (.cond (tp 13) (.seq (.reg [] [Cz 2 4 3]) .ret) yT)
def yV:RC:=.cond (tp 8) (.seq (.reg [] [Ap 12 3 3,AQ 2 12 3]) .ret) yU
def zC:RC:=.seq (.block 0 (.seq Ady yV)) (.seq (.reg [] [Cz 2 7 3]) .ret)
def Uq:RC:=.seq (.reg [] [rq 1 (.box 99 (tp 0)) 0,Cz 2 0 3]) (.seq Adx zC)
def AdB:RC:=.reg [0,1,2,3,4,5,6,7,8,9,10,11,12,13,14] [Ap 6 1 22,EN 7 6 22,Ap 8 0 64,rq 9 (.nilCheck (tp 8)) 0,DR 10 69 9 0,DR 11 24 10 0,Ce 12 11 3,Ap 13 0 64,rq 14 (.nilCheck (tp 13)) 0,DR 15 69 14 0,DR 16 24 15 1,Ce 17 16 3,rq 18 (.binOp .mul 3 (tp 12) (tp 17) 3) 3,rq 19 (.binOp .neq 3 (tp 7) (tp 18) 3) 4,AQ 5 19 4]
def AdC:RC:=.reg [0,1,2,3,4,6,7,8,9,10,5,11,12,13] [Ap 21 1 22,rq 22 (cf 91 #[tp 21] #[22]) 3,rq 23 (.binOp .lss 3 (tp 22) (ki 0) 3) 4,Ap 24 23 4,DD 25 1 22 24 false,DD 27 0 64 24 false,rg 28 (.nilCheck (tp 27)) 0 24 false,rg 29 (.fieldAddr 69 (tp 28) 0) 0 24 false,rg 30 (.fieldAddr 24 (tp 29) 2) 0 24 false,rg 31 (.load 3 (tp 30)) 3 24 false,⟨(some 26),cf 92 #[tp 25] #[22],3,(some ((some 24),false)),[(tp 30)]⟩,rg 32 (.binOp .geq 3 (tp 26) (tp 31) 3) 4 24 false,rq 33 (.pick (tp 24) (kb true) (tp 32)) 4,AQ 20 33 4]
def AdD:RC:=.seq AdC (.cond (tp 20) (.seq (.reg [] [Cz 4 1 28]) .ret) .skip)
def zD:RC:=.seq AdB (.cond (tp 5) (.seq (.reg [] [Cz 4 5 28]) .ret) AdD)
def zF:RC:=.seq (.block 0 zD) (.seq (.reg [] [Cz 4 0 28]) .ret)
def Uw:RC:=.seq (.reg [] [Cz 4 0 28]) zF
def AdE:RC:=.reg [0,1,2,3,4,5,6,7,8,9,10,11,12,13,14,15,16,17,18] [DR 10 27 3 0,Ce 11 10 3,DR 12 27 3 1,Ce 13 12 3,Ap 14 1 3,Ap 15 2 3,DR 16 27 3 1,Ce 17 16 3,rq 18 (.binOp .quo 3 (tp 15) (tp 17) 3) 3,Ap 19 2 3,DR 20 27 3 1,Ce 21 20 3,rq 22 (.binOp .rem 3 (tp 19) (tp 21) 3) 3,rq 23 (cf 93 #[tp 11,tp 13,tp 14,tp 18,tp 22] #[3,3,3,3,3]) 116,Ap 9 23 116,EM 24 9 0 3,EM 25 9 1 3,AQ 7 24 3,AQ 8 25 3]
def AdF:RC:=.reg [] [Ap 26 7 3,DR 27 27 3 1,Ce 28 27 3,rq 29 (.binOp .mul 3 (tp 26) (tp 28) 3) 3,Ap 30 8 3,rq 31 (.binOp .add 3 (tp 29) (tp 30) 3) 3,AQ 6 31 3]
def X5:RC:=.seq (.reg [] [rq 3 (.box 27 (tp 0)) 0,Cz 6 0 3]) (.seq AdE (.seq AdF .ret))
def AdG:RC:=.reg [] [Ap 7 0 3,rq 8 (cf 101 #[tp 7] #[3]) 4,AQ 5 8 4]
def AdH:RC:=.reg [] [Ap 9 1 3,rq 10 (cf 101 #[tp 9] #[3]) 4,AQ 6 10 4]
def AdI:RC:=.seq (.reg [] [Ap 12 6 4]) (.cond (tp 12) (.seq (.reg [] [Cz 4 0 3]) .ret) .skip)
def zG:RC:=.cond (tp 11) (.seq AdI (.seq (.reg [] [rq 4 (.assign (ki (-1))) 3]) .ret)) .skip
def zH:RC:=.seq (.reg [] [Ap 13 6 4]) (.cond (tp 13) (.seq (.reg [] [Cz 4 1 3]) .ret) .skip)
def zJ:RC:=.reg [] [Ap 14 0 3,Ap 15 1 3,rq 16 (.binOp .lss 3 (tp 14) (tp 15) 3) 4]
def zK:RC:=.seq zJ (.cond (tp 16) (.seq (.reg [] [rq 4 (.assign (ki (-1))) 3]) .ret) .skip)
def zL:RC:=.reg [] [Ap 17 0 3,Ap 18 1 3,rq 19 (.binOp .gtr 3 (tp 17) (tp 18) 3) 4]
def zM:RC:=.seq zL (.cond (tp 19) (.seq (.reg [] [Cz 4 1 3]) .ret) .skip)
def zN:RC:=.seq zK (.seq zM (.seq (.reg [] [Cz 4 0 3]) .ret))
def zO:RC:=.seq (.seq (.reg [] [Ap 11 5 4]) zG) (.seq zH zN)
def Ux:RC:=.seq (.reg [] [Cz 4 0 3]) (.seq AdG (.seq AdH zO))
def AdJ:RC:=.reg [] [Ap 5 0 22,EN 6 5 22,rq 7 (.binOp .lss 3 (tp 6) (ki 1) 3) 4]
def AdK:RC:=.reg [] [rq 8 (.makeInterface 9 (.const (.string ⟨#[115,108,105,99,101,115,46,77,105,110,58,32,101,109,112,116,121,32,108,105,115,116]⟩))) 20,rn (.panic (tp 8)) 0]
def AdL:RC:=.reg [] [Ap 9 0 22,rq 10 (.indexAddr 22 (tp 9) (ki 0)) 0,Ce 11 10 3,AQ 3 11 3]
def AdM:RC:=.reg [] [Ap 12 4 3,Ap 13 0 22,EN 14 13 22,rq 15 (.binOp .lss 3 (tp 12) (tp 14) 3) 4]
def zP:RC:=.reg [] [Ap 18 3 3,Ap 19 0 22,Ap 20 4 3,D5 21 22 19 20,Ce 22 21 3,rq 23 (cb .min #[tp 18,tp 22] #[3,3]) 3,AQ 3 23 3]
def zQ:RC:=.reg [] [Ap 16 4 3,FB 17 16,AQ 4 17 3]
def zR:RC:=.seq (.seq AdM (.cond (tp 15) .skip (.exit 0))) (.seq (.block 1 zP) zQ)
def eP:RC:=.seq (.reg [] [Ap 24 3 3,AQ 2 24 3]) .ret
def zS:RC:=.seq (.seq (.reg [] [Cz 4 1 3]) (.block 0 (.loop zR))) eP
def eQ:RC:=.seq AdL zS
def Uy:RC:=.seq (.reg [] [Cz 2 0 3]) (.seq (.seq AdJ (.cond (tp 7) AdK .skip)) eQ)
def AdN:RC:=.reg [] [Ap 5 0 22,EN 6 5 22,rq 7 (.binOp .lss 3 (tp 6) (ki 1) 3) 4]
def AdO:RC:=.reg [] [rq 8 (.makeInterface 9 (.const (.string ⟨#[115,108,105,99,101,115,46,77,97,120,58,32,101,109,112,116,121,32,108,105,115,116]⟩))) 20,rn (.panic (tp 8)) 0]
def AdP:RC:=.reg [] [Ap 9 0 22,rq 10 (.indexAddr 22 (tp 9) (ki 0)) 0,Ce 11 10 3,AQ 3 11 3]
def AdQ:RC:=.reg [] [Ap 12 4 3,Ap 13 0 22,EN 14 13 22,rq 15 (.binOp .lss 3 (tp 12) (tp 14) 3) 4]
def zT:RC:=.reg [] [Ap 18 3 3,Ap 19 0 22,Ap 20 4 3,D5 21 22 19 20,Ce 22 21 3,rq 23 (cb .max #[tp 18,tp 22] #[3,3]) 3,AQ 3 23 3]
def zU:RC:=.reg [] [Ap 16 4 3,FB 17 16,AQ 4 17 3]
def zV:RC:=.seq (.seq AdQ (.cond (tp 15) .skip (.exit 0))) (.seq (.block 1 zT) zU)
def eT:RC:=.seq (.reg [] [Ap 24 3 3,AQ 2 24 3]) .ret
def zW:RC:=.seq (.seq (.reg [] [Cz 4 1 3]) (.block 0 (.loop zV))) eT
def eU:RC:=.seq AdP zW
def Uz:RC:=.seq (.reg [] [Cz 2 0 3]) (.seq (.seq AdN (.cond (tp 7) AdO .skip)) eU)
def AdR:RC:=.reg [] [rq 14 (.binOp .eql 3 (tp 12) (ki 1) 3) 4,AQ 13 14 4]
def AdS:RC:=.reg [] [Ap 15 0 3,rq 16 (.binOp .sub 3 (tp 15) (ki 1) 3) 3,Ap 17 4 3,rq 18 (.binOp .sub 3 (tp 16) (tp 17) 3) 3,Ap 19 3 3,AQ 10 18 3,AQ 11 19 3]
def AdT:RC:=.reg [] [rq 21 (.binOp .eql 3 (tp 12) (ki 2) 3) 4,AQ 20 21 4]
def AdU:RC:=.reg [] [Ap 22 0 3,rq 23 (.binOp .sub 3 (tp 22) (ki 1) 3) 3,Ap 24 3 3,rq 25 (.binOp .sub 3 (tp 23) (tp 24) 3) 3,Ap 26 1 3,rq 27 (.binOp .sub 3 (tp 26) (ki 1) 3) 3,Ap 28 4 3,rq 29 (.binOp .sub 3 (tp 27) (tp 28) 3) 3,AQ 10 25 3,AQ 11 29 3]
def AdV:RC:=.reg [] [rq 31 (.binOp .eql 3 (tp 12) (ki 3) 3) 4,AQ 30 31 4]
def AdW:RC:=.reg [] [Ap 32 4 3,Ap 33 1 3,rq 34 (.binOp .sub 3 (tp 33) (ki 1) 3) 3,Ap 35 3 3,rq 36 (.binOp .sub 3 (tp 34) (tp 35) 3) 3,AQ 10 32 3,AQ 11 36 3]
def zX:RC:=.reg [] [rq 38 (.binOp .eql 3 (tp 12) (ki 4) 3) 4,AQ 37 38 4]
def zZ:RC:=.reg [] [Ap 39 3 3,Ap 40 1 3,rq 41 (.binOp .sub 3 (tp 40) (ki 1) 3) 3,Ap 42 4 3,rq 43 (.binOp .sub 3 (tp 41) (tp 42) 3) 3,AQ 10 39 3,AQ 11 43 3]
def Aaa:RC:=.reg [] [rq 45 (.binOp .eql 3 (tp 12) (ki 5) 3) 4,AQ 44 45 4]
def Aab:RC:=.reg [] [Ap 46 0 3,rq 47 (.binOp .sub 3 (tp 46) (ki 1) 3) 3,Ap 48 3 3,rq 49 (.binOp .sub 3 (tp 47) (tp 48) 3) 3,Ap 50 4 3,AQ 10 49 3,AQ 11 50 3]
def Aac:RC:=.reg [] [rq 52 (.binOp .eql 3 (tp 12) (ki 6) 3) 4,AQ 51 52 4]
def Aad:RC:=.reg [] [Ap 53 4 3,Ap 54 3 3,AQ 10 53 3,AQ 11 54 3]
def Aae:RC:=.reg [] [rq 56 (.binOp .eql 3 (tp 12) (ki 7) 3) 4,AQ 55 56 4]
def Aaf:RC:=.reg [] [Ap 57 0 3,rq 58 (.binOp .sub 3 (tp 57) (ki 1) 3) 3,Ap 59 4 3,rq 60 (.binOp .sub 3 (tp 58) (tp 59) 3) 3,Ap 61 1 3,rq 62 (.binOp .sub 3 (tp 61) (ki 1) 3) 3,Ap 63 3 3,rq 64 (.binOp .sub 3 (tp 62) (tp 63) 3) 3,AQ 10 60 3,AQ 11 64 3]
def Aag:RC:=.cond (tp 51) (.seq Aad .ret) (.seq Aae (.cond (tp 55) (.seq Aaf .ret) .skip))
def Aah:RC:=.cond (tp 37) (.seq zZ .ret) (.seq Aaa (.cond (tp 44) (.seq Aab .ret) (.seq Aac Aag)))
def Aai:RC:=.cond (tp 20) (.seq AdU .ret) (.seq AdV (.cond (tp 30) (.seq AdW .ret) (.seq zX Aah)))
def Aaj:RC:=.block 0 (.seq AdR (.cond (tp 13) (.seq AdS .ret) (.seq AdT Aai)))
def Aak:RC:=.reg [] [Ap 65 3 3,Ap 66 4 3,AQ 10 65 3,AQ 11 66 3]
def Aal:RC:=.seq (.seq (.reg [] [Ap 12 2 3]) Aaj) (.seq Aak .ret)
def UA:RC:=.seq (.reg [] [Cz 10 0 3,Cz 11 0 3]) Aal
def Aam:RC:=.reg [] [Ap 3 0 3,Ap 4 0 3,rq 5 (.binOp .neq 3 (tp 3) (tp 4) 3) 4,AQ 2 5 4]
def UB:RC:=.seq (.reg [] [rq 2 (.assign (kb false)) 4]) (.seq Aam .ret)
def AdX:RC:=.reg [] [Ap 12 1 3,Ce 13 2 64,rq 14 (.nilCheck (tp 13)) 0,DR 15 69 14 0,DR 16 24 15 3,Ce 17 16 22,EN 18 17 22,rq 19 (.binOp .lss 3 (tp 12) (tp 18) 3) 4]
def AdY:RC:=.reg [] [Ce 20 2 64,Ce 21 3 22,Ap 22 1 3,rq 23 (cf 51 #[tp 20,tp 21,tp 22] #[64,22,3]) 74,rq 9 (.alloc 74) 0,rn (.store 74 (tp 9) (tp 23)) 0]
def AdZ:RC:=.reg [] [Ce 24 9 74,rq 25 (.binOp .neq 74 (tp 24) (.const (.int .u16 0)) 74) 4,Ap 26 25 4,DD 27 0 22 26 true,rg 28 (.makeFunc (.func 67) #[] #[tp 9]) 89 26 true,rg 29 (cf 66 #[tp 27,tp 28] #[22,89]) 4 26 true,rg 30 (.unOp .not 4 (tp 29)) 4 26 true,rq 31 (.pick (tp 26) (tp 30) (kb false)) 4]
def Ad0:RC:=.reg [] [Ap 32 1 3,FB 33 32,AQ 1 33 3]
def Aan:RC:=.block 1 (.seq AdY (.seq (.seq AdZ (.cond (tp 31) (.exit 0) .skip)) Ad0))
def Aao:RC:=.block 0 (.loop (.seq (.seq AdX (.cond (tp 19) .skip (.exit 0))) Aan))
def Aap:RC:=.reg [] [Ap 34 1 3,Ce 35 2 64,rq 36 (.nilCheck (tp 35)) 0,DR 37 69 36 0,DR 38 24 37 3,Ce 39 38 22,EN 40 39 22,rq 41 (.binOp .eql 3 (tp 34) (tp 40) 3) 4]
def Aaq:RC:=.reg [] [Ap 42 0 22,rq 43 (cf 69 #[tp 42] #[22]) 92,rq 44 (cf 68 #[tp 43] #[92]) 22,AQ 10 44 22]
def Aar:RC:=.reg [] [Ap 45 10 22,EN 46 45 22,Ce 47 4 3,rq 48 (.binOp .lss 3 (tp 46) (tp 47) 3) 4,Ap 49 48 4,DD 50 10 22 49 false,rg 51 (cb .len #[tp 50] #[22]) 3 49 false,rg 52 (.load 3 (tp 4)) 3 49 false,rg 53 (.binOp .eql 3 (tp 51) (tp 52) 3) 4 49 false,DD 54 53 4 49 false,DD 55 10 22 54 true,rg 56 (.load 22 (tp 5)) 22 54 true,rg 57 (cf 70 #[tp 55,tp 56] #[22,22]) 3 54 true,rg 58 (.binOp .lss 3 (tp 57) (ki 0) 3) 4 54 true,rg 59 (.pick (tp 54) (tp 58) (kb false)) 4 49 false,rq 60 (.pick (tp 49) (kb true) (tp 59)) 4]
def Aas:RC:=.reg [] [Ap 61 10 22,Ap 62 10 22,EN 63 62 22,rn (.store 22 (tp 5) (tp 61)) 0,rn (.store 3 (tp 4) (tp 63)) 0]
def Aat:RC:=.cond (tp 41) (.seq Aaq (.seq (.seq Aar (.cond (tp 60) Aas .skip)) .ret)) .skip
def Aau:RC:=.reg [] [Ap 64 0 22,EN 65 64 22,Ce 66 4 3,rq 67 (.binOp .eql 3 (tp 65) (tp 66) 3) 4]
def Aav:RC:=.reg [] [Ce 68 2 64,Ce 69 3 22,Ap 70 1 3,rq 71 (cf 51 #[tp 68,tp 69,tp 70] #[64,22,3]) 74,AQ 11 71 74]
def Aaw:RC:=.reg [] [Ap 72 11 74,rq 73 (.binOp .neq 74 (tp 72) (.const (.int .u16 0)) 74) 4]
def Aax:RC:=.reg [0,1,3,7,8,2,4,5,6,9] [Ce 78 6 87,Ap 79 0 22,Ap 81 11 74,Ap 85 1 3,FB 86 85,⟨(some 80),cf 71 #[tp 79] #[22],22,none,[(tp 6)]⟩,⟨(some 82),cf 72 #[tp 81] #[74],3,none,[(tp 6)]⟩,rq 83 (.buildSlice 22 1 #[(0,(tp 82))]) 22,⟨(some 84),cb .append #[tp 80,tp 83] #[22,22],22,none,[(tp 6)]⟩,rq 87 (.call ⟨.value (tp 78),#[tp 84,tp 86],#[22,3]⟩) 0]
def Aay:RC:=.reg [] [Ap 74 11 74,Ap 75 11 74,rq 76 (.binOp .sub 74 (tp 75) (.const (.int .u16 1)) 74) 74,rq 77 (.binOp .and 74 (tp 74) (tp 76) 74) 74,AQ 11 77 74]
def Aaz:RC:=.seq (.seq Aaw (.cond (tp 73) .skip (.exit 2))) (.seq (.block 3 Aax) Aay)
def AaA:RC:=.seq (.seq Aau (.cond (tp 67) .ret .skip)) (.seq Aav (.block 2 (.loop Aaz)))
def eX:RC:=.seq (.seq Aap Aat) AaA
def Po:RC:=.seq Aao eX
def Ad1:RC:=.reg [] [Ap 5 0 22,Ap 6 1 89,rq 7 (cf 86 #[tp 5,tp 6] #[22,89]) 3,rq 8 (.binOp .geq 3 (tp 7) (ki 0) 3) 4,AQ 4 8 4]
def UV:RC:=.seq (.reg [] [rq 4 (.assign (kb false)) 4]) (.seq Ad1 .ret)
def Ad2:RC:=.reg [] [Ap 6 0 22,EN 7 6 22,rq 8 (.move (ki 0)) 3]
def Ad3:RC:=.reg [] [Ap 11 1 89,Ap 12 0 22,Ap 13 5 3,D5 14 22 12 13,Ce 15 14 3,rq 16 (.call ⟨.value (tp 11),#[tp 15],#[3]⟩) 4]
def Ad4:RC:=.cond (tp 16) (.seq (.reg [] [Ap 17 5 3,AQ 4 17 3]) .ret) .skip
def AaB:RC:=.seq (.reg [] [Ap 10 8 3,AQ 5 10 3]) (.seq Ad3 Ad4)
def AaC:RC:=.reg [] [FB 18 8,Ap 8 18 3]
def AaD:RC:=.seq (.reg [] [L8 9 8 7]) (.seq (.cond (tp 9) .skip (.exit 0)) (.seq (.block 1 AaB) AaC))
def eY:RC:=.seq (.reg [] [rq 4 (.assign (ki (-1))) 3]) .ret
def Pp:RC:=.seq (.reg [] [Cz 4 0 3]) (.seq (.seq Ad2 (.block 0 (.loop AaD))) eY)
def Ad5:RC:=.reg [] [Ce 4 1 74,Ap 5 0 3,rq 6 (.binOp .shr 74 (tp 4) (tp 5) 3) 74,rq 7 (.binOp .and 74 (tp 6) (.const (.int .u16 1)) 74) 74,rq 8 (.binOp .eql 74 (tp 7) (.const (.int .u16 1)) 74) 4,AQ 3 8 4]
def UW:RC:=.seq (.reg [] [rq 3 (.assign (kb false)) 4]) (.seq Ad5 .ret)
def Ad6:RC:=.reg [] [rq 3 (.makeFunc (.func 89) #[] #[tp 1]) 91,AQ 2 3 92]
def UX:RC:=.seq (.reg [] [rq 1 (.box 22 (tp 0)) 0,rq 2 (.assign (.const .nilFunc)) 92]) (.seq Ad6 .ret)
def Ad7:RC:=.reg [] [Ap 10 2 22,EN 11 10 22,Ap 12 0 3,rq 13 (.binOp .eql 3 (tp 11) (tp 12) 3) 4]
def Ad8:RC:=.reg [] [Ap 14 2 22,rq 15 (.buildSlice 39 1 #[(0,(tp 14))]) 39,AQ 6 15 39]
def Ad9:RC:=.reg [] [Ap 16 2 22,EN 17 16 22,rq 18 (.binOp .gtr 3 (tp 17) (ki 0) 3) 4]
def Aea:RC:=.reg [] [Ap 19 2 22,Ap 20 2 22,EN 21 20 22,rq 22 (.binOp .sub 3 (tp 21) (ki 1) 3) 3,D5 23 22 19 22,Ce 24 23 3,FB 25 24,AQ 7 25 3]
def AaE:RC:=.reg [] [Ap 27 9 3,Ap 28 1 3,rq 29 (.binOp .lss 3 (tp 27) (tp 28) 3) 4]
def AaF:RC:=.reg [] [Ap 32 8 39,Ap 33 0 3,Ap 34 1 3,rq 35 (.buildSlice 22 0 #[]) 22,Ap 36 2 22,rq 37 (cb .append #[tp 35,tp 36] #[22,22]) 22,Ap 38 9 3,rq 39 (.buildSlice 22 1 #[(0,(tp 38))]) 22,rq 40 (cb .append #[tp 37,tp 39] #[22,22]) 22,rq 41 (cf 73 #[tp 33,tp 34,tp 40] #[3,3,22]) 39,rq 42 (cb .append #[tp 32,tp 41] #[39,39]) 39,AQ 8 42 39]
def AaG:RC:=.reg [] [Ap 30 9 3,FB 31 30,AQ 9 31 3]
def AaH:RC:=.seq (.seq AaE (.cond (tp 29) .skip (.exit 0))) (.seq (.block 1 AaF) AaG)
def AaI:RC:=.seq (.reg [] [Ap 26 7 3,AQ 9 26 3]) (.block 0 (.loop AaH))
def fA:RC:=.seq (.reg [] [Ap 43 8 39,AQ 6 43 39]) .ret
def fB:RC:=.seq (.reg [] [rq 8 (.assign (.const (.slice none 0 0))) 39]) (.seq AaI fA)
def AaJ:RC:=.seq (.reg [] [Cz 7 0 3]) (.seq (.seq Ad9 (.cond (tp 18) Aea .skip)) fB)
def Pq:RC:=.seq (.reg [] [rq 6 (.assign (.const (.slice none 0 0))) 39]) (.seq (.seq Ad7 (.cond (tp 13) (.seq Ad8 .ret) .skip)) AaJ)
def Aeb:RC:=.reg [] [rq 3 (.box 27 (tp 0)) 0,rq 6 (.assign (.const (.slice none 0 0))) 22]
def Aec:RC:=.reg [] [Ap 9 8 3,Ap 10 1 22,EN 11 10 22,rq 12 (.binOp .lss 3 (tp 9) (tp 11) 3) 4]
def Aed:RC:=.reg [] [Ap 15 7 22,Ap 16 1 22,Ce 17 3 27,Ap 18 2 3,Ap 19 8 3,rq 20 (cf 81 #[tp 17,tp 18,tp 19] #[27,3,3]) 3,D5 21 22 16 20,Ce 22 21 3,rq 23 (.buildSlice 22 1 #[(0,(tp 22))]) 22,rq 24 (cb .append #[tp 15,tp 23] #[22,22]) 22,AQ 7 24 22]
def Aee:RC:=.reg [] [Ap 13 8 3,FB 14 13,AQ 8 14 3]
def AaK:RC:=.seq (.seq Aec (.cond (tp 12) .skip (.exit 0))) (.seq (.block 1 Aed) Aee)
def WW:RC:=.seq (.reg [] [Ap 25 7 22,AQ 6 25 22]) .ret
def AaL:RC:=.seq (.seq (.reg [] [Cz 8 0 3]) (.block 0 (.loop AaK))) WW
def MF:RC:=.seq Aeb (.seq (.reg [] [rq 7 (.assign (.const (.slice none 0 0))) 22]) AaL)
end Go.BkV
