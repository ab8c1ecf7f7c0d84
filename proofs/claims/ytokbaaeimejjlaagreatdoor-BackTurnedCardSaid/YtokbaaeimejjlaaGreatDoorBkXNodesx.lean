/- Made from wip. -/
import Derived.Test.YtokbaaeimejjlaaGreatDoorSpSymx
import Derived.Test.YtokbaaeimejjlaaGreatDoorSpClo3x
import Derived.Test.YtokbaaeimejjlaaGreatDoorSpMorex
import Derived.Sort.Grow
import Derived.Lib.SlicesCompact
import Derived.Test.YtokbaaeimejjlaaGreatDoorSpFramex

namespace Go.Sp

theorem Quiet.dead {n0:Nat} {H:AHeap} {id:Nat} {xs:List Value} {spent:Bool} {anc:List Nat} (h1:H.get id = .cells xs false spent anc):Quiet n0 H (H.set id .dead):=fun H0 R0 w0 R w hs0 _ hp=>by
 have hs:=hp.sim
 have hget:∀ i,(H.set id .dead).get i = if id = i then .dead else H.get i:=fun i=>AHeap.get_set _ _ _ _
 have hwr:∀ i,(H.get i).writable = false→((H.set id .dead).get i).writable = false:=fun i h=>by
  rw [hget];split
  ·rfl
  ·exact h
 refine ⟨R, R.le_refl, rfl, hp.le, hp.new, ⟨fun i c β h => by rw [AHeap.next_set]; exact hs.dom i c β h, fun i c β h => ?_, fun i c β i' β' h h' hne hw => ?_, fun i a ha => ?_, fun i hi => ?_, fun c C h => ⟨(hs.ro c C h).1, fun i β h' => hwr i ((hs.ro c C h).2 i β h')⟩⟩,
  by rw [AHeap.next_set];exact hp.next,hp.grow,hp.frame,fun i hi hr Q c β ob h=>?_,fun i hi h=>?_,hp.fresh,hp.side,hp.rofresh⟩
 ·rw [hget]; split
  ·trivial
  ·exact hs.obj i c β h
 ·rw [hget] at hw
  split at hw
  ·cases hw
  ·rename_i he
   rw [hget i']
   split
   ·exact .inl rfl
   ·rw [hget i, if_neg he]; exact hs.sep i c β i' β' h h' hne hw
 ·rw [hget] at ha
  split at ha
  ·cases ha
  ·obtain ⟨h1, h2, h3⟩ := hs.anc i a ha
   refine ⟨by rw [AHeap.next_set];exact h1,?_,hwr a h3⟩
   rw [hget];split
   ·rfl
   ·exact h2
 ·rw [AHeap.next_set] at hi
  rw [hget];split
  ·rfl
  ·exact hs.wf i hi
 ·rw [hget]; split
  ·trivial
  ·exact hp.calm i hi hr Q c β ob h
 ·rw [hget]; split
  ·rename_i he
   subst he
   have:=hp.imm id hi h
   rw [h1] at this
   rw [←this] at h;cases h
  ·exact hp.imm i hi h
theorem Quiet.push {n0:Nat} {H:AHeap} {o:AObj} (h:o.ancOf = []):Quiet n0 H (H.push o):=fun H0 R0 w0 R w _ _ hp=>⟨R,R.le_refl,rfl,hp.absPush h⟩

theorem Tell.frzP {n0 m : Nat} {H : AHeap} {id off : Nat} {xs : List Value} {anc : List Nat} (hn : Nat.ble n0 m = true) (hm : Nat.ble m id = true) (h1 : H.get id = .cells xs false false anc) (hne : Nat.ble 1 (len xs) = true) (hc : allL closed1 xs = true) :
 Tell n0 H (.pointer (some ⟨id,off,none⟩)) (H.set id .dead) (fpV off xs):=fun H0 R0 w0 R w u hs hn0 hp hv=>by
 obtain ⟨c,β,hid,rfl⟩:=hv.ptr_l
 have hne:1≤xs.length:=by have:=Nat.le_of_ble_eq_true hne;rwa [len_eq] at this
 obtain ⟨C,t,fz,k1,k2,k3,k4⟩:=hp.sim.cells (o:=⟨xs,false,false,anc⟩) hid (by rw [h1];rfl)
 have hfz:freezeV m false (.slice (some ⟨id,0,some 1⟩) xs.length (2 * xs.length)) H = some (fsV 1 xs.length 0 xs,H.set id .dead):=by
  unfold freezeV
  show oo (oCells (H.get id)) none _ = _
  rw [h1]
  have ht:takeL (xs.length * 1) (dropL 0 xs) = xs:=by rw [takeL_eq,dropL_eq,List.drop_zero,List.take_of_length_le (by omega)]
  show bb (an (Nat.ble m id) (an true (an true (an (Nat.ble (0 + xs.length * 1) (len xs)) (allL closed1 (takeL (xs.length * 1) (dropL 0 xs))))))) (some (fsV 1 xs.length 0 (takeL (xs.length * 1) (dropL 0 xs)),_)) none = _
  rw [ht,hm,hc,len_eq,Nat.ble_eq_true_of_le (by omega)]
  rfl
 obtain ⟨R', q1, q0, q2, q3⟩ := freezeV_ok (u := .slice (some ⟨c, β + 0, none⟩) xs.length xs.length) hfz hs (Nat.le_trans hn0 (Nat.le_of_ble_eq_true hn)) hp (.sl hid (by omega) (by omega) (fun h => by omega) (by
  have k2:C.size = R.sz c:=k2
  have k3:β + xs.length≤C.size:=k3
  omega))
 refine ⟨R',q1,q0,q2,?_⟩
 rcases q3.fs_l (f:=⟨1,xs.length,0,xs⟩) rfl with ⟨e,_⟩ | ⟨_,e,_⟩ | ⟨c',o',cap,C',hro,he,hl,_,_,_,hfit,hcr,hcl⟩
 ·have e:xs.length = 0:=e;omega
 ·have e:xs.length = 0:=e;omega
 ·injection he with he1 he2 he3
  injection he1 with he1
  injection he1 with e1 e2 e3
  subst e1
  have e2:β = o':=by omega
  subst e2
  exact .mkFp hro hfit hcr hcl

noncomputable def isP0 (v:Value):Bool:=vv v (fun _=>false) (fun _ _=>false) (fun _=>false) (fun a=>nt (isS a)) (fun _ _ _=>false) (fun _=>false) (fun _ _ _=>false) false (fun _ _=>false) false (fun _=>false) (fun _=>false) false
theorem isP0_ok {v:Value} (h:isP0 v = true):v = .pointer none:=by
 cases v <;> simp only [isP0,vv] at h <;> try (cases h;done)
 rename_i a;cases a with
 | none=>rfl
 | some a=>cases h
section
variable {n0:Nat}
theorem GhS.frzP (m t id off : Nat) (xs : List Value) (c : Bool) {F F' : Fr} {H H' : AHeap} {anc : List Nat} (hcl : allL closed1 xs = c) (hc : c = true) (r : GhS n0 (F.put (some t) (fpV off xs)) (H.set id .dead) F' H')
 (hv:F.get t = .pointer (some ⟨id,off,none⟩):=by kernel_rfl) (hn:Nat.ble n0 m = true:=by kernel_rfl) (hm:Nat.ble m id = true:=by kernel_rfl) (h1:H.get id = .cells xs false false anc:=by kernel_rfl) (hne:Nat.ble 1 (len xs) = true:=by kernel_rfl):GhS n0 F H F' H':=
 .step (.tell (by rw [hv];exact .frzP hn hm h1 hne (hcl.trans hc))) r
end
end Go.Sp
namespace Go.Sp
open Go.Sort

noncomputable section
def I64 (z:Int):Value:=.int .i64 z
def srtZ (zs:List Int):List Int:=zs.mergeSort fun x y=>decide (x≤y)
end

theorem Post.growW {H H':AHeap} {R R':Ren} {w w1 w2:World} (hp:Post H R w H' R' w1) {os:Array Obj} (e:w2.heap = w1.heap ++ os) (e1:w2.os = w1.os) (e2:w2.output = w1.output):Post H R w H' R' w2:=by
 have hget:∀ c,c < w1.heap.size→w2.heap[c]? = w1.heap[c]?:=fun c hc=>by rw [e,Array.getElem?_append_left hc]
 have hsz:w1.heap.size≤w2.heap.size:=by rw [e];simp
 have hs:=hp.sim
 refine ⟨hp.le, hp.new, ⟨fun id c β h => ⟨(hs.dom id c β h).1, Nat.lt_of_lt_of_le (hs.dom id c β h).2 hsz⟩, fun id c β h => by rw [hget c (hs.dom id c β h).2]; exact hs.obj id c β h, hs.sep, hs.anc, hs.wf, fun c C h => ?_⟩,
  hp.next,Nat.le_trans hp.grow hsz,fun c hc h=>by rw [hget c (Nat.lt_of_lt_of_le hc hp.grow)];exact hp.frame c hc h,hp.calm,hp.imm,hp.fresh,⟨e1.trans hp.side.1,e2.trans hp.side.2.1,fun a ha=>?_⟩,hp.rofresh⟩
 ·obtain ⟨⟨t, fz, h1⟩, h2⟩ := hs.ro c C h
  exact ⟨⟨t,fz,by rw [hget c (Array.getElem?_eq_some_iff.1 h1).1];exact h1⟩,h2⟩
 ·rw [← hp.side.2.2 a ha]
  unfold World.frozen?
  rw [hget a.block (Nat.lt_of_lt_of_le ha hp.grow)]

theorem mapI64 (l:List Int):mapL I64 l = l.map I64:=by
 induction l with
 | nil=>rfl
 | cons x l ih=>show I64 x :: mapL I64 l = _;rw [ih];rfl
theorem mapI64_len (l:List Int):(mapL I64 l).length = l.length:=by rw [mapI64];simp

theorem post_row {H H' : AHeap} {R : Ren} {w : World} {id c β : Nat} {vals : List Int} (hs : Sim H R w) (hw : awrite H id 0 (mapL I64 vals) = some H') (hid : R.f id = some (c, β)) (n : Nat) (os : Array Obj) :
 Post H R w H' R (grow (putRow (Value.int .i64) (Go.Sort.ahead w n) c β vals.toArray) os):=by
 have hv:VRL R (mapL I64 vals) (mapL I64 vals):=plainL_VRL fun x hx=>by
  rw [mapI64] at hx
  obtain ⟨z,_,rfl⟩:=List.mem_map.1 hx
  rfl
 obtain ⟨C,t,hC,hfit,_,hp⟩:=post_write hs hw hid hv
 refine hp.growW (os:=os) ?_ rfl rfl
 show (putRow (Value.int .i64) (Go.Sort.ahead w n) c β vals.toArray).heap ++ os = _
 congr 1
 apply Array.ext_getElem?
 intro k
 by_cases hk:c = k
 ·subst hk
  rw [setRow_heap w c C _ t (0,0) hC]
  show (Array.modify w.heap c (onCells (putCells (Value.int .i64) β vals.toArray)))[c]? = _
  rw [Array.getElem?_modify,if_pos rfl,hC]
  show some (Obj.cells _ _ _) = some (Obj.cells _ _ _)
  congr 2
  apply Array.ext_getElem?
  intro j
  rw [mapI64_len] at hfit
  simp only [putCells,Array.getElem?_mapIdx,List.getElem?_toArray,mapI64,List.length_map,Nat.add_zero]
  by_cases h1:β≤j∧j < β + vals.length
  ·have hj : j < C.size := by omega
   have hj2:j - β < vals.length:=by omega
   rw [Array.getElem?_eq_getElem hj,Option.map_some,if_pos (by simpa using h1)]
   rw [List.append_assoc,List.getElem?_append_right (by simp;omega),List.getElem?_append_left (by simp;omega)]
   simp only [List.length_take,Array.length_toList,List.getElem?_map]
   rw [show j - min β C.size = j - β by omega,List.getElem?_eq_getElem hj2]
   simp [I64,getElem!_pos,hj2]
  ·by_cases h2 : j < β
   ·rw [List.append_assoc, List.getElem?_append_left (by simp; omega), List.getElem?_take_of_lt h2]
    simp only [Array.getElem?_toList]
    cases hcj:C[j]? with
    | none=>rfl
    | some y=>rw [Option.map_some,if_neg (by simpa using h1)]
   ·rw [List.getElem?_append_right (by simp; omega), List.getElem?_drop]
    simp only [Array.getElem?_toList]
    have:β + vals.length + (j - (List.take β C.toList ++ List.map I64 vals).length) = j:=by simp;omega
    rw [this]
    cases hcj:C[j]? with
    | none=>rfl
    | some y=>rw [Option.map_some,if_neg (by simpa using h1)]
 ·rw [setRow_other _ _ _ _ (fun h => hk h.symm)]
  show (Array.modify w.heap c _)[k]? = _
  rw [Array.getElem?_modify,if_neg hk]

section
variable {P:Program} {g:FuncId}

end

theorem awrite_row {H : AHeap} {id : Nat} {xs : List Value} {anc : List Nat} {vals : List Int} (hg : H.get id = .cells xs false false anc) (hl : vals.length = xs.length) :
 awrite H id 0 (mapL I64 vals) = some ((H.kill anc).set id (.cells (mapL I64 vals) false false [])):=by
 unfold awrite
 have h1:Nat.ble (0 + len (mapL I64 vals)) (len xs) = true:=by rw [len_eq,len_eq,mapI64_len];exact Nat.ble_eq_true_of_le (by omega)
 have h2:allL scalarB (mapL I64 vals) = true:=by
  rw [allL_eq,List.all_eq_true,mapI64]
  intro x hx
  obtain ⟨z,_,rfl⟩:=List.mem_map.1 hx
  rfl
 have h3:setL (mapL I64 vals) 0 xs = mapL I64 vals:=by
  show appL (mapL I64 vals) (dropL (len (mapL I64 vals)) xs) = _
  rw [appL_eq,dropL_eq,len_eq,mapI64_len,List.drop_of_length_le (by omega),List.append_nil]
 rw [hg]
 show bb (an (nt false) (an (nt false) (an (Nat.ble (0 + len (mapL I64 vals)) (len xs)) (allL scalarB (mapL I64 vals))))) (some ((H.kill anc).set id (.cells (setL (mapL I64 vals) 0 xs) false false []))) none = _
 rw [h1,h2,h3];rfl

end Go.Sp
namespace Go.BkQ
open Go Go.Sp
noncomputable section
def IV (z:Int):Value:=.int .i64 z
def fromN (rows cols t r c:Nat):Nat×Nat:=
 bb (Nat.beq t 1) (rows - 1 - c, r) (bb (Nat.beq t 2) (rows - 1 - r, cols - 1 - c) (bb (Nat.beq t 3) (c, cols - 1 - r) (bb (Nat.beq t 4) (r, cols - 1 - c)
  (bb (Nat.beq t 5) (rows - 1 - r,c) (bb (Nat.beq t 6) (c,r) (bb (Nat.beq t 7) (rows - 1 - c,cols - 1 - r) (r,c)))))))
def cellN (rows cols t i:Nat):Nat:=Nat.rec (motive:=fun _=>Nat) 0 (fun _ _=>pp (fromN rows cols t (i / cols) (i % cols)) fun r c=>r * cols + c) cols
def upN (n:Nat):List Nat:=Nat.rec (motive:=fun _=>List Nat) [] (fun k ih=>appL ih [k]) n
def cellL (rows cols t:Nat):List Nat:=mapL (cellN rows cols t) (upN (rows * cols))
def nvL (l:List Nat):List Value:=mapL (fun n=>IV (.ofNat n)) l
def rowV (l:List Nat):Value:=fsV 1 (len l) 0 (nvL l)
def triples:List (Nat×Nat×Nat):=[(1,1,0),(1,1,1),(1,1,2),(1,1,3),(1,1,4),(1,1,5),(1,1,6),(1,1,7),(1,2,0),(1,2,2),(1,2,4),(1,2,5),(1,3,0),(1,3,2),(1,3,4),(1,3,5),(1,4,0),(1,4,2),(1,4,4),(1,4,5),(2,1,0),(2,1,2),(2,1,4),(2,1,5),(2,2,0),(2,2,1),(2,2,2),(2,2,3),(2,2,4),(2,2,5),(2,2,6),(2,2,7),(2,3,0),(2,3,2),(2,3,4),(2,3,5),(2,4,0),(2,4,2),(2,4,4),(2,4,5),(3,1,0),(3,1,2),(3,1,4),(3,1,5),(3,2,0),(3,2,2),(3,2,4),(3,2,5),(3,3,0),(3,3,1),(3,3,2),(3,3,3),(3,3,4),(3,3,5),(3,3,6),(3,3,7),(3,4,0),(3,4,2),(3,4,4),(3,4,5),(4,1,0),(4,1,2),(4,1,4),(4,1,5),(4,2,0),(4,2,2),(4,2,4),(4,2,5),(4,3,0),(4,3,2),(4,3,4),(4,3,5),(4,4,0),(4,4,1),(4,4,2),(4,4,3),(4,4,4),(4,4,5),(4,4,6),(4,4,7)]
def memT (l:List (Nat×Nat×Nat)) (r c t:Nat):Bool:=List.rec (motive:=fun _=>Bool) false (fun p _ ih=>orr (an (Nat.beq p.1 r) (an (Nat.beq p.2.1 c) (Nat.beq p.2.2 t))) ih) l
def cellsM (args : List Value) : Option Value := ll args none fun a r => ll r none fun b r => ll r (oo (vAgg a) none fun l => ll l none fun v1 l => ll l none fun v2 l => ll l none fun v3 l => ll l none fun v4 l => ll l
 (oo (toI .i64 v1) none fun z1 => oo (toN z1) none fun rows => oo (toI .i64 v2) none fun z2 => oo (toN z2) none fun cols => oo (toI .i64 b) none fun z3 => oo (toN z3) none fun t =>
   bb (memT triples rows cols t) (some (rowV (cellL rows cols t))) none) fun _ _=>none) fun _ _=>none
def trueF (args:List Value):Option Value:=ll args (some (.bool true)) fun _ _=>none
end
theorem orr_inv {a b:Bool} (h:orr a b = true):a = true∨b = true:=by
 cases a with
 | true=>exact .inl rfl
 | false=>exact .inr h
theorem memT_mem {l:List (Nat×Nat×Nat)} {r c t:Nat} (h:memT l r c t = true):(r,c,t) ∈ l:=by
 induction l with
 | nil=>cases h
 | cons p l ih =>
  rcases orr_inv (show orr (an (Nat.beq p.1 r) (an (Nat.beq p.2.1 c) (Nat.beq p.2.2 t))) (memT l r c t) = true from h) with h | h
  ·obtain ⟨h1, h⟩ := an_inv h
   obtain ⟨h2,h3⟩:=an_inv h
   obtain ⟨p1,p2,p3⟩:=p
   have h1:p1 = r:=Nat.eq_of_beq_eq_true h1
   have h2:p2 = c:=Nat.eq_of_beq_eq_true h2
   have h3:p3 = t:=Nat.eq_of_beq_eq_true h3
   subst h1;subst h2;subst h3
   exact List.mem_cons_self
  ·exact List.mem_cons_of_mem _ (ih h)
theorem cellsM_inv {args:List Value} {v:Value} (h:cellsM args = some v):∃ r c t v3 v4,args = [.agg ⟨[IV (.ofNat r),IV (.ofNat c),v3,v4]⟩,IV (.ofNat t)]∧(r,c,t) ∈ triples∧v = rowV (cellL r c t):=by
 replace h:=ll_uncons h;obtain ⟨a,r1,rfl,h⟩:=h
 replace h:=ll_uncons h;obtain ⟨b,r2,rfl,h⟩:=h
 replace h:=ll_end h;obtain ⟨rfl,h⟩:=h
 replace h:=oo_inv h;obtain ⟨l,hl,h⟩:=h
 replace h:=ll_uncons h;obtain ⟨v1,l1,rfl,h⟩:=h
 replace h:=ll_uncons h;obtain ⟨v2,l2,rfl,h⟩:=h
 replace h:=ll_uncons h;obtain ⟨v3,l3,rfl,h⟩:=h
 replace h:=ll_uncons h;obtain ⟨v4,l4,rfl,h⟩:=h
 replace h:=ll_end h;obtain ⟨rfl,h⟩:=h
 replace h:=oo_inv h;obtain ⟨z1,h1,h⟩:=h
 replace h:=oo_inv h;obtain ⟨r,h2,h⟩:=h
 replace h:=oo_inv h;obtain ⟨z2,h3,h⟩:=h
 replace h:=oo_inv h;obtain ⟨c,h4,h⟩:=h
 replace h:=oo_inv h;obtain ⟨z3,h5,h⟩:=h
 replace h:=oo_inv h;obtain ⟨t,h6,h⟩:=h
 replace h:=bb_inv h;obtain ⟨hc,h⟩:=h
 injection h with h
 refine ⟨r,c,t,v3,v4,?_,memT_mem hc,h.symm⟩
 rw [vAgg_some hl,toI_some h1,toI_some h3,toI_some h5,toN_some h2,toN_some h4,toN_some h6];rfl
end Go.BkQ
set_option maxRecDepth 100000
namespace Go.BkX
open Go.Sp
def c3_1:RC:=.reg [] [rq 22 (.load 24 (tp 4)) 24,rq 23 (.move (tp 1)) 22,rq 24 (.move (tp 2)) 22,rq 25 (cf 9 #[tp 22,tp 23,tp 24] #[24,22,22]) 4]
def c3_4:RC:=.cond (tp 25) (.seq (.reg [] [rq 26 (cf 10 #[] #[]) 4,rq 8 (.assign (tp 26)) 4]) .ret) .skip
def c3_6:RC:=.reg [] [rq 27 (.load 24 (tp 4)) 24,rq 9 (.alloc 27) 0,rn (.store 27 (tp 9) (tp 27)) 0]
def c3_7:RC:=.reg [] [rq 29 (.load 24 (tp 4)) 24,rq 30 (.move (tp 1)) 22,rq 31 (.move (tp 3)) 3,rq 32 (cf 11 #[tp 29,tp 30,tp 31] #[24,22,3]) 29,rq 28 (.move (tp 32)) 29,rq 33 (.extract (tp 28) 0) 22,rq 34 (.extract (tp 28) 1) 28,rq 10 (.assign (tp 33)) 22,rq 11 (.assign (tp 34)) 28]
def c3_8:RC:=.reg [] [rq 36 (.load 27 (tp 9)) 27,rq 37 (.move (tp 1)) 22,rq 38 (.move (tp 3)) 3,rq 39 (cf 12 #[tp 36,tp 37,tp 38] #[27,22,3]) 29,rq 35 (.move (tp 39)) 29,rq 40 (.extract (tp 35) 0) 22,rq 41 (.extract (tp 35) 1) 28,rq 12 (.assign (tp 40)) 22,rq 13 (.assign (tp 41)) 28]
def c3_9:RC:=.reg [] [rq 43 (.load 24 (tp 4)) 24,rq 44 (.move (tp 1)) 22,rq 45 (.move (tp 2)) 22,rq 46 (cf 13 #[tp 43,tp 44,tp 45] #[24,22,22]) 32,rq 42 (.move (tp 46)) 32,rq 47 (.extract (tp 42) 0) 3,rq 48 (.extract (tp 42) 1) 28,rq 14 (.assign (tp 47)) 3,rq 15 (.assign (tp 48)) 28]
def c3_10:RC:=.reg [] [rq 50 (.load 27 (tp 9)) 27,rq 51 (.move (tp 1)) 22,rq 52 (.move (tp 2)) 22,rq 53 (cf 14 #[tp 50,tp 51,tp 52] #[27,22,22]) 32,rq 49 (.move (tp 53)) 32,rq 54 (.extract (tp 49) 0) 3,rq 55 (.extract (tp 49) 1) 28,rq 16 (.assign (tp 54)) 3,rq 17 (.assign (tp 55)) 28]
def c3_11:RC:=.reg [] [rq 57 (.load 24 (tp 4)) 24,rq 58 (.move (tp 1)) 22,rq 59 (cf 15 #[tp 57,tp 58] #[24,22]) 29,rq 56 (.move (tp 59)) 29,rq 60 (.extract (tp 56) 0) 22,rq 61 (.extract (tp 56) 1) 28,rq 18 (.assign (tp 60)) 22,rq 19 (.assign (tp 61)) 28]
def c3_12:RC:=.reg [] [rq 63 (.load 27 (tp 9)) 27,rq 64 (.move (tp 1)) 22,rq 65 (cf 16 #[tp 63,tp 64] #[27,22]) 29,rq 62 (.move (tp 65)) 29,rq 66 (.extract (tp 62) 0) 22,rq 67 (.extract (tp 62) 1) 28,rq 20 (.assign (tp 66)) 22,rq 21 (.assign (tp 67)) 28]
def c3_13:RC:=.reg [] [rq 68 (.move (tp 10)) 22,rq 69 (.move (tp 12)) 22,rq 70 (cf 17 #[tp 68,tp 69] #[22,22]) 4,rq 71 (.move (tp 70)) 4,rg 72 (.move (tp 11)) 28 71 true,rg 73 (.move (tp 13)) 28 71 true,rg 74 (.binOp .eql 28 (tp 72) (tp 73) 28) 4 71 true,rq 75 (.pick (tp 71) (tp 74) (kb false)) 4,rq 76 (.move (tp 75)) 4,rg 77 (.move (tp 14)) 3 76 true,rg 78 (.move (tp 16)) 3 76 true,rg 79 (.binOp .eql 3 (tp 77) (tp 78) 3) 4 76 true,rq 80 (.pick (tp 76) (tp 79) (kb false)) 4,rq 81 (.move (tp 80)) 4,rg 82 (.move (tp 15)) 28 81 true,rg 83 (.move (tp 17)) 28 81 true,rg 84 (.binOp .eql 28 (tp 82) (tp 83) 28) 4 81 true,rq 85 (.pick (tp 81) (tp 84) (kb false)) 4,rq 86 (.move (tp 85)) 4,rg 87 (.move (tp 18)) 22 86 true,rg 88 (.move (tp 20)) 22 86 true,rg 89 (cf 17 #[tp 87,tp 88] #[22,22]) 4 86 true,rq 90 (.pick (tp 86) (tp 89) (kb false)) 4,rq 91 (.move (tp 90)) 4,rg 92 (.move (tp 19)) 28 91 true,rg 93 (.move (tp 21)) 28 91 true,rg 94 (.binOp .eql 28 (tp 92) (tp 93) 28) 4 91 true,rq 95 (.pick (tp 91) (tp 94) (kb false)) 4,rq 96 (.move (tp 95)) 4,rg 97 (cf 10 #[] #[]) 4 96 true,rq 98 (.pick (tp 96) (tp 97) (kb false)) 4,rq 8 (.assign (tp 98)) 4]
def c3_19:RC:=.seq c3_8 (.seq c3_9 (.seq c3_10 (.seq c3_11 (.seq c3_12 (.seq c3_13 .ret)))))
def c3_23:RC:=.seq (.reg [] [rq 4 (.box 24 (tp 0)) 0,rq 8 (.assign (kb false)) 4]) (.seq (.seq c3_1 c3_4) (.seq c3_6 (.seq c3_7 c3_19)))
def c9_1:RC:=.reg [] [rq 7 (.fieldAddr 24 (tp 3) 3) 0,rq 8 (.load 22 (tp 7)) 22,rq 9 (cb .len #[tp 8] #[22]) 3,rq 10 (.binOp .gtr 3 (tp 9) (ki 30) 3) 4,rq 11 (.move (tp 10)) 4,rg 12 (.move (tp 1)) 22 11 false,rg 13 (cb .len #[tp 12] #[22]) 3 11 false,rg 14 (.binOp .gtr 3 (tp 13) (ki 60) 3) 4 11 false,rq 15 (.pick (tp 11) (kb true) (tp 14)) 4,rq 16 (.move (tp 15)) 4,rg 17 (.move (tp 2)) 22 16 false,rg 18 (cb .len #[tp 17] #[22]) 3 16 false,rg 19 (.binOp .gtr 3 (tp 18) (ki 60) 3) 4 16 false,rq 20 (.pick (tp 16) (kb true) (tp 19)) 4,rq 6 (.assign (tp 20)) 4]
def c9_3:RC:=.seq (.reg [] [rq 3 (.box 24 (tp 0)) 0,rq 6 (.assign (kb false)) 4]) (.seq c9_1 .ret)
def c11_0:RC:=.reg [] [rq 3 (.box 24 (tp 0)) 0,rq 6 (.assign (.const (.slice none 0 0))) 22,rq 7 (.assign (ki 0)) 28]
def c11_1:RC:=.reg [] [rq 12 (.load 24 (tp 3)) 24,rq 13 (.move (tp 1)) 22,rq 14 (.buildSlice 39 1 #[(0,(tp 13))]) 39,rq 15 (cf 43 #[tp 12,tp 14] #[24,39]) 65,rq 11 (.move (tp 15)) 65,rq 16 (.extract (tp 11) 0) 64,rq 17 (.extract (tp 11) 1) 28,rq 8 (.assign (tp 16)) 64,rq 9 (.assign (tp 17)) 28]
def c11_2:RC:=.reg [] [rq 18 (.move (tp 9)) 28,rq 19 (.binOp .neq 28 (tp 18) (ki 0) 28) 4]
def c11_3:RC:=.reg [] [rq 20 (.move (tp 9)) 28,rq 6 (.assign (.const (.slice none 0 0))) 22,rq 7 (.assign (tp 20)) 28]
def c11_7:RC:=.reg [] [rq 21 (.move (tp 8)) 64,rq 22 (.nilCheck (tp 21)) 0,rq 23 (.fieldAddr 69 (tp 22) 0) 0,rq 24 (.fieldAddr 24 (tp 23) 3) 0,rq 25 (.load 22 (tp 24)) 22,rq 26 (.move (tp 2)) 3,rq 27 (cf 44 #[tp 25,tp 26] #[22,3]) 3,rq 10 (.assign (tp 27)) 3]
def c11_8:RC:=.reg [] [rq 28 (.move (tp 10)) 3,rq 29 (.binOp .lss 3 (tp 28) (ki 0) 3) 4]
def c11_9:RC:=.reg [] [rq 6 (.assign (.const (.slice none 0 0))) 22,rq 7 (.assign (ki 2)) 28]
def c11_13:RC:=.reg [] [rq 30 (.move (tp 8)) 64,rq 31 (.move (tp 1)) 22,rq 32 (.move (tp 10)) 3,rq 33 (cf 45 #[tp 30,tp 31,tp 32] #[64,22,3]) 22,rq 6 (.assign (tp 33)) 22,rq 7 (.assign (ki 0)) 28]
def c11_15:RC:=.seq (.seq c11_8 (.cond (tp 29) (.seq c11_9 .ret) .skip)) (.seq c11_13 .ret)
def c11_17:RC:=.seq (.seq c11_2 (.cond (tp 19) (.seq c11_3 .ret) .skip)) (.seq c11_7 c11_15)
def c11_19:RC:=.seq c11_0 (.seq c11_1 c11_17)
def c12_0:RC:=.reg [] [rq 3 (.box 27 (tp 0)) 0,rq 6 (.assign (.const (.slice none 0 0))) 22,rq 7 (.assign (ki 0)) 28]
def c12_1:RC:=.reg [] [rq 9 (.load 27 (tp 3)) 27,rq 10 (.move (tp 1)) 22,rq 11 (cf 46 #[tp 9,tp 10] #[27,22]) 28,rq 8 (.assign (tp 11)) 28]
def c12_2:RC:=.reg [] [rq 12 (.move (tp 8)) 28,rq 13 (.binOp .eql 28 (tp 12) (ki 0) 28) 4,rq 14 (.move (tp 13)) 4,rg 15 (.fieldAddr 27 (tp 3) 3) 0 14 true,rg 16 (.load 22 (tp 15)) 22 14 true,rg 17 (.move (tp 2)) 3 14 true,rg 18 (cf 47 #[tp 16,tp 17] #[22,3]) 4 14 true,rg 19 (.unOp .not 4 (tp 18)) 4 14 true,rq 20 (.pick (tp 14) (tp 19) (kb false)) 4]
def c12_6:RC:=.reg [] [rq 21 (.move (tp 8)) 28,rq 22 (.binOp .neq 28 (tp 21) (ki 0) 28) 4]
def c12_7:RC:=.reg [] [rq 23 (.move (tp 8)) 28,rq 6 (.assign (.const (.slice none 0 0))) 22,rq 7 (.assign (tp 23)) 28]
def c12_11:RC:=.reg [] [rq 24 (.load 27 (tp 3)) 27,rq 25 (.move (tp 1)) 22,rq 26 (.move (tp 2)) 3,rq 27 (cf 48 #[tp 24,tp 25,tp 26] #[27,22,3]) 22,rq 6 (.assign (tp 27)) 22,rq 7 (.assign (ki 0)) 28]
def c12_13:RC:=.seq (.seq c12_6 (.cond (tp 22) (.seq c12_7 .ret) .skip)) (.seq c12_11 .ret)
def c12_14:RC:=.seq (.seq c12_2 (.cond (tp 20) (.reg [] [rq 8 (.assign (ki 2)) 28]) .skip)) c12_13
def c12_16:RC:=.seq c12_0 (.seq c12_1 c12_14)
def c13_0:RC:=.reg [] [rq 3 (.box 24 (tp 0)) 0,rq 6 (.assign (ki 0)) 3,rq 7 (.assign (ki 0)) 28]
def c13_1:RC:=.reg [] [rq 13 (.load 24 (tp 3)) 24,rq 14 (.move (tp 1)) 22,rq 15 (.move (tp 2)) 22,rq 16 (.buildSlice 39 2 #[(0,(tp 14)),(1,(tp 15))]) 39,rq 17 (cf 43 #[tp 13,tp 16] #[24,39]) 65,rq 12 (.move (tp 17)) 65,rq 18 (.extract (tp 12) 0) 64,rq 19 (.extract (tp 12) 1) 28,rq 8 (.assign (tp 18)) 64,rq 9 (.assign (tp 19)) 28]
def c13_2:RC:=.reg [] [rq 20 (.move (tp 9)) 28,rq 21 (.binOp .neq 28 (tp 20) (ki 0) 28) 4]
def c13_3:RC:=.reg [] [rq 22 (.move (tp 9)) 28,rq 6 (.assign (ki 0)) 3,rq 7 (.assign (tp 22)) 28]
def c13_7:RC:=.reg [] [rq 23 (.move (tp 8)) 64,rq 24 (.nilCheck (tp 23)) 0,rq 25 (.fieldAddr 69 (tp 24) 0) 0,rq 26 (.fieldAddr 24 (tp 25) 3) 0,rq 27 (.load 22 (tp 26)) 22,rq 28 (cb .len #[tp 27] #[22]) 3,rq 29 (.move (ki 0)) 3]
def c13_10:RC:=.reg [] [rq 31 (.move (tp 29)) 3,rq 32 (.indexAddr 22 (tp 27) (tp 29)) 0,rq 33 (.load 3 (tp 32)) 3,rq 10 (.assign (tp 31)) 3,rq 11 (.assign (tp 33)) 3]
def c13_11:RC:=.reg [] [rq 34 (.move (tp 8)) 64,rq 35 (.move (tp 1)) 22,rq 36 (.move (tp 10)) 3,rq 37 (cf 45 #[tp 34,tp 35,tp 36] #[64,22,3]) 22,rq 38 (.move (tp 2)) 22,rq 39 (cf 49 #[tp 37,tp 38] #[22,22]) 4]
def c13_12:RC:=.reg [] [rq 40 (.move (tp 11)) 3,rq 6 (.assign (tp 40)) 3,rq 7 (.assign (ki 0)) 28]
def c13_17:RC:=.block 1 (.seq c13_10 (.seq c13_11 (.cond (tp 39) (.seq c13_12 .ret) .skip)))
def c13_18:RC:=.reg [] [rq 41 (.binOp .add 3 (tp 29) (ki 1) 3) 3,rq 29 (.move (tp 41)) 3]
def c13_21:RC:=.seq (.reg [] [rq 30 (.binOp .lss 3 (tp 29) (tp 28) 3) 0]) (.seq (.cond (tp 30) .skip (.exit 0)) (.seq c13_17 c13_18))
def c13_26:RC:=.seq (.reg [] [rq 6 (.assign (ki 0)) 3,rq 7 (.assign (ki 12)) 28]) .ret
def c13_28:RC:=.seq (.seq c13_2 (.cond (tp 21) (.seq c13_3 .ret) .skip)) (.seq (.seq c13_7 (.block 0 (.loop c13_21))) c13_26)
def c13_30:RC:=.seq c13_0 (.seq c13_1 c13_28)
def c14_0:RC:=.reg [] [rq 3 (.box 27 (tp 0)) 0,rq 6 (.assign (ki 0)) 3,rq 7 (.assign (ki 0)) 28]
def c14_1:RC:=.reg [] [rq 10 (.load 27 (tp 3)) 27,rq 11 (.move (tp 1)) 22,rq 12 (cf 46 #[tp 10,tp 11] #[27,22]) 28,rq 8 (.assign (tp 12)) 28]
def c14_2:RC:=.reg [] [rq 13 (.move (tp 8)) 28,rq 14 (.binOp .eql 28 (tp 13) (ki 0) 28) 4]
def c14_3:RC:=.reg [] [rq 15 (.load 27 (tp 3)) 27,rq 16 (.move (tp 2)) 22,rq 17 (cf 46 #[tp 15,tp 16] #[27,22]) 28,rq 8 (.assign (tp 17)) 28]
def c14_6:RC:=.reg [] [rq 18 (.move (tp 8)) 28,rq 19 (.binOp .neq 28 (tp 18) (ki 0) 28) 4]
def c14_7:RC:=.reg [] [rq 20 (.move (tp 8)) 28,rq 6 (.assign (ki 0)) 3,rq 7 (.assign (tp 20)) 28]
def c14_12:RC:=.reg [] [rq 21 (.move (tp 9)) 3,rq 22 (.fieldAddr 27 (tp 3) 3) 0,rq 23 (.load 22 (tp 22)) 22,rq 24 (cb .len #[tp 23] #[22]) 3,rq 25 (.binOp .lss 3 (tp 21) (tp 24) 3) 4]
def c14_15:RC:=.reg [0,1,2,3,4,5,6,8,7,9] [rq 28 (.load 27 (tp 3)) 27,rq 29 (.move (tp 1)) 22,rq 30 (.fieldAddr 27 (tp 3) 3) 0,rq 31 (.load 22 (tp 30)) 22,rq 32 (.move (tp 9)) 3,rq 33 (.indexAddr 22 (tp 31) (tp 32)) 0,rq 34 (.load 3 (tp 33)) 3,rq 36 (.move (tp 2)) 22,rq 35 (cf 48 #[tp 28,tp 29,tp 34] #[27,22,3]) 22,rq 37 (cf 50 #[tp 35,tp 36] #[22,22]) 4]
def c14_16:RC:=.reg [] [rq 38 (.fieldAddr 27 (tp 3) 3) 0,rq 39 (.load 22 (tp 38)) 22,rq 40 (.move (tp 9)) 3,rq 41 (.indexAddr 22 (tp 39) (tp 40)) 0,rq 42 (.load 3 (tp 41)) 3,rq 6 (.assign (tp 42)) 3,rq 7 (.assign (ki 0)) 28]
def c14_21:RC:=.reg [] [rq 26 (.move (tp 9)) 3,rq 27 (.binOp .add 3 (tp 26) (ki 1) 3) 3,rq 9 (.assign (tp 27)) 3]
def c14_22:RC:=.seq (.block 1 (.seq c14_15 (.cond (tp 37) (.seq c14_16 .ret) .skip))) c14_21
def c14_25:RC:=.block 0 (.loop (.seq (.seq c14_12 (.cond (tp 25) .skip (.exit 0))) c14_22))
def c14_28:RC:=.seq (.reg [] [rq 6 (.assign (ki 0)) 3,rq 7 (.assign (ki 12)) 28]) .ret
def c14_30:RC:=.seq (.seq c14_6 (.cond (tp 19) (.seq c14_7 .ret) .skip)) (.seq (.seq (.reg [] [rq 9 (.assign (ki 0)) 3]) c14_25) c14_28)
def c14_33:RC:=.seq c14_0 (.seq c14_1 (.seq (.seq c14_2 (.cond (tp 14) c14_3 .skip)) c14_30))
def c15_0:RC:=.reg [] [rq 2 (.box 24 (tp 0)) 0,rq 4 (.assign (.const (.slice none 0 0))) 22,rq 5 (.assign (ki 0)) 28]
def c15_1:RC:=.reg [] [rq 12 (.load 24 (tp 2)) 24,rq 13 (.move (tp 1)) 22,rq 14 (.buildSlice 39 1 #[(0,(tp 13))]) 39,rq 15 (cf 43 #[tp 12,tp 14] #[24,39]) 65,rq 11 (.move (tp 15)) 65,rq 16 (.extract (tp 11) 0) 64,rq 17 (.extract (tp 11) 1) 28,rq 6 (.assign (tp 16)) 64,rq 7 (.assign (tp 17)) 28]
def c15_2:RC:=.reg [] [rq 18 (.move (tp 7)) 28,rq 19 (.binOp .neq 28 (tp 18) (ki 0) 28) 4]
def c15_3:RC:=.reg [] [rq 20 (.move (tp 7)) 28,rq 4 (.assign (.const (.slice none 0 0))) 22,rq 5 (.assign (tp 20)) 28]
def c15_8:RC:=.reg [] [rq 21 (.move (tp 6)) 64,rq 22 (.nilCheck (tp 21)) 0,rq 23 (.fieldAddr 69 (tp 22) 0) 0,rq 24 (.fieldAddr 24 (tp 23) 3) 0,rq 25 (.load 22 (tp 24)) 22,rq 26 (cb .len #[tp 25] #[22]) 3,rq 27 (.move (ki 0)) 3]
def c15_11:RC:=.reg [] [rq 29 (.move (tp 27)) 3,rq 30 (.indexAddr 22 (tp 25) (tp 27)) 0,rq 31 (.load 3 (tp 30)) 3,rq 9 (.assign (tp 29)) 3,rq 10 (.assign (tp 31)) 3]
def c15_12:RC:=.reg [] [rq 32 (.move (tp 6)) 64,rq 33 (.move (tp 1)) 22,rq 34 (.move (tp 9)) 3,rq 35 (cf 51 #[tp 32,tp 33,tp 34] #[64,22,3]) 74,rq 36 (.binOp .eql 74 (tp 35) (.const (.int .u16 0)) 74) 4]
def c15_13:RC:=.reg [] [rq 37 (.move (tp 8)) 22,rq 38 (.move (tp 10)) 3,rq 39 (.buildSlice 22 1 #[(0,(tp 38))]) 22,rq 40 (cb .append #[tp 37,tp 39] #[22,22]) 22,rq 8 (.assign (tp 40)) 22]
def c15_18:RC:=.reg [] [rq 41 (.binOp .add 3 (tp 27) (ki 1) 3) 3,rq 27 (.move (tp 41)) 3]
def c15_19:RC:=.seq (.block 1 (.seq c15_11 (.seq c15_12 (.cond (tp 36) c15_13 .skip)))) c15_18
def c15_21:RC:=.seq (.reg [] [rq 28 (.binOp .lss 3 (tp 27) (tp 26) 3) 0]) (.seq (.cond (tp 28) .skip (.exit 0)) c15_19)
def c15_25:RC:=.reg [] [rq 42 (.move (tp 8)) 22,rq 4 (.assign (tp 42)) 22,rq 5 (.assign (ki 0)) 28]
def c15_26:RC:=.seq c15_25 .ret
def c15_28:RC:=.seq (.reg [] [rq 8 (.assign (.const (.slice none 0 0))) 22]) (.seq (.seq c15_8 (.block 0 (.loop c15_21))) c15_26)
def c15_30:RC:=.seq c15_1 (.seq (.seq c15_2 (.cond (tp 19) (.seq c15_3 .ret) .skip)) c15_28)
def c15_31:RC:=.seq c15_0 c15_30
def c16_0:RC:=.reg [] [rq 2 (.box 27 (tp 0)) 0,rq 4 (.assign (.const (.slice none 0 0))) 22,rq 5 (.assign (ki 0)) 28]
def c16_1:RC:=.reg [] [rq 9 (.load 27 (tp 2)) 27,rq 10 (.move (tp 1)) 22,rq 11 (cf 46 #[tp 9,tp 10] #[27,22]) 28,rq 6 (.assign (tp 11)) 28]
def c16_2:RC:=.reg [] [rq 12 (.move (tp 6)) 28,rq 13 (.binOp .neq 28 (tp 12) (ki 0) 28) 4]
def c16_3:RC:=.reg [] [rq 14 (.move (tp 6)) 28,rq 4 (.assign (.const (.slice none 0 0))) 22,rq 5 (.assign (tp 14)) 28]
def c16_9:RC:=.reg [] [rq 15 (.move (tp 8)) 3,rq 16 (.fieldAddr 27 (tp 2) 3) 0,rq 17 (.load 22 (tp 16)) 22,rq 18 (cb .len #[tp 17] #[22]) 3,rq 19 (.binOp .lss 3 (tp 15) (tp 18) 3) 4]
def c16_12:RC:=.reg [0,1,2,3,4,5,6,8,7,9] [rq 22 (.load 27 (tp 2)) 27,rq 23 (.move (tp 1)) 22,rq 24 (.fieldAddr 27 (tp 2) 3) 0,rq 25 (.load 22 (tp 24)) 22,rq 26 (.move (tp 8)) 3,rq 27 (.indexAddr 22 (tp 25) (tp 26)) 0,rq 28 (.load 3 (tp 27)) 3,rq 30 (.move (tp 1)) 22,rq 29 (cf 48 #[tp 22,tp 23,tp 28] #[27,22,3]) 22,rq 31 (cf 50 #[tp 29,tp 30] #[22,22]) 4]
def c16_13:RC:=.reg [] [rq 32 (.move (tp 7)) 22,rq 33 (.fieldAddr 27 (tp 2) 3) 0,rq 34 (.load 22 (tp 33)) 22,rq 35 (.move (tp 8)) 3,rq 36 (.indexAddr 22 (tp 34) (tp 35)) 0,rq 37 (.load 3 (tp 36)) 3,rq 38 (.buildSlice 22 1 #[(0,(tp 37))]) 22,rq 39 (cb .append #[tp 32,tp 38] #[22,22]) 22,rq 7 (.assign (tp 39)) 22]
def c16_17:RC:=.reg [] [rq 20 (.move (tp 8)) 3,rq 21 (.binOp .add 3 (tp 20) (ki 1) 3) 3,rq 8 (.assign (tp 21)) 3]
def c16_19:RC:=.seq (.seq c16_9 (.cond (tp 19) .skip (.exit 0))) (.seq (.block 1 (.seq c16_12 (.cond (tp 31) c16_13 .skip))) c16_17)
def c16_23:RC:=.reg [] [rq 40 (.move (tp 7)) 22,rq 4 (.assign (tp 40)) 22,rq 5 (.assign (ki 0)) 28]
def c16_24:RC:=.seq c16_23 .ret
def c16_25:RC:=.seq (.seq (.reg [] [rq 8 (.assign (ki 0)) 3]) (.block 0 (.loop c16_19))) c16_24
def c16_27:RC:=.seq (.seq c16_2 (.cond (tp 13) (.seq c16_3 .ret) .skip)) (.seq (.reg [] [rq 7 (.assign (.const (.slice none 0 0))) 22]) c16_25)
def c16_29:RC:=.seq c16_0 (.seq c16_1 c16_27)
def c17_1:RC:=.reg [] [rq 6 (.move (tp 0)) 22,rq 7 (cb .len #[tp 6] #[22]) 3,rq 8 (.move (tp 1)) 22,rq 9 (cb .len #[tp 8] #[22]) 3,rq 10 (.binOp .neq 3 (tp 7) (tp 9) 3) 4]
def c17_4:RC:=.cond (tp 10) (.seq (.reg [] [rq 4 (.assign (kb false)) 4]) .ret) .skip
def c17_7:RC:=.reg [] [rq 11 (.move (tp 5)) 3,rq 12 (.move (tp 0)) 22,rq 13 (cb .len #[tp 12] #[22]) 3,rq 14 (.binOp .lss 3 (tp 11) (tp 13) 3) 4]
def c17_10:RC:=.reg [0,1,2,3,4,5,6,7,8] [rq 17 (.move (tp 0)) 22,rq 18 (.move (tp 5)) 3,rq 19 (.indexAddr 22 (tp 17) (tp 18)) 0,rq 20 (.load 3 (tp 19)) 3,rq 21 (.move (tp 1)) 22,rq 22 (.move (tp 5)) 3,rq 23 (.indexAddr 22 (tp 21) (tp 22)) 0,rq 24 (.load 3 (tp 23)) 3,rq 25 (.binOp .neq 3 (tp 20) (tp 24) 3) 4]
def c17_13:RC:=.cond (tp 25) (.seq (.reg [] [rq 4 (.assign (kb false)) 4]) .ret) .skip
def c17_16:RC:=.reg [] [rq 15 (.move (tp 5)) 3,rq 16 (.binOp .add 3 (tp 15) (ki 1) 3) 3,rq 5 (.assign (tp 16)) 3]
def c17_18:RC:=.seq (.seq c17_7 (.cond (tp 14) .skip (.exit 0))) (.seq (.block 1 (.seq c17_10 c17_13)) c17_16)
def c17_23:RC:=.seq (.reg [] [rq 4 (.assign (kb true)) 4]) .ret
def c17_24:RC:=.seq (.seq (.reg [] [rq 5 (.assign (ki 0)) 3]) (.block 0 (.loop c17_18))) c17_23
def c17_26:RC:=.seq (.reg [] [rq 4 (.assign (kb false)) 4]) (.seq (.seq c17_1 c17_4) c17_24)
def c34_1:RC:=.reg [] [rq 10 (.move (tp 0)) 3,rq 11 (cf 62 #[tp 10,ki 0,ki 7] #[3,3,3]) 4,rq 12 (.unOp .not 4 (tp 11)) 4,rq 13 (.move (tp 12)) 4,rg 14 (.move (tp 1)) 3 13 false,rg 15 (cf 62 #[tp 14,ki 0,ki 7] #[3,3,3]) 4 13 false,rg 16 (.unOp .not 4 (tp 15)) 4 13 false,rq 17 (.pick (tp 13) (kb true) (tp 16)) 4]
def c34_4:RC:=.cond (tp 17) (.seq (.reg [] [rq 4 (.assign (ki 0)) 3,rq 5 (.assign (ki 2)) 28]) .ret) .skip
def c34_6:RC:=.reg [] [rq 18 (.build 27 #[(0,(ki 2)),(1,(ki 2))]) 27,rq 6 (.alloc 27) 0,rn (.store 27 (tp 6) (tp 18)) 0]
def c34_7:RC:=.reg [] [rq 19 (.buildSlice 22 4 #[(0,(ki 0)),(1,(ki 1)),(2,(ki 2)),(3,(ki 3))]) 22,rq 7 (.assign (tp 19)) 22]
def c34_8:RC:=.reg [0,1,2,3,5,4,6,7] [rq 20 (.load 27 (tp 6)) 27,rq 21 (.load 27 (tp 6)) 27,rq 22 (.move (tp 7)) 22,rq 23 (.move (tp 0)) 3,rq 25 (.move (tp 1)) 3,⟨(some 24),cf 48 #[tp 21,tp 22,tp 23] #[27,22,3],22,none,[(tp 6)]⟩,rq 26 (cf 48 #[tp 20,tp 24,tp 25] #[27,22,3]) 22,rq 8 (.assign (tp 26)) 22]
def c34_10:RC:=.reg [] [rq 27 (.load 27 (tp 6)) 27,rq 28 (.move (tp 7)) 22,rq 29 (.move (tp 9)) 3,rq 30 (cf 48 #[tp 27,tp 28,tp 29] #[27,22,3]) 22,rq 31 (.move (tp 8)) 22,rq 32 (cf 50 #[tp 30,tp 31] #[22,22]) 4,rq 33 (.unOp .not 4 (tp 32)) 4]
def c34_13:RC:=.reg [] [rq 34 (.move (tp 9)) 3,rq 35 (.binOp .add 3 (tp 34) (ki 1) 3) 3,rq 9 (.assign (tp 35)) 3]
def c34_16:RC:=.loop (.seq (.seq c34_10 (.cond (tp 33) .skip (.exit 0))) (.block 1 c34_13))
def c34_18:RC:=.reg [] [rq 36 (.move (tp 9)) 3,rq 4 (.assign (tp 36)) 3,rq 5 (.assign (ki 0)) 28]
def c34_19:RC:=.seq c34_18 .ret
def c34_21:RC:=.seq (.reg [] [rq 9 (.assign (ki 0)) 3]) (.seq (.block 0 c34_16) c34_19)
def c34_26:RC:=.seq (.reg [] [rq 4 (.assign (ki 0)) 3,rq 5 (.assign (ki 0)) 28]) (.seq (.seq c34_1 c34_4) (.seq c34_6 (.seq c34_7 (.seq c34_8 c34_21))))
def c36_1:RC:=.reg [] [rq 9 (.fieldAddr 27 (tp 1) 0) 0,rq 10 (.load 3 (tp 9)) 3,rq 11 (cf 62 #[tp 10,ki 1,ki 4] #[3,3,3]) 4,rq 12 (.unOp .not 4 (tp 11)) 4,rq 13 (.move (tp 12)) 4,rg 14 (.fieldAddr 27 (tp 1) 1) 0 13 false,rg 15 (.load 3 (tp 14)) 3 13 false,rg 16 (cf 62 #[tp 15,ki 1,ki 4] #[3,3,3]) 4 13 false,rg 17 (.unOp .not 4 (tp 16)) 4 13 false,rq 18 (.pick (tp 13) (kb true) (tp 17)) 4,rq 19 (.move (tp 18)) 4,rg 20 (.fieldAddr 27 (tp 1) 2) 0 19 false,rg 21 (.load 3 (tp 20)) 3 19 false,rg 22 (cf 62 #[tp 21,ki 1,ki 4] #[3,3,3]) 4 19 false,rg 23 (.unOp .not 4 (tp 22)) 4 19 false,rq 24 (.pick (tp 19) (kb true) (tp 23)) 4]
def c36_5:RC:=.seq c36_1 (.cond (tp 24) (.seq (.reg [] [rq 2 (.assign (ki 1)) 28]) .ret) .skip)
def c36_7:RC:=.reg [] [rq 25 (.move (tp 3)) 3,rq 26 (.fieldAddr 27 (tp 1) 3) 0,rq 27 (.load 22 (tp 26)) 22,rq 28 (cb .len #[tp 27] #[22]) 3,rq 29 (.binOp .lss 3 (tp 25) (tp 28) 3) 4]
def c36_10:RC:=.reg [] [rq 32 (.fieldAddr 27 (tp 1) 3) 0,rq 33 (.load 22 (tp 32)) 22,rq 34 (.move (tp 3)) 3,rq 35 (.indexAddr 22 (tp 33) (tp 34)) 0,rq 36 (.load 3 (tp 35)) 3,rq 4 (.assign (tp 36)) 3]
def c36_11:RC:=.reg [] [rq 37 (.move (tp 4)) 3,rq 38 (cf 62 #[tp 37,ki 0,ki 7] #[3,3,3]) 4,rq 39 (.unOp .not 4 (tp 38)) 4]
def c36_15:RC:=.seq c36_11 (.cond (tp 39) (.seq (.reg [] [rq 2 (.assign (ki 2)) 28]) .ret) .skip)
def c36_16:RC:=.reg [] [rq 40 (.fieldAddr 27 (tp 1) 0) 0,rq 41 (.load 3 (tp 40)) 3,rq 42 (.fieldAddr 27 (tp 1) 1) 0,rq 43 (.load 3 (tp 42)) 3,rq 44 (.binOp .neq 3 (tp 41) (tp 43) 3) 4,rq 45 (.move (tp 44)) 4,rg 46 (.move (tp 4)) 3 45 true,rg 47 (.binOp .eql 3 (tp 46) (ki 1) 3) 4 45 true,rg 48 (.move (tp 47)) 4 45 true,rg 49 (.move (tp 4)) 3 48 false,rg 50 (.binOp .eql 3 (tp 49) (ki 3) 3) 4 48 false,rg 51 (.pick (tp 48) (kb true) (tp 50)) 4 45 true,rg 52 (.move (tp 51)) 4 45 true,rg 53 (.move (tp 4)) 3 52 false,rg 54 (.binOp .gtr 3 (tp 53) (ki 5) 3) 4 52 false,rg 55 (.pick (tp 52) (kb true) (tp 54)) 4 45 true,rq 56 (.pick (tp 45) (tp 55) (kb false)) 4]
def c36_20:RC:=.seq c36_16 (.cond (tp 56) (.seq (.reg [] [rq 2 (.assign (ki 8)) 28]) .ret) .skip)
def c36_21:RC:=.reg [] [rq 57 (.move (tp 3)) 3,rq 58 (.binOp .gtr 3 (tp 57) (ki 0) 3) 4,rq 59 (.move (tp 58)) 4,rg 60 (.move (tp 4)) 3 59 true,rg 61 (.fieldAddr 27 (tp 1) 3) 0 59 true,rg 62 (.load 22 (tp 61)) 22 59 true,rg 63 (.move (tp 3)) 3 59 true,rg 64 (.binOp .sub 3 (tp 63) (ki 1) 3) 3 59 true,rg 65 (.indexAddr 22 (tp 62) (tp 64)) 0 59 true,rg 66 (.load 3 (tp 65)) 3 59 true,rg 67 (.binOp .leq 3 (tp 60) (tp 66) 3) 4 59 true,rq 68 (.pick (tp 59) (tp 67) (kb false)) 4]
def c36_25:RC:=.seq c36_21 (.cond (tp 68) (.seq (.reg [] [rq 2 (.assign (ki 7)) 28]) .ret) .skip)
def c36_30:RC:=.reg [] [rq 30 (.move (tp 3)) 3,rq 31 (.binOp .add 3 (tp 30) (ki 1) 3) 3,rq 3 (.assign (tp 31)) 3]
def c36_31:RC:=.seq (.block 1 (.seq c36_10 (.seq c36_15 (.seq c36_20 c36_25)))) c36_30
def c36_34:RC:=.block 0 (.loop (.seq (.seq c36_7 (.cond (tp 29) .skip (.exit 0))) c36_31))
def c36_36:RC:=.reg [] [rq 69 (.fieldAddr 27 (tp 1) 3) 0,rq 70 (.load 22 (tp 69)) 22,rq 71 (cf 47 #[tp 70,ki 0] #[22,3]) 4,rq 72 (.unOp .not 4 (tp 71)) 4]
def c36_40:RC:=.seq c36_36 (.cond (tp 72) (.seq (.reg [] [rq 2 (.assign (ki 21)) 28]) .ret) .skip)
def c36_42:RC:=.reg [] [rq 73 (.move (tp 5)) 3,rq 74 (.fieldAddr 27 (tp 1) 3) 0,rq 75 (.load 22 (tp 74)) 22,rq 76 (cb .len #[tp 75] #[22]) 3,rq 77 (.binOp .lss 3 (tp 73) (tp 76) 3) 4]
def c36_46:RC:=.reg [] [rq 80 (.move (tp 6)) 3,rq 81 (.fieldAddr 27 (tp 1) 3) 0,rq 82 (.load 22 (tp 81)) 22,rq 83 (cb .len #[tp 82] #[22]) 3,rq 84 (.binOp .lss 3 (tp 80) (tp 83) 3) 4]
def c36_49:RC:=.reg [0,1,2,3,4,5,6,7,8,9,10,11,12,13,14,15] [rq 88 (.fieldAddr 27 (tp 1) 3) 0,rq 89 (.load 22 (tp 88)) 22,rq 90 (.move (tp 5)) 3,rq 91 (.indexAddr 22 (tp 89) (tp 90)) 0,rq 92 (.load 3 (tp 91)) 3,rq 93 (.fieldAddr 27 (tp 1) 3) 0,rq 94 (.load 22 (tp 93)) 22,rq 95 (.move (tp 6)) 3,rq 96 (.indexAddr 22 (tp 94) (tp 95)) 0,rq 97 (.load 3 (tp 96)) 3,rq 98 (cf 34 #[tp 92,tp 97] #[3,3]) 32,rq 87 (.move (tp 98)) 32,rq 99 (.extract (tp 87) 0) 3,rq 100 (.extract (tp 87) 1) 28,rq 7 (.assign (tp 99)) 3,rq 8 (.assign (tp 100)) 28]
def c36_50:RC:=.reg [] [rq 101 (.fieldAddr 27 (tp 1) 3) 0,rq 102 (.load 22 (tp 101)) 22,rq 103 (.move (tp 7)) 3,rq 104 (cf 47 #[tp 102,tp 103] #[22,3]) 4,rq 105 (.unOp .not 4 (tp 104)) 4]
def c36_54:RC:=.seq c36_50 (.cond (tp 105) (.seq (.reg [] [rq 2 (.assign (ki 21)) 28]) .ret) .skip)
def c36_57:RC:=.reg [] [rq 85 (.move (tp 6)) 3,rq 86 (.binOp .add 3 (tp 85) (ki 1) 3) 3,rq 6 (.assign (tp 86)) 3]
def c36_59:RC:=.seq (.seq c36_46 (.cond (tp 84) .skip (.exit 4))) (.seq (.block 5 (.seq c36_49 c36_54)) c36_57)
def c36_63:RC:=.block 3 (.seq (.reg [] [rq 6 (.assign (ki 0)) 3]) (.block 4 (.loop c36_59)))
def c36_64:RC:=.reg [] [rq 78 (.move (tp 5)) 3,rq 79 (.binOp .add 3 (tp 78) (ki 1) 3) 3,rq 5 (.assign (tp 79)) 3]
def c36_66:RC:=.seq (.seq c36_42 (.cond (tp 77) .skip (.exit 2))) (.seq c36_63 c36_64)
def c36_71:RC:=.seq (.reg [] [rq 2 (.assign (ki 0)) 28]) .ret
def c36_72:RC:=.seq (.seq (.reg [] [rq 5 (.assign (ki 0)) 3]) (.block 2 (.loop c36_66))) c36_71
def c36_73:RC:=.seq c36_40 c36_72
def c36_75:RC:=.seq c36_5 (.seq (.seq (.reg [] [rq 3 (.assign (ki 0)) 3]) c36_34) c36_73)
def c36_76:RC:=.seq (.reg [] [rq 1 (.box 27 (tp 0)) 0,rq 2 (.assign (ki 0)) 28]) c36_75
def c43_0:RC:=.reg [] [rq 2 (.box 24 (tp 0)) 0,rq 4 (.assign (.const (.pointer none))) 64,rq 5 (.assign (ki 0)) 28]
def c43_1:RC:=.reg [] [rq 12 (.load 24 (tp 2)) 24,rq 13 (cf 55 #[tp 12] #[24]) 65,rq 11 (.move (tp 13)) 65,rq 14 (.extract (tp 11) 0) 64,rq 15 (.extract (tp 11) 1) 28,rq 6 (.assign (tp 14)) 64,rq 7 (.assign (tp 15)) 28]
def c43_2:RC:=.reg [] [rq 16 (.move (tp 7)) 28,rq 17 (.binOp .neq 28 (tp 16) (ki 0) 28) 4]
def c43_3:RC:=.reg [] [rq 18 (.move (tp 7)) 28,rq 4 (.assign (.const (.pointer none))) 64,rq 5 (.assign (tp 18)) 28]
def c43_7:RC:=.reg [] [rq 19 (.move (tp 1)) 39,rq 20 (cb .len #[tp 19] #[39]) 3,rq 21 (.move (ki 0)) 3]
def c43_10:RC:=.reg [] [rq 23 (.indexAddr 39 (tp 19) (tp 21)) 0,rq 24 (.load 22 (tp 23)) 22,rq 9 (.assign (tp 24)) 22]
def c43_11:RC:=.reg [] [rq 25 (.move (tp 6)) 64,rq 26 (.move (tp 9)) 22,rq 27 (cf 80 #[tp 25,tp 26] #[64,22]) 28,rq 10 (.assign (tp 27)) 28]
def c43_12:RC:=.reg [] [rq 28 (.move (tp 10)) 28,rq 29 (.binOp .neq 28 (tp 28) (ki 0) 28) 4]
def c43_13:RC:=.reg [] [rq 30 (.move (tp 10)) 28,rq 4 (.assign (.const (.pointer none))) 64,rq 5 (.assign (tp 30)) 28]
def c43_18:RC:=.seq c43_10 (.seq c43_11 (.seq c43_12 (.cond (tp 29) (.seq c43_13 .ret) .skip)))
def c43_20:RC:=.reg [] [rq 31 (.binOp .add 3 (tp 21) (ki 1) 3) 3,rq 21 (.move (tp 31)) 3]
def c43_23:RC:=.seq (.reg [] [rq 22 (.binOp .lss 3 (tp 21) (tp 20) 3) 0]) (.seq (.cond (tp 22) .skip (.exit 0)) (.seq (.block 1 c43_18) c43_20))
def c43_27:RC:=.reg [] [rq 32 (.move (tp 6)) 64,rq 4 (.assign (tp 32)) 64,rq 5 (.assign (ki 0)) 28]
def c43_28:RC:=.seq c43_27 .ret
def c43_30:RC:=.seq (.seq c43_2 (.cond (tp 17) (.seq c43_3 .ret) .skip)) (.seq (.seq c43_7 (.block 0 (.loop c43_23))) c43_28)
def c43_32:RC:=.seq c43_0 (.seq c43_1 c43_30)
def c44_1:RC:=.reg [] [rq 6 (.move (tp 0)) 22,rq 7 (cb .len #[tp 6] #[22]) 3,rq 8 (.move (ki 0)) 3]
def c44_5:RC:=.reg [] [rq 11 (.move (tp 1)) 3,rq 12 (.move (tp 0)) 22,rq 13 (.move (tp 5)) 3,rq 14 (.indexAddr 22 (tp 12) (tp 13)) 0,rq 15 (.load 3 (tp 14)) 3,rq 16 (.binOp .eql 3 (tp 11) (tp 15) 3) 4]
def c44_8:RC:=.cond (tp 16) (.seq (.reg [] [rq 17 (.move (tp 5)) 3,rq 4 (.assign (tp 17)) 3]) .ret) .skip
def c44_10:RC:=.seq (.reg [] [rq 10 (.move (tp 8)) 3,rq 5 (.assign (tp 10)) 3]) (.seq c44_5 c44_8)
def c44_12:RC:=.reg [] [rq 18 (.binOp .add 3 (tp 8) (ki 1) 3) 3,rq 8 (.move (tp 18)) 3]
def c44_15:RC:=.seq (.reg [] [rq 9 (.binOp .lss 3 (tp 8) (tp 7) 3) 0]) (.seq (.cond (tp 9) .skip (.exit 0)) (.seq (.block 1 c44_10) c44_12))
def c44_20:RC:=.seq (.reg [] [rq 4 (.assign (ki (-1))) 3]) .ret
def c44_22:RC:=.seq (.reg [] [rq 4 (.assign (ki 0)) 3]) (.seq (.seq c44_1 (.block 0 (.loop c44_15))) c44_20)
def c45_1:RC:=.reg [] [rq 10 (.move (tp 1)) 22,rq 11 (cb .len #[tp 10] #[22]) 3,rq 12 (.makeSlice 22 (tp 11) (tp 11)) 22,rq 7 (.assign (tp 12)) 22]
def c45_2:RC:=.reg [] [rq 13 (.move (tp 0)) 64,rq 14 (.nilCheck (tp 13)) 0,rq 15 (.fieldAddr 69 (tp 14) 1) 0,rq 16 (.load 39 (tp 15)) 39,rq 17 (.move (tp 2)) 3,rq 18 (.indexAddr 39 (tp 16) (tp 17)) 0,rq 19 (.load 22 (tp 18)) 22,rq 20 (cb .len #[tp 19] #[22]) 3,rq 21 (.move (ki 0)) 3]
def c45_5:RC:=.reg [] [rq 23 (.move (tp 21)) 3,rq 24 (.indexAddr 22 (tp 19) (tp 21)) 0,rq 25 (.load 3 (tp 24)) 3,rq 8 (.assign (tp 23)) 3,rq 9 (.assign (tp 25)) 3]
def c45_6:RC:=.reg [] [rq 26 (.move (tp 7)) 22,rq 27 (.move (tp 8)) 3,rq 28 (.move (tp 1)) 22,rq 29 (.move (tp 9)) 3,rq 30 (.indexAddr 22 (tp 28) (tp 29)) 0,rq 31 (.load 3 (tp 30)) 3,rq 32 (.indexAddr 22 (tp 26) (tp 27)) 0,rn (.store 3 (tp 32) (tp 31)) 0]
def c45_9:RC:=.reg [] [rq 33 (.binOp .add 3 (tp 21) (ki 1) 3) 3,rq 21 (.move (tp 33)) 3]
def c45_11:RC:=.seq (.cond (tp 22) .skip (.exit 0)) (.seq (.block 1 (.seq c45_5 c45_6)) c45_9)
def c45_13:RC:=.loop (.seq (.reg [] [rq 22 (.binOp .lss 3 (tp 21) (tp 20) 3) 0]) c45_11)
def c45_17:RC:=.seq (.reg [] [rq 34 (.move (tp 7)) 22,rq 6 (.assign (tp 34)) 22]) .ret
def c45_20:RC:=.seq (.reg [] [rq 6 (.assign (.const (.slice none 0 0))) 22]) (.seq c45_1 (.seq (.seq c45_2 (.block 0 c45_13)) c45_17))
def c46_1:RC:=.reg [] [rq 7 (.load 27 (tp 2)) 27,rq 8 (cf 36 #[tp 7] #[27]) 28,rq 5 (.assign (tp 8)) 28]
def c46_2:RC:=.reg [] [rq 9 (.move (tp 5)) 28,rq 10 (.binOp .eql 28 (tp 9) (ki 0) 28) 4,rq 11 (.move (tp 10)) 4,rg 12 (.move (tp 1)) 22 11 true,rg 13 (cb .len #[tp 12] #[22]) 3 11 true,rg 14 (.fieldAddr 27 (tp 2) 0) 0 11 true,rg 15 (.load 3 (tp 14)) 3 11 true,rg 16 (.fieldAddr 27 (tp 2) 1) 0 11 true,rg 17 (.load 3 (tp 16)) 3 11 true,rg 18 (.binOp .mul 3 (tp 15) (tp 17) 3) 3 11 true,rg 19 (.binOp .neq 3 (tp 13) (tp 18) 3) 4 11 true,rq 20 (.pick (tp 11) (tp 19) (kb false)) 4]
def c46_7:RC:=.reg [] [rq 21 (.move (tp 6)) 3,rq 22 (.move (tp 1)) 22,rq 23 (cb .len #[tp 22] #[22]) 3,rq 24 (.binOp .lss 3 (tp 21) (tp 23) 3) 4,rq 25 (.move (tp 24)) 4,rg 26 (.move (tp 5)) 28 25 true,rg 27 (.binOp .eql 28 (tp 26) (ki 0) 28) 4 25 true,rq 28 (.pick (tp 25) (tp 27) (kb false)) 4]
def c46_10:RC:=.reg [0,1,2,3,4,5,6,7,8] [rq 31 (.move (tp 1)) 22,rq 32 (.move (tp 6)) 3,rq 33 (.indexAddr 22 (tp 31) (tp 32)) 0,rq 34 (.load 3 (tp 33)) 3,rq 35 (.fieldAddr 27 (tp 2) 2) 0,rq 36 (.load 3 (tp 35)) 3,rq 37 (.binOp .sub 3 (tp 36) (ki 1) 3) 3,rq 38 (cf 62 #[tp 34,ki 0,tp 37] #[3,3,3]) 4,rq 39 (.unOp .not 4 (tp 38)) 4]
def c46_14:RC:=.block 1 (.seq c46_10 (.cond (tp 39) (.reg [] [rq 5 (.assign (ki 1)) 28]) .skip))
def c46_15:RC:=.reg [] [rq 29 (.move (tp 6)) 3,rq 30 (.binOp .add 3 (tp 29) (ki 1) 3) 3,rq 6 (.assign (tp 30)) 3]
def c46_18:RC:=.loop (.seq (.seq c46_7 (.cond (tp 28) .skip (.exit 0))) (.seq c46_14 c46_15))
def c46_22:RC:=.seq (.reg [] [rq 40 (.move (tp 5)) 28,rq 4 (.assign (tp 40)) 28]) .ret
def c46_23:RC:=.seq (.seq (.reg [] [rq 6 (.assign (ki 0)) 3]) (.block 0 c46_18)) c46_22
def c46_24:RC:=.seq (.seq c46_2 (.cond (tp 20) (.reg [] [rq 5 (.assign (ki 5)) 28]) .skip)) c46_23
def c46_26:RC:=.seq (.reg [] [rq 2 (.box 27 (tp 0)) 0,rq 4 (.assign (ki 0)) 28]) (.seq c46_1 c46_24)
def c47_2:RC:=.reg [] [rq 6 (.move (tp 5)) 3,rq 7 (.move (tp 0)) 22,rq 8 (cb .len #[tp 7] #[22]) 3,rq 9 (.binOp .lss 3 (tp 6) (tp 8) 3) 4]
def c47_5:RC:=.reg [] [rq 12 (.move (tp 0)) 22,rq 13 (.move (tp 5)) 3,rq 14 (.indexAddr 22 (tp 12) (tp 13)) 0,rq 15 (.load 3 (tp 14)) 3,rq 16 (.move (tp 1)) 3,rq 17 (.binOp .eql 3 (tp 15) (tp 16) 3) 4]
def c47_9:RC:=.seq c47_5 (.cond (tp 17) (.seq (.reg [] [rq 4 (.assign (kb true)) 4]) .ret) .skip)
def c47_11:RC:=.reg [] [rq 10 (.move (tp 5)) 3,rq 11 (.binOp .add 3 (tp 10) (ki 1) 3) 3,rq 5 (.assign (tp 11)) 3]
def c47_13:RC:=.seq (.seq c47_2 (.cond (tp 9) .skip (.exit 0))) (.seq (.block 1 c47_9) c47_11)
def c47_18:RC:=.seq (.reg [] [rq 4 (.assign (kb false)) 4]) .ret
def c47_19:RC:=.seq (.seq (.reg [] [rq 5 (.assign (ki 0)) 3]) (.block 0 (.loop c47_13))) c47_18
def c47_20:RC:=.seq (.reg [] [rq 4 (.assign (kb false)) 4]) c47_19
def c49_1:RC:=.reg [] [rq 6 (.move (tp 0)) 22,rq 7 (cb .len #[tp 6] #[22]) 3,rq 8 (.move (tp 1)) 22,rq 9 (cb .len #[tp 8] #[22]) 3,rq 10 (.binOp .neq 3 (tp 7) (tp 9) 3) 4]
def c49_4:RC:=.cond (tp 10) (.seq (.reg [] [rq 4 (.assign (kb false)) 4]) .ret) .skip
def c49_6:RC:=.reg [] [rq 11 (.move (tp 0)) 22,rq 12 (cb .len #[tp 11] #[22]) 3,rq 13 (.move (ki 0)) 3]
def c49_10:RC:=.reg [0,1,2,3,4,5,6,7,8] [rq 16 (.move (tp 0)) 22,rq 17 (.move (tp 5)) 3,rq 18 (.indexAddr 22 (tp 16) (tp 17)) 0,rq 19 (.load 3 (tp 18)) 3,rq 20 (.move (tp 1)) 22,rq 21 (.move (tp 5)) 3,rq 22 (.indexAddr 22 (tp 20) (tp 21)) 0,rq 23 (.load 3 (tp 22)) 3,rq 24 (.binOp .neq 3 (tp 19) (tp 23) 3) 4]
def c49_13:RC:=.cond (tp 24) (.seq (.reg [] [rq 4 (.assign (kb false)) 4]) .ret) .skip
def c49_15:RC:=.seq (.reg [] [rq 15 (.move (tp 13)) 3,rq 5 (.assign (tp 15)) 3]) (.seq c49_10 c49_13)
def c49_17:RC:=.reg [] [rq 25 (.binOp .add 3 (tp 13) (ki 1) 3) 3,rq 13 (.move (tp 25)) 3]
def c49_20:RC:=.seq (.reg [] [rq 14 (.binOp .lss 3 (tp 13) (tp 12) 3) 0]) (.seq (.cond (tp 14) .skip (.exit 0)) (.seq (.block 1 c49_15) c49_17))
def c49_25:RC:=.seq (.reg [] [rq 4 (.assign (kb true)) 4]) .ret
def c49_27:RC:=.seq (.seq c49_1 c49_4) (.seq (.seq c49_6 (.block 0 (.loop c49_20))) c49_25)
def c49_28:RC:=.seq (.reg [] [rq 4 (.assign (kb false)) 4]) c49_27
def c50_2:RC:=.reg [] [rq 6 (.move (tp 5)) 3,rq 7 (.move (tp 0)) 22,rq 8 (cb .len #[tp 7] #[22]) 3,rq 9 (.binOp .lss 3 (tp 6) (tp 8) 3) 4]
def c50_5:RC:=.reg [0,1,2,3,4,5,6,7,8] [rq 12 (.move (tp 0)) 22,rq 13 (.move (tp 5)) 3,rq 14 (.indexAddr 22 (tp 12) (tp 13)) 0,rq 15 (.load 3 (tp 14)) 3,rq 16 (.move (tp 1)) 22,rq 17 (.move (tp 5)) 3,rq 18 (.indexAddr 22 (tp 16) (tp 17)) 0,rq 19 (.load 3 (tp 18)) 3,rq 20 (.binOp .neq 3 (tp 15) (tp 19) 3) 4]
def c50_8:RC:=.cond (tp 20) (.seq (.reg [] [rq 4 (.assign (kb false)) 4]) .ret) .skip
def c50_11:RC:=.reg [] [rq 10 (.move (tp 5)) 3,rq 11 (.binOp .add 3 (tp 10) (ki 1) 3) 3,rq 5 (.assign (tp 11)) 3]
def c50_13:RC:=.seq (.seq c50_2 (.cond (tp 9) .skip (.exit 0))) (.seq (.block 1 (.seq c50_5 c50_8)) c50_11)
def c50_18:RC:=.seq (.reg [] [rq 4 (.assign (kb true)) 4]) .ret
def c50_19:RC:=.seq (.seq (.reg [] [rq 5 (.assign (ki 0)) 3]) (.block 0 (.loop c50_13))) c50_18
def c50_20:RC:=.seq (.reg [] [rq 4 (.assign (kb false)) 4]) c50_19
def c51_2:RC:=.reg [] [rq 10 (.move (tp 0)) 64,rq 11 (.nilCheck (tp 10)) 0,rq 12 (.fieldAddr 69 (tp 11) 1) 0,rq 13 (.load 39 (tp 12)) 39,rq 14 (.move (tp 2)) 3,rq 15 (.indexAddr 39 (tp 13) (tp 14)) 0,rq 16 (.load 22 (tp 15)) 22,rq 17 (cb .len #[tp 16] #[22]) 3,rq 18 (.move (ki 0)) 3]
def c51_5:RC:=.reg [] [rq 20 (.move (tp 18)) 3,rq 21 (.indexAddr 22 (tp 16) (tp 18)) 0,rq 22 (.load 3 (tp 21)) 3,rq 8 (.assign (tp 20)) 3,rq 9 (.assign (tp 22)) 3]
def c51_6:RC:=.reg [0,1,2,3,4,5,6,7,8] [rq 23 (.move (tp 1)) 22,rq 24 (.move (tp 9)) 3,rq 25 (.indexAddr 22 (tp 23) (tp 24)) 0,rq 26 (.load 3 (tp 25)) 3,rq 27 (.move (tp 1)) 22,rq 28 (.move (tp 8)) 3,rq 29 (.indexAddr 22 (tp 27) (tp 28)) 0,rq 30 (.load 3 (tp 29)) 3,rq 31 (.binOp .neq 3 (tp 26) (tp 30) 3) 4]
def c51_7:RC:=.reg [] [rq 32 (.move (tp 7)) 74,rq 33 (.move (tp 8)) 3,rq 34 (.binOp .shl 74 (.const (.int .u16 1)) (tp 33) 3) 74,rq 35 (.binOp .or 74 (tp 32) (tp 34) 74) 74,rq 7 (.assign (tp 35)) 74]
def c51_12:RC:=.reg [] [rq 36 (.binOp .add 3 (tp 18) (ki 1) 3) 3,rq 18 (.move (tp 36)) 3]
def c51_13:RC:=.seq (.block 1 (.seq c51_5 (.seq c51_6 (.cond (tp 31) c51_7 .skip)))) c51_12
def c51_15:RC:=.seq (.reg [] [rq 19 (.binOp .lss 3 (tp 18) (tp 17) 3) 0]) (.seq (.cond (tp 19) .skip (.exit 0)) c51_13)
def c51_20:RC:=.seq (.reg [] [rq 37 (.move (tp 7)) 74,rq 6 (.assign (tp 37)) 74]) .ret
def c51_22:RC:=.seq (.reg [] [rq 7 (.assign (.const (.int .u16 0))) 74]) (.seq (.seq c51_2 (.block 0 (.loop c51_15))) c51_20)
def c51_23:RC:=.seq (.reg [] [rq 6 (.assign (.const (.int .u16 0))) 74]) c51_22
def c55_0:RC:=.reg [] [rq 1 (.box 24 (tp 0)) 0,rq 2 (.assign (.const (.pointer none))) 64,rq 3 (.assign (ki 0)) 28]
def c55_1:RC:=.reg [] [rq 14 (.fieldAddr 24 (tp 1) 0) 0,rq 15 (.load 3 (tp 14)) 3,rq 16 (cf 59 #[ki 1,tp 15,ki 4] #[3,3,3]) 4,rq 17 (.unOp .not 4 (tp 16)) 4,rq 18 (.move (tp 17)) 4,rg 19 (.fieldAddr 24 (tp 1) 1) 0 18 false,rg 20 (.load 3 (tp 19)) 3 18 false,rg 21 (cf 59 #[ki 1,tp 20,ki 4] #[3,3,3]) 4 18 false,rg 22 (.unOp .not 4 (tp 21)) 4 18 false,rq 23 (.pick (tp 18) (kb true) (tp 22)) 4,rq 24 (.move (tp 23)) 4,rg 25 (.fieldAddr 24 (tp 1) 2) 0 24 false,rg 26 (.load 3 (tp 25)) 3 24 false,rg 27 (cf 59 #[ki 1,tp 26,ki 4] #[3,3,3]) 4 24 false,rg 28 (.unOp .not 4 (tp 27)) 4 24 false,rq 29 (.pick (tp 24) (kb true) (tp 28)) 4]
def c55_2:RC:=.reg [] [rq 2 (.assign (.const (.pointer none))) 64,rq 3 (.assign (ki 1)) 28]
def c55_6:RC:=.reg [] [rq 30 (.load 24 (tp 1)) 24,rq 31 (.build 69 #[(0,(tp 30))]) 69,rq 32 (.box 69 (tp 31)) 64,rq 4 (.assign (tp 32)) 64]
def c55_9:RC:=.reg [] [rq 33 (.fieldAddr 24 (tp 1) 3) 0,rq 34 (.load 22 (tp 33)) 22,rq 35 (cb .len #[tp 34] #[22]) 3,rq 36 (.move (ki 0)) 3]
def c55_12:RC:=.reg [] [rq 38 (.indexAddr 22 (tp 34) (tp 36)) 0,rq 39 (.load 3 (tp 38)) 3,rq 8 (.assign (tp 39)) 3]
def c55_13:RC:=.reg [] [rq 41 (.move (tp 8)) 3,rq 42 (cf 59 #[ki 0,tp 41,ki 7] #[3,3,3]) 4,rq 43 (.unOp .not 4 (tp 42)) 4,rq 40 (.assign (tp 43)) 4]
def c55_14:RC:=.reg [] [rq 2 (.assign (.const (.pointer none))) 64,rq 3 (.assign (ki 2)) 28]
def c55_16:RC:=.reg [] [rq 45 (.fieldAddr 24 (tp 1) 0) 0,rq 46 (.load 3 (tp 45)) 3,rq 47 (.fieldAddr 24 (tp 1) 1) 0,rq 48 (.load 3 (tp 47)) 3,rq 49 (.binOp .neq 3 (tp 46) (tp 48) 3) 4,rq 50 (.move (tp 49)) 4,rg 51 (.move (tp 8)) 3 50 true,rg 52 (cf 75 #[tp 51] #[3]) 99 50 true,rg 53 (.field 99 (tp 52) 0) 3 50 true,rg 54 (.binOp .rem 3 (tp 53) (ki 2) 3) 3 50 true,rg 55 (.binOp .eql 3 (tp 54) (ki 1) 3) 4 50 true,rq 56 (.pick (tp 50) (tp 55) (kb false)) 4,rq 44 (.assign (tp 56)) 4]
def c55_17:RC:=.reg [] [rq 2 (.assign (.const (.pointer none))) 64,rq 3 (.assign (ki 8)) 28]
def c55_19:RC:=.reg [] [rq 58 (.move (tp 8)) 3,rq 59 (.move (tp 5)) 3,rq 60 (.binOp .leq 3 (tp 58) (tp 59) 3) 4,rq 57 (.assign (tp 60)) 4]
def c55_20:RC:=.reg [] [rq 2 (.assign (.const (.pointer none))) 64,rq 3 (.assign (ki 7)) 28]
def c55_24:RC:=.cond (tp 44) (.seq c55_17 .ret) (.seq c55_19 (.cond (tp 57) (.seq c55_20 .ret) .skip))
def c55_28:RC:=.block 2 (.seq c55_13 (.cond (tp 40) (.seq c55_14 .ret) (.seq c55_16 c55_24)))
def c55_30:RC:=.reg [] [rq 62 (.move (tp 6)) 5,rq 63 (.move (tp 8)) 3,rq 64 (.binOp .shl 5 (.const (.int .u8 1)) (tp 63) 3) 5,rq 65 (.binOp .or 5 (tp 62) (tp 64) 5) 5,rq 6 (.assign (tp 65)) 5]
def c55_31:RC:=.reg [0,1,2,3,4,5,6,7,8,9,10,11,12] [rq 66 (.move (tp 4)) 64,rq 67 (.move (tp 4)) 64,rq 68 (.nilCheck (tp 67)) 0,rq 69 (.fieldAddr 69 (tp 68) 1) 0,rq 70 (.load 39 (tp 69)) 39,rq 71 (.load 24 (tp 1)) 24,rq 72 (.move (tp 8)) 3,⟨(some 73),cf 84 #[tp 71,tp 72] #[24,3],22,none,[(tp 69)]⟩,rq 74 (.buildSlice 39 1 #[(0,(tp 73))]) 39,rq 75 (cb .append #[tp 70,tp 74] #[39,39]) 39,rq 76 (.nilCheck (tp 66)) 0,rq 77 (.fieldAddr 69 (tp 76) 1) 0,rn (.store 39 (tp 77) (tp 75)) 0]
def c55_33:RC:=.seq (.reg [] [rq 61 (.move (tp 8)) 3,rq 5 (.assign (tp 61)) 3]) (.seq c55_30 c55_31)
def c55_37:RC:=.reg [] [rq 78 (.binOp .add 3 (tp 36) (ki 1) 3) 3,rq 36 (.move (tp 78)) 3]
def c55_39:RC:=.seq (.cond (tp 37) .skip (.exit 0)) (.seq (.block 1 (.seq c55_12 (.seq c55_28 c55_33))) c55_37)
def c55_41:RC:=.loop (.seq (.reg [] [rq 37 (.binOp .lss 3 (tp 36) (tp 35) 3) 0]) c55_39)
def c55_44:RC:=.reg [] [rq 79 (.move (tp 6)) 5,rq 80 (.binOp .and 5 (tp 79) (.const (.int .u8 1)) 5) 5,rq 81 (.binOp .eql 5 (tp 80) (.const (.int .u8 0)) 5) 4]
def c55_45:RC:=.reg [] [rq 2 (.assign (.const (.pointer none))) 64,rq 3 (.assign (ki 21)) 28]
def c55_49:RC:=.reg [] [rq 82 (.fieldAddr 24 (tp 1) 3) 0,rq 83 (.load 22 (tp 82)) 22,rq 84 (cb .len #[tp 83] #[22]) 3,rq 85 (.move (ki 0)) 3]
def c55_52:RC:=.reg [] [rq 87 (.indexAddr 22 (tp 83) (tp 85)) 0,rq 88 (.load 3 (tp 87)) 3,rq 10 (.assign (tp 88)) 3]
def c55_53:RC:=.reg [] [rq 89 (.fieldAddr 24 (tp 1) 3) 0,rq 90 (.load 22 (tp 89)) 22,rq 91 (cb .len #[tp 90] #[22]) 3,rq 92 (.move (ki 0)) 3]
def c55_56:RC:=.reg [] [rq 94 (.indexAddr 22 (tp 90) (tp 92)) 0,rq 95 (.load 3 (tp 94)) 3,rq 12 (.assign (tp 95)) 3]
def c55_57:RC:=.reg [] [rq 96 (.move (tp 10)) 3,rq 97 (cf 75 #[tp 96] #[3]) 99,rq 98 (.move (tp 12)) 3,rq 99 (cf 75 #[tp 98] #[3]) 99,rq 100 (cf 76 #[tp 97,tp 99] #[99,99]) 99,rq 101 (cf 77 #[tp 100] #[99]) 3,rq 13 (.assign (tp 101)) 3]
def c55_58:RC:=.reg [] [rq 102 (.move (tp 6)) 5,rq 103 (.move (tp 13)) 3,rq 104 (.binOp .shr 5 (tp 102) (tp 103) 3) 5,rq 105 (.binOp .and 5 (tp 104) (.const (.int .u8 1)) 5) 5,rq 106 (.binOp .eql 5 (tp 105) (.const (.int .u8 0)) 5) 4]
def c55_59:RC:=.reg [] [rq 2 (.assign (.const (.pointer none))) 64,rq 3 (.assign (ki 21)) 28]
def c55_64:RC:=.seq c55_56 (.seq c55_57 (.seq c55_58 (.cond (tp 106) (.seq c55_59 .ret) .skip)))
def c55_66:RC:=.reg [] [rq 107 (.binOp .add 3 (tp 92) (ki 1) 3) 3,rq 92 (.move (tp 107)) 3]
def c55_69:RC:=.seq (.reg [] [rq 93 (.binOp .lss 3 (tp 92) (tp 91) 3) 0]) (.seq (.cond (tp 93) .skip (.exit 5)) (.seq (.block 6 c55_64) c55_66))
def c55_75:RC:=.reg [] [rq 108 (.binOp .add 3 (tp 85) (ki 1) 3) 3,rq 85 (.move (tp 108)) 3]
def c55_76:RC:=.seq (.block 4 (.seq c55_52 (.seq c55_53 (.block 5 (.loop c55_69))))) c55_75
def c55_78:RC:=.seq (.reg [] [rq 86 (.binOp .lss 3 (tp 85) (tp 84) 3) 0]) (.seq (.cond (tp 86) .skip (.exit 3)) c55_76)
def c55_82:RC:=.reg [] [rq 109 (.move (tp 4)) 64,rq 2 (.assign (tp 109)) 64,rq 3 (.assign (ki 0)) 28]
def c55_83:RC:=.seq c55_82 .ret
def c55_85:RC:=.seq (.seq c55_44 (.cond (tp 81) (.seq c55_45 .ret) .skip)) (.seq (.seq c55_49 (.block 3 (.loop c55_78))) c55_83)
def c55_87:RC:=.seq (.reg [] [rq 6 (.assign (.const (.int .u8 0))) 5]) (.seq (.seq c55_9 (.block 0 c55_41)) c55_85)
def c55_90:RC:=.seq (.seq c55_1 (.cond (tp 29) (.seq c55_2 .ret) .skip)) (.seq c55_6 (.seq (.reg [] [rq 5 (.assign (ki (-1))) 3]) c55_87))
def c55_91:RC:=.seq c55_0 c55_90
def c59_1:RC:=.reg [] [rq 7 (.move (tp 0)) 3,rq 8 (.move (tp 1)) 3,rq 9 (.binOp .leq 3 (tp 7) (tp 8) 3) 4,rq 10 (.move (tp 9)) 4,rg 11 (.move (tp 1)) 3 10 true,rg 12 (.move (tp 2)) 3 10 true,rg 13 (.binOp .leq 3 (tp 11) (tp 12) 3) 4 10 true,rq 14 (.pick (tp 10) (tp 13) (kb false)) 4,rq 6 (.assign (tp 14)) 4]
def c59_3:RC:=.seq (.reg [] [rq 6 (.assign (kb false)) 4]) (.seq c59_1 .ret)
def c62_1:RC:=.reg [] [rq 7 (.move (tp 0)) 3,rq 8 (.move (tp 1)) 3,rq 9 (.binOp .geq 3 (tp 7) (tp 8) 3) 4,rq 10 (.move (tp 9)) 4,rg 11 (.move (tp 0)) 3 10 true,rg 12 (.move (tp 2)) 3 10 true,rg 13 (.binOp .leq 3 (tp 11) (tp 12) 3) 4 10 true,rq 14 (.pick (tp 10) (tp 13) (kb false)) 4,rq 6 (.assign (tp 14)) 4]
def c62_3:RC:=.seq (.reg [] [rq 6 (.assign (kb false)) 4]) (.seq c62_1 .ret)
def c75_2:RC:=.reg [] [rq 5 (.binOp .eql 3 (tp 3) (ki 4) 3) 4,rq 4 (.assign (tp 5)) 4]
def c75_3:RC:=.reg [] [rq 6 (.build 99 #[(0,(ki 0)),(1,(kb true))]) 99,rn (.store 99 (tp 2) (tp 6)) 0]
def c75_5:RC:=.reg [] [rq 8 (.binOp .eql 3 (tp 3) (ki 5) 3) 4,rq 7 (.assign (tp 8)) 4]
def c75_6:RC:=.reg [] [rq 9 (.build 99 #[(0,(ki 2)),(1,(kb true))]) 99,rn (.store 99 (tp 2) (tp 9)) 0]
def c75_8:RC:=.reg [] [rq 11 (.binOp .eql 3 (tp 3) (ki 6) 3) 4,rq 10 (.assign (tp 11)) 4]
def c75_9:RC:=.reg [] [rq 12 (.build 99 #[(0,(ki 1)),(1,(kb true))]) 99,rn (.store 99 (tp 2) (tp 12)) 0]
def c75_11:RC:=.reg [] [rq 14 (.binOp .eql 3 (tp 3) (ki 7) 3) 4,rq 13 (.assign (tp 14)) 4]
def c75_12:RC:=.reg [] [rq 15 (.build 99 #[(0,(ki 3)),(1,(kb true))]) 99,rn (.store 99 (tp 2) (tp 15)) 0]
def c75_16:RC:=.cond (tp 10) (.seq c75_9 .ret) (.seq c75_11 (.cond (tp 13) (.seq c75_12 .ret) .skip))
def c75_20:RC:=.cond (tp 4) (.seq c75_3 .ret) (.seq c75_5 (.cond (tp 7) (.seq c75_6 .ret) (.seq c75_8 c75_16)))
def c75_24:RC:=.reg [] [rq 16 (.move (tp 0)) 3,rq 17 (.build 99 #[(0,(tp 16)),(1,(kb false))]) 99,rn (.store 99 (tp 2) (tp 17)) 0]
def c75_26:RC:=.seq (.seq (.reg [] [rq 3 (.move (tp 0)) 3]) (.block 0 (.seq c75_2 c75_20))) (.seq c75_24 .ret)
def c75_27:RC:=.seq (.reg [] [rq 2 (.alloc 99) 0]) c75_26
def c76_0:RC:=.reg [] [rq 2 (.box 99 (tp 0)) 0,rq 3 (.box 99 (tp 1)) 0,rq 4 (.alloc 99) 0]
def c76_2:RC:=.reg [] [rq 7 (.fieldAddr 99 (tp 3) 0) 0,rq 8 (.load 3 (tp 7)) 3,rq 9 (.unOp .neg 3 (tp 8)) 3,rq 10 (.fieldAddr 99 (tp 3) 0) 0,rn (.store 3 (tp 10) (tp 9)) 0]
def c76_4:RC:=.seq (.reg [] [rq 5 (.fieldAddr 99 (tp 2) 1) 0,rq 6 (.load 4 (tp 5)) 4]) (.cond (tp 6) c76_2 .skip)
def c76_5:RC:=.reg [] [rq 11 (.fieldAddr 99 (tp 2) 0) 0,rq 12 (.load 3 (tp 11)) 3,rq 13 (.fieldAddr 99 (tp 3) 0) 0,rq 14 (.load 3 (tp 13)) 3,rq 15 (.binOp .add 3 (tp 12) (tp 14) 3) 3,rq 16 (.fieldAddr 99 (tp 2) 1) 0,rq 17 (.load 4 (tp 16)) 4,rq 18 (.fieldAddr 99 (tp 3) 1) 0,rq 19 (.load 4 (tp 18)) 4,rq 20 (.binOp .neq 4 (tp 17) (tp 19) 4) 4,rq 21 (.build 99 #[(0,(tp 15)),(1,(tp 20))]) 99,rn (.store 99 (tp 4) (tp 21)) 0]
def c76_6:RC:=.seq c76_5 .ret
def c76_8:RC:=.seq c76_0 (.seq c76_4 c76_6)
def c77_1:RC:=.reg [] [rq 4 (.fieldAddr 99 (tp 1) 0) 0,rq 5 (.load 3 (tp 4)) 3,rq 6 (.binOp .add 3 (tp 5) (ki 4) 3) 3,rq 7 (.binOp .rem 3 (tp 6) (ki 4) 3) 3,rq 3 (.assign (tp 7)) 3]
def c77_2:RC:=.reg [] [rq 9 (.fieldAddr 99 (tp 1) 1) 0,rq 10 (.load 4 (tp 9)) 4,rq 11 (.unOp .not 4 (tp 10)) 4,rq 8 (.assign (tp 11)) 4]
def c77_5:RC:=.reg [] [rq 14 (.move (tp 3)) 3,rq 15 (.binOp .eql 3 (tp 14) (ki 0) 3) 4,rq 13 (.assign (tp 15)) 4]
def c77_8:RC:=.reg [] [rq 17 (.move (tp 3)) 3,rq 18 (.binOp .eql 3 (tp 17) (ki 1) 3) 4,rq 16 (.assign (tp 18)) 4]
def c77_11:RC:=.reg [] [rq 20 (.move (tp 3)) 3,rq 21 (.binOp .eql 3 (tp 20) (ki 2) 3) 4,rq 19 (.assign (tp 21)) 4]
def c77_15:RC:=.seq c77_11 (.cond (tp 19) (.seq (.reg [] [rq 2 (.assign (ki 5)) 3]) .ret) .skip)
def c77_17:RC:=.seq c77_8 (.cond (tp 16) (.seq (.reg [] [rq 2 (.assign (ki 6)) 3]) .ret) c77_15)
def c77_19:RC:=.seq c77_5 (.cond (tp 13) (.seq (.reg [] [rq 2 (.assign (ki 4)) 3]) .ret) c77_17)
def c77_20:RC:=.cond (tp 8) (.seq (.reg [] [rq 12 (.move (tp 3)) 3,rq 2 (.assign (tp 12)) 3]) .ret) c77_19
def c77_25:RC:=.seq (.block 0 (.seq c77_2 c77_20)) (.seq (.reg [] [rq 2 (.assign (ki 7)) 3]) .ret)
def c77_27:RC:=.seq (.reg [] [rq 1 (.box 99 (tp 0)) 0,rq 2 (.assign (ki 0)) 3]) (.seq c77_1 c77_25)
def c80_1:RC:=.reg [0,1,2,3,4,5,6,7,8,9,10,11,12,13,14] [rq 6 (.move (tp 1)) 22,rq 7 (cb .len #[tp 6] #[22]) 3,rq 8 (.move (tp 0)) 64,rq 9 (.nilCheck (tp 8)) 0,rq 10 (.fieldAddr 69 (tp 9) 0) 0,rq 11 (.fieldAddr 24 (tp 10) 0) 0,rq 12 (.load 3 (tp 11)) 3,rq 13 (.move (tp 0)) 64,rq 14 (.nilCheck (tp 13)) 0,rq 15 (.fieldAddr 69 (tp 14) 0) 0,rq 16 (.fieldAddr 24 (tp 15) 1) 0,rq 17 (.load 3 (tp 16)) 3,rq 18 (.binOp .mul 3 (tp 12) (tp 17) 3) 3,rq 19 (.binOp .neq 3 (tp 7) (tp 18) 3) 4,rq 5 (.assign (tp 19)) 4]
def c80_4:RC:=.reg [0,1,2,3,4,6,7,8,9,10,5,11,12,13] [rq 21 (.move (tp 1)) 22,rq 22 (cf 91 #[tp 21] #[22]) 3,rq 23 (.binOp .lss 3 (tp 22) (ki 0) 3) 4,rq 24 (.move (tp 23)) 4,rg 25 (.move (tp 1)) 22 24 false,rg 27 (.move (tp 0)) 64 24 false,rg 28 (.nilCheck (tp 27)) 0 24 false,rg 29 (.fieldAddr 69 (tp 28) 0) 0 24 false,rg 30 (.fieldAddr 24 (tp 29) 2) 0 24 false,rg 31 (.load 3 (tp 30)) 3 24 false,⟨(some 26),cf 92 #[tp 25] #[22],3,(some ((some 24),false)),[(tp 30)]⟩,rg 32 (.binOp .geq 3 (tp 26) (tp 31) 3) 4 24 false,rq 33 (.pick (tp 24) (kb true) (tp 32)) 4,rq 20 (.assign (tp 33)) 4]
def c80_8:RC:=.seq c80_4 (.cond (tp 20) (.seq (.reg [] [rq 4 (.assign (ki 1)) 28]) .ret) .skip)
def c80_10:RC:=.seq c80_1 (.cond (tp 5) (.seq (.reg [] [rq 4 (.assign (ki 5)) 28]) .ret) c80_8)
def c80_14:RC:=.seq (.block 0 c80_10) (.seq (.reg [] [rq 4 (.assign (ki 0)) 28]) .ret)
def c80_15:RC:=.seq (.reg [] [rq 4 (.assign (ki 0)) 28]) c80_14
def c81_1:RC:=.reg [0,1,2,3,4,5,6,7,8,9,10,11,12,13,14,15,16,17,18] [rq 10 (.fieldAddr 27 (tp 3) 0) 0,rq 11 (.load 3 (tp 10)) 3,rq 12 (.fieldAddr 27 (tp 3) 1) 0,rq 13 (.load 3 (tp 12)) 3,rq 14 (.move (tp 1)) 3,rq 15 (.move (tp 2)) 3,rq 16 (.fieldAddr 27 (tp 3) 1) 0,rq 17 (.load 3 (tp 16)) 3,rq 18 (.binOp .quo 3 (tp 15) (tp 17) 3) 3,rq 19 (.move (tp 2)) 3,rq 20 (.fieldAddr 27 (tp 3) 1) 0,rq 21 (.load 3 (tp 20)) 3,rq 22 (.binOp .rem 3 (tp 19) (tp 21) 3) 3,rq 23 (cf 93 #[tp 11,tp 13,tp 14,tp 18,tp 22] #[3,3,3,3,3]) 116,rq 9 (.move (tp 23)) 116,rq 24 (.extract (tp 9) 0) 3,rq 25 (.extract (tp 9) 1) 3,rq 7 (.assign (tp 24)) 3,rq 8 (.assign (tp 25)) 3]
def c81_2:RC:=.reg [] [rq 26 (.move (tp 7)) 3,rq 27 (.fieldAddr 27 (tp 3) 1) 0,rq 28 (.load 3 (tp 27)) 3,rq 29 (.binOp .mul 3 (tp 26) (tp 28) 3) 3,rq 30 (.move (tp 8)) 3,rq 31 (.binOp .add 3 (tp 29) (tp 30) 3) 3,rq 6 (.assign (tp 31)) 3]
def c81_5:RC:=.seq (.reg [] [rq 3 (.box 27 (tp 0)) 0,rq 6 (.assign (ki 0)) 3]) (.seq c81_1 (.seq c81_2 .ret))
def c91_1:RC:=.reg [] [rq 5 (.move (tp 0)) 22,rq 6 (cb .len #[tp 5] #[22]) 3,rq 7 (.binOp .lss 3 (tp 6) (ki 1) 3) 4]
def c91_2:RC:=.reg [] [rq 8 (.makeInterface 9 (.const (.string ⟨#[115,108,105,99,101,115,46,77,105,110,58,32,101,109,112,116,121,32,108,105,115,116]⟩))) 20,rn (.panic (tp 8)) 0]
def c91_5:RC:=.reg [] [rq 9 (.move (tp 0)) 22,rq 10 (.indexAddr 22 (tp 9) (ki 0)) 0,rq 11 (.load 3 (tp 10)) 3,rq 3 (.assign (tp 11)) 3]
def c91_7:RC:=.reg [] [rq 12 (.move (tp 4)) 3,rq 13 (.move (tp 0)) 22,rq 14 (cb .len #[tp 13] #[22]) 3,rq 15 (.binOp .lss 3 (tp 12) (tp 14) 3) 4]
def c91_10:RC:=.reg [] [rq 18 (.move (tp 3)) 3,rq 19 (.move (tp 0)) 22,rq 20 (.move (tp 4)) 3,rq 21 (.indexAddr 22 (tp 19) (tp 20)) 0,rq 22 (.load 3 (tp 21)) 3,rq 23 (cb .min #[tp 18,tp 22] #[3,3]) 3,rq 3 (.assign (tp 23)) 3]
def c91_12:RC:=.reg [] [rq 16 (.move (tp 4)) 3,rq 17 (.binOp .add 3 (tp 16) (ki 1) 3) 3,rq 4 (.assign (tp 17)) 3]
def c91_14:RC:=.seq (.seq c91_7 (.cond (tp 15) .skip (.exit 0))) (.seq (.block 1 c91_10) c91_12)
def c91_19:RC:=.seq (.reg [] [rq 24 (.move (tp 3)) 3,rq 2 (.assign (tp 24)) 3]) .ret
def c91_20:RC:=.seq (.seq (.reg [] [rq 4 (.assign (ki 1)) 3]) (.block 0 (.loop c91_14))) c91_19
def c91_21:RC:=.seq c91_5 c91_20
def c91_23:RC:=.seq (.reg [] [rq 2 (.assign (ki 0)) 3]) (.seq (.seq c91_1 (.cond (tp 7) c91_2 .skip)) c91_21)
def c92_1:RC:=.reg [] [rq 5 (.move (tp 0)) 22,rq 6 (cb .len #[tp 5] #[22]) 3,rq 7 (.binOp .lss 3 (tp 6) (ki 1) 3) 4]
def c92_2:RC:=.reg [] [rq 8 (.makeInterface 9 (.const (.string ⟨#[115,108,105,99,101,115,46,77,97,120,58,32,101,109,112,116,121,32,108,105,115,116]⟩))) 20,rn (.panic (tp 8)) 0]
def c92_5:RC:=.reg [] [rq 9 (.move (tp 0)) 22,rq 10 (.indexAddr 22 (tp 9) (ki 0)) 0,rq 11 (.load 3 (tp 10)) 3,rq 3 (.assign (tp 11)) 3]
def c92_7:RC:=.reg [] [rq 12 (.move (tp 4)) 3,rq 13 (.move (tp 0)) 22,rq 14 (cb .len #[tp 13] #[22]) 3,rq 15 (.binOp .lss 3 (tp 12) (tp 14) 3) 4]
def c92_10:RC:=.reg [] [rq 18 (.move (tp 3)) 3,rq 19 (.move (tp 0)) 22,rq 20 (.move (tp 4)) 3,rq 21 (.indexAddr 22 (tp 19) (tp 20)) 0,rq 22 (.load 3 (tp 21)) 3,rq 23 (cb .max #[tp 18,tp 22] #[3,3]) 3,rq 3 (.assign (tp 23)) 3]
def c92_12:RC:=.reg [] [rq 16 (.move (tp 4)) 3,rq 17 (.binOp .add 3 (tp 16) (ki 1) 3) 3,rq 4 (.assign (tp 17)) 3]
def c92_14:RC:=.seq (.seq c92_7 (.cond (tp 15) .skip (.exit 0))) (.seq (.block 1 c92_10) c92_12)
def c92_19:RC:=.seq (.reg [] [rq 24 (.move (tp 3)) 3,rq 2 (.assign (tp 24)) 3]) .ret
def c92_20:RC:=.seq (.seq (.reg [] [rq 4 (.assign (ki 1)) 3]) (.block 0 (.loop c92_14))) c92_19
def c92_21:RC:=.seq c92_5 c92_20
def c92_23:RC:=.seq (.reg [] [rq 2 (.assign (ki 0)) 3]) (.seq (.seq c92_1 (.cond (tp 7) c92_2 .skip)) c92_21)
def c93_2:RC:=.reg [] [rq 14 (.binOp .eql 3 (tp 12) (ki 1) 3) 4,rq 13 (.assign (tp 14)) 4]
def c93_3:RC:=.reg [] [rq 15 (.move (tp 0)) 3,rq 16 (.binOp .sub 3 (tp 15) (ki 1) 3) 3,rq 17 (.move (tp 4)) 3,rq 18 (.binOp .sub 3 (tp 16) (tp 17) 3) 3,rq 19 (.move (tp 3)) 3,rq 10 (.assign (tp 18)) 3,rq 11 (.assign (tp 19)) 3]
def c93_5:RC:=.reg [] [rq 21 (.binOp .eql 3 (tp 12) (ki 2) 3) 4,rq 20 (.assign (tp 21)) 4]
def c93_6:RC:=.reg [] [rq 22 (.move (tp 0)) 3,rq 23 (.binOp .sub 3 (tp 22) (ki 1) 3) 3,rq 24 (.move (tp 3)) 3,rq 25 (.binOp .sub 3 (tp 23) (tp 24) 3) 3,rq 26 (.move (tp 1)) 3,rq 27 (.binOp .sub 3 (tp 26) (ki 1) 3) 3,rq 28 (.move (tp 4)) 3,rq 29 (.binOp .sub 3 (tp 27) (tp 28) 3) 3,rq 10 (.assign (tp 25)) 3,rq 11 (.assign (tp 29)) 3]
def c93_8:RC:=.reg [] [rq 31 (.binOp .eql 3 (tp 12) (ki 3) 3) 4,rq 30 (.assign (tp 31)) 4]
def c93_9:RC:=.reg [] [rq 32 (.move (tp 4)) 3,rq 33 (.move (tp 1)) 3,rq 34 (.binOp .sub 3 (tp 33) (ki 1) 3) 3,rq 35 (.move (tp 3)) 3,rq 36 (.binOp .sub 3 (tp 34) (tp 35) 3) 3,rq 10 (.assign (tp 32)) 3,rq 11 (.assign (tp 36)) 3]
def c93_11:RC:=.reg [] [rq 38 (.binOp .eql 3 (tp 12) (ki 4) 3) 4,rq 37 (.assign (tp 38)) 4]
def c93_12:RC:=.reg [] [rq 39 (.move (tp 3)) 3,rq 40 (.move (tp 1)) 3,rq 41 (.binOp .sub 3 (tp 40) (ki 1) 3) 3,rq 42 (.move (tp 4)) 3,rq 43 (.binOp .sub 3 (tp 41) (tp 42) 3) 3,rq 10 (.assign (tp 39)) 3,rq 11 (.assign (tp 43)) 3]
def c93_14:RC:=.reg [] [rq 45 (.binOp .eql 3 (tp 12) (ki 5) 3) 4,rq 44 (.assign (tp 45)) 4]
def c93_15:RC:=.reg [] [rq 46 (.move (tp 0)) 3,rq 47 (.binOp .sub 3 (tp 46) (ki 1) 3) 3,rq 48 (.move (tp 3)) 3,rq 49 (.binOp .sub 3 (tp 47) (tp 48) 3) 3,rq 50 (.move (tp 4)) 3,rq 10 (.assign (tp 49)) 3,rq 11 (.assign (tp 50)) 3]
def c93_17:RC:=.reg [] [rq 52 (.binOp .eql 3 (tp 12) (ki 6) 3) 4,rq 51 (.assign (tp 52)) 4]
def c93_18:RC:=.reg [] [rq 53 (.move (tp 4)) 3,rq 54 (.move (tp 3)) 3,rq 10 (.assign (tp 53)) 3,rq 11 (.assign (tp 54)) 3]
def c93_20:RC:=.reg [] [rq 56 (.binOp .eql 3 (tp 12) (ki 7) 3) 4,rq 55 (.assign (tp 56)) 4]
def c93_21:RC:=.reg [] [rq 57 (.move (tp 0)) 3,rq 58 (.binOp .sub 3 (tp 57) (ki 1) 3) 3,rq 59 (.move (tp 4)) 3,rq 60 (.binOp .sub 3 (tp 58) (tp 59) 3) 3,rq 61 (.move (tp 1)) 3,rq 62 (.binOp .sub 3 (tp 61) (ki 1) 3) 3,rq 63 (.move (tp 3)) 3,rq 64 (.binOp .sub 3 (tp 62) (tp 63) 3) 3,rq 10 (.assign (tp 60)) 3,rq 11 (.assign (tp 64)) 3]
def c93_25:RC:=.cond (tp 51) (.seq c93_18 .ret) (.seq c93_20 (.cond (tp 55) (.seq c93_21 .ret) .skip))
def c93_29:RC:=.cond (tp 37) (.seq c93_12 .ret) (.seq c93_14 (.cond (tp 44) (.seq c93_15 .ret) (.seq c93_17 c93_25)))
def c93_33:RC:=.cond (tp 20) (.seq c93_6 .ret) (.seq c93_8 (.cond (tp 30) (.seq c93_9 .ret) (.seq c93_11 c93_29)))
def c93_37:RC:=.block 0 (.seq c93_2 (.cond (tp 13) (.seq c93_3 .ret) (.seq c93_5 c93_33)))
def c93_39:RC:=.reg [] [rq 65 (.move (tp 3)) 3,rq 66 (.move (tp 4)) 3,rq 10 (.assign (tp 65)) 3,rq 11 (.assign (tp 66)) 3]
def c93_41:RC:=.seq (.seq (.reg [] [rq 12 (.move (tp 2)) 3]) c93_37) (.seq c93_39 .ret)
def c93_42:RC:=.seq (.reg [] [rq 10 (.assign (ki 0)) 3,rq 11 (.assign (ki 0)) 3]) c93_41
def c48_0:RC:=.reg [] [rq 3 (.box 27 (tp 0)) 0,rq 6 (.assign (.const (.slice none 0 0))) 22]
def c48_3:RC:=.reg [] [rq 9 (.move (tp 8)) 3,rq 10 (.move (tp 1)) 22,rq 11 (cb .len #[tp 10] #[22]) 3,rq 12 (.binOp .lss 3 (tp 9) (tp 11) 3) 4]
def c48_6:RC:=.reg [] [rq 15 (.move (tp 7)) 22,rq 16 (.move (tp 1)) 22,rq 17 (.load 27 (tp 3)) 27,rq 18 (.move (tp 2)) 3,rq 19 (.move (tp 8)) 3,rq 20 (cf 81 #[tp 17,tp 18,tp 19] #[27,3,3]) 3,rq 21 (.indexAddr 22 (tp 16) (tp 20)) 0,rq 22 (.load 3 (tp 21)) 3,rq 23 (.buildSlice 22 1 #[(0,(tp 22))]) 22,rq 24 (cb .append #[tp 15,tp 23] #[22,22]) 22,rq 7 (.assign (tp 24)) 22]
def c48_8:RC:=.reg [] [rq 13 (.move (tp 8)) 3,rq 14 (.binOp .add 3 (tp 13) (ki 1) 3) 3,rq 8 (.assign (tp 14)) 3]
def c48_10:RC:=.seq (.seq c48_3 (.cond (tp 12) .skip (.exit 0))) (.seq (.block 1 c48_6) c48_8)
def c48_15:RC:=.seq (.reg [] [rq 25 (.move (tp 7)) 22,rq 6 (.assign (tp 25)) 22]) .ret
def c48_16:RC:=.seq (.seq (.reg [] [rq 8 (.assign (ki 0)) 3]) (.block 0 (.loop c48_10))) c48_15
def c48_18:RC:=.seq c48_0 (.seq (.reg [] [rq 7 (.assign (.const (.slice none 0 0))) 22]) c48_16)
end Go.BkX
