/- Made from wip. -/
import Derived.Test.YtokbaaeimejjlaaDoorSpMorex
import Derived.Sort.Grow
import Derived.Lib.SlicesCompact
import Derived.Test.YtokbaaeimejjlaaDoorSpEntryx
import Derived.Test.YtokbaaeimejjlaaDoorSpFramex

namespace Go.Sp
open Go.Sort

noncomputable section
def I64 (z:Int):Value:=.int .i64 z
def srtZ (zs:List Int):List Int:=zs.mergeSort fun x y=>decide (x≤y)
end

theorem Post.growW {H H':AHeap} {R R':Ren} {w w1 w2:World} (hp:Post H R w H' R' w1) {os:Array Obj} (e:w2.heap = w1.heap ++ os) (e1:w2.os = w1.os) (e2:w2.output = w1.output):Post H R w H' R' w2:=by
 have hget:∀ c,c < w1.heap.size→w2.heap[c]? = w1.heap[c]?:=fun c hc=>by rw [e,Array.getElem?_append_left hc]
 have hsz:w1.heap.size≤w2.heap.size:=by rw [e];simp
 have hs:=hp.sim
 refine ⟨hp.le, hp.new, ⟨fun id c β h => ⟨(hs.dom id c β h).1, Nat.lt_of_lt_of_le (hs.dom id c β h).2 hsz⟩, fun id c β h => by rw [hget c (hs.dom id c β h).2]; exact hs.obj id c β h, hs.sep, hs.anc, hs.wf, fun c C h => ?_⟩,
  hp.next,Nat.le_trans hp.grow hsz,fun c hc h=>by rw [hget c (Nat.lt_of_lt_of_le hc hp.grow)];exact hp.frame c hc h,hp.calm,hp.imm,hp.fresh,⟨e1.trans hp.side.1,e2.trans hp.side.2.1,fun a ha=>?_⟩,hp.rofresh⟩
 ·obtain ⟨⟨t, fz, h1⟩, h2⟩ := hs.ro c C h
  exact ⟨⟨t,fz,by rw [hget c (Array.getElem?_eq_some_iff.1 h1).1];exact h1⟩,h2⟩
 ·rw [← hp.side.2.2 a ha]
  unfold World.frozen?
  rw [hget a.block (Nat.lt_of_lt_of_le ha hp.grow)]

theorem mapI64 (l:List Int):mapL I64 l = l.map I64:=by
 induction l with
 | nil=>rfl
 | cons x l ih=>show I64 x :: mapL I64 l = _;rw [ih];rfl
theorem mapI64_len (l:List Int):(mapL I64 l).length = l.length:=by rw [mapI64];simp

theorem post_row {H H' : AHeap} {R : Ren} {w : World} {id c β : Nat} {vals : List Int} (hs : Sim H R w) (hw : awrite H id 0 (mapL I64 vals) = some H') (hid : R.f id = some (c, β)) (n : Nat) (os : Array Obj) :
 Post H R w H' R (grow (putRow (Value.int .i64) (Go.Sort.ahead w n) c β vals.toArray) os):=by
 have hv:VRL R (mapL I64 vals) (mapL I64 vals):=plainL_VRL fun x hx=>by
  rw [mapI64] at hx
  obtain ⟨z,_,rfl⟩:=List.mem_map.1 hx
  rfl
 obtain ⟨C,t,hC,hfit,_,hp⟩:=post_write hs hw hid hv
 refine hp.growW (os:=os) ?_ rfl rfl
 show (putRow (Value.int .i64) (Go.Sort.ahead w n) c β vals.toArray).heap ++ os = _
 congr 1
 apply Array.ext_getElem?
 intro k
 by_cases hk:c = k
 ·subst hk
  rw [setRow_heap w c C _ t (0,0) hC]
  show (Array.modify w.heap c (onCells (putCells (Value.int .i64) β vals.toArray)))[c]? = _
  rw [Array.getElem?_modify,if_pos rfl,hC]
  show some (Obj.cells _ _ _) = some (Obj.cells _ _ _)
  congr 2
  apply Array.ext_getElem?
  intro j
  rw [mapI64_len] at hfit
  simp only [putCells,Array.getElem?_mapIdx,List.getElem?_toArray,mapI64,List.length_map,Nat.add_zero]
  by_cases h1:β≤j∧j < β + vals.length
  ·have hj : j < C.size := by omega
   have hj2:j - β < vals.length:=by omega
   rw [Array.getElem?_eq_getElem hj,Option.map_some,if_pos (by simpa using h1)]
   rw [List.append_assoc,List.getElem?_append_right (by simp;omega),List.getElem?_append_left (by simp;omega)]
   simp only [List.length_take,Array.length_toList,List.getElem?_map]
   rw [show j - min β C.size = j - β by omega,List.getElem?_eq_getElem hj2]
   simp [I64,getElem!_pos,hj2]
  ·by_cases h2 : j < β
   ·rw [List.append_assoc, List.getElem?_append_left (by simp; omega), List.getElem?_take_of_lt h2]
    simp only [Array.getElem?_toList]
    cases hcj:C[j]? with
    | none=>rfl
    | some y=>rw [Option.map_some,if_neg (by simpa using h1)]
   ·rw [List.getElem?_append_right (by simp; omega), List.getElem?_drop]
    simp only [Array.getElem?_toList]
    have:β + vals.length + (j - (List.take β C.toList ++ List.map I64 vals).length) = j:=by simp;omega
    rw [this]
    cases hcj:C[j]? with
    | none=>rfl
    | some y=>rw [Option.map_some,if_neg (by simpa using h1)]
 ·rw [setRow_other _ _ _ _ (fun h => hk h.symm)]
  show (Array.modify w.heap c _)[k]? = _
  rw [Array.getElem?_modify,if_neg hk]

section
variable {P:Program} {g:FuncId}

end

theorem awrite_row {H : AHeap} {id : Nat} {xs : List Value} {anc : List Nat} {vals : List Int} (hg : H.get id = .cells xs false false anc) (hl : vals.length = xs.length) :
 awrite H id 0 (mapL I64 vals) = some ((H.kill anc).set id (.cells (mapL I64 vals) false false [])):=by
 unfold awrite
 have h1:Nat.ble (0 + len (mapL I64 vals)) (len xs) = true:=by rw [len_eq,len_eq,mapI64_len];exact Nat.ble_eq_true_of_le (by omega)
 have h2:allL scalarB (mapL I64 vals) = true:=by
  rw [allL_eq,List.all_eq_true,mapI64]
  intro x hx
  obtain ⟨z,_,rfl⟩:=List.mem_map.1 hx
  rfl
 have h3:setL (mapL I64 vals) 0 xs = mapL I64 vals:=by
  show appL (mapL I64 vals) (dropL (len (mapL I64 vals)) xs) = _
  rw [appL_eq,dropL_eq,len_eq,mapI64_len,List.drop_of_length_le (by omega),List.append_nil]
 rw [hg]
 show bb (an (nt false) (an (nt false) (an (Nat.ble (0 + len (mapL I64 vals)) (len xs)) (allL scalarB (mapL I64 vals))))) (some ((H.kill anc).set id (.cells (setL (mapL I64 vals) 0 xs) false false []))) none = _
 rw [h1,h2,h3];rfl

end Go.Sp
namespace Go.BkQ
open Go Go.Sp
noncomputable section
def IV (z:Int):Value:=.int .i64 z
def fromN (rows cols t r c:Nat):Nat×Nat:=
 bb (Nat.beq t 1) (rows - 1 - c, r) (bb (Nat.beq t 2) (rows - 1 - r, cols - 1 - c) (bb (Nat.beq t 3) (c, cols - 1 - r) (bb (Nat.beq t 4) (r, cols - 1 - c)
  (bb (Nat.beq t 5) (rows - 1 - r,c) (bb (Nat.beq t 6) (c,r) (bb (Nat.beq t 7) (rows - 1 - c,cols - 1 - r) (r,c)))))))
def cellN (rows cols t i:Nat):Nat:=Nat.rec (motive:=fun _=>Nat) 0 (fun _ _=>pp (fromN rows cols t (i / cols) (i % cols)) fun r c=>r * cols + c) cols
def upN (n:Nat):List Nat:=Nat.rec (motive:=fun _=>List Nat) [] (fun k ih=>appL ih [k]) n
def cellL (rows cols t:Nat):List Nat:=mapL (cellN rows cols t) (upN (rows * cols))
def nvL (l:List Nat):List Value:=mapL (fun n=>IV (.ofNat n)) l
def rowV (l:List Nat):Value:=fsV 1 (len l) 0 (nvL l)
def triples:List (Nat×Nat×Nat):=[(1,1,0),(1,1,1),(1,1,2),(1,1,3),(1,1,4),(1,1,5),(1,1,6),(1,1,7),(1,2,0),(1,2,2),(1,2,4),(1,2,5),(1,3,0),(1,3,2),(1,3,4),(1,3,5),(1,4,0),(1,4,2),(1,4,4),(1,4,5),(2,1,0),(2,1,2),(2,1,4),(2,1,5),(2,2,0),(2,2,1),(2,2,2),(2,2,3),(2,2,4),(2,2,5),(2,2,6),(2,2,7),(2,3,0),(2,3,2),(2,3,4),(2,3,5),(2,4,0),(2,4,2),(2,4,4),(2,4,5),(3,1,0),(3,1,2),(3,1,4),(3,1,5),(3,2,0),(3,2,2),(3,2,4),(3,2,5),(3,3,0),(3,3,1),(3,3,2),(3,3,3),(3,3,4),(3,3,5),(3,3,6),(3,3,7),(3,4,0),(3,4,2),(3,4,4),(3,4,5),(4,1,0),(4,1,2),(4,1,4),(4,1,5),(4,2,0),(4,2,2),(4,2,4),(4,2,5),(4,3,0),(4,3,2),(4,3,4),(4,3,5),(4,4,0),(4,4,1),(4,4,2),(4,4,3),(4,4,4),(4,4,5),(4,4,6),(4,4,7)]
def memT (l:List (Nat×Nat×Nat)) (r c t:Nat):Bool:=List.rec (motive:=fun _=>Bool) false (fun p _ ih=>orr (an (Nat.beq p.1 r) (an (Nat.beq p.2.1 c) (Nat.beq p.2.2 t))) ih) l
def cellsM (args : List Value) : Option Value := ll args none fun a r => ll r none fun b r => ll r (oo (vAgg a) none fun l => ll l none fun v1 l => ll l none fun v2 l => ll l none fun v3 l => ll l none fun v4 l => ll l
 (oo (toI .i64 v1) none fun z1 => oo (toN z1) none fun rows => oo (toI .i64 v2) none fun z2 => oo (toN z2) none fun cols => oo (toI .i64 b) none fun z3 => oo (toN z3) none fun t =>
   bb (memT triples rows cols t) (some (rowV (cellL rows cols t))) none) fun _ _=>none) fun _ _=>none
def trueF (args:List Value):Option Value:=ll args (some (.bool true)) fun _ _=>none
end
theorem orr_inv {a b:Bool} (h:orr a b = true):a = true∨b = true:=by
 cases a with
 | true=>exact .inl rfl
 | false=>exact .inr h
theorem memT_mem {l:List (Nat×Nat×Nat)} {r c t:Nat} (h:memT l r c t = true):(r,c,t) ∈ l:=by
 induction l with
 | nil=>cases h
 | cons p l ih =>
  rcases orr_inv (show orr (an (Nat.beq p.1 r) (an (Nat.beq p.2.1 c) (Nat.beq p.2.2 t))) (memT l r c t) = true from h) with h | h
  ·obtain ⟨h1, h⟩ := an_inv h
   obtain ⟨h2,h3⟩:=an_inv h
   obtain ⟨p1,p2,p3⟩:=p
   have h1:p1 = r:=Nat.eq_of_beq_eq_true h1
   have h2:p2 = c:=Nat.eq_of_beq_eq_true h2
   have h3:p3 = t:=Nat.eq_of_beq_eq_true h3
   subst h1;subst h2;subst h3
   exact List.mem_cons_self
  ·exact List.mem_cons_of_mem _ (ih h)
theorem cellsM_inv {args:List Value} {v:Value} (h:cellsM args = some v):∃ r c t v3 v4,args = [.agg ⟨[IV (.ofNat r),IV (.ofNat c),v3,v4]⟩,IV (.ofNat t)]∧(r,c,t) ∈ triples∧v = rowV (cellL r c t):=by
 replace h:=ll_uncons h;obtain ⟨a,r1,rfl,h⟩:=h
 replace h:=ll_uncons h;obtain ⟨b,r2,rfl,h⟩:=h
 replace h:=ll_end h;obtain ⟨rfl,h⟩:=h
 replace h:=oo_inv h;obtain ⟨l,hl,h⟩:=h
 replace h:=ll_uncons h;obtain ⟨v1,l1,rfl,h⟩:=h
 replace h:=ll_uncons h;obtain ⟨v2,l2,rfl,h⟩:=h
 replace h:=ll_uncons h;obtain ⟨v3,l3,rfl,h⟩:=h
 replace h:=ll_uncons h;obtain ⟨v4,l4,rfl,h⟩:=h
 replace h:=ll_end h;obtain ⟨rfl,h⟩:=h
 replace h:=oo_inv h;obtain ⟨z1,h1,h⟩:=h
 replace h:=oo_inv h;obtain ⟨r,h2,h⟩:=h
 replace h:=oo_inv h;obtain ⟨z2,h3,h⟩:=h
 replace h:=oo_inv h;obtain ⟨c,h4,h⟩:=h
 replace h:=oo_inv h;obtain ⟨z3,h5,h⟩:=h
 replace h:=oo_inv h;obtain ⟨t,h6,h⟩:=h
 replace h:=bb_inv h;obtain ⟨hc,h⟩:=h
 injection h with h
 refine ⟨r,c,t,v3,v4,?_,memT_mem hc,h.symm⟩
 rw [vAgg_some hl,toI_some h1,toI_some h3,toI_some h5,toN_some h2,toN_some h4,toN_some h6];rfl
end Go.BkQ
set_option maxRecDepth 100000
namespace Go.BkP
open Go.Sp
def c6_6:RC:=.reg [] [rq 27 (.move (tp 5)) 25,rq 28 (.move (tp 7)) 5,rq 29 (.convert 5 3 (tp 28)) 3,rq 30 (.binOp .rem 3 (tp 29) (ki 4) 3) 3,rq 31 (.buildSlice 25 1 #[(0,(tp 30))]) 25,rq 32 (cb .append #[tp 27,tp 31] #[25,25]) 25,rq 5 (.assign (tp 32)) 25]
def c6_7:RC:=.seq (.reg [] [rq 26 (.index 48 (tp 23) (tp 24)) 5,rq 7 (.assign (tp 26)) 5]) c6_6
def c6_9:RC:=.reg [] [rq 33 (.binOp .add 3 (tp 24) (ki 1) 3) 3,rq 24 (.move (tp 33)) 3]
def c6_12:RC:=.seq (.reg [] [rq 25 (.binOp .lss 3 (tp 24) (ki 9) 3) 0]) (.seq (.cond (tp 25) .skip (.exit 0)) (.seq (.block 1 c6_7) c6_9))
def c6_15:RC:=.seq (.reg [] [rq 23 (.load 48 (tp 2)) 48,rq 24 (.move (ki 0)) 3]) (.block 0 (.loop c6_12))
def c6_16:RC:=.reg [] [rq 34 (.buildSlice 25 8 #[(0,(ki 0)),(1,(ki 1)),(2,(ki 2)),(3,(ki 3)),(4,(ki 4)),(5,(ki 5)),(6,(ki 6)),(7,(ki 7))]) 25,rq 35 (cf 22 #[tp 34] #[25]) 25,rq 36 (.build 27 #[(0,(ki 3)),(1,(ki 3)),(2,(ki 4)),(3,(tp 35))]) 27,rq 8 (.alloc 27) 0,rn (.store 27 (tp 8) (tp 36)) 0]
def c6_17:RC:=.reg [] [rq 37 (.build 27 #[(0,(ki 3)),(1,(ki 3)),(2,(ki 4))]) 27,rq 9 (.alloc 27) 0,rn (.store 27 (tp 9) (tp 37)) 0]
def c6_18:RC:=.reg [] [rq 38 (.move (tp 1)) 5,rq 39 (.binOp .and 5 (tp 38) (.const (.int .u8 1)) 5) 5,rq 40 (.binOp .eql 5 (tp 39) (.const (.int .u8 1)) 5) 4,rq 10 (.assign (tp 40)) 4]
def c6_20:RC:=.reg [] [rq 41 (.move (tp 11)) 3,rq 42 (.binOp .lss 3 (tp 41) (ki 8) 3) 4]
def c6_23:RC:=.reg [] [rq 45 (.move (tp 1)) 5,rq 46 (.move (tp 11)) 3,rq 47 (.binOp .shr 5 (tp 45) (tp 46) 3) 5,rq 48 (.binOp .and 5 (tp 47) (.const (.int .u8 1)) 5) 5,rq 49 (.binOp .eql 5 (tp 48) (.const (.int .u8 1)) 5) 4]
def c6_24:RC:=.reg [] [rq 50 (.fieldAddr 27 (tp 9) 3) 0,rq 51 (.load 25 (tp 50)) 25,rq 52 (.move (tp 11)) 3,rq 53 (.buildSlice 25 1 #[(0,(tp 52))]) 25,rq 54 (cb .append #[tp 51,tp 53] #[25,25]) 25,rq 55 (.fieldAddr 27 (tp 9) 3) 0,rn (.store 25 (tp 55) (tp 54)) 0]
def c6_28:RC:=.reg [] [rq 56 (.move (tp 12)) 3,rq 57 (.binOp .lss 3 (tp 56) (ki 8) 3) 4]
def c6_31:RC:=.reg [] [rq 61 (.move (tp 11)) 3,rq 62 (.move (tp 12)) 3,rq 63 (cf 24 #[tp 61,tp 62] #[3,3]) 40,rq 60 (.move (tp 63)) 40,rq 64 (.extract (tp 60) 0) 3,rq 65 (.extract (tp 60) 1) 32,rq 13 (.assign (tp 64)) 3,rq 14 (.assign (tp 65)) 32]
def c6_32:RC:=.reg [] [rq 66 (.move (tp 14)) 32,rq 67 (.binOp .neq 32 (tp 66) (ki 0) 32) 4,rq 68 (.move (tp 67)) 4,rg 69 (.move (tp 13)) 3 68 false,rg 70 (.binOp .lss 3 (tp 69) (ki 0) 3) 4 68 false,rq 71 (.pick (tp 68) (kb true) (tp 70)) 4,rq 72 (.move (tp 71)) 4,rg 73 (.move (tp 13)) 3 72 false,rg 74 (.binOp .gtr 3 (tp 73) (ki 7) 3) 4 72 false,rq 75 (.pick (tp 72) (kb true) (tp 74)) 4]
def c6_35:RC:=.cond (tp 75) (.seq (.reg [] [rq 4 (.assign (kb false)) 4]) .ret) .skip
def c6_37:RC:=.reg [] [rq 76 (.buildSlice 25 9 #[(0,(ki 0)),(1,(ki 1)),(2,(ki 2)),(3,(ki 3)),(4,(ki 4)),(5,(ki 5)),(6,(ki 6)),(7,(ki 7)),(8,(ki 8))]) 25,rq 77 (cf 22 #[tp 76] #[25]) 25,rq 15 (.assign (tp 77)) 25]
def c6_38:RC:=.reg [] [rq 78 (.move (tp 15)) 25,rq 79 (.move (tp 11)) 3,rq 80 (cf 10 #[tp 78,ki 3,ki 3,tp 79] #[25,3,3,3]) 25,rq 81 (.move (tp 12)) 3,rq 82 (cf 10 #[tp 80,ki 3,ki 3,tp 81] #[25,3,3,3]) 25,rq 83 (.move (tp 15)) 25,rq 84 (.move (tp 13)) 3,rq 85 (cf 10 #[tp 83,ki 3,ki 3,tp 84] #[25,3,3,3]) 25,rq 86 (cf 12 #[tp 82,tp 85] #[25,25]) 4,rq 87 (.unOp .not 4 (tp 86)) 4]
def c6_41:RC:=.cond (tp 87) (.seq (.reg [] [rq 4 (.assign (kb false)) 4]) .ret) .skip
def c6_43:RC:=.reg [] [rq 89 (.load 27 (tp 8)) 27,rq 90 (.move (tp 5)) 25,rq 91 (.move (tp 11)) 3,rq 92 (cf 11 #[tp 89,tp 90,tp 91] #[27,25,3]) 33,rq 88 (.move (tp 92)) 33,rq 93 (.extract (tp 88) 0) 25,rq 94 (.extract (tp 88) 1) 32,rq 16 (.assign (tp 93)) 25,rq 17 (.assign (tp 94)) 32]
def c6_44:RC:=.reg [] [rq 95 (.move (tp 17)) 32,rq 96 (.binOp .neq 32 (tp 95) (ki 0) 32) 4,rq 97 (.move (tp 96)) 4,rg 98 (.move (tp 16)) 25 97 false,rg 99 (cb .len #[tp 98] #[25]) 3 97 false,rg 100 (.binOp .neq 3 (tp 99) (ki 9) 3) 4 97 false,rq 101 (.pick (tp 97) (kb true) (tp 100)) 4]
def c6_47:RC:=.cond (tp 101) (.seq (.reg [] [rq 4 (.assign (kb false)) 4]) .ret) .skip
def c6_49:RC:=.reg [] [rq 103 (.load 27 (tp 8)) 27,rq 104 (.move (tp 16)) 25,rq 105 (.move (tp 12)) 3,rq 106 (cf 11 #[tp 103,tp 104,tp 105] #[27,25,3]) 33,rq 102 (.move (tp 106)) 33,rq 107 (.extract (tp 102) 0) 25,rq 108 (.extract (tp 102) 1) 32,rq 18 (.assign (tp 107)) 25,rq 19 (.assign (tp 108)) 32]
def c6_50:RC:=.reg [] [rq 110 (.load 27 (tp 8)) 27,rq 111 (.move (tp 5)) 25,rq 112 (.move (tp 13)) 3,rq 113 (cf 11 #[tp 110,tp 111,tp 112] #[27,25,3]) 33,rq 109 (.move (tp 113)) 33,rq 114 (.extract (tp 109) 0) 25,rq 115 (.extract (tp 109) 1) 32,rq 20 (.assign (tp 114)) 25,rq 21 (.assign (tp 115)) 32]
def c6_51:RC:=.reg [] [rq 116 (.move (tp 19)) 32,rq 117 (.binOp .neq 32 (tp 116) (ki 0) 32) 4,rq 118 (.move (tp 117)) 4,rg 119 (.move (tp 21)) 32 118 false,rg 120 (.binOp .neq 32 (tp 119) (ki 0) 32) 4 118 false,rq 121 (.pick (tp 118) (kb true) (tp 120)) 4,rq 122 (.move (tp 121)) 4,rg 123 (.move (tp 18)) 25 122 false,rg 124 (.move (tp 20)) 25 122 false,rg 125 (cf 12 #[tp 123,tp 124] #[25,25]) 4 122 false,rg 126 (.unOp .not 4 (tp 125)) 4 122 false,rq 127 (.pick (tp 122) (kb true) (tp 126)) 4]
def c6_54:RC:=.cond (tp 127) (.seq (.reg [] [rq 4 (.assign (kb false)) 4]) .ret) .skip
def c6_56:RC:=.reg [] [rq 128 (.move (tp 10)) 4,rq 129 (.move (tp 128)) 4,rg 130 (.move (tp 1)) 5 129 true,rg 131 (.move (tp 11)) 3 129 true,rg 132 (.binOp .shr 5 (tp 130) (tp 131) 3) 5 129 true,rg 133 (.binOp .and 5 (tp 132) (.const (.int .u8 1)) 5) 5 129 true,rg 134 (.binOp .eql 5 (tp 133) (.const (.int .u8 0)) 5) 4 129 true,rg 135 (.move (tp 134)) 4 129 true,rg 136 (.move (tp 1)) 5 135 false,rg 137 (.move (tp 12)) 3 135 false,rg 138 (.binOp .shr 5 (tp 136) (tp 137) 3) 5 135 false,rg 139 (.binOp .and 5 (tp 138) (.const (.int .u8 1)) 5) 5 135 false,rg 140 (.binOp .eql 5 (tp 139) (.const (.int .u8 0)) 5) 4 135 false,rg 141 (.pick (tp 135) (kb true) (tp 140)) 4 129 true,rg 142 (.move (tp 141)) 4 129 true,rg 143 (.move (tp 1)) 5 142 false,rg 144 (.move (tp 13)) 3 142 false,rg 145 (.binOp .shr 5 (tp 143) (tp 144) 3) 5 142 false,rg 146 (.binOp .and 5 (tp 145) (.const (.int .u8 1)) 5) 5 142 false,rg 147 (.binOp .eql 5 (tp 146) (.const (.int .u8 1)) 5) 4 142 false,rg 148 (.pick (tp 142) (kb true) (tp 147)) 4 129 true,rq 149 (.pick (tp 129) (tp 148) (kb false)) 4,rq 10 (.assign (tp 149)) 4]
def c6_60:RC:=.seq (.seq c6_44 c6_47) (.seq c6_49 (.seq c6_50 (.seq (.seq c6_51 c6_54) c6_56)))
def c6_64:RC:=.seq (.seq c6_32 c6_35) (.seq c6_37 (.seq (.seq c6_38 c6_41) (.seq c6_43 c6_60)))
def c6_67:RC:=.reg [] [rq 58 (.move (tp 12)) 3,rq 59 (.binOp .add 3 (tp 58) (ki 1) 3) 3,rq 12 (.assign (tp 59)) 3]
def c6_69:RC:=.seq (.seq c6_28 (.cond (tp 57) .skip (.exit 4))) (.seq (.block 5 (.seq c6_31 c6_64)) c6_67)
def c6_73:RC:=.seq (.seq c6_23 (.cond (tp 49) c6_24 .skip)) (.seq (.reg [] [rq 12 (.assign (ki 0)) 3]) (.block 4 (.loop c6_69)))
def c6_75:RC:=.reg [] [rq 43 (.move (tp 11)) 3,rq 44 (.binOp .add 3 (tp 43) (ki 1) 3) 3,rq 11 (.assign (tp 44)) 3]
def c6_77:RC:=.seq (.seq c6_20 (.cond (tp 42) .skip (.exit 2))) (.seq (.block 3 c6_73) c6_75)
def c6_85:RC:=.seq (.reg [] [rq 150 (.move (tp 10)) 4]) (.cond (tp 150) (.reg [] [rq 22 (.assign (ki 0)) 32]) .skip)
def c6_86:RC:=.reg [] [rq 151 (.load 27 (tp 9)) 27,rq 152 (cf 25 #[tp 151] #[27]) 32,rq 153 (.move (tp 22)) 32,rq 154 (.binOp .eql 32 (tp 152) (tp 153) 32) 4,rq 155 (.move (tp 154)) 4,rg 156 (cf 19 #[] #[]) 4 155 true,rq 157 (.pick (tp 155) (tp 156) (kb false)) 4,rq 4 (.assign (tp 157)) 4]
def c6_87:RC:=.seq c6_86 .ret
def c6_89:RC:=.seq (.reg [] [rq 22 (.assign (ki 21)) 32]) (.seq c6_85 c6_87)
def c6_90:RC:=.seq (.seq (.reg [] [rq 11 (.assign (ki 0)) 3]) (.block 2 (.loop c6_77))) c6_89
def c6_93:RC:=.seq c6_16 (.seq c6_17 (.seq c6_18 c6_90))
def c6_95:RC:=.seq (.reg [] [rq 5 (.assign (.const (.slice none 0 0))) 25]) (.seq c6_15 c6_93)
def c6_96:RC:=.seq (.reg [] [rq 2 (.box 48 (tp 0)) 0,rq 4 (.assign (kb false)) 4]) c6_95
def c10_1:RC:=.reg [] [rq 19 (.move (tp 3)) 3,rq 9 (.assign (tp 19)) 3,rq 10 (.assign (kb false)) 4]
def c10_3:RC:=.reg [] [rq 22 (.binOp .eql 3 (tp 20) (ki 4) 3) 4,rq 21 (.assign (tp 22)) 4]
def c10_5:RC:=.reg [] [rq 24 (.binOp .eql 3 (tp 20) (ki 5) 3) 4,rq 23 (.assign (tp 24)) 4]
def c10_7:RC:=.reg [] [rq 26 (.binOp .eql 3 (tp 20) (ki 6) 3) 4,rq 25 (.assign (tp 26)) 4]
def c10_9:RC:=.reg [] [rq 28 (.binOp .eql 3 (tp 20) (ki 7) 3) 4,rq 27 (.assign (tp 28)) 4]
def c10_11:RC:=.cond (tp 27) (.reg [] [rq 9 (.assign (ki 3)) 3,rq 10 (.assign (kb true)) 4]) .skip
def c10_13:RC:=.cond (tp 25) (.reg [] [rq 9 (.assign (ki 1)) 3,rq 10 (.assign (kb true)) 4]) (.seq c10_9 c10_11)
def c10_15:RC:=.cond (tp 23) (.reg [] [rq 9 (.assign (ki 2)) 3,rq 10 (.assign (kb true)) 4]) (.seq c10_7 c10_13)
def c10_17:RC:=.cond (tp 21) (.reg [] [rq 9 (.assign (ki 0)) 3,rq 10 (.assign (kb true)) 4]) (.seq c10_5 c10_15)
def c10_21:RC:=.reg [] [rq 29 (.buildSlice 25 0 #[]) 25,rq 30 (.move (tp 0)) 25,rq 31 (cb .append #[tp 29,tp 30] #[25,25]) 25,rq 11 (.assign (tp 31)) 25]
def c10_30:RC:=.reg [] [rq 39 (.move (tp 1)) 3,rq 40 (.binOp .sub 3 (tp 39) (ki 1) 3) 3,rq 14 (.assign (tp 40)) 3]
def c10_31:RC:=.reg [] [rq 41 (.move (tp 14)) 3,rq 42 (.binOp .geq 3 (tp 41) (ki 0) 3) 4]
def c10_34:RC:=.reg [] [rq 45 (.move (tp 12)) 25,rq 46 (.move (tp 11)) 25,rq 47 (.move (tp 14)) 3,rq 48 (.move (tp 2)) 3,rq 49 (.binOp .mul 3 (tp 47) (tp 48) 3) 3,rq 50 (.move (tp 13)) 3,rq 51 (.binOp .add 3 (tp 49) (tp 50) 3) 3,rq 52 (.indexAddr 25 (tp 46) (tp 51)) 0,rq 53 (.load 3 (tp 52)) 3,rq 54 (.buildSlice 25 1 #[(0,(tp 53))]) 25,rq 55 (cb .append #[tp 45,tp 54] #[25,25]) 25,rq 12 (.assign (tp 55)) 25]
def c10_36:RC:=.reg [] [rq 43 (.move (tp 14)) 3,rq 44 (.binOp .sub 3 (tp 43) (ki 1) 3) 3,rq 14 (.assign (tp 44)) 3]
def c10_38:RC:=.seq (.seq c10_31 (.cond (tp 42) .skip (.exit 5))) (.seq (.block 6 c10_34) c10_36)
def c10_42:RC:=.seq (.reg [] [rq 38 (.move (tp 36)) 3,rq 13 (.assign (tp 38)) 3]) (.seq c10_30 (.block 5 (.loop c10_38)))
def c10_44:RC:=.reg [] [rq 56 (.binOp .add 3 (tp 36) (ki 1) 3) 3,rq 36 (.move (tp 56)) 3]
def c10_47:RC:=.seq (.reg [] [rq 37 (.binOp .lss 3 (tp 36) (tp 35) 3) 4]) (.seq (.cond (tp 37) .skip (.exit 3)) (.seq (.block 4 c10_42) c10_44))
def c10_50:RC:=.seq (.reg [] [rq 35 (.move (tp 2)) 3,rq 36 (.move (ki 0)) 3]) (.block 3 (.loop c10_47))
def c10_52:RC:=.reg [] [rq 58 (.move (tp 2)) 3,rq 59 (.move (tp 1)) 3,rq 1 (.assign (tp 58)) 3,rq 2 (.assign (tp 59)) 3]
def c10_53:RC:=.seq (.reg [] [rq 57 (.move (tp 12)) 25,rq 11 (.assign (tp 57)) 25]) c10_52
def c10_55:RC:=.seq (.reg [] [rq 12 (.assign (.const (.slice none 0 0))) 25]) (.seq c10_50 c10_53)
def c10_57:RC:=.reg [] [rq 60 (.binOp .add 3 (tp 33) (ki 1) 3) 3,rq 33 (.move (tp 60)) 3]
def c10_60:RC:=.seq (.reg [] [rq 34 (.binOp .lss 3 (tp 33) (tp 32) 3) 4]) (.seq (.cond (tp 34) .skip (.exit 1)) (.seq (.block 2 c10_55) c10_57))
def c10_63:RC:=.seq (.reg [] [rq 32 (.move (tp 9)) 3,rq 33 (.move (ki 0)) 3]) (.block 1 (.loop c10_60))
def c10_65:RC:=.reg [] [rq 62 (.move (tp 11)) 25,rq 63 (cb .len #[tp 62] #[25]) 3,rq 64 (.move (ki 0)) 3]
def c10_69:RC:=.reg [0,1,2,3,4,5,6,7] [rq 67 (.move (tp 15)) 3,rq 68 (.move (tp 2)) 3,rq 69 (.binOp .quo 3 (tp 67) (tp 68) 3) 3,rq 70 (.move (tp 15)) 3,rq 71 (.move (tp 2)) 3,rq 72 (.binOp .rem 3 (tp 70) (tp 71) 3) 3,rq 16 (.assign (tp 69)) 3,rq 17 (.assign (tp 72)) 3]
def c10_70:RC:=.reg [] [rq 73 (.move (tp 17)) 3,rq 74 (.move (tp 2)) 3,rq 75 (.binOp .sub 3 (tp 74) (ki 1) 3) 3,rq 76 (.move (tp 17)) 3,rq 77 (.binOp .sub 3 (tp 75) (tp 76) 3) 3,rq 78 (.binOp .lss 3 (tp 73) (tp 77) 3) 4]
def c10_71:RC:=.reg [] [rq 79 (.move (tp 16)) 3,rq 80 (.move (tp 2)) 3,rq 81 (.binOp .mul 3 (tp 79) (tp 80) 3) 3,rq 82 (.move (tp 2)) 3,rq 83 (.binOp .add 3 (tp 81) (tp 82) 3) 3,rq 84 (.binOp .sub 3 (tp 83) (ki 1) 3) 3,rq 85 (.move (tp 17)) 3,rq 86 (.binOp .sub 3 (tp 84) (tp 85) 3) 3,rq 18 (.assign (tp 86)) 3]
def c10_72:RC:=.reg [0,1,2,3,4,5,6,7,8,9,10,11,12,13,14,15] [rq 87 (.move (tp 11)) 25,rq 88 (.move (tp 15)) 3,rq 89 (.move (tp 11)) 25,rq 90 (.move (tp 18)) 3,rq 91 (.move (tp 11)) 25,rq 92 (.move (tp 18)) 3,rq 93 (.indexAddr 25 (tp 91) (tp 92)) 0,rq 94 (.load 3 (tp 93)) 3,rq 95 (.move (tp 11)) 25,rq 96 (.move (tp 15)) 3,rq 97 (.indexAddr 25 (tp 95) (tp 96)) 0,rq 98 (.load 3 (tp 97)) 3,rq 99 (.indexAddr 25 (tp 87) (tp 88)) 0,rn (.store 3 (tp 99) (tp 94)) 0,rq 100 (.indexAddr 25 (tp 89) (tp 90)) 0,rn (.store 3 (tp 100) (tp 98)) 0]
def c10_77:RC:=.seq (.reg [] [rq 66 (.move (tp 64)) 3,rq 15 (.assign (tp 66)) 3]) (.seq c10_69 (.seq c10_70 (.cond (tp 78) (.seq c10_71 c10_72) .skip)))
def c10_79:RC:=.reg [] [rq 101 (.binOp .add 3 (tp 64) (ki 1) 3) 3,rq 64 (.move (tp 101)) 3]
def c10_82:RC:=.seq (.reg [] [rq 65 (.binOp .lss 3 (tp 64) (tp 63) 3) 0]) (.seq (.cond (tp 65) .skip (.exit 7)) (.seq (.block 8 c10_77) c10_79))
def c10_87:RC:=.seq (.reg [] [rq 61 (.move (tp 10)) 4]) (.cond (tp 61) (.seq c10_65 (.block 7 (.loop c10_82))) .skip)
def c10_89:RC:=.seq (.reg [] [rq 102 (.move (tp 11)) 25,rq 8 (.assign (tp 102)) 25]) .ret
def c10_90:RC:=.seq c10_87 c10_89
def c10_92:RC:=.seq c10_21 (.seq c10_63 c10_90)
def c10_93:RC:=.seq (.seq (.reg [] [rq 20 (.move (tp 3)) 3]) (.block 0 (.seq c10_3 c10_17))) c10_92
def c10_95:RC:=.seq (.reg [] [rq 8 (.assign (.const (.slice none 0 0))) 25]) (.seq c10_1 c10_93)
def c11_0:RC:=.reg [] [rq 3 (.box 27 (tp 0)) 0,rq 6 (.assign (.const (.slice none 0 0))) 25,rq 7 (.assign (ki 0)) 32]
def c11_1:RC:=.reg [] [rq 12 (.load 27 (tp 3)) 27,rq 13 (.move (tp 1)) 25,rq 14 (.buildSlice 30 1 #[(0,(tp 13))]) 30,rq 15 (cf 32 #[tp 12,tp 14] #[27,30]) 62,rq 11 (.move (tp 15)) 62,rq 16 (.extract (tp 11) 0) 61,rq 17 (.extract (tp 11) 1) 32,rq 8 (.assign (tp 16)) 61,rq 9 (.assign (tp 17)) 32]
def c11_2:RC:=.reg [] [rq 18 (.move (tp 9)) 32,rq 19 (.binOp .neq 32 (tp 18) (ki 0) 32) 4]
def c11_3:RC:=.reg [] [rq 20 (.move (tp 9)) 32,rq 6 (.assign (.const (.slice none 0 0))) 25,rq 7 (.assign (tp 20)) 32]
def c11_7:RC:=.reg [] [rq 21 (.move (tp 8)) 61,rq 22 (.nilCheck (tp 21)) 0,rq 23 (.fieldAddr 66 (tp 22) 0) 0,rq 24 (.fieldAddr 27 (tp 23) 3) 0,rq 25 (.load 25 (tp 24)) 25,rq 26 (.move (tp 2)) 3,rq 27 (cf 33 #[tp 25,tp 26] #[25,3]) 3,rq 10 (.assign (tp 27)) 3]
def c11_8:RC:=.reg [] [rq 28 (.move (tp 10)) 3,rq 29 (.binOp .lss 3 (tp 28) (ki 0) 3) 4]
def c11_9:RC:=.reg [] [rq 6 (.assign (.const (.slice none 0 0))) 25,rq 7 (.assign (ki 2)) 32]
def c11_13:RC:=.reg [] [rq 30 (.move (tp 8)) 61,rq 31 (.move (tp 1)) 25,rq 32 (.move (tp 10)) 3,rq 33 (cf 34 #[tp 30,tp 31,tp 32] #[61,25,3]) 25,rq 6 (.assign (tp 33)) 25,rq 7 (.assign (ki 0)) 32]
def c11_15:RC:=.seq (.seq c11_8 (.cond (tp 29) (.seq c11_9 .ret) .skip)) (.seq c11_13 .ret)
def c11_17:RC:=.seq (.seq c11_2 (.cond (tp 19) (.seq c11_3 .ret) .skip)) (.seq c11_7 c11_15)
def c11_19:RC:=.seq c11_0 (.seq c11_1 c11_17)
def c12_1:RC:=.reg [] [rq 6 (.move (tp 0)) 25,rq 7 (cb .len #[tp 6] #[25]) 3,rq 8 (.move (tp 1)) 25,rq 9 (cb .len #[tp 8] #[25]) 3,rq 10 (.binOp .neq 3 (tp 7) (tp 9) 3) 4]
def c12_4:RC:=.cond (tp 10) (.seq (.reg [] [rq 4 (.assign (kb false)) 4]) .ret) .skip
def c12_7:RC:=.reg [] [rq 11 (.move (tp 5)) 3,rq 12 (.move (tp 0)) 25,rq 13 (cb .len #[tp 12] #[25]) 3,rq 14 (.binOp .lss 3 (tp 11) (tp 13) 3) 4]
def c12_10:RC:=.reg [0,1,2,3,4,5,6,7,8] [rq 17 (.move (tp 0)) 25,rq 18 (.move (tp 5)) 3,rq 19 (.indexAddr 25 (tp 17) (tp 18)) 0,rq 20 (.load 3 (tp 19)) 3,rq 21 (.move (tp 1)) 25,rq 22 (.move (tp 5)) 3,rq 23 (.indexAddr 25 (tp 21) (tp 22)) 0,rq 24 (.load 3 (tp 23)) 3,rq 25 (.binOp .neq 3 (tp 20) (tp 24) 3) 4]
def c12_13:RC:=.cond (tp 25) (.seq (.reg [] [rq 4 (.assign (kb false)) 4]) .ret) .skip
def c12_16:RC:=.reg [] [rq 15 (.move (tp 5)) 3,rq 16 (.binOp .add 3 (tp 15) (ki 1) 3) 3,rq 5 (.assign (tp 16)) 3]
def c12_18:RC:=.seq (.seq c12_7 (.cond (tp 14) .skip (.exit 0))) (.seq (.block 1 (.seq c12_10 c12_13)) c12_16)
def c12_23:RC:=.seq (.reg [] [rq 4 (.assign (kb true)) 4]) .ret
def c12_24:RC:=.seq (.seq (.reg [] [rq 5 (.assign (ki 0)) 3]) (.block 0 (.loop c12_18))) c12_23
def c12_26:RC:=.seq (.reg [] [rq 4 (.assign (kb false)) 4]) (.seq (.seq c12_1 c12_4) c12_24)
def c22_3:RC:=.seq (.reg [] [rq 2 (.assign (.const (.slice none 0 0))) 25]) (.seq (.reg [] [rq 3 (.move (tp 0)) 25,rq 2 (.assign (tp 3)) 25]) .ret)
def c24_1:RC:=.reg [] [rq 6 (.move (tp 0)) 3,rq 7 (cf 48 #[ki 0,tp 6,ki 7] #[3,3,3]) 4,rq 8 (.unOp .not 4 (tp 7)) 4,rq 9 (.move (tp 8)) 4,rg 10 (.move (tp 1)) 3 9 false,rg 11 (cf 48 #[ki 0,tp 10,ki 7] #[3,3,3]) 4 9 false,rg 12 (.unOp .not 4 (tp 11)) 4 9 false,rq 13 (.pick (tp 9) (kb true) (tp 12)) 4]
def c24_4:RC:=.cond (tp 13) (.seq (.reg [] [rq 4 (.assign (ki 0)) 3,rq 5 (.assign (ki 2)) 32]) .ret) .skip
def c24_6:RC:=.reg [] [rq 14 (.move (tp 0)) 3,rq 15 (cf 51 #[tp 14] #[3]) 86,rq 16 (.move (tp 1)) 3,rq 17 (cf 51 #[tp 16] #[3]) 86,rq 18 (cf 52 #[tp 15,tp 17] #[86,86]) 86,rq 19 (cf 53 #[tp 18] #[86]) 3,rq 4 (.assign (tp 19)) 3,rq 5 (.assign (ki 0)) 32]
def c24_9:RC:=.seq (.reg [] [rq 4 (.assign (ki 0)) 3,rq 5 (.assign (ki 0)) 32]) (.seq (.seq c24_1 c24_4) (.seq c24_6 .ret))
def c32_0:RC:=.reg [] [rq 2 (.box 27 (tp 0)) 0,rq 4 (.assign (.const (.pointer none))) 61,rq 5 (.assign (ki 0)) 32]
def c32_1:RC:=.reg [] [rq 12 (.load 27 (tp 2)) 27,rq 13 (cf 49 #[tp 12] #[27]) 62,rq 11 (.move (tp 13)) 62,rq 14 (.extract (tp 11) 0) 61,rq 15 (.extract (tp 11) 1) 32,rq 6 (.assign (tp 14)) 61,rq 7 (.assign (tp 15)) 32]
def c32_2:RC:=.reg [] [rq 16 (.move (tp 7)) 32,rq 17 (.binOp .neq 32 (tp 16) (ki 0) 32) 4]
def c32_3:RC:=.reg [] [rq 18 (.move (tp 7)) 32,rq 4 (.assign (.const (.pointer none))) 61,rq 5 (.assign (tp 18)) 32]
def c32_7:RC:=.reg [] [rq 19 (.move (tp 1)) 30,rq 20 (cb .len #[tp 19] #[30]) 3,rq 21 (.move (ki 0)) 3]
def c32_10:RC:=.reg [] [rq 23 (.indexAddr 30 (tp 19) (tp 21)) 0,rq 24 (.load 25 (tp 23)) 25,rq 9 (.assign (tp 24)) 25]
def c32_11:RC:=.reg [] [rq 25 (.move (tp 6)) 61,rq 26 (.move (tp 9)) 25,rq 27 (cf 58 #[tp 25,tp 26] #[61,25]) 32,rq 10 (.assign (tp 27)) 32]
def c32_12:RC:=.reg [] [rq 28 (.move (tp 10)) 32,rq 29 (.binOp .neq 32 (tp 28) (ki 0) 32) 4]
def c32_13:RC:=.reg [] [rq 30 (.move (tp 10)) 32,rq 4 (.assign (.const (.pointer none))) 61,rq 5 (.assign (tp 30)) 32]
def c32_18:RC:=.seq c32_10 (.seq c32_11 (.seq c32_12 (.cond (tp 29) (.seq c32_13 .ret) .skip)))
def c32_20:RC:=.reg [] [rq 31 (.binOp .add 3 (tp 21) (ki 1) 3) 3,rq 21 (.move (tp 31)) 3]
def c32_23:RC:=.seq (.reg [] [rq 22 (.binOp .lss 3 (tp 21) (tp 20) 3) 0]) (.seq (.cond (tp 22) .skip (.exit 0)) (.seq (.block 1 c32_18) c32_20))
def c32_27:RC:=.reg [] [rq 32 (.move (tp 6)) 61,rq 4 (.assign (tp 32)) 61,rq 5 (.assign (ki 0)) 32]
def c32_28:RC:=.seq c32_27 .ret
def c32_30:RC:=.seq (.seq c32_2 (.cond (tp 17) (.seq c32_3 .ret) .skip)) (.seq (.seq c32_7 (.block 0 (.loop c32_23))) c32_28)
def c32_32:RC:=.seq c32_0 (.seq c32_1 c32_30)
def c33_1:RC:=.reg [] [rq 6 (.move (tp 0)) 25,rq 7 (cb .len #[tp 6] #[25]) 3,rq 8 (.move (ki 0)) 3]
def c33_5:RC:=.reg [] [rq 11 (.move (tp 1)) 3,rq 12 (.move (tp 0)) 25,rq 13 (.move (tp 5)) 3,rq 14 (.indexAddr 25 (tp 12) (tp 13)) 0,rq 15 (.load 3 (tp 14)) 3,rq 16 (.binOp .eql 3 (tp 11) (tp 15) 3) 4]
def c33_8:RC:=.cond (tp 16) (.seq (.reg [] [rq 17 (.move (tp 5)) 3,rq 4 (.assign (tp 17)) 3]) .ret) .skip
def c33_10:RC:=.seq (.reg [] [rq 10 (.move (tp 8)) 3,rq 5 (.assign (tp 10)) 3]) (.seq c33_5 c33_8)
def c33_12:RC:=.reg [] [rq 18 (.binOp .add 3 (tp 8) (ki 1) 3) 3,rq 8 (.move (tp 18)) 3]
def c33_15:RC:=.seq (.reg [] [rq 9 (.binOp .lss 3 (tp 8) (tp 7) 3) 0]) (.seq (.cond (tp 9) .skip (.exit 0)) (.seq (.block 1 c33_10) c33_12))
def c33_20:RC:=.seq (.reg [] [rq 4 (.assign (ki (-1))) 3]) .ret
def c33_22:RC:=.seq (.reg [] [rq 4 (.assign (ki 0)) 3]) (.seq (.seq c33_1 (.block 0 (.loop c33_15))) c33_20)
def c34_1:RC:=.reg [] [rq 10 (.move (tp 1)) 25,rq 11 (cb .len #[tp 10] #[25]) 3,rq 12 (.makeSlice 25 (tp 11) (tp 11)) 25,rq 7 (.assign (tp 12)) 25]
def c34_2:RC:=.reg [] [rq 13 (.move (tp 0)) 61,rq 14 (.nilCheck (tp 13)) 0,rq 15 (.fieldAddr 66 (tp 14) 1) 0,rq 16 (.load 30 (tp 15)) 30,rq 17 (.move (tp 2)) 3,rq 18 (.indexAddr 30 (tp 16) (tp 17)) 0,rq 19 (.load 25 (tp 18)) 25,rq 20 (cb .len #[tp 19] #[25]) 3,rq 21 (.move (ki 0)) 3]
def c34_5:RC:=.reg [] [rq 23 (.move (tp 21)) 3,rq 24 (.indexAddr 25 (tp 19) (tp 21)) 0,rq 25 (.load 3 (tp 24)) 3,rq 8 (.assign (tp 23)) 3,rq 9 (.assign (tp 25)) 3]
def c34_6:RC:=.reg [] [rq 26 (.move (tp 7)) 25,rq 27 (.move (tp 8)) 3,rq 28 (.move (tp 1)) 25,rq 29 (.move (tp 9)) 3,rq 30 (.indexAddr 25 (tp 28) (tp 29)) 0,rq 31 (.load 3 (tp 30)) 3,rq 32 (.indexAddr 25 (tp 26) (tp 27)) 0,rn (.store 3 (tp 32) (tp 31)) 0]
def c34_9:RC:=.reg [] [rq 33 (.binOp .add 3 (tp 21) (ki 1) 3) 3,rq 21 (.move (tp 33)) 3]
def c34_11:RC:=.seq (.cond (tp 22) .skip (.exit 0)) (.seq (.block 1 (.seq c34_5 c34_6)) c34_9)
def c34_13:RC:=.loop (.seq (.reg [] [rq 22 (.binOp .lss 3 (tp 21) (tp 20) 3) 0]) c34_11)
def c34_17:RC:=.seq (.reg [] [rq 34 (.move (tp 7)) 25,rq 6 (.assign (tp 34)) 25]) .ret
def c34_20:RC:=.seq (.reg [] [rq 6 (.assign (.const (.slice none 0 0))) 25]) (.seq c34_1 (.seq (.seq c34_2 (.block 0 c34_13)) c34_17))
def c48_1:RC:=.reg [] [rq 7 (.move (tp 0)) 3,rq 8 (.move (tp 1)) 3,rq 9 (.binOp .leq 3 (tp 7) (tp 8) 3) 4,rq 10 (.move (tp 9)) 4,rg 11 (.move (tp 1)) 3 10 true,rg 12 (.move (tp 2)) 3 10 true,rg 13 (.binOp .leq 3 (tp 11) (tp 12) 3) 4 10 true,rq 14 (.pick (tp 10) (tp 13) (kb false)) 4,rq 6 (.assign (tp 14)) 4]
def c48_3:RC:=.seq (.reg [] [rq 6 (.assign (kb false)) 4]) (.seq c48_1 .ret)
def c49_0:RC:=.reg [] [rq 1 (.box 27 (tp 0)) 0,rq 2 (.assign (.const (.pointer none))) 61,rq 3 (.assign (ki 0)) 32]
def c49_1:RC:=.reg [] [rq 14 (.fieldAddr 27 (tp 1) 0) 0,rq 15 (.load 3 (tp 14)) 3,rq 16 (cf 48 #[ki 1,tp 15,ki 4] #[3,3,3]) 4,rq 17 (.unOp .not 4 (tp 16)) 4,rq 18 (.move (tp 17)) 4,rg 19 (.fieldAddr 27 (tp 1) 1) 0 18 false,rg 20 (.load 3 (tp 19)) 3 18 false,rg 21 (cf 48 #[ki 1,tp 20,ki 4] #[3,3,3]) 4 18 false,rg 22 (.unOp .not 4 (tp 21)) 4 18 false,rq 23 (.pick (tp 18) (kb true) (tp 22)) 4,rq 24 (.move (tp 23)) 4,rg 25 (.fieldAddr 27 (tp 1) 2) 0 24 false,rg 26 (.load 3 (tp 25)) 3 24 false,rg 27 (cf 48 #[ki 1,tp 26,ki 4] #[3,3,3]) 4 24 false,rg 28 (.unOp .not 4 (tp 27)) 4 24 false,rq 29 (.pick (tp 24) (kb true) (tp 28)) 4]
def c49_2:RC:=.reg [] [rq 2 (.assign (.const (.pointer none))) 61,rq 3 (.assign (ki 1)) 32]
def c49_6:RC:=.reg [] [rq 30 (.load 27 (tp 1)) 27,rq 31 (.build 66 #[(0,(tp 30))]) 66,rq 32 (.box 66 (tp 31)) 61,rq 4 (.assign (tp 32)) 61]
def c49_9:RC:=.reg [] [rq 33 (.fieldAddr 27 (tp 1) 3) 0,rq 34 (.load 25 (tp 33)) 25,rq 35 (cb .len #[tp 34] #[25]) 3,rq 36 (.move (ki 0)) 3]
def c49_12:RC:=.reg [] [rq 38 (.indexAddr 25 (tp 34) (tp 36)) 0,rq 39 (.load 3 (tp 38)) 3,rq 8 (.assign (tp 39)) 3]
def c49_13:RC:=.reg [] [rq 41 (.move (tp 8)) 3,rq 42 (cf 48 #[ki 0,tp 41,ki 7] #[3,3,3]) 4,rq 43 (.unOp .not 4 (tp 42)) 4,rq 40 (.assign (tp 43)) 4]
def c49_14:RC:=.reg [] [rq 2 (.assign (.const (.pointer none))) 61,rq 3 (.assign (ki 2)) 32]
def c49_16:RC:=.reg [] [rq 45 (.fieldAddr 27 (tp 1) 0) 0,rq 46 (.load 3 (tp 45)) 3,rq 47 (.fieldAddr 27 (tp 1) 1) 0,rq 48 (.load 3 (tp 47)) 3,rq 49 (.binOp .neq 3 (tp 46) (tp 48) 3) 4,rq 50 (.move (tp 49)) 4,rg 51 (.move (tp 8)) 3 50 true,rg 52 (cf 51 #[tp 51] #[3]) 86 50 true,rg 53 (.field 86 (tp 52) 0) 3 50 true,rg 54 (.binOp .rem 3 (tp 53) (ki 2) 3) 3 50 true,rg 55 (.binOp .eql 3 (tp 54) (ki 1) 3) 4 50 true,rq 56 (.pick (tp 50) (tp 55) (kb false)) 4,rq 44 (.assign (tp 56)) 4]
def c49_17:RC:=.reg [] [rq 2 (.assign (.const (.pointer none))) 61,rq 3 (.assign (ki 8)) 32]
def c49_19:RC:=.reg [] [rq 58 (.move (tp 8)) 3,rq 59 (.move (tp 5)) 3,rq 60 (.binOp .leq 3 (tp 58) (tp 59) 3) 4,rq 57 (.assign (tp 60)) 4]
def c49_20:RC:=.reg [] [rq 2 (.assign (.const (.pointer none))) 61,rq 3 (.assign (ki 7)) 32]
def c49_24:RC:=.cond (tp 44) (.seq c49_17 .ret) (.seq c49_19 (.cond (tp 57) (.seq c49_20 .ret) .skip))
def c49_28:RC:=.block 2 (.seq c49_13 (.cond (tp 40) (.seq c49_14 .ret) (.seq c49_16 c49_24)))
def c49_30:RC:=.reg [] [rq 62 (.move (tp 6)) 5,rq 63 (.move (tp 8)) 3,rq 64 (.binOp .shl 5 (.const (.int .u8 1)) (tp 63) 3) 5,rq 65 (.binOp .or 5 (tp 62) (tp 64) 5) 5,rq 6 (.assign (tp 65)) 5]
def c49_31:RC:=.reg [0,1,2,3,4,5,6,7,8,9,10,11,12] [rq 66 (.move (tp 4)) 61,rq 67 (.move (tp 4)) 61,rq 68 (.nilCheck (tp 67)) 0,rq 69 (.fieldAddr 66 (tp 68) 1) 0,rq 70 (.load 30 (tp 69)) 30,rq 71 (.load 27 (tp 1)) 27,rq 72 (.move (tp 8)) 3,⟨(some 73),cf 66 #[tp 71,tp 72] #[27,3],25,none,[(tp 69)]⟩,rq 74 (.buildSlice 30 1 #[(0,(tp 73))]) 30,rq 75 (cb .append #[tp 70,tp 74] #[30,30]) 30,rq 76 (.nilCheck (tp 66)) 0,rq 77 (.fieldAddr 66 (tp 76) 1) 0,rn (.store 30 (tp 77) (tp 75)) 0]
def c49_33:RC:=.seq (.reg [] [rq 61 (.move (tp 8)) 3,rq 5 (.assign (tp 61)) 3]) (.seq c49_30 c49_31)
def c49_37:RC:=.reg [] [rq 78 (.binOp .add 3 (tp 36) (ki 1) 3) 3,rq 36 (.move (tp 78)) 3]
def c49_39:RC:=.seq (.cond (tp 37) .skip (.exit 0)) (.seq (.block 1 (.seq c49_12 (.seq c49_28 c49_33))) c49_37)
def c49_41:RC:=.loop (.seq (.reg [] [rq 37 (.binOp .lss 3 (tp 36) (tp 35) 3) 0]) c49_39)
def c49_44:RC:=.reg [] [rq 79 (.move (tp 6)) 5,rq 80 (.binOp .and 5 (tp 79) (.const (.int .u8 1)) 5) 5,rq 81 (.binOp .eql 5 (tp 80) (.const (.int .u8 0)) 5) 4]
def c49_45:RC:=.reg [] [rq 2 (.assign (.const (.pointer none))) 61,rq 3 (.assign (ki 21)) 32]
def c49_49:RC:=.reg [] [rq 82 (.fieldAddr 27 (tp 1) 3) 0,rq 83 (.load 25 (tp 82)) 25,rq 84 (cb .len #[tp 83] #[25]) 3,rq 85 (.move (ki 0)) 3]
def c49_52:RC:=.reg [] [rq 87 (.indexAddr 25 (tp 83) (tp 85)) 0,rq 88 (.load 3 (tp 87)) 3,rq 10 (.assign (tp 88)) 3]
def c49_53:RC:=.reg [] [rq 89 (.fieldAddr 27 (tp 1) 3) 0,rq 90 (.load 25 (tp 89)) 25,rq 91 (cb .len #[tp 90] #[25]) 3,rq 92 (.move (ki 0)) 3]
def c49_56:RC:=.reg [] [rq 94 (.indexAddr 25 (tp 90) (tp 92)) 0,rq 95 (.load 3 (tp 94)) 3,rq 12 (.assign (tp 95)) 3]
def c49_57:RC:=.reg [] [rq 96 (.move (tp 10)) 3,rq 97 (cf 51 #[tp 96] #[3]) 86,rq 98 (.move (tp 12)) 3,rq 99 (cf 51 #[tp 98] #[3]) 86,rq 100 (cf 52 #[tp 97,tp 99] #[86,86]) 86,rq 101 (cf 53 #[tp 100] #[86]) 3,rq 13 (.assign (tp 101)) 3]
def c49_58:RC:=.reg [] [rq 102 (.move (tp 6)) 5,rq 103 (.move (tp 13)) 3,rq 104 (.binOp .shr 5 (tp 102) (tp 103) 3) 5,rq 105 (.binOp .and 5 (tp 104) (.const (.int .u8 1)) 5) 5,rq 106 (.binOp .eql 5 (tp 105) (.const (.int .u8 0)) 5) 4]
def c49_59:RC:=.reg [] [rq 2 (.assign (.const (.pointer none))) 61,rq 3 (.assign (ki 21)) 32]
def c49_64:RC:=.seq c49_56 (.seq c49_57 (.seq c49_58 (.cond (tp 106) (.seq c49_59 .ret) .skip)))
def c49_66:RC:=.reg [] [rq 107 (.binOp .add 3 (tp 92) (ki 1) 3) 3,rq 92 (.move (tp 107)) 3]
def c49_69:RC:=.seq (.reg [] [rq 93 (.binOp .lss 3 (tp 92) (tp 91) 3) 0]) (.seq (.cond (tp 93) .skip (.exit 5)) (.seq (.block 6 c49_64) c49_66))
def c49_75:RC:=.reg [] [rq 108 (.binOp .add 3 (tp 85) (ki 1) 3) 3,rq 85 (.move (tp 108)) 3]
def c49_76:RC:=.seq (.block 4 (.seq c49_52 (.seq c49_53 (.block 5 (.loop c49_69))))) c49_75
def c49_78:RC:=.seq (.reg [] [rq 86 (.binOp .lss 3 (tp 85) (tp 84) 3) 0]) (.seq (.cond (tp 86) .skip (.exit 3)) c49_76)
def c49_82:RC:=.reg [] [rq 109 (.move (tp 4)) 61,rq 2 (.assign (tp 109)) 61,rq 3 (.assign (ki 0)) 32]
def c49_83:RC:=.seq c49_82 .ret
def c49_85:RC:=.seq (.seq c49_44 (.cond (tp 81) (.seq c49_45 .ret) .skip)) (.seq (.seq c49_49 (.block 3 (.loop c49_78))) c49_83)
def c49_87:RC:=.seq (.reg [] [rq 6 (.assign (.const (.int .u8 0))) 5]) (.seq (.seq c49_9 (.block 0 c49_41)) c49_85)
def c49_90:RC:=.seq (.seq c49_1 (.cond (tp 29) (.seq c49_2 .ret) .skip)) (.seq c49_6 (.seq (.reg [] [rq 5 (.assign (ki (-1))) 3]) c49_87))
def c49_91:RC:=.seq c49_0 c49_90
def c51_2:RC:=.reg [] [rq 5 (.binOp .eql 3 (tp 3) (ki 4) 3) 4,rq 4 (.assign (tp 5)) 4]
def c51_3:RC:=.reg [] [rq 6 (.build 86 #[(0,(ki 0)),(1,(kb true))]) 86,rn (.store 86 (tp 2) (tp 6)) 0]
def c51_5:RC:=.reg [] [rq 8 (.binOp .eql 3 (tp 3) (ki 5) 3) 4,rq 7 (.assign (tp 8)) 4]
def c51_6:RC:=.reg [] [rq 9 (.build 86 #[(0,(ki 2)),(1,(kb true))]) 86,rn (.store 86 (tp 2) (tp 9)) 0]
def c51_8:RC:=.reg [] [rq 11 (.binOp .eql 3 (tp 3) (ki 6) 3) 4,rq 10 (.assign (tp 11)) 4]
def c51_9:RC:=.reg [] [rq 12 (.build 86 #[(0,(ki 1)),(1,(kb true))]) 86,rn (.store 86 (tp 2) (tp 12)) 0]
def c51_11:RC:=.reg [] [rq 14 (.binOp .eql 3 (tp 3) (ki 7) 3) 4,rq 13 (.assign (tp 14)) 4]
def c51_12:RC:=.reg [] [rq 15 (.build 86 #[(0,(ki 3)),(1,(kb true))]) 86,rn (.store 86 (tp 2) (tp 15)) 0]
def c51_16:RC:=.cond (tp 10) (.seq c51_9 .ret) (.seq c51_11 (.cond (tp 13) (.seq c51_12 .ret) .skip))
def c51_20:RC:=.cond (tp 4) (.seq c51_3 .ret) (.seq c51_5 (.cond (tp 7) (.seq c51_6 .ret) (.seq c51_8 c51_16)))
def c51_24:RC:=.reg [] [rq 16 (.move (tp 0)) 3,rq 17 (.build 86 #[(0,(tp 16)),(1,(kb false))]) 86,rn (.store 86 (tp 2) (tp 17)) 0]
def c51_26:RC:=.seq (.seq (.reg [] [rq 3 (.move (tp 0)) 3]) (.block 0 (.seq c51_2 c51_20))) (.seq c51_24 .ret)
def c51_27:RC:=.seq (.reg [] [rq 2 (.alloc 86) 0]) c51_26
def c52_0:RC:=.reg [] [rq 2 (.box 86 (tp 0)) 0,rq 3 (.box 86 (tp 1)) 0,rq 4 (.alloc 86) 0]
def c52_2:RC:=.reg [] [rq 7 (.fieldAddr 86 (tp 3) 0) 0,rq 8 (.load 3 (tp 7)) 3,rq 9 (.unOp .neg 3 (tp 8)) 3,rq 10 (.fieldAddr 86 (tp 3) 0) 0,rn (.store 3 (tp 10) (tp 9)) 0]
def c52_4:RC:=.seq (.reg [] [rq 5 (.fieldAddr 86 (tp 2) 1) 0,rq 6 (.load 4 (tp 5)) 4]) (.cond (tp 6) c52_2 .skip)
def c52_5:RC:=.reg [] [rq 11 (.fieldAddr 86 (tp 2) 0) 0,rq 12 (.load 3 (tp 11)) 3,rq 13 (.fieldAddr 86 (tp 3) 0) 0,rq 14 (.load 3 (tp 13)) 3,rq 15 (.binOp .add 3 (tp 12) (tp 14) 3) 3,rq 16 (.fieldAddr 86 (tp 2) 1) 0,rq 17 (.load 4 (tp 16)) 4,rq 18 (.fieldAddr 86 (tp 3) 1) 0,rq 19 (.load 4 (tp 18)) 4,rq 20 (.binOp .neq 4 (tp 17) (tp 19) 4) 4,rq 21 (.build 86 #[(0,(tp 15)),(1,(tp 20))]) 86,rn (.store 86 (tp 4) (tp 21)) 0]
def c52_6:RC:=.seq c52_5 .ret
def c52_8:RC:=.seq c52_0 (.seq c52_4 c52_6)
def c53_1:RC:=.reg [] [rq 4 (.fieldAddr 86 (tp 1) 0) 0,rq 5 (.load 3 (tp 4)) 3,rq 6 (.binOp .add 3 (tp 5) (ki 4) 3) 3,rq 7 (.binOp .rem 3 (tp 6) (ki 4) 3) 3,rq 3 (.assign (tp 7)) 3]
def c53_2:RC:=.reg [] [rq 9 (.fieldAddr 86 (tp 1) 1) 0,rq 10 (.load 4 (tp 9)) 4,rq 11 (.unOp .not 4 (tp 10)) 4,rq 8 (.assign (tp 11)) 4]
def c53_5:RC:=.reg [] [rq 14 (.move (tp 3)) 3,rq 15 (.binOp .eql 3 (tp 14) (ki 0) 3) 4,rq 13 (.assign (tp 15)) 4]
def c53_8:RC:=.reg [] [rq 17 (.move (tp 3)) 3,rq 18 (.binOp .eql 3 (tp 17) (ki 1) 3) 4,rq 16 (.assign (tp 18)) 4]
def c53_11:RC:=.reg [] [rq 20 (.move (tp 3)) 3,rq 21 (.binOp .eql 3 (tp 20) (ki 2) 3) 4,rq 19 (.assign (tp 21)) 4]
def c53_15:RC:=.seq c53_11 (.cond (tp 19) (.seq (.reg [] [rq 2 (.assign (ki 5)) 3]) .ret) .skip)
def c53_17:RC:=.seq c53_8 (.cond (tp 16) (.seq (.reg [] [rq 2 (.assign (ki 6)) 3]) .ret) c53_15)
def c53_19:RC:=.seq c53_5 (.cond (tp 13) (.seq (.reg [] [rq 2 (.assign (ki 4)) 3]) .ret) c53_17)
def c53_20:RC:=.cond (tp 8) (.seq (.reg [] [rq 12 (.move (tp 3)) 3,rq 2 (.assign (tp 12)) 3]) .ret) c53_19
def c53_25:RC:=.seq (.block 0 (.seq c53_2 c53_20)) (.seq (.reg [] [rq 2 (.assign (ki 7)) 3]) .ret)
def c53_27:RC:=.seq (.reg [] [rq 1 (.box 86 (tp 0)) 0,rq 2 (.assign (ki 0)) 3]) (.seq c53_1 c53_25)
def c58_1:RC:=.reg [0,1,2,3,4,5,6,7,8,9,10,11,12,13,14] [rq 6 (.move (tp 1)) 25,rq 7 (cb .len #[tp 6] #[25]) 3,rq 8 (.move (tp 0)) 61,rq 9 (.nilCheck (tp 8)) 0,rq 10 (.fieldAddr 66 (tp 9) 0) 0,rq 11 (.fieldAddr 27 (tp 10) 0) 0,rq 12 (.load 3 (tp 11)) 3,rq 13 (.move (tp 0)) 61,rq 14 (.nilCheck (tp 13)) 0,rq 15 (.fieldAddr 66 (tp 14) 0) 0,rq 16 (.fieldAddr 27 (tp 15) 1) 0,rq 17 (.load 3 (tp 16)) 3,rq 18 (.binOp .mul 3 (tp 12) (tp 17) 3) 3,rq 19 (.binOp .neq 3 (tp 7) (tp 18) 3) 4,rq 5 (.assign (tp 19)) 4]
def c58_4:RC:=.reg [0,1,2,3,4,6,7,8,9,10,5,11,12,13] [rq 21 (.move (tp 1)) 25,rq 22 (cf 68 #[tp 21] #[25]) 3,rq 23 (.binOp .lss 3 (tp 22) (ki 0) 3) 4,rq 24 (.move (tp 23)) 4,rg 25 (.move (tp 1)) 25 24 false,rg 27 (.move (tp 0)) 61 24 false,rg 28 (.nilCheck (tp 27)) 0 24 false,rg 29 (.fieldAddr 66 (tp 28) 0) 0 24 false,rg 30 (.fieldAddr 27 (tp 29) 2) 0 24 false,rg 31 (.load 3 (tp 30)) 3 24 false,⟨(some 26),cf 69 #[tp 25] #[25],3,(some ((some 24),false)),[(tp 30)]⟩,rg 32 (.binOp .geq 3 (tp 26) (tp 31) 3) 4 24 false,rq 33 (.pick (tp 24) (kb true) (tp 32)) 4,rq 20 (.assign (tp 33)) 4]
def c58_8:RC:=.seq c58_4 (.cond (tp 20) (.seq (.reg [] [rq 4 (.assign (ki 1)) 32]) .ret) .skip)
def c58_10:RC:=.seq c58_1 (.cond (tp 5) (.seq (.reg [] [rq 4 (.assign (ki 5)) 32]) .ret) c58_8)
def c58_14:RC:=.seq (.block 0 c58_10) (.seq (.reg [] [rq 4 (.assign (ki 0)) 32]) .ret)
def c58_15:RC:=.seq (.reg [] [rq 4 (.assign (ki 0)) 32]) c58_14
def c68_1:RC:=.reg [] [rq 5 (.move (tp 0)) 25,rq 6 (cb .len #[tp 5] #[25]) 3,rq 7 (.binOp .lss 3 (tp 6) (ki 1) 3) 4]
def c68_2:RC:=.reg [] [rq 8 (.makeInterface 9 (.const (.string ⟨#[115,108,105,99,101,115,46,77,105,110,58,32,101,109,112,116,121,32,108,105,115,116]⟩))) 20,rn (.panic (tp 8)) 0]
def c68_5:RC:=.reg [] [rq 9 (.move (tp 0)) 25,rq 10 (.indexAddr 25 (tp 9) (ki 0)) 0,rq 11 (.load 3 (tp 10)) 3,rq 3 (.assign (tp 11)) 3]
def c68_7:RC:=.reg [] [rq 12 (.move (tp 4)) 3,rq 13 (.move (tp 0)) 25,rq 14 (cb .len #[tp 13] #[25]) 3,rq 15 (.binOp .lss 3 (tp 12) (tp 14) 3) 4]
def c68_10:RC:=.reg [] [rq 18 (.move (tp 3)) 3,rq 19 (.move (tp 0)) 25,rq 20 (.move (tp 4)) 3,rq 21 (.indexAddr 25 (tp 19) (tp 20)) 0,rq 22 (.load 3 (tp 21)) 3,rq 23 (cb .min #[tp 18,tp 22] #[3,3]) 3,rq 3 (.assign (tp 23)) 3]
def c68_12:RC:=.reg [] [rq 16 (.move (tp 4)) 3,rq 17 (.binOp .add 3 (tp 16) (ki 1) 3) 3,rq 4 (.assign (tp 17)) 3]
def c68_14:RC:=.seq (.seq c68_7 (.cond (tp 15) .skip (.exit 0))) (.seq (.block 1 c68_10) c68_12)
def c68_19:RC:=.seq (.reg [] [rq 24 (.move (tp 3)) 3,rq 2 (.assign (tp 24)) 3]) .ret
def c68_20:RC:=.seq (.seq (.reg [] [rq 4 (.assign (ki 1)) 3]) (.block 0 (.loop c68_14))) c68_19
def c68_21:RC:=.seq c68_5 c68_20
def c68_23:RC:=.seq (.reg [] [rq 2 (.assign (ki 0)) 3]) (.seq (.seq c68_1 (.cond (tp 7) c68_2 .skip)) c68_21)
def c69_1:RC:=.reg [] [rq 5 (.move (tp 0)) 25,rq 6 (cb .len #[tp 5] #[25]) 3,rq 7 (.binOp .lss 3 (tp 6) (ki 1) 3) 4]
def c69_2:RC:=.reg [] [rq 8 (.makeInterface 9 (.const (.string ⟨#[115,108,105,99,101,115,46,77,97,120,58,32,101,109,112,116,121,32,108,105,115,116]⟩))) 20,rn (.panic (tp 8)) 0]
def c69_5:RC:=.reg [] [rq 9 (.move (tp 0)) 25,rq 10 (.indexAddr 25 (tp 9) (ki 0)) 0,rq 11 (.load 3 (tp 10)) 3,rq 3 (.assign (tp 11)) 3]
def c69_7:RC:=.reg [] [rq 12 (.move (tp 4)) 3,rq 13 (.move (tp 0)) 25,rq 14 (cb .len #[tp 13] #[25]) 3,rq 15 (.binOp .lss 3 (tp 12) (tp 14) 3) 4]
def c69_10:RC:=.reg [] [rq 18 (.move (tp 3)) 3,rq 19 (.move (tp 0)) 25,rq 20 (.move (tp 4)) 3,rq 21 (.indexAddr 25 (tp 19) (tp 20)) 0,rq 22 (.load 3 (tp 21)) 3,rq 23 (cb .max #[tp 18,tp 22] #[3,3]) 3,rq 3 (.assign (tp 23)) 3]
def c69_12:RC:=.reg [] [rq 16 (.move (tp 4)) 3,rq 17 (.binOp .add 3 (tp 16) (ki 1) 3) 3,rq 4 (.assign (tp 17)) 3]
def c69_14:RC:=.seq (.seq c69_7 (.cond (tp 15) .skip (.exit 0))) (.seq (.block 1 c69_10) c69_12)
def c69_19:RC:=.seq (.reg [] [rq 24 (.move (tp 3)) 3,rq 2 (.assign (tp 24)) 3]) .ret
def c69_20:RC:=.seq (.seq (.reg [] [rq 4 (.assign (ki 1)) 3]) (.block 0 (.loop c69_14))) c69_19
def c69_21:RC:=.seq c69_5 c69_20
def c69_23:RC:=.seq (.reg [] [rq 2 (.assign (ki 0)) 3]) (.seq (.seq c69_1 (.cond (tp 7) c69_2 .skip)) c69_21)
def c25_1:RC:=.reg [] [rq 6 (.load 27 (tp 1)) 27,rq 7 (cf 49 #[tp 6] #[27]) 62,rq 5 (.move (tp 7)) 62,rq 8 (.extract (tp 5) 0) 61,rq 9 (.extract (tp 5) 1) 32,rq 3 (.assign (tp 8)) 61,rq 4 (.assign (tp 9)) 32]
def c25_3:RC:=.seq (.reg [] [rq 10 (.move (tp 4)) 32,rq 2 (.assign (tp 10)) 32]) .ret
def c25_5:RC:=.seq (.reg [] [rq 1 (.box 27 (tp 0)) 0,rq 2 (.assign (ki 0)) 32]) (.seq c25_1 c25_3)
end Go.BkP
