/- Made from wip. -/
import Derived.Test.YtciohfkjabeooaaGreatDoorBaChunk
import Derived.Test.YtciohfkjabeooaaGreatDoorBaAJoinx
import Derived.Test.YtciohfkjabeooaaGreatDoorBkCellsx
import Derived.Test.YtciohfkjabeooaaGreatDoorSpYield
import Derived.Test.YtciohfkjabeooaaGreatDoorSpClox
import Derived.KernelRfl
import Derived.Shelf.Sort.Plain
import Derived.Ground.Names2Prog
import Derived.Ground.SlgnProg
import Derived.Test.YtciohfkjabeooaaGreatDoorProg
import Derived.RangeFuncBox
import Derived.RangeFuncNested
import Derived.RangeFuncBound
import Derived.RangeFuncCalls
import Derived.RangeFuncLeaves
import Derived.Shelf.Abstract
import Derived.Shelf.RegionOpen
import Derived.WalkKit
import Derived.OwnWalkIn
import Derived.TacticsInMore
import Derived.LoopNIn
import Derived.LoopIn
import Derived.Maps.AppendAt

namespace Go.Proofs
open Go Go.RowKit Go.Shelf Go.Sp Go.BaA Go.Proofs.YtciohfkjabeooaaGreatDoor.BaA
attribute [local go_sem] Oper.semAt_some

noncomputable section
def eH:List Value:=[.int .u8 0,.int .u8 1,.int .u8 28,.int .u8 2,.int .u8 29,.int .u8 14,.int .u8 24,.int .u8 3,.int .u8 30,.int .u8 22,.int .u8 20,.int .u8 15,.int .u8 25,.int .u8 17,.int .u8 4,.int .u8 8,.int .u8 31,.int .u8 27,.int .u8 13,.int .u8 23,.int .u8 21,.int .u8 19,.int .u8 16,.int .u8 7,.int .u8 26,.int .u8 12,.int .u8 18,.int .u8 6,.int .u8 11,.int .u8 5,.int .u8 10,.int .u8 9]
def Fb:List (List Value):=[eH]
def Gn (c x:Nat) (zs:List Int):List Int:=zs.take (x*c)++(((zs.drop (x*c)).take c).reverse++zs.drop (x*c+c))
def Gu (zs:List Int):Aa:=((Ao Fb).push (.cells [] false false [])).push (.cells (AP G5 zs) false false [])
def MG (c:Nat) {r:Nat} (zs:List Int) (xs:List (Fin r)):List Int:=xs.foldl (fun zs x=>Gn c x.1 zs) zs
end
set_option maxHeartbeats 1000000 in
theorem kQ (F:Fence) (n:Nat) (h97:F.fn 79) (hro:F.round=none) (a:Option Addr) (len cap c:Nat) (hc:1≤c) (hc4:c≤4) (w:World) :
 CallsIn F n Tryz.prog 79 #[.slice a len cap,.int .i64 c] w fun e w'=>e = .returned (.func (.func 100) #[] #[.pointer (some ⟨w.heap.size,0,none⟩),.pointer (some ⟨w.heap.size+1,0,none⟩)])∧w'=(w.alloc (.cells #[.slice a len cap] 22)).alloc (.cells #[.int .i64 c] 3):=by
 refine callsIn_of_wp Tryz.func79 rfl h97 ?_ hro
 simp only[Tryz.ntmps79,List.size_toArray,List.length_cons,List.length_nil,Nat.reduceAdd,Nat.reduceSub,Array.replicate_succ,Array.replicate_zero,List.push_toArray,List.append_toArray,List.nil_append,List.cons_append]
 gi_wp2
 go_ret
 exact⟨rfl,rfl⟩
def Afz (Bs Bn:Nat) (A B:World):Prop:=B.heap[Bs]?=A.heap[Bs]?∧B.heap[Bn]?=A.heap[Bn]?
theorem Uf (n:Nat) (hn:1≤n) (Bs Bn b off r c N cap:Nat) (hr:0 < r) (hc:1≤c) (hc4:c≤4) (hN:N=r*c) (hrc:N≤16) (hcap:N≤cap) (w:World) (hBs:Bs < w.heap.size) (hBn:Bn < w.heap.size)
 (h1:w.cell? ⟨Bs,0,none⟩=some (.slice (some ⟨b,off,none⟩) N cap)) (h2:w.cell? ⟨Bn,0,none⟩=some (.int .i64 c)) :
 SeqStopsK Fence.wide n Tryz.prog 100 #[.pointer (some ⟨Bs,0,none⟩),.pointer (some ⟨Bn,0,none⟩)] (fun x:Fin r=>#[.slice (some ⟨b,off+x.1*c,none⟩) c c]) (Afz Bs Bn) (fun xs=>xs=O7 hr r) (fun _=>True) r w:=fun l J Jx W hW hJ hJx hY h0=>by
 have hs:=(World.cell?_of_block (w:=w) (a:=⟨Bs,0,none⟩) (hW.block Bs hBs)).trans h1
 have hb:=(World.cell?_of_block (w:=w) (a:=⟨Bn,0,none⟩) (hW.block Bn hBn)).trans h2
 refine (eF Fence.wide n trivial rfl hn l Bs Bn b off r c N cap hr hc hc4 hN hrc hcap J Jx (fun s A h => hJ s A A.drew none h ⟨rfl, rfl, rfl, Nat.le_refl _, fun _ _ _ => rfl⟩ (fun r e => by cases e))
  (fun pre x W1 hj hl=>(hY pre x W1 hj hl).mono fun e W' h=>?_) W hs hb h0).mono fun e W' ⟨he,h⟩=>⟨he,?_⟩
 ·rcases h with⟨he,hj,k1,k2⟩ | h
  ·exact .inl ⟨he,hj,World.cell?_of_block k1,World.cell?_of_block k2⟩
  ·exact .inr h
 ·exact h

noncomputable def Ww:List (Nat×Nat×Nat):=[1,2,3,4].flatMap fun r=>[1,2,3,4].flatMap fun c=>(Go.BkQ.upN r).map fun x=>(r,c,x)
theorem xZ (z:Nat→Int):AP (fun p:Nat×Nat×Nat=>Cr tt K7 40 68 [.slice (some ⟨2,p.2.2*p.2.1,some 1⟩) p.2.1 (2*p.2.1)] (Gu (AP z (Go.BkQ.upN (p.1*p.2.1))))) Ww=AP (fun p:Nat×Nat×Nat=>some (.tuple ⟨[]⟩,Gu (Gn p.2.1 p.2.2 (AP z (Go.BkQ.upN (p.1*p.2.1)))))) Ww:=by kernel_rfl
theorem eO:∀ n,Go.BkQ.upN n=List.range n
 | 0=>rfl
 | n + 1 => by
  rw[List.range_succ,←eO n,←BH];rfl
theorem Wy {n:Nat} {zs:List Int} (hz:zs.length=n):AP (fun i=>zs.getD i 0) (Go.BkQ.upN n)=zs:=by
 rw[Cc,eO,←hz]
 apply List.ext_getElem
 ·simp
 ·intro i h1 h2
  simp[List.getD_eq_getElem?_getD,h2]
theorem AfA {r c:Nat} (hr:1≤r) (hr4:r≤4) (hc:1≤c) (hc4:c≤4) (zs:List Int) (hz:zs.length=r*c) (x:Nat) (hx:x < r) :
 Cr tt K7 40 68 [.slice (some ⟨2,x*c,some 1⟩) c (2*c)] (Gu zs)=some (.tuple ⟨[]⟩,Gu (Gn c x zs)):=by
 have h4:∀ n,1≤n→n≤4→n∈[1,2,3,4]:=fun n h1 h2=>by
  obtain rfl | rfl | rfl | rfl:n=1∨n=2∨n=3∨n=4:=by omega
  all_goals simp
 have hm:(r,c,x)∈Ww:=List.mem_flatMap.2 ⟨r,h4 r hr hr4,List.mem_flatMap.2 ⟨c,h4 c hc hc4,List.mem_map.2 ⟨x,by rw[eO];exact List.mem_range.2 hx,rfl⟩⟩⟩
 have e:AP (fun i=>zs.getD i 0) (Go.BkQ.upN (r*c))=zs:=Wy hz
 have h:=xZ fun i=>zs.getD i 0
 rw[Cc,Cc] at h
 have h:=List.map_inj_left.1 h _ hm
 have h:Cr tt K7 40 68 [.slice (some ⟨2,x*c,some 1⟩) c (2*c)] (Gu (AP (fun i=>zs.getD i 0) (Go.BkQ.upN (r*c))))=some (.tuple ⟨[]⟩,Gu (Gn c x (AP (fun i=>zs.getD i 0) (Go.BkQ.upN (r*c))))):=h
 rw[e] at h
 exact h
def OA:List Nat:=[1,2,3,4,6,8,9,12,16]
theorem eP {r c:Nat} (hr:1≤r) (hr4:r≤4) (hc:1≤c) (hc4:c≤4):r*c∈OA:=by
 obtain rfl | rfl | rfl | rfl:r=1∨r=2∨r=3∨r=4:=by omega
 all_goals
  obtain rfl | rfl | rfl | rfl:c=1∨c=2∨c=3∨c=4:=by omega
  all_goals decide
theorem eQ (z:Nat→Int):AP (fun n=>Cr tt K7 40 29 [FP 1 n 0 (AP G5 (AP z (Go.BkQ.upN n)))] (Ao Fb)) OA=AP (fun n=>some (.slice (some ⟨2,0,some 1⟩) n (2*n),Gu (AP z (Go.BkQ.upN n)))) OA:=by kernel_rfl
theorem kR {r c:Nat} (hr:1≤r) (hr4:r≤4) (hc:1≤c) (hc4:c≤4) (zs:List Int) (hz:zs.length=r*c) :
 Cr tt K7 40 29 [FP 1 (r*c) 0 (AP G5 zs)] (Ao Fb)=some (.slice (some ⟨2,0,some 1⟩) (r*c) (2*(r*c)),Gu zs):=by
 have h:=eQ fun i=>zs.getD i 0
 rw[Cc,Cc] at h
 have h:=List.map_inj_left.1 h _ (eP hr hr4 hc hc4)
 have h:Cr tt K7 40 29 [FP 1 (r*c) 0 (AP G5 (AP (fun i=>zs.getD i 0) (Go.BkQ.upN (r*c))))] (Ao Fb)=some (.slice (some ⟨2,0,some 1⟩) (r*c) (2*(r*c)),Gu (AP (fun i=>zs.getD i 0) (Go.BkQ.upN (r*c)))):=h
 rw[Wy hz] at h
 exact h
theorem Yj (zs:List Int) (i:Nat) (h:i < 3):∃ xs imm spent anc,(Gu zs).get i = .cells xs imm spent anc:=by
 obtain rfl | rfl | rfl:i=0∨i=1∨i=2:=by omega
 ·exact⟨_,_,_,_,rfl⟩
 ·exact⟨_,_,_,_,rfl⟩
 ·exact⟨_,_,_,_,rfl⟩
theorem HY (zs:List Int):Qx (Gu zs):=fun i h=>Yj zs i h
theorem Ug {c x:Nat} {zs:List Int}:(Gn c x zs).length=zs.length:=by
 simp only[Gn,List.length_append,List.length_take,List.length_reverse,List.length_drop]
 omega
theorem PO (c:Nat) {r:Nat} (zs:List Int) (xs:List (Fin r)) (x:Fin r):MG c zs (xs++[x])=Gn c x.1 (MG c zs xs):=by simp[MG]
theorem RY (c:Nat) {r:Nat} (zs:List Int) (xs:List (Fin r)):(MG c zs xs).length=zs.length:=by
 unfold MG
 induction xs generalizing zs with
 | nil=>rfl
 | cons x xs ih=>rw[List.foldl_cons,ih,Ug]

set_option maxRecDepth 100000 in
set_option maxHeartbeats 4000000 in
theorem Uh (hm:Tryz.prog.follows .mixedOrders=true) {r c N:Nat} (hr:1≤r) (hr4:r≤4) (hc:1≤c) (hc4:c≤4) (hN:N=r*c) {zs:List Int} (hz:zs.length=N) {R:Sp.Ren} {w:World} {args':List Value}
 (hR:R.f=fun i=>if i < Fb.length then some (i,0) else none) (hs:Ck (Ao Fb) R w) (ha:Cf R [FP 1 N 0 (AP G5 zs),.int .i64 c] args') :
 Calls Tryz.prog 70 ⟨args'⟩ w fun e w'=>∃ u R',e = .returned u∧VR R' (.slice (some ⟨2,0,some 1⟩) N (2*N)) u∧Ba (Ao Fb) R w (Gu (MG c zs (O7 hr r))) R' w':=by
 have hrc:N≤16:=by rw[hN];exact Nat.mul_le_mul hr4 hc4
 have hN1:1≤N:=by rw[hN];exact Nat.mul_le_mul hr hc
 have hgl:JH (List.range 1) R:=fun g hg=>by
  simp at hg;subst hg;rw[hR];rfl
 obtain⟨u0,us,rfl,hu0,ha1⟩:=ha.uncons
 obtain⟨u1,us,rfl,hu1,hnil⟩:=ha1.uncons
 obtain rfl:=hnil.unnil
 have hu1:=hu1.int_l
 subst hu1
 have hclone:=((Rx Gm UQ hm 40) 29 _ _ _ _ (by rw[hN] at hz ⊢;exact kR hr hr4 hc hc4 zs hz:Cr tt K7 40 29 [FP 1 N 0 (AP G5 zs)] (Ao Fb)=some (.slice (some ⟨2,0,some 1⟩) N (2*N),Gu zs))).2 R w [u0] hs hgl (.one hu0)
 have hcl:Calls Tryz.prog 29 #[u0] w fun e w1=>∃ (cb β cap:Nat) (R1:Sp.Ren),e = .returned (.slice (some ⟨cb,β,none⟩) N cap)∧R1.f 2=some (cb,β)∧N≤cap∧β+cap≤R1.sz cb∧Ba (Ao Fb) R w (Gu zs) R1 w1:=by
  refine hclone.mono fun e w1 ⟨v1,R1,he,hv,hp⟩=>?_
  cases hv with
  | @sl _ _ _ _ _ cb β cap hf h1 h2 h3 h4=>exact⟨cb,β,cap,R1,by rw[he,Nat.add_zero],hf,by omega,by omega,hp⟩
  | slE h=>omega
  | slN h=>omega
 clear hclone
 have hck:=fun (a:Option Addr) (len cap:Nat) (w:World)=>kQ Fence.wide (10 - 1) trivial rfl a len cap c hc hc4 w
 have hNh:Hid (N=r*c):=hN
 clear hN
 refine callsIn_wide (n:=10).1 ?_
 refine callsIn_of_wp_marks Tryz.func70 rfl trivial ?_ rfl
 simp only[Tryz.ntmps70,List.size_toArray,List.length_cons,List.length_nil,Nat.reduceAdd,Nat.reduceSub,Array.replicate_succ,Array.replicate_zero,List.push_toArray,List.append_toArray,List.nil_append,List.cons_append]
 gi_wp2_with first
  | (refine⟨trivial,?_⟩;gi_at_call 29;refine(callsIn_wide.2 hcl).mono ?_;clear hcl;rintro e w1 ⟨cb,β,cap,R1,rfl,hf,hcap,hsz,hp1⟩)
  | (refine⟨trivial,?_⟩;gi_at_call 79;refine(hck _ _ _ _).mono ?_;rintro e w2 ⟨rfl,rfl⟩)
 obtain⟨w2,hw2⟩:∃ w2,(w1.alloc (.cells #[.slice (some ⟨cb,β,none⟩) N cap] 22)).alloc (.cells #[.int .i64 c] 3)=w2:=⟨_,rfl⟩
 have hsz2:w2.heap.size=w1.heap.size+2:=by rw[←hw2];simp
 have hcs:w2.cell? ⟨w1.heap.size,0,none⟩=some (.slice (some ⟨cb,β,none⟩) N cap):=by rw[←hw2];exact Uv _ (Qy w1 (.slice (some ⟨cb,β,none⟩) N cap) 22) (by simp)
 have hcn:w2.cell? ⟨w1.heap.size+1,0,none⟩=some (.int .i64 c):=by
  have:=Qy (w1.alloc (.cells #[.slice (some ⟨cb,β,none⟩) N cap] 22)) (.int .i64 c) 3
  rw[World.size_alloc] at this
  rw[←hw2];exact this
 have hp2:Ba (Ao Fb) R w (Gu zs) R1 w2:=by
  have hc1:=hp1.sim.cellsOnly (HY zs)
  have hg1:=World.grownBy_alloc w1 (.cells #[.slice (some ⟨cb,β,none⟩) N cap] 22) none
  have hp:=hp1.grown hg1 (fun r e=>by cases e) hc1
  have hg2:=World.grownBy_alloc (w1.alloc (.cells #[.slice (some ⟨cb,β,none⟩) N cap] 22)) (.cells #[.int .i64 c] 3) none
  rw[←hw2]
  exact hp.grown hg2 (fun r e=>by cases e) (hp.sim.cellsOnly (HY zs))
 have hdom:∀ id cc ββ,R1.f id=some (cc,ββ)→cc < w1.heap.size:=fun id cc ββ h=>(hp1.sim.dom id cc ββ h).2
 rw[hw2]
 have hgr:w.heap.size≤w2.heap.size:=hp2.grow
 refine wpIn_rangeFunc_ownF (α := Fin r) rfl (by omega) (gf := 100) (lb := #[.pointer (some ⟨w1.heap.size, 0, none⟩), .pointer (some ⟨w1.heap.size + 1, 0, none⟩)]) rfl trivial (enters_of Tryz.func100 (by kernel_rfl) rfl)
  (Uf (10 - 1) (by omega) w1.heap.size (w1.heap.size+1) cb β r c N cap hr hc hc4 hNh.out hrc hcap w2 (by omega) (by omega) hcs hcn) (fun h k=>⟨k.1.trans h.1,k.2.trans h.2⟩)
  (fun W l o o' hl ho hc1 _=>⟨World.putObj_heap_other (by omega),World.putObj_heap_other (by omega)⟩) (Below.refl _ _) (fun _=>rfl)
  (fun pre W=>∃ R2,Ba (Ao Fb) R w (Gu (MG c zs pre)) R2 W∧R1.le R2∧R2.f=R1.f∧w2.heap.size≤W.heap.size)
  (fun _ _ _=>False)
  (fun s A B row ⟨R2,h1,h2,h3,h4⟩ hg hr=>⟨R2,h1.grown hg (fun r e=>⟨by have:=(hr r e).1;omega,(hr r e).2⟩) (h1.sim.cellsOnly (HY _)),h2,h3,Nat.le_trans h4 hg.size⟩)
  (fun _ _ _ _ _ hs _ _=>hs)
  ⟨R1,hp2,R1.le_refl,rfl,Nat.le_refl _⟩
  (fun x => { tmps := #[u0, Value.int IntKind.i64 ↑c, undef, undef, Value.slice none 0 0, Value.slice (some ⟨cb, β, none⟩) N cap, .slice (some ⟨cb, β + x.1 * c, none⟩) c c, u0, Value.slice (some ⟨cb, β, none⟩) N cap, Value.slice (some ⟨cb, β, none⟩) N cap, Value.int IntKind.i64 ↑c,
    Value.func (Fn.func 100) #[] #[Value.pointer (some ⟨w1.heap.size,0,none⟩),Value.pointer (some ⟨w1.heap.size+1,0,none⟩)],.slice (some ⟨cb,β+x.1*c,none⟩) c c,undef,undef,undef],defers:=[] }) ?assign ?body ?done ?stop
 case assign=>
  intro l x W K hK
  gi_wp2
  exact hK
 case body=>
  rintro l pre x W ⟨R2,h1,h2,h3,hWs⟩ hlt
  have hx:x.1*c+c≤N:=by rw[hNh.out,←Nat.succ_mul];exact Nat.mul_le_mul_right c x.2
  have hrun:=AfA hr hr4 hc hc4 (MG c zs pre) (by rw[RY,hz];exact hNh.out) x.1 x.2
  have hgl2:JH (List.range 1) R2:=fun g hg=>by
   simp at hg;subst hg;rw[h3];exact(hp1.le.up 0 0 0 (by rw[hR];rfl)).1
  have hrev := ((Rx Gm UQ hm 40) 68 _ _ _ _ hrun).2 R2 W [.slice (some ⟨cb, β + x.1 * c, none⟩) c c] h1.sim hgl2 (.one (.sl (by rw [h3]; exact hf) (by omega) (by omega) (fun h => by omega) (by
   have:=(h2.up 2 cb β hf).2
   rw[this];omega)))
  have hrev2:Calls Tryz.prog 68 #[.slice (some ⟨cb,β+x.1*c,none⟩) c c] W fun e W'=>e = .returned (.tuple #[])∧KeepsOthers W W'∧Afz w1.heap.size (w1.heap.size+1) W W'∧∃ R3,Ba (Ao Fb) R w (Gu (MG c zs (pre++[x]))) R3 W'∧R1.le R3∧R3.f=R1.f∧w2.heap.size≤W'.heap.size:=by
   refine hrev.mono fun e W' ⟨u,R3,he,hu,hp⟩=>?_
   have hbox:∀ k,w1.heap.size≤k→k < W.heap.size→W'.heap[k]?=W.heap[k]?:=fun k hk hk2=>hp.frame k hk2 fun id ββ h=>by
    rw[h3] at h;have:=hdom id k ββ h;omega
   have hf3:R3.f=R2.f:=hp.sameF rfl
   have hW:w2.heap.size≤W.heap.size:=hWs
   obtain⟨us,rfl,hul⟩:=hu.tuple_l
   have hus:us=[]:=by have:=hul.1;simpa using this.symm
   subst hus
   refine⟨he,hp.keepsOthers (h1.sim.cellsOnly (HY _)),⟨hbox _ (Nat.le_refl _) (by omega),hbox _ (by omega) (by omega)⟩,R3,?_,Sp.Ren.le_trans h2 hp.le,hf3.trans h3,Nat.le_trans hWs hp.grow⟩
   rw[PO]
   exact h1.trans hp hs
  clear hrev
  gi_wp2_with (refine⟨trivial,?_⟩;gi_at_call 68;refine(CallsIn.inRound l (callsIn_wide.2 hrev2)).mono ?_;clear hrev2;rintro e W' ⟨rfl,hk,hkp,hI⟩)
  exact⟨hk,hkp,hI⟩
 case done=>
  rintro D ys W hD rfl ⟨R2,h1,h2,h3,_⟩ hK
  gi_wp2
  refine⟨by simp,.inl ⟨_,_,rfl,run_takeDeferred hK,?_⟩⟩
  refine⟨_,results_tmp rfl _ _ _,_,R2,rfl,?_,?_⟩
  ·exact .sl (β := β) (off := 0) (by rw [h3]; exact hf) (by omega) (by omega) (fun h => by omega) (by
    have:=(h2.up 2 cb β hf).2
    rw[this];omega)
  ·exact h1.grown (grownBy_putObj' W D _) (fun r e=>by cases e;exact⟨by omega,_,hK,rfl⟩) (h1.sim.cellsOnly (HY _))
 case stop=>
  rintro D c pre W _ _ h _
  exact h.elim
noncomputable section
def Ui (c:Nat) (zs:List Int) (r:Nat):List Int:=Nat.rec (motive:=fun _=>List Int) zs (fun k ih=>Gn c k ih) r
def Uj (args:List Value):Option Value:=ll args none fun a r=>ll r none fun b r=>ll r (oo (Bj 1 a) none fun s=>oo (Bi .i64 b) none fun z=>oo (EA z) none fun c=>oo (CG (Bi .i64) s.cs) none fun zs=>
 bb (an (Nat.beq s.fl 0) (an (Nat.ble 1 c) (an (Nat.ble c 4) (an (Nat.ble c s.n) (an (Nat.ble (s.n / c) 4) (an (Nat.beq (s.n / c*c) s.n) (Nat.beq (len zs) s.n))))))) (some (FP 1 s.n 0 (AP G5 (Ui c zs (s.n / c))))) none) fun _ _=>none
end
theorem PP (c:Nat) {r:Nat} (hr:0 < r) (zs:List Int):∀ k,k≤r→MG c zs (O7 hr k)=Ui c zs k
 | 0,_=>rfl
 | k + 1, h => by
  rw[RX,PO,PP c hr zs k (by omega)]
  show Gn c (k % r) _=Gn c k _
  rw[Nat.mod_eq_of_lt h];rfl
theorem yA (z:Nat→Int):AP (fun n=>oo (Cq 1 false (.slice (some ⟨2,0,some 1⟩) n (2*n)) (Gu (AP z (Go.BkQ.upN n)))) none (fun p=>pp p fun v _=>some v)) OA=AP (fun n=>some (FP 1 n 0 (AP G5 (AP z (Go.BkQ.upN n))))) OA:=by kernel_rfl
theorem AfB {r c:Nat} (hr:1≤r) (hr4:r≤4) (hc:1≤c) (hc4:c≤4) (zs:List Int) (hz:zs.length=r*c) :
 oo (Cq 1 false (.slice (some ⟨2,0,some 1⟩) (r*c) (2*(r*c))) (Gu zs)) none (fun p=>pp p fun v _=>some v)=some (FP 1 (r*c) 0 (AP G5 zs)):=by
 have h:=yA fun i=>zs.getD i 0
 rw[Cc,Cc] at h
 have h:=List.map_inj_left.1 h _ (eP hr hr4 hc hc4)
 have h:oo (Cq 1 false (.slice (some ⟨2,0,some 1⟩) (r*c) (2*(r*c))) (Gu (AP (fun i=>zs.getD i 0) (Go.BkQ.upN (r*c))))) none (fun p=>pp p fun v _=>some v)=some (FP 1 (r*c) 0 (AP G5 (AP (fun i=>zs.getD i 0) (Go.BkQ.upN (r*c))))):=h
 rw[Wy hz] at h
 exact h
theorem eT (n:Nat) (zs:List Int):Fe (FP 1 n 0 (AP G5 zs))=true:=rfl
theorem UT {vs:List Value} {zs:List Int} (h:CG (Bi .i64) vs=some zs):vs=AP G5 zs:=by
 obtain⟨h1,h2⟩:=Di h
 rw[MU]
 refine List.ext_getElem? fun i=>?_
 rw[List.getElem?_map]
 cases hv:vs[i]? with
 | none=>rw[List.getElem?_eq_none (by rw[h1];exact List.getElem?_eq_none_iff.1 hv)];rfl
 | some v =>
  obtain⟨b,h3,h4⟩:=h2 i v hv
  rw[h3,Eh h4];rfl
theorem RZ (hm:Tryz.prog.follows .mixedOrders=true):BA Tryz.prog Fb 70 Uj:=by
 refine⟨enters_of Tryz.func70 (by kernel_rfl) rfl,fun args v hv hcl R w args' hR hs ha=>?_⟩
 replace hv:=Ad hv;obtain⟨a,r1,rfl,hv⟩:=hv
 replace hv:=Ad hv;obtain⟨b,r2,rfl,hv⟩:=hv
 replace hv:=AC hv;obtain⟨rfl,hv⟩:=hv
 replace hv:=Ab hv;obtain⟨s,h1,hv⟩:=hv
 replace hv:=Ab hv;obtain⟨z,h2,hv⟩:=hv
 replace hv:=Ab hv;obtain⟨c,h3,hv⟩:=hv
 replace hv:=Ab hv;obtain⟨zs,h4,hv⟩:=hv
 replace hv:=Ae hv;obtain⟨hc,hv⟩:=hv
 injection hv with hv
 obtain⟨n,fl,cs⟩:=s
 obtain⟨c0,hc⟩:=Av hc
 obtain⟨c1,hc⟩:=Av hc
 obtain⟨c2,hc⟩:=Av hc
 obtain⟨c3,hc⟩:=Av hc
 obtain⟨c4,hc⟩:=Av hc
 obtain⟨c5,c6⟩:=Av hc
 replace c0:fl=0:=Nat.eq_of_beq_eq_true c0
 replace c1:=Nat.le_of_ble_eq_true c1
 replace c2:=Nat.le_of_ble_eq_true c2
 replace c3:c≤n:=Nat.le_of_ble_eq_true c3
 replace c4:n / c≤4:=Nat.le_of_ble_eq_true c4
 replace c5:n / c*c=n:=Nat.eq_of_beq_eq_true c5
 replace c6:len zs=n:=Nat.eq_of_beq_eq_true c6
 rw[AV] at c6
 subst c0
 obtain rfl:=Qh h1
 obtain rfl:=Eh h2
 obtain rfl:=AR h3
 replace h4:cs=AP G5 zs:=UT h4
 subst h4
 have hr:1≤n / c:=Nat.div_pos c3 c1
 have hcalls:=Uh hm hr c4 c1 c2 c5.symm c6 hR hs ha
 refine hcalls.mono fun e w' ⟨u,R1,he,hu,hp⟩=>?_
 rw[PP c hr zs (n / c) (Nat.le_refl _)] at hp
 have hfz0:=AfB hr c4 c1 c2 (Ui c zs (n / c)) (by rw[←PP c hr zs (n / c) (Nat.le_refl _),RY,c6,c5])
 rw[c5] at hfz0
 obtain⟨⟨v2,H2⟩,hfz,hfz1⟩:=Ab hfz0
 injection (show some v2=_ from hfz1) with hfz1
 subst hfz1
 obtain⟨R2,_,_,k2,k3⟩:=Gg hfz hs (Nat.le_refl _) hp hu
 subst hv
 exact⟨u,H2,R2,he,eT _ _,k3,k2⟩
end Go.Proofs
namespace Go.Proofs
open Go.Shelf
def Tryz.lays189_ren:Go.Shelf.Ren:=⟨fun | 189=>66 | 125=>76 | 257=>78 | 128=>89 | 129=>90 | 294=>91 | 295=>92 | 296=>93 | 297=>94 | 298=>95 | 299=>96 | 216=>97 | 300=>98 | 301=>99 | 328=>106 | 329=>102 | 330=>103 | 331=>107 | 332=>108 | 215=>71 | 343=>110 | n=>n,fun | 28=>22 | 3=>3 | 46=>95 | 0=>0 | 51=>94 | 53=>117 | 4=>4 | 183=>109 | 182=>108 | 131=>113 | 5=>5 | 9=>9 | 218=>125 | 222=>129 | 228=>133 | 229=>105 | n=>n,fun | n=>n⟩
theorem Tryz.lays189:Go.Proofs.Lays.n189 Tryz.prog Tryz.lays189_ren:={
 mixed:=by kernel_rfl
 f125:=Tryz.func76.trans (congrArg some (by kernel_rfl))
 f128:=Tryz.func89.trans (congrArg some (by kernel_rfl))
 f129:=Tryz.func90.trans (congrArg some (by kernel_rfl))
 f189:=Tryz.func66.trans (congrArg some (by kernel_rfl))
 f215:=Tryz.func71.trans (congrArg some (by kernel_rfl))
 f216:=Tryz.func97.trans (congrArg some (by kernel_rfl))
 f257:=Tryz.func78.trans (congrArg some (by kernel_rfl))
 f294:=Tryz.func91.trans (congrArg some (by kernel_rfl))
 f295:=Tryz.func92.trans (congrArg some (by kernel_rfl))
 f296:=Tryz.func93.trans (congrArg some (by kernel_rfl))
 f297:=Tryz.func94.trans (congrArg some (by kernel_rfl))
 f298:=Tryz.func95.trans (congrArg some (by kernel_rfl))
 f299:=Tryz.func96.trans (congrArg some (by kernel_rfl))
 f300:=Tryz.func98.trans (congrArg some (by kernel_rfl))
 f301:=Tryz.func99.trans (congrArg some (by kernel_rfl))
 f328:=Tryz.func106.trans (congrArg some (by kernel_rfl))
 f329:=Tryz.func102.trans (congrArg some (by kernel_rfl))
 f330:=Tryz.func103.trans (congrArg some (by kernel_rfl))
 f331:=Tryz.func107.trans (congrArg some (by kernel_rfl))
 f332:=Tryz.func108.trans (congrArg some (by kernel_rfl))
 f343:=Tryz.func110.trans (congrArg some (by kernel_rfl))
 t0:=Tryz.underlying0
 a0:=Tryz.isAgg0
 z0:=Tryz.sizeOf0
 v0:=Tryz.zeroValue0
 t3:=Tryz.underlying3
 a3:=Tryz.isAgg3
 z3:=Tryz.sizeOf3
 v3:=Tryz.zeroValue3
 t4:=Tryz.underlying4
 a4:=Tryz.isAgg4
 z4:=Tryz.sizeOf4
 v4:=Tryz.zeroValue4
 t5:=Tryz.underlying5
 a5:=Tryz.isAgg5
 z5:=Tryz.sizeOf5
 v5:=Tryz.zeroValue5
 t9:=Tryz.underlying9
 a9:=Tryz.isAgg9
 z9:=Tryz.sizeOf9
 v9:=Tryz.zeroValue9
 t28:=Tryz.underlying22
 a28:=Tryz.isAgg22
 z28:=Tryz.sizeOf22
 v28:=Tryz.zeroValue22
 t46:=Tryz.underlying95
 a46:=Tryz.isAgg95
 z46:=Tryz.sizeOf95
 v46:=Tryz.zeroValue95
 t51:=Tryz.underlying94
 a51:=Tryz.isAgg94
 z51:=Tryz.sizeOf94
 v51:=Tryz.zeroValue94
 t53:=Tryz.underlying117
 a53:=Tryz.isAgg117
 z53:=Tryz.sizeOf117
 v53:=Tryz.zeroValue117
 t131:=Tryz.underlying113
 a131:=Tryz.isAgg113
 z131:=Tryz.sizeOf113
 v131:=Tryz.zeroValue113
 t182:=Tryz.underlying108
 a182:=Tryz.isAgg108
 z182:=Tryz.sizeOf108
 v182:=Tryz.zeroValue108
 t183:=Tryz.underlying109
 a183:=Tryz.isAgg109
 z183:=Tryz.sizeOf109
 v183:=Tryz.zeroValue109
 t218:=Tryz.underlying125
 a218:=Tryz.isAgg125
 z218:=Tryz.sizeOf125
 v218:=Tryz.zeroValue125
 t222:=Tryz.underlying129
 a222:=Tryz.isAgg129
 z222:=Tryz.sizeOf129
 v222:=Tryz.zeroValue129
 t228:=Tryz.underlying133
 a228:=Tryz.isAgg133
 z228:=Tryz.sizeOf133
 v228:=Tryz.zeroValue133
 t229:=Tryz.underlying105
 a229:=Tryz.isAgg105
 z229:=Tryz.sizeOf105
 v229:=Tryz.zeroValue105 }
open Go.Sort Go.RowKit in
theorem Tryz.slices_Sort_int (blk off cap:Nat) (zs:List Int) (w:World) (hH:Holds (Value.int .i64) w blk off zs.toArray) (hblk:blk < w.heap.size) (hsz:zs.length < 4611686018427387904) :
 Calls Tryz.prog 66 #[.slice (some ⟨blk,off,none⟩) zs.length cap] w fun e w'=>
  e = .returned (.tuple #[])∧∃ n os,w'=grow (putRow (Value.int .i64) (Sort.ahead w n) blk off (zs.mergeSort fun x y=>decide (x≤y)).toArray) os:=Any.slices_Sort_int Tryz.lays189 blk off cap zs w hH hblk hsz
end Go.Proofs
namespace Go.Proofs
open Go Go.RowKit Go.Shelf
attribute [local go_sem] Oper.semAt_some

def JO {α:Type} (f:Nat→α) (k:Nat):List α:=(List.range k).map f
theorem UU {α:Type} (f:Nat→α) (k:Nat):JO f (k+1)=JO f k++[f k]:=by simp[JO,List.range_succ]
theorem QG {α:Type} (f:Nat→α) (k:Nat):(JO f k).length=k:=by simp[JO]
theorem Wz (zs:List Int):JO (fun j=>zs[j]?.getD 0) zs.length=zs:=by
 apply List.ext_getElem
 ·simp[JO]
 ·intro i h1 h2
  simp[JO,h2]

set_option maxRecDepth 100000 in
set_option maxHeartbeats 2000000 in
theorem Yk (F:Fence) (n:Nat) (h7:F.fn 67) (hro:F.round=none) (hn:1≤n) (l Bs ob n₀ b off len cap:Nat) (zs:List Int) (hreach:len*8≤140737488351232) (hb:b < n₀) (J Jx:List Int→World→Prop)
 (hY : ∀ pre x W, J pre W → pre.length < len → YieldAt F (n - 1) Tryz.prog l #[.int .i64 x] W fun e W' =>
   (e = .returned (.bool true)∧J (pre++[x]) W'∧Below n₀ W W')∨(e = .returned (.bool false)∧Jx (pre++[x]) W'))
 (W:World) (hBs:W.cell? ⟨Bs,ob,none⟩=some (.slice (some ⟨b,off,none⟩) len cap)) (hc:∀ j,j < len→W.cell? ⟨b,off+j,none⟩=some (.int .i64 (zs[j]?.getD 0))) (h0:J [] W) :
 CallsIn F n Tryz.prog 67 #[.func (.yield l) #[] #[], .pointer (some ⟨Bs, ob, none⟩)] W fun e W' => (∃ v, e = .returned v) ∧
  ((∃ ys,ys=JO (fun j=>zs[j]?.getD 0) len∧J ys W')∨(∃ pre,True∧Jx pre W')):=by
 refine callsIn_of_wp Tryz.func67 rfl h7 ?_ hro
 simp only[Tryz.ntmps67,List.size_toArray,List.length_cons,List.length_nil,Nat.reduceAdd,Nat.reduceSub,Array.replicate_succ,Array.replicate_zero,List.push_toArray,List.append_toArray,List.nil_append,List.cons_append]
 gi_wp2
 gi_loopw [7] (fun i wr => ∃ k : Nat, k ≤ len ∧ i = .int .i64 k ∧ J (JO (fun j => zs[j]?.getD 0) k) wr ∧ Below n₀ W wr)
  (fun i _=>len - (intOf i).toNat)
 case atStart=>exact⟨0,Nat.zero_le _,rfl,h0,Below.refl _ _⟩
 case round=>
  obtain⟨k,hk,rfl,hJs,hnx⟩:=hrel
  have hcx:k < len→wr.cell? ⟨b,off+k,none⟩=some (.int .i64 (zs[k]?.getD 0)):=fun h=>(hnx.cell (p:=⟨b,off+k,none⟩) hb).trans (hc k h)
  by_cases hlt:k < len
  ·obtain⟨fn,tmps,assign,body,hy,hR⟩:=hY _ (zs[k]?.getD 0) wr hJs (by rw[QG];exact hlt)
   have hcx':=hcx hlt
   gi_wp2
   refine hR.mono ?_
   rintro e W3 (⟨rfl,hJ3,hk3⟩ | ⟨rfl,hJx3⟩)
   ·gi_wp2
    go_roundw
    case rel=>exact⟨k+1,by omega,by simp,by rw[UU];exact hJ3,hnx.trans hk3⟩
    case measure=>simp[intOf];omega
   ·gi_wp2
    refine bodyPost_ret (results_none rfl _ _ _) rfl ?_
    exact⟨⟨_,rfl⟩,.inr ⟨_,trivial,hJx3⟩⟩
  ·obtain rfl:k=len:=by omega
   gi_wp2
   go_end0
   exact⟨⟨_,rfl⟩,.inl ⟨_,rfl,hJs⟩⟩
set_option maxRecDepth 100000 in
set_option maxHeartbeats 1000000 in
theorem QJ (F:Fence) (n:Nat) (h7:F.fn 67) (hro:F.round=none) (l Bs ob:Nat) (J:List Int→World→Prop) (W:World) (a:Option Addr) (cap:Nat) (hBs:W.cell? ⟨Bs,ob,none⟩=some (.slice a 0 cap)) (h0:J [] W) :
 CallsIn F n Tryz.prog 67 #[.func (.yield l) #[] #[],.pointer (some ⟨Bs,ob,none⟩)] W fun e W'=>(∃ v,e = .returned v)∧J [] W':=by
 refine callsIn_of_wp Tryz.func67 rfl h7 ?_ hro
 simp only[Tryz.ntmps67,List.size_toArray,List.length_cons,List.length_nil,Nat.reduceAdd,Nat.reduceSub,Array.replicate_succ,Array.replicate_zero,List.push_toArray,List.append_toArray,List.nil_append,List.cons_append]
 gi_wp2
 gi_loopw [7] (fun i wr=>i = .int .i64 0∧J [] wr) (fun _ _=>0)
 case atStart=>exact⟨rfl,h0⟩
 case round=>
  obtain⟨rfl,hJs⟩:=hrel
  gi_wp2
  go_end0
  exact⟨⟨_,rfl⟩,hJs⟩
def K3 (n₀:Nat) (W:World) (sv:Value) (zs:List Int):Prop:=
 ((∃ a cap,sv = .slice a 0 cap)∧zs=[])∨∃ b off cap,sv = .slice (some ⟨b,off,none⟩) zs.length cap∧b < n₀∧∀ j,j < zs.length→W.cell? ⟨b,off+j,none⟩=some (.int .i64 (zs[j]?.getD 0))
theorem K3.below {n₀:Nat} {A B:World} (h:Below n₀ A B) {sv:Value} {zs:List Int}:K3 n₀ A sv zs→K3 n₀ B sv zs
 | .inl e=>.inl e
 | .inr ⟨b,off,cap,e,hb,hc⟩=>.inr ⟨b,off,cap,e,hb,fun j hj=>(h.cell (p:=⟨b,off+j,none⟩) hb).trans (hc j hj)⟩
theorem QK (F:Fence) (n:Nat) (h7:F.fn 67) (hro:F.round=none) (hn:1≤n) (Bs ob n₀:Nat) (sv:Value) (zs:List Int) (hreach:zs.length*8≤140737488351232) (w:World) (hBs:Bs < w.heap.size) (hn₀:n₀≤w.heap.size)
 (hc:w.cell? ⟨Bs,ob,none⟩=some sv) (hI:K3 n₀ w sv zs) :
 SeqStopsK F n Tryz.prog 67 #[.pointer (some ⟨Bs,ob,none⟩)] (fun x:Int=>#[Value.int .i64 x]) (Below n₀) (fun ys=>ys=zs) (fun _=>True) zs.length w:=fun l J Jx W hW _ _ hY h0=>by
 have hc':=(hW.cell (p:=⟨Bs,ob,none⟩) hBs).trans hc
 rcases hI.below (hW.mono hn₀) with⟨⟨a,cap,rfl⟩,rfl⟩ | ⟨b,off,cap,rfl,hb,hcs⟩
 ·exact(QJ F n h7 hro l Bs ob J W a cap hc' h0).mono fun e W' ⟨he,hj⟩=>⟨he,.inl ⟨_,rfl,hj⟩⟩
 ·refine(Yk F n h7 hro hn l Bs ob n₀ b off zs.length cap zs hreach hb J Jx hY W hc' hcs h0).mono ?_
  rintro e W' ⟨he,⟨ys,rfl,hj⟩ | ⟨pre,_,hj⟩⟩
  ·exact⟨he,.inl ⟨_,Wz zs,hj⟩⟩
  ·exact⟨he,.inr ⟨_,trivial,hj⟩⟩
theorem kS:(Tryz.prog.info? 3).map (fun i=>(i.zero,i.size,i.bytes))=some (some (.int .i64 0),1,8):=by kernel_rfl

set_option maxRecDepth 100000 in
set_option maxHeartbeats 2000000 in
theorem UV (F:Fence) (n:Nat) (h72:F.fn 77) (h64:F.fn 67) (hro:F.round=none) (hn:3≤n) (Bs ob:Nat) (sv:Value) (zs:List Int) (hlen:zs.length≤1000000) (w:World) (hBs:Bs < w.heap.size)
 (hc0:w.cell? ⟨Bs,ob,none⟩=some sv) (hI:K3 w.heap.size w sv zs) :
 CallsIn F n Tryz.prog 77 #[.slice none 0 0,.func (.func 67) #[] #[.pointer (some ⟨Bs,ob,none⟩)]] w fun e W'=>∃ v,e = .returned v∧W'.ownsRow w.heap.size 3 1 v zs.length (zs.map (Value.int .i64))∧(v = .slice none 0 0↔zs=[])∧Below w.heap.size w W':=by
 have h1:1≤n:=by omega
 obtain⟨i0,hi,hz0,hz1,hz2⟩:=info_parts kS
 refine callsIn_of_wp_marks Tryz.func77 rfl h72 ?_ hro
 simp only[Tryz.ntmps77,List.size_toArray,List.length_cons,List.length_nil,Nat.reduceAdd,Nat.reduceSub,Array.replicate_succ,Array.replicate_zero,List.push_toArray,List.append_toArray,List.nil_append,List.cons_append]
 gi_wp2
 have bO:=Boxed.new w 22 (.slice none 0 0)
 have hB0:Below w.heap.size w (w.alloc (.cells #[.slice none 0 0] 22)):=(Below.refl _ w).alloc (Nat.le_refl _) _
 refine wpIn_rangeFunc_ownG hro h1 (gf := 67) (lb := #[.pointer (some ⟨Bs, ob, none⟩)]) rfl h64 (enters_of Tryz.func67 (by kernel_rfl) rfl)
  (QK F (n - 1) h64 hro (by omega) Bs ob w.heap.size sv zs (by omega) _ (by simp;omega) (by simp) ((hB0.cell (p:=⟨Bs,ob,none⟩) hBs).trans hc0) (hI.below hB0)) belowK_t (belowK_b (by simp)) (Below.refl _ _) (fun _=>rfl)
  (fun pre W=>(∃ v,Boxed W w.heap.size 22 v∧W.ownsRow w.heap.size 3 1 v pre.length (pre.map (Value.int .i64))∧(v = .slice none 0 0↔pre=[]))∧Below w.heap.size w W)
  (fun _ _ _=>False)
  (OwnFrom.and (Own.from (holdsRow_own w.heap.size w.heap.size 22 3 1 (fun pre=>pre.length) (fun pre=>pre.map (Value.int .i64)) (fun pre v=>v = .slice none 0 0↔pre=[])) _) (ownFrom_below (Nat.le_refl _) (by simp)))
  (fun _ _ _ _ _ hs _ _=>hs)
  ⟨⟨_,bO,World.ownsRow_nil _ _ _ _,by simp⟩,hB0⟩
  (fun x=>{ tmps:=#[.slice none 0 0,.func (.func 67) #[] #[.pointer (some ⟨Bs,ob,none⟩)],.pointer (some ⟨w.heap.size,0,none⟩),undef,.slice none 0 0,.int .i64 x,.func (.func 67) #[] #[.pointer (some ⟨Bs,ob,none⟩)],.int .i64 x,undef,undef,undef,undef,undef],defers:=[] }) ?assign ?body ?done ?stop
 case assign=>
  intro l x W K hK
  gi_wp2
  exact hK
 case body=>
  rintro l pre x W ⟨⟨v,hv,hrow,hnil⟩,hB⟩ hlt
  have hc:=hv.cell
  gi_wp2_with (gi_at_builtin;refine wpListIn_append_own _ rfl _ _ 22 rfl w.heap.size 3 i0 (.int .i64 0) 1 8 Tryz.underlying22 hi hz0 hz1 hz2 rfl (by decide) _ _ _ rfl (hrow.alloc _) ⟨W.heap.size,0,none⟩ 1 1 [.int .i64 x] rfl rfl (cell_one_new _ _ _) (by simp[Value.oneCell']) (by have:maxLen=9223372036854775807:=rfl;omega) (by omega) (by have:=hB.size;simp;omega) ?_;intro v' w1 hown' hgrow _;obtain⟨g',cap',rfl⟩:=ownsRow_succ hown';obtain⟨hv1,hv2,hr2,hk2,hb2⟩:=hv.appended (by decide) hrow hB.size (Nat.le_refl _) hown' hgrow;have hc1:=hv1.cell;have hf1:=hv1.frozen)
  exact⟨hk2.from _,hb2,⟨_,hv2,by simpa using hr2,by simp⟩,hB.trans hb2⟩
 case done=>
  rintro D ys W hD rfl ⟨⟨v,hv,hrow,hnil⟩,hB⟩ hK
  have hc:=hv.cell
  gi_wp2
  refine⟨by simp,.inl ⟨_,_,rfl,run_takeDeferred hK,?_⟩⟩
  exact⟨_,results_tmp rfl _ _ _,v,rfl,ownsRow_putObj hrow _ hK rfl,hnil,hB.trans (belowK_b (w:=w) (Nat.le_refl _) W D _ _ (by simp at hD;omega) hK rfl rfl)⟩
 case stop=>
  rintro D c pre W _ _ h _
  exact h.elim

set_option maxRecDepth 100000 in
set_option maxHeartbeats 2000000 in
theorem Yl (Bs ob:Nat) (sv:Value) (zs:List Int) (hlen:zs.length≤1000000) (w:World) (hBs:Bs < w.heap.size)
 (hc0:w.cell? ⟨Bs,ob,none⟩=some sv) (hI:K3 w.heap.size w sv zs) :
 CallsIn Fence.wide 8 Tryz.prog 65 #[.func (.func 67) #[] #[.pointer (some ⟨Bs,ob,none⟩)]] w fun e W'=>∃ v,e = .returned v∧W'.ownsRow w.heap.size 3 1 v zs.length (zs.map (Value.int .i64))∧(v = .slice none 0 0↔zs=[])∧Below w.heap.size w W':=by
 have ha:=UV Fence.wide 7 trivial trivial rfl (by omega) Bs ob sv zs hlen w hBs hc0 hI
 refine callsIn_of_wp Tryz.func65 rfl trivial ?_ rfl
 simp only[Tryz.ntmps65,List.size_toArray,List.length_cons,List.length_nil,Nat.reduceAdd,Nat.reduceSub,Array.replicate_succ,Array.replicate_zero,List.push_toArray,List.append_toArray,List.nil_append,List.cons_append]
 gi_wp2_with (refine⟨trivial,?_⟩;gi_at_call 77;refine ha.mono ?_;clear ha;rintro e w1 ⟨v,rfl,h1,h2,h3⟩)
 go_ret
 exact⟨v,rfl,h1,h2,h3⟩
open Go.Sp Go.BaA Go.Proofs.YtciohfkjabeooaaGreatDoor.BaA in
theorem Ym (k:Nat) (T:Tr AJ):Cr tt K7 40 66 [.slice none 0 0] ⟨k,T,true⟩=some (.tuple ⟨[]⟩,⟨k,T,true⟩):=by kernel_rfl
set_option maxRecDepth 100000 in
set_option maxHeartbeats 2000000 in
theorem eU (Bs ob:Nat) (sv:Value) (zs:List Int) (hlen:zs.length≤1000000) (w:World) (hBs:Bs < w.heap.size)
 (hc0:w.cell? ⟨Bs,ob,none⟩=some sv) (hI:K3 w.heap.size w sv zs) (K:Value→World→World→Prop)
 (hK:∀ v w1,w1.ownsRow w.heap.size 3 1 v zs.length (zs.map (Value.int .i64))→(v = .slice none 0 0↔zs=[])→Below w.heap.size w w1→Calls Tryz.prog 66 #[v] w1 fun e w2=>e = .returned (.tuple #[])∧K v w1 w2) :
 Calls Tryz.prog 49 #[.func (.func 67) #[] #[.pointer (some ⟨Bs,ob,none⟩)]] w fun e W'=>∃ v w1,e = .returned v∧w1.ownsRow w.heap.size 3 1 v zs.length (zs.map (Value.int .i64))∧(v = .slice none 0 0↔zs=[])∧Below w.heap.size w w1∧K v w1 W':=by
 have ha:=Yl Bs ob sv zs hlen w hBs hc0 hI
 refine callsIn_wide (n:=9).1 ?_
 refine callsIn_of_wp Tryz.func49 rfl trivial ?_ rfl
 simp only[Tryz.ntmps49,List.size_toArray,List.length_cons,List.length_nil,Nat.reduceAdd,Nat.reduceSub,Array.replicate_succ,Array.replicate_zero,List.push_toArray,List.append_toArray,List.nil_append,List.cons_append]
 gi_wp2_with first
  | (refine⟨trivial,?_⟩;gi_at_call 65;refine ha.mono ?_;clear ha;rintro e w1 ⟨v,rfl,h1,h2,h3⟩;have hk:=hK v w1 h1 h2 h3)
  | (refine⟨trivial,?_⟩;gi_at_call 66;refine(callsIn_wide.2 hk).mono ?_;clear hk;rintro e w2 ⟨rfl,h4⟩)
 go_ret
 exact⟨v,w1,rfl,h1,h2,h3,h4⟩

open Go.Sp Go.BaA Go.Proofs.YtciohfkjabeooaaGreatDoor.BaA

noncomputable section
def OB (v:Value) (H:Aa):Option (List Int):=bb (DN v) (some [])
 (oo (IA v) (oo (Le v) none fun f => bb (an (Nat.beq f.sz 1) (Nat.ble 1 f.n)) (oo (CG (Bi .i64) f.cs) none fun zs => bb (Nat.beq (len zs) f.n) (some zs) none) none)
   fun s=>ss s fun id off sz ln _=>bb (Nat.beq sz 1) (oo (Bv (H.get id)) none fun o=>oo (CG (Bi .i64) (Aq ln (Am off o.xs))) none fun zs=>bb (Nat.beq (len zs) ln) (some zs) none) none)
def OQ (args:List Value) (H:Aa):Option (Value×Aa):=ll args none fun x r=>ll r (oo (O6 67 0 x) none fun l=>ll l none fun p l2=>ll l2 (oo (FO p) none fun q=>pp q fun id off=>oo (Bv (H.get id)) none fun o=>oo (AL o.xs off) none fun sv=>oo (OB sv H) none fun zs=>
 bb (Nat.ble (len zs) 1000000) (ll zs (some (.slice none 0 0,H)) fun _ _=>some (FP 1 (len zs) 0 (AP G5 (Jh zs)),H.push .dead)) none) fun _ _=>none) fun _ _=>none
end
theorem WA {v:Value} (h:DN v=true):v = .slice none 0 0:=Ye h
theorem UW {H:Aa} {R:Sp.Ren} {w:World} (hs:Ck H R w) {v u:Value} (hv:VR R v u) {zs:List Int} (h:OB v H=some zs):K3 w.heap.size w u zs:=by
 unfold OB at h
 rcases Ag h with⟨e,h⟩ | ⟨_,h⟩
 ·obtain rfl:=WA e
  injection h with h;subst h
  exact .inl ⟨⟨none,0,hv.slNil_l⟩,rfl⟩
 ·have cellOf : ∀ (C : Array Value) (t : TypeId) (fz : Nat × Nat) (c o : Nat) (k : Nat), w.heap[c]? = some (.cells C t fz) → w.cell? ⟨c, o + k, none⟩ = C[o + k]? := fun C t fz c o k hC => by
   unfold World.cell?
   simp only[hC]
   rfl
  cases hsl:IA v with
  | none =>
   rw[hsl,Az] at h
   obtain⟨f,hf,h⟩:=Ab h
   obtain⟨hc,h⟩:=Ae h
   obtain⟨zs',hz,h⟩:=Ab h
   obtain⟨hl,h⟩:=Ae h
   injection h with h;subst h
   obtain⟨c1,c2⟩:=Av hc
   replace c1:=Nat.eq_of_beq_eq_true c1
   replace c2:=Nat.le_of_ble_eq_true c2
   replace hl:=Nat.eq_of_beq_eq_true hl
   rw[AV] at hl
   rcases hv.fs_l hf with⟨h1,_⟩ | ⟨_,h1,_⟩ | ⟨c,o,cap,C,hro,rfl,hn,k1,k2,k3,hfit,hcr,hcl⟩
   ·omega
   ·omega
   ·obtain⟨⟨t,fz,hC⟩,_⟩:=hs.ro c C hro
    refine .inr ⟨c,o,cap,by rw[hl],(Array.getElem?_eq_some_iff.1 hC).1,fun j hj=>?_⟩
    rw[cellOf C t fz c o j hC]
    obtain⟨m1,m2⟩:=Di hz
    have hx:=List.getElem?_eq_getElem (show j < f.cs.length by omega)
    obtain⟨b,n1,n2⟩:=m2 j _ hx
    obtain⟨y,g1,g2⟩:=hcr j _ hx
    rw[Eh n2] at g2
    rw[g2.int_l] at g1
    rw[g1,n1];rfl
  | some s =>
   rw[hsl,Ac] at h
   obtain⟨id,off,sz,ln,c2⟩:=s
   replace h:bb (Nat.beq sz 1) (oo (Bv (H.get id)) none fun o=>oo (CG (Bi .i64) (Aq ln (Am off o.xs))) none fun zs=>bb (Nat.beq (len zs) ln) (some zs) none) none=some zs:=h
   obtain⟨e1,h⟩:=Ae h
   obtain⟨o,ho,h⟩:=Ab h
   obtain⟨zs',hz,h⟩:=Ab h
   obtain⟨hl,h⟩:=Ae h
   injection h with h;subst h
   obtain rfl:=Nat.eq_of_beq_eq_true e1
   replace hl:=Nat.eq_of_beq_eq_true hl
   rw[AV] at hl
   rcases hv.sl_l hsl with⟨c,β,cap,hid,rfl,k1,k2,k3,k4⟩ | ⟨c,o2,rfl,k0,_⟩ | ⟨rfl,k0,_⟩
   ·obtain⟨C,t,fz,g1,g2,g3,g4⟩:=hs.cells hid ho
    refine .inr ⟨c,β+off,cap,by rw[hl],(Array.getElem?_eq_some_iff.1 g1).1,fun j hj=>?_⟩
    rw[cellOf C t fz c (β+off) j g1]
    obtain⟨m1,m2⟩:=Di hz
    have hx:=List.getElem?_eq_getElem (show j < (Aq ln (Am off o.xs)).length by omega)
    obtain⟨b,n1,n2⟩:=m2 j _ hx
    have hx2 : o.xs[off + j]? = some ((Aq ln (Am off o.xs))[j]'(by omega)) := by
     rw[←hx,Cg,Bz,List.getElem?_take_of_lt (by omega),List.getElem?_drop]
    obtain⟨y,q1,q2⟩:=g4 (off+j) _ hx2
    rw[Eh n2] at q2
    rw[q2.int_l] at q1
    rw[Nat.add_assoc,q1,n1];rfl
   ·replace k0:ln=0:=k0
    exact .inl ⟨⟨_,_,rfl⟩,List.eq_nil_of_length_eq_zero (by omega)⟩
   ·replace k0:ln=0:=k0
    exact .inl ⟨⟨_,_,rfl⟩,List.eq_nil_of_length_eq_zero (by omega)⟩
theorem Yn (hm:Tryz.prog.follows .mixedOrders=true) {H:Aa} {R:Sp.Ren} {w:World} (hs:Ck H R w) (hgl:JH (List.range 1) R) (c ob:Nat) (y:Value) (zs:List Int) (hlen:zs.length≤1000000) (hBs:c < w.heap.size) (hcell:w.cell? ⟨c,ob,none⟩=some y) (hI:K3 w.heap.size w y zs) :
 Calls Tryz.prog 49 #[.func (.func 67) #[] #[.pointer (some ⟨c,ob,none⟩)]] w fun e w2=>∃ v,e = .returned v∧(v = .slice none 0 0↔zs=[])∧(zs=[]→∃ R2,Ba H R w H R2 w2)∧(zs≠[]→∃ R2,VR R2 (FP 1 zs.length 0 (AP G5 (Jh zs))) v∧Ba H R w (H.push .dead) R2 w2):=by
 have hcalls := eU c ob y zs hlen w hBs hcell hI
  (fun v w1 w2=>(zs=[]→∃ R2,Ba H R w H R2 w2)∧(zs≠[]→∃ R2,VR R2 (FP 1 zs.length 0 (AP G5 (Jh zs))) v∧Ba H R w (H.push .dead) R2 w2)) ?_
 ·exact hcalls.mono fun e w2 ⟨v1,w1,he,hown,hnil,hbel,k1,k2⟩=>⟨v1,he,hnil,k1,k2⟩
 ·intro v1 w1 hown hnil hbel
  have hb1:∀ c,c < w.heap.size→w1.heap[c]?=w.heap[c]?:=hbel.block
  have hpb:=V7 hs hbel
  by_cases hz:zs=[]
  ·subst hz
   rw[hnil.2 rfl]
   obtain⟨k,T,z⟩:=H
   have hs1:Ck ⟨k,T,true⟩ R w1:=Ck.congr (H:=⟨k,T,z⟩) (H2:=⟨k,T,true⟩) (fun i=>rfl) rfl hpb.sim
   have:=((Rx Gm UQ hm 40) 66 _ _ _ _ (Ym k T)).2 R w1 [.slice none 0 0] hs1 hgl (.one .slNil)
   refine this.mono fun e w2 ⟨u,R2,he,hu,hp2⟩=>?_
   obtain⟨us,rfl,hul⟩:=hu.tuple_l
   have hus:us=[]:=by have:=hul.1;simpa using this.symm
   subst hus
   refine⟨he,fun _=>⟨R2,hpb.trans (Ba.congrR (H':=⟨k,T,true⟩) (H2:=⟨k,T,z⟩) (fun i=>rfl) rfl (Ba.congrL (H:=⟨k,T,true⟩) (H2:=⟨k,T,z⟩) (fun i=>rfl) rfl hp2)) hs⟩,fun hne=>absurd rfl hne⟩
  ·obtain⟨hl1,hcase⟩:=hown
   rcases hcase with⟨rfl,hn0⟩ | ⟨g,cap,cur,rfl,hge,hg,hcap,hmax,hcur,htake⟩
   ·exact absurd (hnil.1 rfl) hz
   rw[Nat.mul_one] at htake hcur
   have hcells:∀ j,j < zs.length→cur[j]?=some (.int .i64 (zs[j]?.getD 0)):=fun j hj=>by
    have h1:(cur.toList.take zs.length)[j]?=(zs.map (Value.int .i64))[j]?:=by rw[htake]
    rw[List.getElem?_take_of_lt hj,Array.getElem?_toList,List.getElem?_map,List.getElem?_eq_getElem hj] at h1
    rw[h1,List.getElem?_eq_getElem hj];rfl
   have hH:Go.Sort.Holds (Value.int .i64) w1 g 0 zs.toArray:=fun j hj=>by
    have hj:j < zs.length:=by simpa using hj
    refine⟨?_,?_⟩
    ·unfold World.cell?
     simp only[hg,Nat.zero_add]
     show cur[j]?=_
     rw[hcells j hj]
     simp[hj]
    ·unfold World.frozen?
     simp only[hg]
     simp
   have hsrt:=Tryz.slices_Sort_int g 0 cap zs w1 hH (Array.getElem?_eq_some_iff.1 hg).1 (by omega)
   refine hsrt.mono fun e w2 ⟨he,n,os,hw2⟩=>⟨he,fun e=>absurd e hz,fun _=>?_⟩
   have hp1:=fJ hs hb1 hbel.size hbel.os hbel.output hg hge (xs:=AP G5 zs) (fun i x hx=>by
    rw[MU,List.getElem?_map] at hx
    cases hi:zs[i]? with
    | none=>rw[hi] at hx;cases hx
    | some q =>
     rw[hi] at hx;injection hx with hx;subst hx
     have hlt:i < zs.length:=(List.getElem?_eq_some_iff.1 hi).1
     refine⟨_,by rw[Nat.zero_add];exact hcells i hlt,?_⟩
     rw[hi];exact .int _ _) (by rw[Gs];omega)
   have hget:(H.push (.cells (AP G5 zs) false false [])).get H.next = .cells (AP G5 zs) false false []:=by rw[Aa.get_push,if_pos rfl]
   have hlen2:(Jh zs).length=(AP G5 zs).length:=by rw[Jh,List.length_mergeSort,Gs]
   have haw:=Wm (vals:=Jh zs) hget hlen2
   have hp2:=bS (R:=⟨fun i=>if i=H.next then some (g,0) else R.f i,fun c=>if c=g then cur.size else R.sz c,R.ro⟩) (c:=g) (β:=0) hp1.sim haw (by show (if H.next=H.next then _ else _)=_;rw[if_pos rfl]) n os
   rw[show Go.Sort.grow (Go.Sort.putRow (Value.int .i64) (Go.Sort.ahead w1 n) g 0 (Jh zs).toArray) os=w2 from hw2.symm] at hp2
   have hp3:=hp1.trans hp2 hs
   have hgl2:(((H.push (.cells (AP G5 zs) false false [])).kill []).set H.next (.cells (AP G5 (Jh zs)) false false [])).get H.next = .cells (AP G5 (Jh zs)) false false []:=by rw[Aa.get_set,if_pos rfl]
   have hfz:Cq H.next false (.slice (some ⟨H.next,0,some 1⟩) zs.length (2*zs.length)) (((H.push (.cells (AP G5 zs) false false [])).kill []).set H.next (.cells (AP G5 (Jh zs)) false false []))=some (FP 1 zs.length 0 (AP G5 (Jh zs)),(((H.push (.cells (AP G5 zs) false false [])).kill []).set H.next (.cells (AP G5 (Jh zs)) false false [])).set H.next .dead):=by
    unfold Cq
    show oo (Bv (Aa.get _ H.next)) none _=_
    rw[hgl2]
    have ht:Aq (zs.length*1) (Am 0 (AP G5 (Jh zs)))=AP G5 (Jh zs):=by
     rw[Cg,Bz,List.drop_zero,List.take_of_length_le (by rw[Gs];simp[Jh])]
    show bb (an (Nat.ble H.next H.next) (an true (an true (an (Nat.ble (0+zs.length*1) (len (AP G5 (Jh zs)))) (Au Ah (Aq (zs.length*1) (Am 0 (AP G5 (Jh zs))))))))) (some (FP 1 zs.length 0 (Aq (zs.length*1) (Am 0 (AP G5 (Jh zs)))),_)) none=_
    rw[ht,Nat.ble_eq_true_of_le (Nat.le_refl _),AV,Gs,Nat.ble_eq_true_of_le (by simp[Jh])]
    have hc:Au Ah (AP G5 (Jh zs))=true:=by
     rw[Bh,List.all_eq_true,MU]
     intro x hx
     obtain⟨z,_,rfl⟩:=List.mem_map.1 hx
     rfl
    rw[hc];rfl
   obtain ⟨R2, _, _, q2, q3⟩ := Gg hfz hs (Nat.le_refl _) hp3 (.sl (c := g) (β := 0) (off := 0) (sz := 1) (ln := zs.length) (c2 := 2 * zs.length) (cap := cap) (by show (if H.next = H.next then _ else _) = _; rw [if_pos rfl]) (by omega) (by omega) (fun h => by omega) (by
    show 0+0+cap*1≤if g=g then cur.size else R.sz g
    rw[if_pos rfl];omega))
   refine⟨R2,q3,q2.congrR (fun i=>?_) ?_⟩
   ·rw[Aa.get_push,Aa.get_set,Aa.get_set]
    split
    ·rfl
    ·show Aa.get H i=(H.push (.cells (AP G5 zs) false false [])).get i
     rw[Aa.get_push,if_neg (by assumption)]
   ·rw[Aa.next_push,Aa.next_set,Aa.next_set,Aa.next_kill,Aa.next_push]
theorem Uk (hm:Tryz.prog.follows .mixedOrders=true) {args:List Value} {H H':Aa} {v:Value} (h:OQ args H=some (v,H')) :
 (∀ (xs:Array Value) (w:World),(callFunc 49 xs).run Tryz.prog w = .ok (.enter 49 xs) w) ∧
 ∀ R w args',Ck H R w→JH (List.range 1) R→Cf R args args'→Calls Tryz.prog 49 ⟨args'⟩ w fun e w'=>∃ u R',e = .returned u∧VR R' v u∧Ba H R w H' R' w':=by
 refine⟨enters_of Tryz.func49 (by kernel_rfl) rfl,fun R w args' hs hgl ha=>?_⟩
 replace h:=Ad h;obtain⟨x,r,rfl,h⟩:=h
 replace h:=AC h;obtain⟨rfl,h⟩:=h
 replace h:=Ab h;obtain⟨l,hfn,h⟩:=h
 replace h:=Ad h;obtain⟨p,l2,rfl,h⟩:=h
 replace h:=AC h;obtain⟨rfl,h⟩:=h
 replace h:=Ab h;obtain⟨⟨id,off⟩,hp,h⟩:=h
 replace h:oo (Bv (H.get id)) none (fun o=>oo (AL o.xs off) none fun sv=>oo (OB sv H) none fun zs=>bb (Nat.ble (len zs) 1000000) (ll zs (some (.slice none 0 0,H)) fun _ _=>some (FP 1 (len zs) 0 (AP G5 (Jh zs)),H.push .dead)) none)=some (v,H'):=h
 replace h:=Ab h;obtain⟨o,ho,h⟩:=h
 replace h:=Ab h;obtain⟨sv,hsv,h⟩:=h
 replace h:=Ab h;obtain⟨zs,hzs,h⟩:=h
 replace h:=Ae h;obtain⟨hlen,h⟩:=h
 replace hlen:=Nat.le_of_ble_eq_true hlen
 rw[AV] at hlen
 obtain⟨u0,us,rfl,hu0,hnil⟩:=ha.uncons
 obtain rfl:=hnil.unnil
 obtain rfl:=Jb hfn
 obtain rfl:=Dg hp
 obtain⟨u1,rfl,hu1⟩:∃ u1,u0 = .func (.func 67) ⟨[]⟩ ⟨[u1]⟩∧VR R (.pointer (some ⟨id,off,none⟩)) u1:=by
  cases hu0 with
  | @func _ _ ys _ us hl h hl' h' =>
   have e1:ys=[]:=List.eq_nil_of_length_eq_zero hl.symm
   subst e1
   match us,hl' with
   | [u1],_=>exact⟨u1,rfl,h' 0 _ u1 rfl rfl⟩
 obtain⟨c,β,hid,rfl⟩:=hu1.ptr_l
 obtain⟨C,t,fz,g1,g2,g3,g4⟩:=hs.cells hid ho
 rw[BZ] at hsv
 obtain⟨y,hy,hvy⟩:=g4 off sv hsv
 have hcell:w.cell? ⟨c,β+off,none⟩=some y:=by
  unfold World.cell?
  simp only[g1]
  exact hy
 have hI:=UW hs hvy hzs
 refine(Yn hm hs hgl c (β+off) y zs hlen (Array.getElem?_eq_some_iff.1 g1).1 hcell hI).mono fun e w2 ⟨v1,he,hnil,k1,k2⟩=>?_
 by_cases hz:zs=[]
 ·subst hz
  injection (show some (Value.slice none 0 0,H)=some (v,H') from h) with h;injection h with e1 e2;subst e1;subst e2
  obtain⟨R2,hp2⟩:=k1 rfl
  rw[hnil.2 rfl] at he
  exact⟨_,R2,he,.slNil,hp2⟩
 ·obtain⟨R2,hv2,hp2⟩:=k2 hz
  obtain⟨z,zs',rfl⟩:=List.exists_cons_of_ne_nil hz
  have h:some (FP 1 (len (z::zs')) 0 (AP G5 (Jh (z::zs'))),H.push .dead)=some (v,H'):=h
  rw[AV] at h
  injection h with h;injection h with e1 e2;subst e1;subst e2
  exact⟨_,R2,he,hv2,hp2⟩
end Go.Proofs
set_option maxRecDepth 100000
set_option maxHeartbeats 0
namespace Go.Proofs.YtciohfkjabeooaaGreatDoor.BaA
open Go Go.Sp Go.BaA Go.BkQ
noncomputable section
def isA:FuncId→Bool:=fun _=>false
def puA:Af:=fun _ _=>none
def eX:A8:=fun g args H=>bb (Nat.beq g 49) (OQ args H) (bb (Nat.beq g 70) (Hr Fb 1 Uj args H) none)
def evA (n:Nat) (g:FuncId) (args:List Value):Option (Value×Aa):=Mw Fb isA puA eX tt K7 n g args (KF Fb)
end
theorem PQ:∀ t∈Fb,t=t:=fun _ _=>rfl
theorem Qp:∀ t∈Fb,∀ x∈t,BR x=true:=by intro t ht x hx;simp[Fb] at ht;subst ht;simp[eH] at hx;rcases hx with rfl | rfl | rfl | rfl | rfl | rfl | rfl | rfl | rfl | rfl | rfl | rfl | rfl | rfl | rfl | rfl | rfl | rfl | rfl | rfl | rfl | rfl | rfl | rfl | rfl | rfl | rfl | rfl | rfl | rfl | rfl | rfl <;> rfl
theorem qA:∀ g,isA g=true→BA Tryz.prog Fb g (puA g):=fun g h=>by cases h
theorem iA (hm:Tryz.prog.follows .mixedOrders=true):CO Tryz.prog (List.range Fb.length) eX:=fun g args H v H' h=>by
 replace h:bb (Nat.beq g 49) (OQ args H) (bb (Nat.beq g 70) (Hr Fb 1 Uj args H) none)=some (v,H'):=h
 rcases Ag h with⟨e,h⟩ | ⟨_,h⟩
 ·obtain rfl:=Nat.eq_of_beq_eq_true e
  exact Uk hm h
 ·obtain⟨e,h⟩:=Ae h
  obtain rfl:=Nat.eq_of_beq_eq_true e
  exact Og PQ Qp (RZ hm) h
theorem AfE:kP (evA 400 5 [])=some (.bool true):=by kernel_rfl
theorem AhY (hm:Tryz.prog.follows .mixedOrders=true):BA Tryz.prog Fb 5 trueF:=by
 refine I5 (tabs:=Fb) (n:=400) (g:=5) (H:=KF Fb) (isP:=isA) (pu:=puA) (inl:=eX) Gm PQ Qp UQ hm qA (iA hm) (fun i=>RN i) rfl (A9 AdK) fun args v h=>?_
 replace h:=AC h;obtain⟨rfl,h⟩:=h
 injection h with h;subst h
 exact⟨rfl,.inl AfE⟩
theorem UX {α β:Type} {f g:α→β}:∀ {l:List α},AP f l=AP g l→∀ x∈l,f x=g x
 | [],_,_,h=>by cases h
 | a :: l, h, x, hx => by
  injection (show f a::AP f l=g a::AP g l from h) with h1 h2
  cases hx with
  | head=>exact h1
  | tail _ hx=>exact UX h2 x hx
noncomputable def evL (n:Nat) (g:FuncId) (args:List Value):Option (Value×Aa):=Mw Fb isA puA eX tt K7 n g args (Ao Fb)
noncomputable def yB (v3 v4:Value) (p:Nat×Nat×Nat):Option Value:=(fun r=>oo (kN 1 r) (kP r) fun v=>some v) (evL 100 53 [.agg ⟨[IV (.ofNat p.1),IV (.ofNat p.2.1),v3,v4]⟩,IV (.ofNat p.2.2)])
theorem AfF (v3 v4:Value):AP (yB v3 v4) triples=AP (fun p=>some (KX (cellL p.1 p.2.1 p.2.2))) triples:=by kernel_rfl
theorem AhZ (hm:Tryz.prog.follows .mixedOrders=true):BA Tryz.prog Fb 53 cellsM:=by
 refine I5 (tabs:=Fb) (n:=100) (g:=53) (H:=Ao Fb) (isP:=isA) (pu:=puA) (inl:=eX) Gm PQ Qp UQ hm qA (iA hm) (fun i=>rfl) rfl (A9 nN) fun args v h=>?_
 obtain⟨r,c,t,v3,v4,rfl,hp,rfl⟩:=Wo h
 have hr:=UX (AfF v3 v4) (r,c,t) hp
 replace hr:oo (kN 1 (evL 100 53 [.agg ⟨[IV (.ofNat r),IV (.ofNat c),v3,v4]⟩,IV (.ofNat t)])) (kP (evL 100 53 [.agg ⟨[IV (.ofNat r),IV (.ofNat c),v3,v4]⟩,IV (.ofNat t)])) (fun v=>some v)=some (KX (cellL r c t)):=hr
 refine⟨rfl,?_⟩
 cases hf:kN 1 (evL 100 53 [.agg ⟨[IV (.ofNat r),IV (.ofNat c),v3,v4]⟩,IV (.ofNat t)]) with
 | some w=>rw[hf,Ac] at hr;injection hr with hr;subst hr;exact .inr hf
 | none=>rw[hf,Az] at hr;exact .inl hr
end Go.Proofs.YtciohfkjabeooaaGreatDoor.BaA
