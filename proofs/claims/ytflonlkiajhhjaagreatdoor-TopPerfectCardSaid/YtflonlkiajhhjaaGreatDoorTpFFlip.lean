/- Made from wip. -/
import Derived.Test.YtflonlkiajhhjaaGreatDoorTzChunk
import Derived.Test.YtflonlkiajhhjaaGreatDoorTpFOkx
import Derived.Test.YtflonlkiajhhjaaGreatDoorBkCellsx
import Derived.Test.YtflonlkiajhhjaaGreatDoorSpYield
import Derived.Test.YtflonlkiajhhjaaGreatDoorSpObjx
import Derived.KernelRfl

namespace Go.Proofs
open Go Go.RowKit Go.Shelf Go.Sp Go.TpF Go.Proofs.YtflonlkiajhhjaaGreatDoor.TpF
attribute [local go_sem] Oper.semAt_some

noncomputable section
def AeG:List Value:=[]
def AeH:List Value:=[.int .u8 0,.int .u8 1,.int .u8 56,.int .u8 2,.int .u8 57,.int .u8 49,.int .u8 28,.int .u8 3,.int .u8 61,.int .u8 58,.int .u8 42,.int .u8 50,.int .u8 38,.int .u8 29,.int .u8 17,.int .u8 4,.int .u8 62,.int .u8 47,.int .u8 59,.int .u8 36,.int .u8 45,.int .u8 43,.int .u8 51,.int .u8 22,.int .u8 53,.int .u8 39,.int .u8 33,.int .u8 30,.int .u8 24,.int .u8 18,.int .u8 12,.int .u8 5,.int .u8 63,.int .u8 55,.int .u8 48,.int .u8 27,.int .u8 60,.int .u8 41,.int .u8 37,.int .u8 16,.int .u8 46,.int .u8 35,.int .u8 44,.int .u8 21,.int .u8 52,.int .u8 32,.int .u8 23,.int .u8 11,.int .u8 54,.int .u8 26,.int .u8 40,.int .u8 15,.int .u8 34,.int .u8 20,.int .u8 31,.int .u8 10,.int .u8 25,.int .u8 14,.int .u8 19,.int .u8 9,.int .u8 13,.int .u8 8,.int .u8 7,.int .u8 6]
def Iy:List (List Value):=[AeG,AeH]
def FK (c x:Nat) (zs:List Int):List Int:=zs.take (x*c)++(((zs.drop (x*c)).take c).reverse++zs.drop (x*c+c))
def FM (zs:List Int):Aa:=((Ao Iy).push (.cells [] false false [])).push (.cells (AP Ue zs) false false [])
def JO (c:Nat) {r:Nat} (zs:List Int) (xs:List (Fin r)):List Int:=xs.foldl (fun zs x=>FK c x.1 zs) zs
end
set_option maxHeartbeats 1000000 in
theorem rZ (F:Fence) (n:Nat) (h97:F.fn 232) (hro:F.round=none) (a:Option Addr) (len cap c:Nat) (hc:1≤c) (hc4:c≤4) (w:World) :
 CallsIn F n Tryz.prog 232 #[.slice a len cap,.int .i64 c] w fun e w'=>e = .returned (.func (.func 258) #[] #[.pointer (some ⟨w.heap.size,0,none⟩),.pointer (some ⟨w.heap.size+1,0,none⟩)])∧w'=(w.alloc (.cells #[.slice a len cap] 23)).alloc (.cells #[.int .i64 c] 3):=by
 refine callsIn_of_wp Tryz.func232 rfl h97 ?_ hro
 simp only[Tryz.ntmps232,List.size_toArray,List.length_cons,List.length_nil,Nat.reduceAdd,Nat.reduceSub,Array.replicate_succ,Array.replicate_zero,List.push_toArray,List.append_toArray,List.nil_append,List.cons_append]
 gi_wp2
 go_ret
 exact⟨rfl,rfl⟩
def AjR (Bs Bn:Nat) (A B:World):Prop:=B.heap[Bs]?=A.heap[Bs]?∧B.heap[Bn]?=A.heap[Bn]?
theorem Sm (n:Nat) (hn:1≤n) (Bs Bn b off r c N cap:Nat) (hr:0 < r) (hc:1≤c) (hc4:c≤4) (hN:N=r*c) (hrc:N≤16) (hcap:N≤cap) (w:World) (hBs:Bs < w.heap.size) (hBn:Bn < w.heap.size)
 (h1:w.cell? ⟨Bs,0,none⟩=some (.slice (some ⟨b,off,none⟩) N cap)) (h2:w.cell? ⟨Bn,0,none⟩=some (.int .i64 c)) :
 SeqStopsK Fence.wide n Tryz.prog 258 #[.pointer (some ⟨Bs,0,none⟩),.pointer (some ⟨Bn,0,none⟩)] (fun x:Fin r=>#[.slice (some ⟨b,off+x.1*c,none⟩) c c]) (AjR Bs Bn) (fun xs=>xs=MF hr r) (fun _=>True) r w:=fun l J Jx W hW hJ hJx hY h0=>by
 have hs:=(World.cell?_of_block (w:=w) (a:=⟨Bs,0,none⟩) (hW.block Bs hBs)).trans h1
 have hb:=(World.cell?_of_block (w:=w) (a:=⟨Bn,0,none⟩) (hW.block Bn hBn)).trans h2
 refine (ZT Fence.wide n trivial rfl hn l Bs Bn b off r c N cap hr hc hc4 hN hrc hcap J Jx (fun s A h => hJ s A A.drew none h ⟨rfl, rfl, rfl, Nat.le_refl _, fun _ _ _ => rfl⟩ (fun r e => by cases e))
  (fun pre x W1 hj hl=>(hY pre x W1 hj hl).mono fun e W' h=>?_) W hs hb h0).mono fun e W' ⟨he,h⟩=>⟨he,?_⟩
 ·rcases h with⟨he,hj,k1,k2⟩ | h
  ·exact .inl ⟨he,hj,World.cell?_of_block k1,World.cell?_of_block k2⟩
  ·exact .inr h
 ·exact h

noncomputable def UF:List (Nat×Nat×Nat):=[1,2,3,4].flatMap fun r=>[1,2,3,4].flatMap fun c=>(Go.BkQ.upN r).map fun x=>(r,c,x)
theorem AeI (z:Nat→Int):AP (fun p:Nat×Nat×Nat=>Cr tt IB 40 202 [.slice (some ⟨3,p.2.2*p.2.1,some 1⟩) p.2.1 (2*p.2.1)] (FM (AP z (Go.BkQ.upN (p.1*p.2.1))))) UF=AP (fun p:Nat×Nat×Nat=>some (.tuple ⟨[]⟩,FM (FK p.2.1 p.2.2 (AP z (Go.BkQ.upN (p.1*p.2.1)))))) UF:=by kernel_rfl
theorem bI:∀ n,Go.BkQ.upN n=List.range n
 | 0=>rfl
 | n + 1 => by
  rw[List.range_succ,←bI n,←BH];rfl
theorem UG {n:Nat} {zs:List Int} (hz:zs.length=n):AP (fun i=>zs.getD i 0) (Go.BkQ.upN n)=zs:=by
 rw[Cc,bI,←hz]
 apply List.ext_getElem
 ·simp
 ·intro i h1 h2
  simp[List.getD_eq_getElem?_getD,h2]
theorem AjS {r c:Nat} (hr:1≤r) (hr4:r≤4) (hc:1≤c) (hc4:c≤4) (zs:List Int) (hz:zs.length=r*c) (x:Nat) (hx:x < r) :
 Cr tt IB 40 202 [.slice (some ⟨3,x*c,some 1⟩) c (2*c)] (FM zs)=some (.tuple ⟨[]⟩,FM (FK c x zs)):=by
 have h4:∀ n,1≤n→n≤4→n∈[1,2,3,4]:=fun n h1 h2=>by
  obtain rfl | rfl | rfl | rfl:n=1∨n=2∨n=3∨n=4:=by omega
  all_goals simp
 have hm:(r,c,x)∈UF:=List.mem_flatMap.2 ⟨r,h4 r hr hr4,List.mem_flatMap.2 ⟨c,h4 c hc hc4,List.mem_map.2 ⟨x,by rw[bI];exact List.mem_range.2 hx,rfl⟩⟩⟩
 have e:AP (fun i=>zs.getD i 0) (Go.BkQ.upN (r*c))=zs:=UG hz
 have h:=AeI fun i=>zs.getD i 0
 rw[Cc,Cc] at h
 have h:=List.map_inj_left.1 h _ hm
 have h:Cr tt IB 40 202 [.slice (some ⟨3,x*c,some 1⟩) c (2*c)] (FM (AP (fun i=>zs.getD i 0) (Go.BkQ.upN (r*c))))=some (.tuple ⟨[]⟩,FM (FK c x (AP (fun i=>zs.getD i 0) (Go.BkQ.upN (r*c))))):=h
 rw[e] at h
 exact h
def K4:List Nat:=[1,2,3,4,6,8,9,12,16]
theorem bJ {r c:Nat} (hr:1≤r) (hr4:r≤4) (hc:1≤c) (hc4:c≤4):r*c∈K4:=by
 obtain rfl | rfl | rfl | rfl:r=1∨r=2∨r=3∨r=4:=by omega
 all_goals
  obtain rfl | rfl | rfl | rfl:c=1∨c=2∨c=3∨c=4:=by omega
  all_goals decide
theorem bM (z:Nat→Int):AP (fun n=>Cr tt IB 40 67 [FP 1 n 0 (AP Ue (AP z (Go.BkQ.upN n)))] (Ao Iy)) K4=AP (fun n=>some (.slice (some ⟨3,0,some 1⟩) n (2*n),FM (AP z (Go.BkQ.upN n)))) K4:=by kernel_rfl
theorem sD {r c:Nat} (hr:1≤r) (hr4:r≤4) (hc:1≤c) (hc4:c≤4) (zs:List Int) (hz:zs.length=r*c) :
 Cr tt IB 40 67 [FP 1 (r*c) 0 (AP Ue zs)] (Ao Iy)=some (.slice (some ⟨3,0,some 1⟩) (r*c) (2*(r*c)),FM zs):=by
 have h:=bM fun i=>zs.getD i 0
 rw[Cc,Cc] at h
 have h:=List.map_inj_left.1 h _ (bJ hr hr4 hc hc4)
 have h:Cr tt IB 40 67 [FP 1 (r*c) 0 (AP Ue (AP (fun i=>zs.getD i 0) (Go.BkQ.upN (r*c))))] (Ao Iy)=some (.slice (some ⟨3,0,some 1⟩) (r*c) (2*(r*c)),FM (AP (fun i=>zs.getD i 0) (Go.BkQ.upN (r*c)))):=h
 rw[UG hz] at h
 exact h
theorem WN (zs:List Int) (i:Nat) (h:i < 4):∃ xs imm spent anc,(FM zs).get i = .cells xs imm spent anc:=by
 obtain rfl | rfl | rfl | rfl:i=0∨i=1∨i=2∨i=3:=by omega
 ·exact⟨_,_,_,_,rfl⟩
 ·exact⟨_,_,_,_,rfl⟩
 ·exact⟨_,_,_,_,rfl⟩
 ·exact⟨_,_,_,_,rfl⟩
theorem Gt (zs:List Int):Qx (FM zs):=fun i h=>WN zs i h
theorem Sn {c x:Nat} {zs:List Int}:(FK c x zs).length=zs.length:=by
 simp only[FK,List.length_append,List.length_take,List.length_reverse,List.length_drop]
 omega
theorem Pe (c:Nat) {r:Nat} (zs:List Int) (xs:List (Fin r)) (x:Fin r):JO c zs (xs++[x])=FK c x.1 (JO c zs xs):=by simp[JO]
theorem PO (c:Nat) {r:Nat} (zs:List Int) (xs:List (Fin r)):(JO c zs xs).length=zs.length:=by
 unfold JO
 induction xs generalizing zs with
 | nil=>rfl
 | cons x xs ih=>rw[List.foldl_cons,ih,Sn]

set_option maxRecDepth 100000 in
set_option maxHeartbeats 4000000 in
theorem Sq (hm:Tryz.prog.follows .mixedOrders=true) {r c N:Nat} (hr:1≤r) (hr4:r≤4) (hc:1≤c) (hc4:c≤4) (hN:N=r*c) {zs:List Int} (hz:zs.length=N) {R:Sp.Ren} {w:World} {args':List Value}
 (hR:R.f=fun i=>if i < Iy.length then some (i,0) else none) (hs:Ck (Ao Iy) R w) (ha:Cf R [FP 1 N 0 (AP Ue zs),.int .i64 c] args') :
 Calls Tryz.prog 204 ⟨args'⟩ w fun e w'=>∃ u R',e = .returned u∧VR R' (.slice (some ⟨3,0,some 1⟩) N (2*N)) u∧Ba (Ao Iy) R w (FM (JO c zs (MF hr r))) R' w':=by
 have hrc:N≤16:=by rw[hN];exact Nat.mul_le_mul hr4 hc4
 have hN1:1≤N:=by rw[hN];exact Nat.mul_le_mul hr hc
 have hgl:JH (List.range 2) R:=fun g hg=>by
  have hg:g < 2:=List.mem_range.1 hg
  rw[hR];exact if_pos hg
 obtain⟨u0,us,rfl,hu0,ha1⟩:=ha.uncons
 obtain⟨u1,us,rfl,hu1,hnil⟩:=ha1.uncons
 obtain rfl:=hnil.unnil
 have hu1:=hu1.int_l
 subst hu1
 have hclone:=((Rx Fb K3 hm 40) 67 _ _ _ _ (by rw[hN] at hz ⊢;exact sD hr hr4 hc hc4 zs hz:Cr tt IB 40 67 [FP 1 N 0 (AP Ue zs)] (Ao Iy)=some (.slice (some ⟨3,0,some 1⟩) N (2*N),FM zs))).2 R w [u0] hs hgl (.one hu0)
 have hcl:Calls Tryz.prog 67 #[u0] w fun e w1=>∃ (cb β cap:Nat) (R1:Sp.Ren),e = .returned (.slice (some ⟨cb,β,none⟩) N cap)∧R1.f 3=some (cb,β)∧N≤cap∧β+cap≤R1.sz cb∧Ba (Ao Iy) R w (FM zs) R1 w1:=by
  refine hclone.mono fun e w1 ⟨v1,R1,he,hv,hp⟩=>?_
  cases hv with
  | @sl _ _ _ _ _ cb β cap hf h1 h2 h3 h4=>exact⟨cb,β,cap,R1,by rw[he,Nat.add_zero],hf,by omega,by omega,hp⟩
  | slE h=>omega
  | slN h=>omega
 clear hclone
 have hck:=fun (a:Option Addr) (len cap:Nat) (w:World)=>rZ Fence.wide (10 - 1) trivial rfl a len cap c hc hc4 w
 have hNh:Hid (N=r*c):=hN
 clear hN
 refine callsIn_wide (n:=10).1 ?_
 refine callsIn_of_wp_marks Tryz.func204 rfl trivial ?_ rfl
 simp only[Tryz.ntmps204,List.size_toArray,List.length_cons,List.length_nil,Nat.reduceAdd,Nat.reduceSub,Array.replicate_succ,Array.replicate_zero,List.push_toArray,List.append_toArray,List.nil_append,List.cons_append]
 gi_wp2_with first
  | (refine⟨trivial,?_⟩;gi_at_call 67;refine(callsIn_wide.2 hcl).mono ?_;clear hcl;rintro e w1 ⟨cb,β,cap,R1,rfl,hf,hcap,hsz,hp1⟩)
  | (refine⟨trivial,?_⟩;gi_at_call 232;refine(hck _ _ _ _).mono ?_;rintro e w2 ⟨rfl,rfl⟩)
 obtain⟨w2,hw2⟩:∃ w2,(w1.alloc (.cells #[.slice (some ⟨cb,β,none⟩) N cap] 23)).alloc (.cells #[.int .i64 c] 3)=w2:=⟨_,rfl⟩
 have hsz2:w2.heap.size=w1.heap.size+2:=by rw[←hw2];simp
 have hcs:w2.cell? ⟨w1.heap.size,0,none⟩=some (.slice (some ⟨cb,β,none⟩) N cap):=by rw[←hw2];exact Uv _ (Qy w1 (.slice (some ⟨cb,β,none⟩) N cap) 23) (by simp)
 have hcn:w2.cell? ⟨w1.heap.size+1,0,none⟩=some (.int .i64 c):=by
  have:=Qy (w1.alloc (.cells #[.slice (some ⟨cb,β,none⟩) N cap] 23)) (.int .i64 c) 3
  rw[World.size_alloc] at this
  rw[←hw2];exact this
 have hp2:Ba (Ao Iy) R w (FM zs) R1 w2:=by
  have hc1:=hp1.sim.cellsOnly (Gt zs)
  have hg1:=World.grownBy_alloc w1 (.cells #[.slice (some ⟨cb,β,none⟩) N cap] 23) none
  have hp:=hp1.grown hg1 (fun r e=>by cases e) hc1
  have hg2:=World.grownBy_alloc (w1.alloc (.cells #[.slice (some ⟨cb,β,none⟩) N cap] 23)) (.cells #[.int .i64 c] 3) none
  rw[←hw2]
  exact hp.grown hg2 (fun r e=>by cases e) (hp.sim.cellsOnly (Gt zs))
 have hdom:∀ id cc ββ,R1.f id=some (cc,ββ)→cc < w1.heap.size:=fun id cc ββ h=>(hp1.sim.dom id cc ββ h).2
 rw[hw2]
 have hgr:w.heap.size≤w2.heap.size:=hp2.grow
 refine wpIn_rangeFunc_ownF (α := Fin r) rfl (by omega) (gf := 258) (lb := #[.pointer (some ⟨w1.heap.size, 0, none⟩), .pointer (some ⟨w1.heap.size + 1, 0, none⟩)]) rfl trivial (enters_of Tryz.func258 (by kernel_rfl) rfl)
  (Sm (10 - 1) (by omega) w1.heap.size (w1.heap.size+1) cb β r c N cap hr hc hc4 hNh.out hrc hcap w2 (by omega) (by omega) hcs hcn) (fun h k=>⟨k.1.trans h.1,k.2.trans h.2⟩)
  (fun W l o o' hl ho hc1 _=>⟨World.putObj_heap_other (by omega),World.putObj_heap_other (by omega)⟩) (Below.refl _ _) (fun _=>rfl)
  (fun pre W=>∃ R2,Ba (Ao Iy) R w (FM (JO c zs pre)) R2 W∧R1.le R2∧R2.f=R1.f∧w2.heap.size≤W.heap.size)
  (fun _ _ _=>False)
  (fun s A B row ⟨R2,h1,h2,h3,h4⟩ hg hr=>⟨R2,h1.grown hg (fun r e=>⟨by have:=(hr r e).1;omega,(hr r e).2⟩) (h1.sim.cellsOnly (Gt _)),h2,h3,Nat.le_trans h4 hg.size⟩)
  (fun _ _ _ _ _ hs _ _=>hs)
  ⟨R1,hp2,R1.le_refl,rfl,Nat.le_refl _⟩
  (fun x => { tmps := #[u0, Value.int IntKind.i64 ↑c, undef, undef, Value.slice none 0 0, Value.slice (some ⟨cb, β, none⟩) N cap, .slice (some ⟨cb, β + x.1 * c, none⟩) c c, u0, Value.slice (some ⟨cb, β, none⟩) N cap, Value.slice (some ⟨cb, β, none⟩) N cap, Value.int IntKind.i64 ↑c,
    Value.func (Fn.func 258) #[] #[Value.pointer (some ⟨w1.heap.size,0,none⟩),Value.pointer (some ⟨w1.heap.size+1,0,none⟩)],.slice (some ⟨cb,β+x.1*c,none⟩) c c,undef,undef,undef],defers:=[] }) ?assign ?body ?done ?stop
 case assign=>
  intro l x W K hK
  gi_wp2
  exact hK
 case body=>
  rintro l pre x W ⟨R2,h1,h2,h3,hWs⟩ hlt
  have hx:x.1*c+c≤N:=by rw[hNh.out,←Nat.succ_mul];exact Nat.mul_le_mul_right c x.2
  have hrun:=AjS hr hr4 hc hc4 (JO c zs pre) (by rw[PO,hz];exact hNh.out) x.1 x.2
  have hgl2:JH (List.range 2) R2:=fun g hg=>by
   have hg:g < 2:=List.mem_range.1 hg
   rw[h3];exact(hp1.le.up g g 0 (by rw[hR];exact if_pos hg)).1
  have hrev := ((Rx Fb K3 hm 40) 202 _ _ _ _ hrun).2 R2 W [.slice (some ⟨cb, β + x.1 * c, none⟩) c c] h1.sim hgl2 (.one (.sl (by rw [h3]; exact hf) (by omega) (by omega) (fun h => by omega) (by
   have:=(h2.up 3 cb β hf).2
   rw[this];omega)))
  have hrev2:Calls Tryz.prog 202 #[.slice (some ⟨cb,β+x.1*c,none⟩) c c] W fun e W'=>e = .returned (.tuple #[])∧KeepsOthers W W'∧AjR w1.heap.size (w1.heap.size+1) W W'∧∃ R3,Ba (Ao Iy) R w (FM (JO c zs (pre++[x]))) R3 W'∧R1.le R3∧R3.f=R1.f∧w2.heap.size≤W'.heap.size:=by
   refine hrev.mono fun e W' ⟨u,R3,he,hu,hp⟩=>?_
   have hbox:∀ k,w1.heap.size≤k→k < W.heap.size→W'.heap[k]?=W.heap[k]?:=fun k hk hk2=>hp.frame k hk2 fun id ββ h=>by
    rw[h3] at h;have:=hdom id k ββ h;omega
   have hf3:R3.f=R2.f:=hp.sameF rfl
   have hW:w2.heap.size≤W.heap.size:=hWs
   obtain⟨us,rfl,hul⟩:=hu.tuple_l
   have hus:us=[]:=by have:=hul.1;simpa using this.symm
   subst hus
   refine⟨he,hp.keepsOthers (h1.sim.cellsOnly (Gt _)),⟨hbox _ (Nat.le_refl _) (by omega),hbox _ (by omega) (by omega)⟩,R3,?_,Sp.Ren.le_trans h2 hp.le,hf3.trans h3,Nat.le_trans hWs hp.grow⟩
   rw[Pe]
   exact h1.trans hp hs
  clear hrev
  gi_wp2_with (refine⟨trivial,?_⟩;gi_at_call 202;refine(CallsIn.inRound l (callsIn_wide.2 hrev2)).mono ?_;clear hrev2;rintro e W' ⟨rfl,hk,hkp,hI⟩)
  exact⟨hk,hkp,hI⟩
 case done=>
  rintro D ys W hD rfl ⟨R2,h1,h2,h3,_⟩ hK
  gi_wp2
  refine⟨by simp,.inl ⟨_,_,rfl,run_takeDeferred hK,?_⟩⟩
  refine⟨_,results_tmp rfl _ _ _,_,R2,rfl,?_,?_⟩
  ·exact .sl (β := β) (off := 0) (by rw [h3]; exact hf) (by omega) (by omega) (fun h => by omega) (by
    have:=(h2.up 3 cb β hf).2
    rw[this];omega)
  ·exact h1.grown (grownBy_putObj' W D _) (fun r e=>by cases e;exact⟨by omega,_,hK,rfl⟩) (h1.sim.cellsOnly (Gt _))
 case stop=>
  rintro D c pre W _ _ h _
  exact h.elim
noncomputable section
def Sz (c:Nat) (zs:List Int) (r:Nat):List Int:=Nat.rec (motive:=fun _=>List Int) zs (fun k ih=>FK c k ih) r
def Ow (args:List Value):Option Value:=ll args none fun a r=>ll r none fun b r=>ll r (oo (Bj 1 a) none fun s=>oo (Bi .i64 b) none fun z=>oo (EA z) none fun c=>oo (CG (Bi .i64) s.cs) none fun zs=>
 bb (an (Nat.beq s.fl 0) (an (Nat.ble 1 c) (an (Nat.ble c 4) (an (Nat.ble c s.n) (an (Nat.ble (s.n / c) 4) (an (Nat.beq (s.n / c*c) s.n) (Nat.beq (len zs) s.n))))))) (some (FP 1 s.n 0 (AP Ue (Sz c zs (s.n / c))))) none) fun _ _=>none
end
theorem Pf (c:Nat) {r:Nat} (hr:0 < r) (zs:List Int):∀ k,k≤r→JO c zs (MF hr k)=Sz c zs k
 | 0,_=>rfl
 | k + 1, h => by
  rw[PN,Pe,Pf c hr zs k (by omega)]
  show FK c (k % r) _=FK c k _
  rw[Nat.mod_eq_of_lt h];rfl
theorem AeJ (z:Nat→Int):AP (fun n=>oo (Cq 2 false (.slice (some ⟨3,0,some 1⟩) n (2*n)) (FM (AP z (Go.BkQ.upN n)))) none (fun p=>pp p fun v _=>some v)) K4=AP (fun n=>some (FP 1 n 0 (AP Ue (AP z (Go.BkQ.upN n))))) K4:=by kernel_rfl
theorem AjT {r c:Nat} (hr:1≤r) (hr4:r≤4) (hc:1≤c) (hc4:c≤4) (zs:List Int) (hz:zs.length=r*c) :
 oo (Cq 2 false (.slice (some ⟨3,0,some 1⟩) (r*c) (2*(r*c))) (FM zs)) none (fun p=>pp p fun v _=>some v)=some (FP 1 (r*c) 0 (AP Ue zs)):=by
 have h:=AeJ fun i=>zs.getD i 0
 rw[Cc,Cc] at h
 have h:=List.map_inj_left.1 h _ (bJ hr hr4 hc hc4)
 have h:oo (Cq 2 false (.slice (some ⟨3,0,some 1⟩) (r*c) (2*(r*c))) (FM (AP (fun i=>zs.getD i 0) (Go.BkQ.upN (r*c))))) none (fun p=>pp p fun v _=>some v)=some (FP 1 (r*c) 0 (AP Ue (AP (fun i=>zs.getD i 0) (Go.BkQ.upN (r*c))))):=h
 rw[UG hz] at h
 exact h
theorem bN (n:Nat) (zs:List Int):Fe (FP 1 n 0 (AP Ue zs))=true:=rfl
theorem Uk {vs:List Value} {zs:List Int} (h:CG (Bi .i64) vs=some zs):vs=AP Ue zs:=by
 obtain⟨h1,h2⟩:=Di h
 rw[yF]
 refine List.ext_getElem? fun i=>?_
 rw[List.getElem?_map]
 cases hv:vs[i]? with
 | none=>rw[List.getElem?_eq_none (by rw[h1];exact List.getElem?_eq_none_iff.1 hv)];rfl
 | some v =>
  obtain⟨b,h3,h4⟩:=h2 i v hv
  rw[h3,Eh h4];rfl
theorem WO (hm:Tryz.prog.follows .mixedOrders=true):BA Tryz.prog Iy 204 Ow:=by
 refine⟨enters_of Tryz.func204 (by kernel_rfl) rfl,fun args v hv hcl R w args' hR hs ha=>?_⟩
 replace hv:=Ad hv;obtain⟨a,r1,rfl,hv⟩:=hv
 replace hv:=Ad hv;obtain⟨b,r2,rfl,hv⟩:=hv
 replace hv:=AC hv;obtain⟨rfl,hv⟩:=hv
 replace hv:=Ab hv;obtain⟨s,h1,hv⟩:=hv
 replace hv:=Ab hv;obtain⟨z,h2,hv⟩:=hv
 replace hv:=Ab hv;obtain⟨c,h3,hv⟩:=hv
 replace hv:=Ab hv;obtain⟨zs,h4,hv⟩:=hv
 replace hv:=Ae hv;obtain⟨hc,hv⟩:=hv
 injection hv with hv
 obtain⟨n,fl,cs⟩:=s
 obtain⟨c0,hc⟩:=Av hc
 obtain⟨c1,hc⟩:=Av hc
 obtain⟨c2,hc⟩:=Av hc
 obtain⟨c3,hc⟩:=Av hc
 obtain⟨c4,hc⟩:=Av hc
 obtain⟨c5,c6⟩:=Av hc
 replace c0:fl=0:=Nat.eq_of_beq_eq_true c0
 replace c1:=Nat.le_of_ble_eq_true c1
 replace c2:=Nat.le_of_ble_eq_true c2
 replace c3:c≤n:=Nat.le_of_ble_eq_true c3
 replace c4:n / c≤4:=Nat.le_of_ble_eq_true c4
 replace c5:n / c*c=n:=Nat.eq_of_beq_eq_true c5
 replace c6:len zs=n:=Nat.eq_of_beq_eq_true c6
 rw[AV] at c6
 subst c0
 obtain rfl:=Qh h1
 obtain rfl:=Eh h2
 obtain rfl:=AR h3
 replace h4:cs=AP Ue zs:=Uk h4
 subst h4
 have hr:1≤n / c:=Nat.div_pos c3 c1
 have hcalls:=Sq hm hr c4 c1 c2 c5.symm c6 hR hs ha
 refine hcalls.mono fun e w' ⟨u,R1,he,hu,hp⟩=>?_
 rw[Pf c hr zs (n / c) (Nat.le_refl _)] at hp
 have hfz0:=AjT hr c4 c1 c2 (Sz c zs (n / c)) (by rw[←Pf c hr zs (n / c) (Nat.le_refl _),PO,c6,c5])
 rw[c5] at hfz0
 obtain⟨⟨v2,H2⟩,hfz,hfz1⟩:=Ab hfz0
 injection (show some v2=_ from hfz1) with hfz1
 subst hfz1
 obtain⟨R2,_,_,k2,k3⟩:=Gg hfz hs (Nat.le_refl _) hp hu
 subst hv
 exact⟨u,H2,R2,he,bN _ _,k3,k2⟩
end Go.Proofs
