/- Made from wip. -/
import Derived.Test.YtflonlkiajhhjaaGreatDoorTzChunk
import Derived.Test.YtflonlkiajhhjaaGreatDoorTpDJoinx
import Derived.Test.YtflonlkiajhhjaaGreatDoorTpDNodesx
import Derived.Test.YtflonlkiajhhjaaGreatDoorSpYield
import Derived.Test.YtflonlkiajhhjaaGreatDoorSpClox
import Derived.KernelRfl

namespace Go.Proofs
open Go Go.RowKit Go.Shelf Go.Sp Go.TpD Go.Proofs.YtflonlkiajhhjaaGreatDoor.TpD
attribute [local go_sem] Oper.semAt_some

noncomputable section
def yV:List Value:=[.int .u8 0,.int .u8 1,.int .u8 28,.int .u8 2,.int .u8 29,.int .u8 14,.int .u8 24,.int .u8 3,.int .u8 30,.int .u8 22,.int .u8 20,.int .u8 15,.int .u8 25,.int .u8 17,.int .u8 4,.int .u8 8,.int .u8 31,.int .u8 27,.int .u8 13,.int .u8 23,.int .u8 21,.int .u8 19,.int .u8 16,.int .u8 7,.int .u8 26,.int .u8 12,.int .u8 18,.int .u8 6,.int .u8 11,.int .u8 5,.int .u8 10,.int .u8 9]
def zC:List Value:=[.int .u8 0,.int .u8 1,.int .u8 56,.int .u8 2,.int .u8 57,.int .u8 49,.int .u8 28,.int .u8 3,.int .u8 61,.int .u8 58,.int .u8 42,.int .u8 50,.int .u8 38,.int .u8 29,.int .u8 17,.int .u8 4,.int .u8 62,.int .u8 47,.int .u8 59,.int .u8 36,.int .u8 45,.int .u8 43,.int .u8 51,.int .u8 22,.int .u8 53,.int .u8 39,.int .u8 33,.int .u8 30,.int .u8 24,.int .u8 18,.int .u8 12,.int .u8 5,.int .u8 63,.int .u8 55,.int .u8 48,.int .u8 27,.int .u8 60,.int .u8 41,.int .u8 37,.int .u8 16,.int .u8 46,.int .u8 35,.int .u8 44,.int .u8 21,.int .u8 52,.int .u8 32,.int .u8 23,.int .u8 11,.int .u8 54,.int .u8 26,.int .u8 40,.int .u8 15,.int .u8 34,.int .u8 20,.int .u8 31,.int .u8 10,.int .u8 25,.int .u8 14,.int .u8 19,.int .u8 9,.int .u8 13,.int .u8 8,.int .u8 7,.int .u8 6]
def Gp:List (List Value):=[yV,zC]
def DT (c x:Nat) (zs:List Int):List Int:=zs.take (x*c)++(((zs.drop (x*c)).take c).reverse++zs.drop (x*c+c))
def Fb (zs:List Int):Aa:=((Ao Gp).push (.cells [] false false [])).push (.cells (AP O8 zs) false false [])
def Gy (c:Nat) {r:Nat} (zs:List Int) (xs:List (Fin r)):List Int:=xs.foldl (fun zs x=>DT c x.1 zs) zs
end
set_option maxHeartbeats 1000000 in
theorem bT (F:Fence) (n:Nat) (h97:F.fn 232) (hro:F.round=none) (a:Option Addr) (len cap c:Nat) (hc:1≤c) (hc4:c≤4) (w:World) :
 CallsIn F n Tryz.prog 232 #[.slice a len cap,.int .i64 c] w fun e w'=>e = .returned (.func (.func 258) #[] #[.pointer (some ⟨w.heap.size,0,none⟩),.pointer (some ⟨w.heap.size+1,0,none⟩)])∧w'=(w.alloc (.cells #[.slice a len cap] 23)).alloc (.cells #[.int .i64 c] 3):=by
 refine callsIn_of_wp Tryz.func232 rfl h97 ?_ hro
 simp only[Tryz.ntmps232,List.size_toArray,List.length_cons,List.length_nil,Nat.reduceAdd,Nat.reduceSub,Array.replicate_succ,Array.replicate_zero,List.push_toArray,List.append_toArray,List.nil_append,List.cons_append]
 gi_wp2
 go_ret
 exact⟨rfl,rfl⟩
def AcI (Bs Bn:Nat) (A B:World):Prop:=B.heap[Bs]?=A.heap[Bs]?∧B.heap[Bn]?=A.heap[Bn]?
theorem OT (n:Nat) (hn:1≤n) (Bs Bn b off r c N cap:Nat) (hr:0 < r) (hc:1≤c) (hc4:c≤4) (hN:N=r*c) (hrc:N≤16) (hcap:N≤cap) (w:World) (hBs:Bs < w.heap.size) (hBn:Bn < w.heap.size)
 (h1:w.cell? ⟨Bs,0,none⟩=some (.slice (some ⟨b,off,none⟩) N cap)) (h2:w.cell? ⟨Bn,0,none⟩=some (.int .i64 c)) :
 SeqStopsK Fence.wide n Tryz.prog 258 #[.pointer (some ⟨Bs,0,none⟩),.pointer (some ⟨Bn,0,none⟩)] (fun x:Fin r=>#[.slice (some ⟨b,off+x.1*c,none⟩) c c]) (AcI Bs Bn) (fun xs=>xs=Jv hr r) (fun _=>True) r w:=fun l J Jx W hW hJ hJx hY h0=>by
 have hs:=(World.cell?_of_block (w:=w) (a:=⟨Bs,0,none⟩) (hW.block Bs hBs)).trans h1
 have hb:=(World.cell?_of_block (w:=w) (a:=⟨Bn,0,none⟩) (hW.block Bn hBn)).trans h2
 refine (V4 Fence.wide n trivial rfl hn l Bs Bn b off r c N cap hr hc hc4 hN hrc hcap J Jx (fun s A h => hJ s A A.drew none h ⟨rfl, rfl, rfl, Nat.le_refl _, fun _ _ _ => rfl⟩ (fun r e => by cases e))
  (fun pre x W1 hj hl=>(hY pre x W1 hj hl).mono fun e W' h=>?_) W hs hb h0).mono fun e W' ⟨he,h⟩=>⟨he,?_⟩
 ·rcases h with⟨he,hj,k1,k2⟩ | h
  ·exact .inl ⟨he,hj,World.cell?_of_block k1,World.cell?_of_block k2⟩
  ·exact .inr h
 ·exact h

noncomputable def Qr:List (Nat×Nat×Nat):=[1,2,3,4].flatMap fun r=>[1,2,3,4].flatMap fun c=>(Go.BkQ.upN r).map fun x=>(r,c,x)
theorem zD (z:Nat→Int):AP (fun p:Nat×Nat×Nat=>Cr tt Gt 40 202 [.slice (some ⟨3,p.2.2*p.2.1,some 1⟩) p.2.1 (2*p.2.1)] (Fb (AP z (Go.BkQ.upN (p.1*p.2.1))))) Qr=AP (fun p:Nat×Nat×Nat=>some (.tuple ⟨[]⟩,Fb (DT p.2.1 p.2.2 (AP z (Go.BkQ.upN (p.1*p.2.1)))))) Qr:=by kernel_rfl
theorem V5:∀ n,Go.BkQ.upN n=List.range n
 | 0=>rfl
 | n + 1 => by
  rw[List.range_succ,←V5 n,←BH];rfl
theorem Qs {n:Nat} {zs:List Int} (hz:zs.length=n):AP (fun i=>zs.getD i 0) (Go.BkQ.upN n)=zs:=by
 rw[Cc,V5,←hz]
 apply List.ext_getElem
 ·simp
 ·intro i h1 h2
  simp[List.getD_eq_getElem?_getD,h2]
theorem AcJ {r c:Nat} (hr:1≤r) (hr4:r≤4) (hc:1≤c) (hc4:c≤4) (zs:List Int) (hz:zs.length=r*c) (x:Nat) (hx:x < r) :
 Cr tt Gt 40 202 [.slice (some ⟨3,x*c,some 1⟩) c (2*c)] (Fb zs)=some (.tuple ⟨[]⟩,Fb (DT c x zs)):=by
 have h4:∀ n,1≤n→n≤4→n∈[1,2,3,4]:=fun n h1 h2=>by
  obtain rfl | rfl | rfl | rfl:n=1∨n=2∨n=3∨n=4:=by omega
  all_goals simp
 have hm:(r,c,x)∈Qr:=List.mem_flatMap.2 ⟨r,h4 r hr hr4,List.mem_flatMap.2 ⟨c,h4 c hc hc4,List.mem_map.2 ⟨x,by rw[V5];exact List.mem_range.2 hx,rfl⟩⟩⟩
 have e:AP (fun i=>zs.getD i 0) (Go.BkQ.upN (r*c))=zs:=Qs hz
 have h:=zD fun i=>zs.getD i 0
 rw[Cc,Cc] at h
 have h:=List.map_inj_left.1 h _ hm
 have h:Cr tt Gt 40 202 [.slice (some ⟨3,x*c,some 1⟩) c (2*c)] (Fb (AP (fun i=>zs.getD i 0) (Go.BkQ.upN (r*c))))=some (.tuple ⟨[]⟩,Fb (DT c x (AP (fun i=>zs.getD i 0) (Go.BkQ.upN (r*c))))):=h
 rw[e] at h
 exact h
def Je:List Nat:=[1,2,3,4,6,8,9,12,16]
theorem V6 {r c:Nat} (hr:1≤r) (hr4:r≤4) (hc:1≤c) (hc4:c≤4):r*c∈Je:=by
 obtain rfl | rfl | rfl | rfl:r=1∨r=2∨r=3∨r=4:=by omega
 all_goals
  obtain rfl | rfl | rfl | rfl:c=1∨c=2∨c=3∨c=4:=by omega
  all_goals decide
theorem V8 (z:Nat→Int):AP (fun n=>Cr tt Gt 40 67 [FP 1 n 0 (AP O8 (AP z (Go.BkQ.upN n)))] (Ao Gp)) Je=AP (fun n=>some (.slice (some ⟨3,0,some 1⟩) n (2*n),Fb (AP z (Go.BkQ.upN n)))) Je:=by kernel_rfl
theorem bU {r c:Nat} (hr:1≤r) (hr4:r≤4) (hc:1≤c) (hc4:c≤4) (zs:List Int) (hz:zs.length=r*c) :
 Cr tt Gt 40 67 [FP 1 (r*c) 0 (AP O8 zs)] (Ao Gp)=some (.slice (some ⟨3,0,some 1⟩) (r*c) (2*(r*c)),Fb zs):=by
 have h:=V8 fun i=>zs.getD i 0
 rw[Cc,Cc] at h
 have h:=List.map_inj_left.1 h _ (V6 hr hr4 hc hc4)
 have h:Cr tt Gt 40 67 [FP 1 (r*c) 0 (AP O8 (AP (fun i=>zs.getD i 0) (Go.BkQ.upN (r*c))))] (Ao Gp)=some (.slice (some ⟨3,0,some 1⟩) (r*c) (2*(r*c)),Fb (AP (fun i=>zs.getD i 0) (Go.BkQ.upN (r*c)))):=h
 rw[Qs hz] at h
 exact h
theorem R9 (zs:List Int) (i:Nat) (h:i < 4):∃ xs imm spent anc,(Fb zs).get i = .cells xs imm spent anc:=by
 obtain rfl | rfl | rfl | rfl:i=0∨i=1∨i=2∨i=3:=by omega
 ·exact⟨_,_,_,_,rfl⟩
 ·exact⟨_,_,_,_,rfl⟩
 ·exact⟨_,_,_,_,rfl⟩
 ·exact⟨_,_,_,_,rfl⟩
theorem FL (zs:List Int):Qx (Fb zs):=fun i h=>R9 zs i h
theorem OU {c x:Nat} {zs:List Int}:(DT c x zs).length=zs.length:=by
 simp only[DT,List.length_append,List.length_take,List.length_reverse,List.length_drop]
 omega
theorem LU (c:Nat) {r:Nat} (zs:List Int) (xs:List (Fin r)) (x:Fin r):Gy c zs (xs++[x])=DT c x.1 (Gy c zs xs):=by simp[Gy]
theorem MU (c:Nat) {r:Nat} (zs:List Int) (xs:List (Fin r)):(Gy c zs xs).length=zs.length:=by
 unfold Gy
 induction xs generalizing zs with
 | nil=>rfl
 | cons x xs ih=>rw[List.foldl_cons,ih,OU]

set_option maxRecDepth 100000 in
set_option maxHeartbeats 4000000 in
theorem OW (hm:Tryz.prog.follows .mixedOrders=true) {r c N:Nat} (hr:1≤r) (hr4:r≤4) (hc:1≤c) (hc4:c≤4) (hN:N=r*c) {zs:List Int} (hz:zs.length=N) {R:Sp.Ren} {w:World} {args':List Value}
 (hR:R.f=fun i=>if i < Gp.length then some (i,0) else none) (hs:Ck (Ao Gp) R w) (ha:Cf R [FP 1 N 0 (AP O8 zs),.int .i64 c] args') :
 Calls Tryz.prog 204 ⟨args'⟩ w fun e w'=>∃ u R',e = .returned u∧VR R' (.slice (some ⟨3,0,some 1⟩) N (2*N)) u∧Ba (Ao Gp) R w (Fb (Gy c zs (Jv hr r))) R' w':=by
 have hrc:N≤16:=by rw[hN];exact Nat.mul_le_mul hr4 hc4
 have hN1:1≤N:=by rw[hN];exact Nat.mul_le_mul hr hc
 have hgl:JH (List.range 2) R:=fun g hg=>by
  have hg:g < 2:=List.mem_range.1 hg
  rw[hR];exact if_pos hg
 obtain⟨u0,us,rfl,hu0,ha1⟩:=ha.uncons
 obtain⟨u1,us,rfl,hu1,hnil⟩:=ha1.uncons
 obtain rfl:=hnil.unnil
 have hu1:=hu1.int_l
 subst hu1
 have hclone:=((Rx DL Jd hm 40) 67 _ _ _ _ (by rw[hN] at hz ⊢;exact bU hr hr4 hc hc4 zs hz:Cr tt Gt 40 67 [FP 1 N 0 (AP O8 zs)] (Ao Gp)=some (.slice (some ⟨3,0,some 1⟩) N (2*N),Fb zs))).2 R w [u0] hs hgl (.one hu0)
 have hcl:Calls Tryz.prog 67 #[u0] w fun e w1=>∃ (cb β cap:Nat) (R1:Sp.Ren),e = .returned (.slice (some ⟨cb,β,none⟩) N cap)∧R1.f 3=some (cb,β)∧N≤cap∧β+cap≤R1.sz cb∧Ba (Ao Gp) R w (Fb zs) R1 w1:=by
  refine hclone.mono fun e w1 ⟨v1,R1,he,hv,hp⟩=>?_
  cases hv with
  | @sl _ _ _ _ _ cb β cap hf h1 h2 h3 h4=>exact⟨cb,β,cap,R1,by rw[he,Nat.add_zero],hf,by omega,by omega,hp⟩
  | slE h=>omega
  | slN h=>omega
 clear hclone
 have hck:=fun (a:Option Addr) (len cap:Nat) (w:World)=>bT Fence.wide (10 - 1) trivial rfl a len cap c hc hc4 w
 have hNh:Hid (N=r*c):=hN
 clear hN
 refine callsIn_wide (n:=10).1 ?_
 refine callsIn_of_wp_marks Tryz.func204 rfl trivial ?_ rfl
 simp only[Tryz.ntmps204,List.size_toArray,List.length_cons,List.length_nil,Nat.reduceAdd,Nat.reduceSub,Array.replicate_succ,Array.replicate_zero,List.push_toArray,List.append_toArray,List.nil_append,List.cons_append]
 gi_wp2_with first
  | (refine⟨trivial,?_⟩;gi_at_call 67;refine(callsIn_wide.2 hcl).mono ?_;clear hcl;rintro e w1 ⟨cb,β,cap,R1,rfl,hf,hcap,hsz,hp1⟩)
  | (refine⟨trivial,?_⟩;gi_at_call 232;refine(hck _ _ _ _).mono ?_;rintro e w2 ⟨rfl,rfl⟩)
 obtain⟨w2,hw2⟩:∃ w2,(w1.alloc (.cells #[.slice (some ⟨cb,β,none⟩) N cap] 23)).alloc (.cells #[.int .i64 c] 3)=w2:=⟨_,rfl⟩
 have hsz2:w2.heap.size=w1.heap.size+2:=by rw[←hw2];simp
 have hcs:w2.cell? ⟨w1.heap.size,0,none⟩=some (.slice (some ⟨cb,β,none⟩) N cap):=by rw[←hw2];exact Uv _ (Qy w1 (.slice (some ⟨cb,β,none⟩) N cap) 23) (by simp)
 have hcn:w2.cell? ⟨w1.heap.size+1,0,none⟩=some (.int .i64 c):=by
  have:=Qy (w1.alloc (.cells #[.slice (some ⟨cb,β,none⟩) N cap] 23)) (.int .i64 c) 3
  rw[World.size_alloc] at this
  rw[←hw2];exact this
 have hp2:Ba (Ao Gp) R w (Fb zs) R1 w2:=by
  have hc1:=hp1.sim.cellsOnly (FL zs)
  have hg1:=World.grownBy_alloc w1 (.cells #[.slice (some ⟨cb,β,none⟩) N cap] 23) none
  have hp:=hp1.grown hg1 (fun r e=>by cases e) hc1
  have hg2:=World.grownBy_alloc (w1.alloc (.cells #[.slice (some ⟨cb,β,none⟩) N cap] 23)) (.cells #[.int .i64 c] 3) none
  rw[←hw2]
  exact hp.grown hg2 (fun r e=>by cases e) (hp.sim.cellsOnly (FL zs))
 have hdom:∀ id cc ββ,R1.f id=some (cc,ββ)→cc < w1.heap.size:=fun id cc ββ h=>(hp1.sim.dom id cc ββ h).2
 rw[hw2]
 have hgr:w.heap.size≤w2.heap.size:=hp2.grow
 refine wpIn_rangeFunc_ownF (α := Fin r) rfl (by omega) (gf := 258) (lb := #[.pointer (some ⟨w1.heap.size, 0, none⟩), .pointer (some ⟨w1.heap.size + 1, 0, none⟩)]) rfl trivial (enters_of Tryz.func258 (by kernel_rfl) rfl)
  (OT (10 - 1) (by omega) w1.heap.size (w1.heap.size+1) cb β r c N cap hr hc hc4 hNh.out hrc hcap w2 (by omega) (by omega) hcs hcn) (fun h k=>⟨k.1.trans h.1,k.2.trans h.2⟩)
  (fun W l o o' hl ho hc1 _=>⟨World.putObj_heap_other (by omega),World.putObj_heap_other (by omega)⟩) (Below.refl _ _) (fun _=>rfl)
  (fun pre W=>∃ R2,Ba (Ao Gp) R w (Fb (Gy c zs pre)) R2 W∧R1.le R2∧R2.f=R1.f∧w2.heap.size≤W.heap.size)
  (fun _ _ _=>False)
  (fun s A B row ⟨R2,h1,h2,h3,h4⟩ hg hr=>⟨R2,h1.grown hg (fun r e=>⟨by have:=(hr r e).1;omega,(hr r e).2⟩) (h1.sim.cellsOnly (FL _)),h2,h3,Nat.le_trans h4 hg.size⟩)
  (fun _ _ _ _ _ hs _ _=>hs)
  ⟨R1,hp2,R1.le_refl,rfl,Nat.le_refl _⟩
  (fun x => { tmps := #[u0, Value.int IntKind.i64 ↑c, undef, undef, Value.slice none 0 0, Value.slice (some ⟨cb, β, none⟩) N cap, .slice (some ⟨cb, β + x.1 * c, none⟩) c c, u0, Value.slice (some ⟨cb, β, none⟩) N cap, Value.slice (some ⟨cb, β, none⟩) N cap, Value.int IntKind.i64 ↑c,
    Value.func (Fn.func 258) #[] #[Value.pointer (some ⟨w1.heap.size,0,none⟩),Value.pointer (some ⟨w1.heap.size+1,0,none⟩)],.slice (some ⟨cb,β+x.1*c,none⟩) c c,undef,undef,undef],defers:=[] }) ?assign ?body ?done ?stop
 case assign=>
  intro l x W K hK
  gi_wp2
  exact hK
 case body=>
  rintro l pre x W ⟨R2,h1,h2,h3,hWs⟩ hlt
  have hx:x.1*c+c≤N:=by rw[hNh.out,←Nat.succ_mul];exact Nat.mul_le_mul_right c x.2
  have hrun:=AcJ hr hr4 hc hc4 (Gy c zs pre) (by rw[MU,hz];exact hNh.out) x.1 x.2
  have hgl2:JH (List.range 2) R2:=fun g hg=>by
   have hg:g < 2:=List.mem_range.1 hg
   rw[h3];exact(hp1.le.up g g 0 (by rw[hR];exact if_pos hg)).1
  have hrev := ((Rx DL Jd hm 40) 202 _ _ _ _ hrun).2 R2 W [.slice (some ⟨cb, β + x.1 * c, none⟩) c c] h1.sim hgl2 (.one (.sl (by rw [h3]; exact hf) (by omega) (by omega) (fun h => by omega) (by
   have:=(h2.up 3 cb β hf).2
   rw[this];omega)))
  have hrev2:Calls Tryz.prog 202 #[.slice (some ⟨cb,β+x.1*c,none⟩) c c] W fun e W'=>e = .returned (.tuple #[])∧KeepsOthers W W'∧AcI w1.heap.size (w1.heap.size+1) W W'∧∃ R3,Ba (Ao Gp) R w (Fb (Gy c zs (pre++[x]))) R3 W'∧R1.le R3∧R3.f=R1.f∧w2.heap.size≤W'.heap.size:=by
   refine hrev.mono fun e W' ⟨u,R3,he,hu,hp⟩=>?_
   have hbox:∀ k,w1.heap.size≤k→k < W.heap.size→W'.heap[k]?=W.heap[k]?:=fun k hk hk2=>hp.frame k hk2 fun id ββ h=>by
    rw[h3] at h;have:=hdom id k ββ h;omega
   have hf3:R3.f=R2.f:=hp.sameF rfl
   have hW:w2.heap.size≤W.heap.size:=hWs
   obtain⟨us,rfl,hul⟩:=hu.tuple_l
   have hus:us=[]:=by have:=hul.1;simpa using this.symm
   subst hus
   refine⟨he,hp.keepsOthers (h1.sim.cellsOnly (FL _)),⟨hbox _ (Nat.le_refl _) (by omega),hbox _ (by omega) (by omega)⟩,R3,?_,Sp.Ren.le_trans h2 hp.le,hf3.trans h3,Nat.le_trans hWs hp.grow⟩
   rw[LU]
   exact h1.trans hp hs
  clear hrev
  gi_wp2_with (refine⟨trivial,?_⟩;gi_at_call 202;refine(CallsIn.inRound l (callsIn_wide.2 hrev2)).mono ?_;clear hrev2;rintro e W' ⟨rfl,hk,hkp,hI⟩)
  exact⟨hk,hkp,hI⟩
 case done=>
  rintro D ys W hD rfl ⟨R2,h1,h2,h3,_⟩ hK
  gi_wp2
  refine⟨by simp,.inl ⟨_,_,rfl,run_takeDeferred hK,?_⟩⟩
  refine⟨_,results_tmp rfl _ _ _,_,R2,rfl,?_,?_⟩
  ·exact .sl (β := β) (off := 0) (by rw [h3]; exact hf) (by omega) (by omega) (fun h => by omega) (by
    have:=(h2.up 3 cb β hf).2
    rw[this];omega)
  ·exact h1.grown (grownBy_putObj' W D _) (fun r e=>by cases e;exact⟨by omega,_,hK,rfl⟩) (h1.sim.cellsOnly (FL _))
 case stop=>
  rintro D c pre W _ _ h _
  exact h.elim
noncomputable section
def OX (c:Nat) (zs:List Int) (r:Nat):List Int:=Nat.rec (motive:=fun _=>List Int) zs (fun k ih=>DT c k ih) r
def Ki (args:List Value):Option Value:=ll args none fun a r=>ll r none fun b r=>ll r (oo (Bj 1 a) none fun s=>oo (Bi .i64 b) none fun z=>oo (EA z) none fun c=>oo (CG (Bi .i64) s.cs) none fun zs=>
 bb (an (Nat.beq s.fl 0) (an (Nat.ble 1 c) (an (Nat.ble c 4) (an (Nat.ble c s.n) (an (Nat.ble (s.n / c) 4) (an (Nat.beq (s.n / c*c) s.n) (Nat.beq (len zs) s.n))))))) (some (FP 1 s.n 0 (AP O8 (OX c zs (s.n / c))))) none) fun _ _=>none
end
theorem LW (c:Nat) {r:Nat} (hr:0 < r) (zs:List Int):∀ k,k≤r→Gy c zs (Jv hr k)=OX c zs k
 | 0,_=>rfl
 | k + 1, h => by
  rw[MR,LU,LW c hr zs k (by omega)]
  show DT c (k % r) _=DT c k _
  rw[Nat.mod_eq_of_lt h];rfl
theorem zF (z:Nat→Int):AP (fun n=>oo (Cq 2 false (.slice (some ⟨3,0,some 1⟩) n (2*n)) (Fb (AP z (Go.BkQ.upN n)))) none (fun p=>pp p fun v _=>some v)) Je=AP (fun n=>some (FP 1 n 0 (AP O8 (AP z (Go.BkQ.upN n))))) Je:=by kernel_rfl
theorem AcK {r c:Nat} (hr:1≤r) (hr4:r≤4) (hc:1≤c) (hc4:c≤4) (zs:List Int) (hz:zs.length=r*c) :
 oo (Cq 2 false (.slice (some ⟨3,0,some 1⟩) (r*c) (2*(r*c))) (Fb zs)) none (fun p=>pp p fun v _=>some v)=some (FP 1 (r*c) 0 (AP O8 zs)):=by
 have h:=zF fun i=>zs.getD i 0
 rw[Cc,Cc] at h
 have h:=List.map_inj_left.1 h _ (V6 hr hr4 hc hc4)
 have h:oo (Cq 2 false (.slice (some ⟨3,0,some 1⟩) (r*c) (2*(r*c))) (Fb (AP (fun i=>zs.getD i 0) (Go.BkQ.upN (r*c))))) none (fun p=>pp p fun v _=>some v)=some (FP 1 (r*c) 0 (AP O8 (AP (fun i=>zs.getD i 0) (Go.BkQ.upN (r*c))))):=h
 rw[Qs hz] at h
 exact h
theorem V9 (n:Nat) (zs:List Int):Fe (FP 1 n 0 (AP O8 zs))=true:=rfl
theorem Ph {vs:List Value} {zs:List Int} (h:CG (Bi .i64) vs=some zs):vs=AP O8 zs:=by
 obtain⟨h1,h2⟩:=Di h
 rw[lX]
 refine List.ext_getElem? fun i=>?_
 rw[List.getElem?_map]
 cases hv:vs[i]? with
 | none=>rw[List.getElem?_eq_none (by rw[h1];exact List.getElem?_eq_none_iff.1 hv)];rfl
 | some v =>
  obtain⟨b,h3,h4⟩:=h2 i v hv
  rw[h3,Eh h4];rfl
theorem Sa (hm:Tryz.prog.follows .mixedOrders=true):BA Tryz.prog Gp 204 Ki:=by
 refine⟨enters_of Tryz.func204 (by kernel_rfl) rfl,fun args v hv hcl R w args' hR hs ha=>?_⟩
 replace hv:=Ad hv;obtain⟨a,r1,rfl,hv⟩:=hv
 replace hv:=Ad hv;obtain⟨b,r2,rfl,hv⟩:=hv
 replace hv:=AC hv;obtain⟨rfl,hv⟩:=hv
 replace hv:=Ab hv;obtain⟨s,h1,hv⟩:=hv
 replace hv:=Ab hv;obtain⟨z,h2,hv⟩:=hv
 replace hv:=Ab hv;obtain⟨c,h3,hv⟩:=hv
 replace hv:=Ab hv;obtain⟨zs,h4,hv⟩:=hv
 replace hv:=Ae hv;obtain⟨hc,hv⟩:=hv
 injection hv with hv
 obtain⟨n,fl,cs⟩:=s
 obtain⟨c0,hc⟩:=Av hc
 obtain⟨c1,hc⟩:=Av hc
 obtain⟨c2,hc⟩:=Av hc
 obtain⟨c3,hc⟩:=Av hc
 obtain⟨c4,hc⟩:=Av hc
 obtain⟨c5,c6⟩:=Av hc
 replace c0:fl=0:=Nat.eq_of_beq_eq_true c0
 replace c1:=Nat.le_of_ble_eq_true c1
 replace c2:=Nat.le_of_ble_eq_true c2
 replace c3:c≤n:=Nat.le_of_ble_eq_true c3
 replace c4:n / c≤4:=Nat.le_of_ble_eq_true c4
 replace c5:n / c*c=n:=Nat.eq_of_beq_eq_true c5
 replace c6:len zs=n:=Nat.eq_of_beq_eq_true c6
 rw[AV] at c6
 subst c0
 obtain rfl:=Qh h1
 obtain rfl:=Eh h2
 obtain rfl:=AR h3
 replace h4:cs=AP O8 zs:=Ph h4
 subst h4
 have hr:1≤n / c:=Nat.div_pos c3 c1
 have hcalls:=OW hm hr c4 c1 c2 c5.symm c6 hR hs ha
 refine hcalls.mono fun e w' ⟨u,R1,he,hu,hp⟩=>?_
 rw[LW c hr zs (n / c) (Nat.le_refl _)] at hp
 have hfz0:=AcK hr c4 c1 c2 (OX c zs (n / c)) (by rw[←LW c hr zs (n / c) (Nat.le_refl _),MU,c6,c5])
 rw[c5] at hfz0
 obtain⟨⟨v2,H2⟩,hfz,hfz1⟩:=Ab hfz0
 injection (show some v2=_ from hfz1) with hfz1
 subst hfz1
 obtain⟨R2,_,_,k2,k3⟩:=Gg hfz hs (Nat.le_refl _) hp hu
 subst hv
 exact⟨u,H2,R2,he,V9 _ _,k3,k2⟩
end Go.Proofs
set_option maxRecDepth 100000
set_option maxHeartbeats 0
namespace Go.Proofs.YtflonlkiajhhjaaGreatDoor.TpD
open Go Go.Sp Go.TpD Go.TpDM Go.BkQ
noncomputable section
def isA:FuncId→Bool:=fun _=>false
def puA:Af:=fun _ _=>none
def zG:A8:=fun g args H=>bb (Nat.beq g 204) (Hr tabs 1 Ki args H) none
def evL (n:Nat) (g:FuncId) (args:List Value):Option (Value×Aa):=Mw tabs isA puA zG tt Gt n g args (Ao tabs)
def zH (v3 v4:Value) (p:Nat×Nat×Nat):Option Value:=(fun r=>oo (kN 2 r) (kP r) fun v=>some v) (evL 100 165 [.agg ⟨[IV (.ofNat p.1),IV (.ofNat p.2.1),v3,v4]⟩,IV (.ofNat p.2.2)])
end
theorem RY (hm:Tryz.prog.follows .mixedOrders=true):BA Tryz.prog tabs 204 Ki:=Sa hm
theorem qA:∀ g,isA g=true→BA Tryz.prog tabs g (puA g):=fun g h=>by cases h
theorem iA (hm:Tryz.prog.follows .mixedOrders=true):CO Tryz.prog (List.range tabs.length) zG:=fun g args H v H' h=>by
 obtain⟨e,h⟩:=Ae (show bb (Nat.beq g 204) (Hr tabs 1 Ki args H) none=some (v,H') from h)
 obtain rfl:=Nat.eq_of_beq_eq_true e
 exact Og Cs CY (RY hm) h
theorem Pi {α β:Type} {f g:α→β}:∀ {l:List α},AP f l=AP g l→∀ x∈l,f x=g x
 | [],_,_,h=>by cases h
 | a :: l, h, x, hx => by
  injection (show f a::AP f l=g a::AP g l from h) with h1 h2
  cases hx with
  | head=>exact h1
  | tail _ hx=>exact Pi h2 x hx
theorem zJ (v3 v4:Value):AP (zH v3 v4) triples=AP (fun p=>some (WH (cellL p.1 p.2.1 p.2.2))) triples:=by kernel_rfl
theorem AcL (hm:Tryz.prog.follows .mixedOrders=true):BA Tryz.prog tabs 165 cellsM:=by
 refine I5 (tabs:=tabs) (n:=100) (g:=165) (H:=Ao tabs) (isP:=isA) (pu:=puA) (inl:=zG) DL Cs CY Jd hm qA (iA hm) (fun i=>rfl) rfl (A9 UZ) fun args v h=>?_
 obtain⟨r,c,t,v3,v4,rfl,hp,rfl⟩:=Pq h
 have hr:=Pi (zJ v3 v4) (r,c,t) hp
 replace hr:oo (kN 2 (evL 100 165 [.agg ⟨[IV (.ofNat r),IV (.ofNat c),v3,v4]⟩,IV (.ofNat t)])) (kP (evL 100 165 [.agg ⟨[IV (.ofNat r),IV (.ofNat c),v3,v4]⟩,IV (.ofNat t)])) (fun v=>some v)=some (WH (cellL r c t)):=hr
 refine⟨rfl,?_⟩
 cases hf:kN 2 (evL 100 165 [.agg ⟨[IV (.ofNat r),IV (.ofNat c),v3,v4]⟩,IV (.ofNat t)]) with
 | some w=>rw[hf,Ac] at hr;injection hr with hr;subst hr;exact .inr hf
 | none=>rw[hf,Az] at hr;exact .inl hr
theorem hw (hm:Tryz.prog.follows .mixedOrders=true):BA Tryz.prog tabs 165 OA∧BA Tryz.prog tabs 204 OB∧BA Tryz.prog tabs 14 QL:=⟨AcL hm,⟨(RY hm).1,fun _ _ h=>by cases h⟩,⟨A9 UL,fun _ _ h=>by cases h⟩⟩
noncomputable def L6:Af:=OQ 60
theorem AcM (hm:Tryz.prog.follows .mixedOrders=true):∀ g,isP g=true→BA Tryz.prog tabs g (L6 g):=(Qq hm (hw hm) 60).1
theorem i0 (hm:Tryz.prog.follows .mixedOrders=true):CO Tryz.prog (List.range tabs.length) (inl L6):=by
 obtain⟨_,h0,h1,h2,h3,h4,h5⟩:=Qq hm (hw hm) 60
 exact Qp hm (pu:=L6) h0 h1 h2 h3 h4 h5
theorem FX {a b:Nat} (h:a≠b):Nat.beq a b=false:=by
 cases e:Nat.beq a b with
 | false=>rfl
 | true=>exact absurd (Nat.eq_of_beq_eq_true e) h
noncomputable def Wl:FuncId→Bool:=fun g=>an (isP g) (nt (ED g [14]))
theorem kZ (hm:Tryz.prog.follows .mixedOrders=true):∀ g,Wl g=true→BA Tryz.prog tabs g (L6 g):=fun g hg=>AcM hm g (Av (show an (isP g) (nt (ED g [14]))=true from hg)).1
noncomputable def ev0 (n:Nat) (g:FuncId) (args:List Value):Option (Value×Aa):=Mw tabs Wl L6 (inl L6) tt Gt n g args (KF tabs)
theorem zK:kP (ev0 4000 231 [])=some (.bool true):=by kernel_rfl
theorem AcN (hm:Tryz.prog.follows .mixedOrders=true):BA Tryz.prog tabs 231 Fp:=by
 refine I5 (tabs:=tabs) (n:=4000) (g:=231) (H:=KF tabs) (isP:=Wl) (pu:=L6) (inl:=inl L6) DL Cs CY Jd hm (kZ hm) (i0 hm) (fun i=>RN i) rfl (A9 VM) fun args v h=>?_
 replace h:=AC h;obtain⟨rfl,h⟩:=h
 injection h with h;subst h
 exact⟨rfl,.inl zK⟩
noncomputable section
def Wm:FuncId→Bool:=fun g=>Dp (Nat.beq g 231) (Wl g)
def OZ:Af:=fun g=>bb (Nat.beq g 231) Fp (L6 g)
end
theorem lH (hm:Tryz.prog.follows .mixedOrders=true):∀ g,Wm g=true→BA Tryz.prog tabs g (OZ g):=fun g hg=>by
 by_cases e:g=231
 ·subst e
  have:OZ 231=Fp:=by unfold OZ;rw[show Nat.beq 231 231=true from rfl,Ak]
  rw[this];exact AcN hm
 ·have:OZ g=L6 g:=by unfold OZ;rw[FX e,AA]
  rw[this]
  have h:Dp (Nat.beq g 231) (Wl g)=true:=hg
  rw[FX e] at h
  exact kZ hm g h
noncomputable def ev1 (n:Nat) (g:FuncId) (args:List Value):Option (Value×Aa):=Mw tabs Wm OZ (inl L6) tt Gt n g args (KF tabs)
theorem zL:kP (ev1 4000 201 [])=some (.bool true):=by kernel_rfl
theorem AcO (hm:Tryz.prog.follows .mixedOrders=true):BA Tryz.prog tabs 201 Fp:=by
 refine I5 (tabs:=tabs) (n:=4000) (g:=201) (H:=KF tabs) (isP:=Wm) (pu:=OZ) (inl:=inl L6) DL Cs CY Jd hm (lH hm) (i0 hm) (fun i=>RN i) rfl (A9 VL) fun args v h=>?_
 replace h:=AC h;obtain⟨rfl,h⟩:=h
 injection h with h;subst h
 exact⟨rfl,.inl zL⟩
noncomputable section
def Wn:FuncId→Bool:=fun g=>Dp (Nat.beq g 201) (Wm g)
def O0:Af:=fun g=>bb (Nat.beq g 201) Fp (OZ g)
end
theorem lI (hm:Tryz.prog.follows .mixedOrders=true):∀ g,Wn g=true→BA Tryz.prog tabs g (O0 g):=fun g hg=>by
 by_cases e:g=201
 ·subst e
  have:O0 201=Fp:=by unfold O0;rw[show Nat.beq 201 201=true from rfl,Ak]
  rw[this];exact AcO hm
 ·have:O0 g=OZ g:=by unfold O0;rw[FX e,AA]
  rw[this]
  have h:Dp (Nat.beq g 201) (Wm g)=true:=hg
  rw[FX e] at h
  exact lH hm g h
noncomputable def ev2 (n:Nat) (g:FuncId) (args:List Value):Option (Value×Aa):=Mw tabs Wn O0 (inl L6) tt Gt n g args (KF tabs)
theorem zM:kP (ev2 4000 163 [])=some (.bool true):=by kernel_rfl
theorem AcP (hm:Tryz.prog.follows .mixedOrders=true):BA Tryz.prog tabs 163 Fp:=by
 refine I5 (tabs:=tabs) (n:=4000) (g:=163) (H:=KF tabs) (isP:=Wn) (pu:=O0) (inl:=inl L6) DL Cs CY Jd hm (lI hm) (i0 hm) (fun i=>RN i) rfl (A9 UY) fun args v h=>?_
 replace h:=AC h;obtain⟨rfl,h⟩:=h
 injection h with h;subst h
 exact⟨rfl,.inl zM⟩
noncomputable section
def isW3:FuncId→Bool:=fun g=>Dp (Nat.beq g 163) (Wn g)
def O1:Af:=fun g=>bb (Nat.beq g 163) Fp (O0 g)
end
theorem lJ (hm:Tryz.prog.follows .mixedOrders=true):∀ g,isW3 g=true→BA Tryz.prog tabs g (O1 g):=fun g hg=>by
 by_cases e:g=163
 ·subst e
  have:O1 163=Fp:=by unfold O1;rw[show Nat.beq 163 163=true from rfl,Ak]
  rw[this];exact AcP hm
 ·have:O1 g=O0 g:=by unfold O1;rw[FX e,AA]
  rw[this]
  have h:Dp (Nat.beq g 163) (Wn g)=true:=hg
  rw[FX e] at h
  exact lI hm g h
noncomputable def ev3 (n:Nat) (g:FuncId) (args:List Value):Option (Value×Aa):=Mw tabs isW3 O1 (inl L6) tt Gt n g args (KF tabs)
theorem zN:kP (ev3 4000 111 [])=some (.bool true):=by kernel_rfl
theorem AcQ (hm:Tryz.prog.follows .mixedOrders=true):BA Tryz.prog tabs 111 Fp:=by
 refine I5 (tabs:=tabs) (n:=4000) (g:=111) (H:=KF tabs) (isP:=isW3) (pu:=O1) (inl:=inl L6) DL Cs CY Jd hm (lJ hm) (i0 hm) (fun i=>RN i) rfl (A9 UV) fun args v h=>?_
 replace h:=AC h;obtain⟨rfl,h⟩:=h
 injection h with h;subst h
 exact⟨rfl,.inl zN⟩
noncomputable section
def Wo:FuncId→Bool:=fun g=>Dp (Nat.beq g 111) (isW3 g)
def O3:Af:=fun g=>bb (Nat.beq g 111) Fp (O1 g)
end
theorem lK (hm:Tryz.prog.follows .mixedOrders=true):∀ g,Wo g=true→BA Tryz.prog tabs g (O3 g):=fun g hg=>by
 by_cases e:g=111
 ·subst e
  have:O3 111=Fp:=by unfold O3;rw[show Nat.beq 111 111=true from rfl,Ak]
  rw[this];exact AcQ hm
 ·have:O3 g=O1 g:=by unfold O3;rw[FX e,AA]
  rw[this]
  have h:Dp (Nat.beq g 111) (isW3 g)=true:=hg
  rw[FX e] at h
  exact lJ hm g h
noncomputable def ev4 (n:Nat) (g:FuncId) (args:List Value):Option (Value×Aa):=Mw tabs Wo O3 (inl L6) tt Gt n g args (KF tabs)
theorem AcR:kP (ev4 4000 51 [])=some (.bool true):=by kernel_rfl
theorem Agp (hm:Tryz.prog.follows .mixedOrders=true):BA Tryz.prog tabs 51 Fp:=by
 refine I5 (tabs:=tabs) (n:=4000) (g:=51) (H:=KF tabs) (isP:=Wo) (pu:=O3) (inl:=inl L6) DL Cs CY Jd hm (lK hm) (i0 hm) (fun i=>RN i) rfl (A9 jE) fun args v h=>?_
 replace h:=AC h;obtain⟨rfl,h⟩:=h
 injection h with h;subst h
 exact⟨rfl,.inl AcR⟩
noncomputable section
def zO:FuncId→Bool:=fun g=>Dp (Nat.beq g 51) (Wo g)
def Qu:Af:=fun g=>bb (Nat.beq g 51) Fp (O3 g)
end
theorem AcS (hm:Tryz.prog.follows .mixedOrders=true):∀ g,zO g=true→BA Tryz.prog tabs g (Qu g):=fun g hg=>by
 by_cases e:g=51
 ·subst e
  have:Qu 51=Fp:=by unfold Qu;rw[show Nat.beq 51 51=true from rfl,Ak]
  rw[this];exact Agp hm
 ·have:Qu g=O3 g:=by unfold Qu;rw[FX e,AA]
  rw[this]
  have h:Dp (Nat.beq g 51) (Wo g)=true:=hg
  rw[FX e] at h
  exact lK hm g h
noncomputable def ev5 (n:Nat) (g:FuncId) (args:List Value):Option (Value×Aa):=Mw tabs zO Qu (inl L6) tt Gt n g args (KF tabs)
theorem AcT:kP (ev5 4000 14 [])=some (.bool true):=by kernel_rfl
theorem Agq (hm:Tryz.prog.follows .mixedOrders=true):BA Tryz.prog tabs 14 Fp:=by
 refine I5 (tabs:=tabs) (n:=4000) (g:=14) (H:=KF tabs) (isP:=zO) (pu:=Qu) (inl:=inl L6) DL Cs CY Jd hm (AcS hm) (i0 hm) (fun i=>RN i) rfl (A9 UL) fun args v h=>?_
 replace h:=AC h;obtain⟨rfl,h⟩:=h
 injection h with h;subst h
 exact⟨rfl,.inl AcT⟩
noncomputable def puB:Af:=fun g=>bb (Nat.beq g 14) Fp (L6 g)
theorem eB (g:FuncId) (h:Nat.beq g 14=false):puB g=L6 g:=by unfold puB;rw[h,AA]
theorem eBW:puB 14=Fp:=by unfold puB;rw[show Nat.beq 14 14=true from rfl,Ak]
theorem Agr (hm:Tryz.prog.follows .mixedOrders=true):∀ g,isP g=true→BA Tryz.prog tabs g (puB g):=fun g hg=>by
 by_cases e:g=14
 ·subst e;rw[eBW];exact Agq hm
 ·rw[eB g (FX e)];exact AcM hm g hg
theorem hcB (hm:Tryz.prog.follows .mixedOrders=true):CO Tryz.prog (List.range tabs.length) (Bb tabs isP puB (inl puB)):=by
 obtain⟨_,h0,h1,h2,h3,h4,h5⟩:=Qq hm (hw hm) 60
 exact TG (P:=Tryz.prog) (tabs:=tabs) (pu:=puB) Cs CY (Qp hm (pu:=puB) (by rw[eB 204 rfl];exact h0) (by rw[eB 10120 rfl];exact h1) (by rw[eB 10460 rfl];exact h2) (by rw[eB 11080 rfl];exact h3) (by rw[eB 11090 rfl];exact h4) (by rw[eB 12520 rfl];exact h5)) (Agr hm)
theorem lawOk (hm:Tryz.prog.follows .mixedOrders=true):BA Tryz.prog tabs 3 (m3 puB L):=Aw (tabs:=tabs) (f:=m3 puB L) DL hm (hcB hm) fk3 fun args v h hx=>r3 puB L rfl h hx
end Go.Proofs.YtflonlkiajhhjaaGreatDoor.TpD
set_option maxRecDepth 100000
set_option maxHeartbeats 0
namespace Go.Proofs.YtflonlkiajhhjaaGreatDoor.TpD
open Go Go.Sp Go.TpD Go.TpDM Go.BkQ
noncomputable section
def BO:Nat→List Int→List Int→List (List Int)
 | 0,_,o=>[o]
 | m+1,l,o=>(List.range l.length).flatMap fun k=>BO m (l.eraseIdx k) (o++[l.getD k 0])
def Gw (n:Nat) (pk:List Int):Option Value:=Ul puB 1000 1000 ⟨n,0,AP (fun z=>.int .i64 z) pk⟩ 0 0 (.ofNat n) 0 []
def Sc (o:Option Value):Bool:=oo o false fun v=>oo (Bf v) false fun b=>b
def G5 (bs:List Int):Sl:=⟨bs.length,0,bs.map (Value.int .u8)⟩
end
theorem Bp {m:Nat} {l o pk:List Int} (k:Nat) (hk:k < l.length) (h:pk∈BO m (l.eraseIdx k) (o++[l.getD k 0])):pk∈BO (m+1) l o:=List.mem_flatMap.2 ⟨k,List.mem_range.2 hk,h⟩
theorem en1 (pu:Af) (w c c1:Nat) (s:Sl) (i b0:Int):A7 pu 1000 (w+1) s 0 c 1 c1 i [] [.int .i64 b0]=some (Sl.v 1 ⟨1,0,AP (fun z=>.int .i64 z) [b0]⟩):=by kernel_rfl
theorem en2 (pu:Af) (w c c1:Nat) (s:Sl) (i b0 b1:Int):A7 pu 1000 (w+1) s 0 c 2 c1 i [] [.int .i64 b0,.int .i64 b1]=some (Sl.v 1 ⟨2,0,AP (fun z=>.int .i64 z) [b0,b1]⟩):=by kernel_rfl
theorem en3 (pu:Af) (w c c1:Nat) (s:Sl) (i b0 b1 b2:Int):A7 pu 1000 (w+1) s 0 c 3 c1 i [] [.int .i64 b0,.int .i64 b1,.int .i64 b2]=some (Sl.v 1 ⟨3,0,AP (fun z=>.int .i64 z) [b0,b1,b2]⟩):=by kernel_rfl
theorem en4 (pu:Af) (w c c1:Nat) (s:Sl) (i b0 b1 b2 b3:Int):A7 pu 1000 (w+1) s 0 c 4 c1 i [] [.int .i64 b0,.int .i64 b1,.int .i64 b2,.int .i64 b3]=some (Sl.v 1 ⟨4,0,AP (fun z=>.int .i64 z) [b0,b1,b2,b3]⟩):=by kernel_rfl
theorem en5 (pu:Af) (w c c1:Nat) (s:Sl) (i b0 b1 b2 b3 b4:Int):A7 pu 1000 (w+1) s 0 c 5 c1 i [] [.int .i64 b0,.int .i64 b1,.int .i64 b2,.int .i64 b3,.int .i64 b4]=some (Sl.v 1 ⟨5,0,AP (fun z=>.int .i64 z) [b0,b1,b2,b3,b4]⟩):=by kernel_rfl
theorem bV (pu:Af) (ih:Sl→Nat→Nat→Nat→Nat→Int→List Value→List Value→Option Value) (s:Sl) (i a0:Int):BI pu 1000 ih s 1 2 0 0 i (.ofNat 0) [.int .i64 a0] []=ih s 0 1 1 2 (Aj .i64 (Int.add i 1)) [] [.int .i64 a0]:=by kernel_rfl
theorem bW (pu:Af) (ih:Sl→Nat→Nat→Nat→Nat→Int→List Value→List Value→Option Value) (s:Sl) (i a0 b0:Int):BI pu 1000 ih s 1 2 1 2 i (.ofNat 0) [.int .i64 a0] [.int .i64 b0]=ih s 0 1 2 4 (Aj .i64 (Int.add i 1)) [] [.int .i64 b0,.int .i64 a0]:=by kernel_rfl
theorem bX (pu:Af) (ih:Sl→Nat→Nat→Nat→Nat→Int→List Value→List Value→Option Value) (s:Sl) (i a0 b0 b1:Int):BI pu 1000 ih s 1 2 2 4 i (.ofNat 0) [.int .i64 a0] [.int .i64 b0,.int .i64 b1]=ih s 0 1 3 6 (Aj .i64 (Int.add i 1)) [] [.int .i64 b0,.int .i64 b1,.int .i64 a0]:=by kernel_rfl
theorem bY (pu:Af) (ih:Sl→Nat→Nat→Nat→Nat→Int→List Value→List Value→Option Value) (s:Sl) (i a0 b0 b1 b2:Int):BI pu 1000 ih s 1 2 3 6 i (.ofNat 0) [.int .i64 a0] [.int .i64 b0,.int .i64 b1,.int .i64 b2]=ih s 0 1 4 8 (Aj .i64 (Int.add i 1)) [] [.int .i64 b0,.int .i64 b1,.int .i64 b2,.int .i64 a0]:=by kernel_rfl
theorem bZ (pu:Af) (ih:Sl→Nat→Nat→Nat→Nat→Int→List Value→List Value→Option Value) (s:Sl) (i a0 b0 b1 b2 b3:Int):BI pu 1000 ih s 1 2 4 8 i (.ofNat 0) [.int .i64 a0] [.int .i64 b0,.int .i64 b1,.int .i64 b2,.int .i64 b3]=ih s 0 1 5 10 (Aj .i64 (Int.add i 1)) [] [.int .i64 b0,.int .i64 b1,.int .i64 b2,.int .i64 b3,.int .i64 a0]:=by kernel_rfl
theorem cB (pu:Af) (ih:Sl→Nat→Nat→Nat→Nat→Int→List Value→List Value→Option Value) (s:Sl) (i a0 a1:Int):BI pu 1000 ih s 2 4 0 0 i (.ofNat 0) [.int .i64 a0,.int .i64 a1] []=ih s 1 2 1 2 (Aj .i64 (Int.add i 1)) [.int .i64 a1] [.int .i64 a0]:=by kernel_rfl
theorem cK (pu:Af) (ih:Sl→Nat→Nat→Nat→Nat→Int→List Value→List Value→Option Value) (s:Sl) (i a0 a1:Int):BI pu 1000 ih s 2 4 0 0 i (.ofNat 1) [.int .i64 a0,.int .i64 a1] []=ih s 1 2 1 2 (Aj .i64 (Int.add i 1)) [.int .i64 a0] [.int .i64 a1]:=by kernel_rfl
theorem cO (pu:Af) (ih:Sl→Nat→Nat→Nat→Nat→Int→List Value→List Value→Option Value) (s:Sl) (i a0 a1 b0:Int):BI pu 1000 ih s 2 4 1 2 i (.ofNat 0) [.int .i64 a0,.int .i64 a1] [.int .i64 b0]=ih s 1 2 2 4 (Aj .i64 (Int.add i 1)) [.int .i64 a1] [.int .i64 b0,.int .i64 a0]:=by kernel_rfl
theorem cZ (pu:Af) (ih:Sl→Nat→Nat→Nat→Nat→Int→List Value→List Value→Option Value) (s:Sl) (i a0 a1 b0:Int):BI pu 1000 ih s 2 4 1 2 i (.ofNat 1) [.int .i64 a0,.int .i64 a1] [.int .i64 b0]=ih s 1 2 2 4 (Aj .i64 (Int.add i 1)) [.int .i64 a0] [.int .i64 b0,.int .i64 a1]:=by kernel_rfl
theorem dA (pu:Af) (ih:Sl→Nat→Nat→Nat→Nat→Int→List Value→List Value→Option Value) (s:Sl) (i a0 a1 b0 b1:Int):BI pu 1000 ih s 2 4 2 4 i (.ofNat 0) [.int .i64 a0,.int .i64 a1] [.int .i64 b0,.int .i64 b1]=ih s 1 2 3 6 (Aj .i64 (Int.add i 1)) [.int .i64 a1] [.int .i64 b0,.int .i64 b1,.int .i64 a0]:=by kernel_rfl
theorem dB (pu:Af) (ih:Sl→Nat→Nat→Nat→Nat→Int→List Value→List Value→Option Value) (s:Sl) (i a0 a1 b0 b1:Int):BI pu 1000 ih s 2 4 2 4 i (.ofNat 1) [.int .i64 a0,.int .i64 a1] [.int .i64 b0,.int .i64 b1]=ih s 1 2 3 6 (Aj .i64 (Int.add i 1)) [.int .i64 a0] [.int .i64 b0,.int .i64 b1,.int .i64 a1]:=by kernel_rfl
theorem dC (pu:Af) (ih:Sl→Nat→Nat→Nat→Nat→Int→List Value→List Value→Option Value) (s:Sl) (i a0 a1 b0 b1 b2:Int):BI pu 1000 ih s 2 4 3 6 i (.ofNat 0) [.int .i64 a0,.int .i64 a1] [.int .i64 b0,.int .i64 b1,.int .i64 b2]=ih s 1 2 4 8 (Aj .i64 (Int.add i 1)) [.int .i64 a1] [.int .i64 b0,.int .i64 b1,.int .i64 b2,.int .i64 a0]:=by kernel_rfl
theorem dP (pu:Af) (ih:Sl→Nat→Nat→Nat→Nat→Int→List Value→List Value→Option Value) (s:Sl) (i a0 a1 b0 b1 b2:Int):BI pu 1000 ih s 2 4 3 6 i (.ofNat 1) [.int .i64 a0,.int .i64 a1] [.int .i64 b0,.int .i64 b1,.int .i64 b2]=ih s 1 2 4 8 (Aj .i64 (Int.add i 1)) [.int .i64 a0] [.int .i64 b0,.int .i64 b1,.int .i64 b2,.int .i64 a1]:=by kernel_rfl
theorem dQ (pu:Af) (ih:Sl→Nat→Nat→Nat→Nat→Int→List Value→List Value→Option Value) (s:Sl) (i a0 a1 a2:Int):BI pu 1000 ih s 3 6 0 0 i (.ofNat 0) [.int .i64 a0,.int .i64 a1,.int .i64 a2] []=ih s 2 4 1 2 (Aj .i64 (Int.add i 1)) [.int .i64 a1,.int .i64 a2] [.int .i64 a0]:=by kernel_rfl
theorem dR (pu:Af) (ih:Sl→Nat→Nat→Nat→Nat→Int→List Value→List Value→Option Value) (s:Sl) (i a0 a1 a2:Int):BI pu 1000 ih s 3 6 0 0 i (.ofNat 1) [.int .i64 a0,.int .i64 a1,.int .i64 a2] []=ih s 2 4 1 2 (Aj .i64 (Int.add i 1)) [.int .i64 a0,.int .i64 a2] [.int .i64 a1]:=by kernel_rfl
theorem dS (pu:Af) (ih:Sl→Nat→Nat→Nat→Nat→Int→List Value→List Value→Option Value) (s:Sl) (i a0 a1 a2:Int):BI pu 1000 ih s 3 6 0 0 i (.ofNat 2) [.int .i64 a0,.int .i64 a1,.int .i64 a2] []=ih s 2 4 1 2 (Aj .i64 (Int.add i 1)) [.int .i64 a0,.int .i64 a1] [.int .i64 a2]:=by kernel_rfl
theorem dU (pu:Af) (ih:Sl→Nat→Nat→Nat→Nat→Int→List Value→List Value→Option Value) (s:Sl) (i a0 a1 a2 b0:Int):BI pu 1000 ih s 3 6 1 2 i (.ofNat 0) [.int .i64 a0,.int .i64 a1,.int .i64 a2] [.int .i64 b0]=ih s 2 4 2 4 (Aj .i64 (Int.add i 1)) [.int .i64 a1,.int .i64 a2] [.int .i64 b0,.int .i64 a0]:=by kernel_rfl
theorem dV (pu:Af) (ih:Sl→Nat→Nat→Nat→Nat→Int→List Value→List Value→Option Value) (s:Sl) (i a0 a1 a2 b0:Int):BI pu 1000 ih s 3 6 1 2 i (.ofNat 1) [.int .i64 a0,.int .i64 a1,.int .i64 a2] [.int .i64 b0]=ih s 2 4 2 4 (Aj .i64 (Int.add i 1)) [.int .i64 a0,.int .i64 a2] [.int .i64 b0,.int .i64 a1]:=by kernel_rfl
theorem dX (pu:Af) (ih:Sl→Nat→Nat→Nat→Nat→Int→List Value→List Value→Option Value) (s:Sl) (i a0 a1 a2 b0:Int):BI pu 1000 ih s 3 6 1 2 i (.ofNat 2) [.int .i64 a0,.int .i64 a1,.int .i64 a2] [.int .i64 b0]=ih s 2 4 2 4 (Aj .i64 (Int.add i 1)) [.int .i64 a0,.int .i64 a1] [.int .i64 b0,.int .i64 a2]:=by kernel_rfl
theorem dY (pu:Af) (ih:Sl→Nat→Nat→Nat→Nat→Int→List Value→List Value→Option Value) (s:Sl) (i a0 a1 a2 b0 b1:Int):BI pu 1000 ih s 3 6 2 4 i (.ofNat 0) [.int .i64 a0,.int .i64 a1,.int .i64 a2] [.int .i64 b0,.int .i64 b1]=ih s 2 4 3 6 (Aj .i64 (Int.add i 1)) [.int .i64 a1,.int .i64 a2] [.int .i64 b0,.int .i64 b1,.int .i64 a0]:=by kernel_rfl
theorem dZ (pu:Af) (ih:Sl→Nat→Nat→Nat→Nat→Int→List Value→List Value→Option Value) (s:Sl) (i a0 a1 a2 b0 b1:Int):BI pu 1000 ih s 3 6 2 4 i (.ofNat 1) [.int .i64 a0,.int .i64 a1,.int .i64 a2] [.int .i64 b0,.int .i64 b1]=ih s 2 4 3 6 (Aj .i64 (Int.add i 1)) [.int .i64 a0,.int .i64 a2] [.int .i64 b0,.int .i64 b1,.int .i64 a1]:=by kernel_rfl
theorem eF (pu:Af) (ih:Sl→Nat→Nat→Nat→Nat→Int→List Value→List Value→Option Value) (s:Sl) (i a0 a1 a2 b0 b1:Int):BI pu 1000 ih s 3 6 2 4 i (.ofNat 2) [.int .i64 a0,.int .i64 a1,.int .i64 a2] [.int .i64 b0,.int .i64 b1]=ih s 2 4 3 6 (Aj .i64 (Int.add i 1)) [.int .i64 a0,.int .i64 a1] [.int .i64 b0,.int .i64 b1,.int .i64 a2]:=by kernel_rfl
theorem eH (pu:Af) (ih:Sl→Nat→Nat→Nat→Nat→Int→List Value→List Value→Option Value) (s:Sl) (i a0 a1 a2 a3:Int):BI pu 1000 ih s 4 8 0 0 i (.ofNat 0) [.int .i64 a0,.int .i64 a1,.int .i64 a2,.int .i64 a3] []=ih s 3 6 1 2 (Aj .i64 (Int.add i 1)) [.int .i64 a1,.int .i64 a2,.int .i64 a3] [.int .i64 a0]:=by kernel_rfl
theorem eO (pu:Af) (ih:Sl→Nat→Nat→Nat→Nat→Int→List Value→List Value→Option Value) (s:Sl) (i a0 a1 a2 a3:Int):BI pu 1000 ih s 4 8 0 0 i (.ofNat 1) [.int .i64 a0,.int .i64 a1,.int .i64 a2,.int .i64 a3] []=ih s 3 6 1 2 (Aj .i64 (Int.add i 1)) [.int .i64 a0,.int .i64 a2,.int .i64 a3] [.int .i64 a1]:=by kernel_rfl
theorem eP (pu:Af) (ih:Sl→Nat→Nat→Nat→Nat→Int→List Value→List Value→Option Value) (s:Sl) (i a0 a1 a2 a3:Int):BI pu 1000 ih s 4 8 0 0 i (.ofNat 2) [.int .i64 a0,.int .i64 a1,.int .i64 a2,.int .i64 a3] []=ih s 3 6 1 2 (Aj .i64 (Int.add i 1)) [.int .i64 a0,.int .i64 a1,.int .i64 a3] [.int .i64 a2]:=by kernel_rfl
theorem eQ (pu:Af) (ih:Sl→Nat→Nat→Nat→Nat→Int→List Value→List Value→Option Value) (s:Sl) (i a0 a1 a2 a3:Int):BI pu 1000 ih s 4 8 0 0 i (.ofNat 3) [.int .i64 a0,.int .i64 a1,.int .i64 a2,.int .i64 a3] []=ih s 3 6 1 2 (Aj .i64 (Int.add i 1)) [.int .i64 a0,.int .i64 a1,.int .i64 a2] [.int .i64 a3]:=by kernel_rfl
theorem eT (pu:Af) (ih:Sl→Nat→Nat→Nat→Nat→Int→List Value→List Value→Option Value) (s:Sl) (i a0 a1 a2 a3 b0:Int):BI pu 1000 ih s 4 8 1 2 i (.ofNat 0) [.int .i64 a0,.int .i64 a1,.int .i64 a2,.int .i64 a3] [.int .i64 b0]=ih s 3 6 2 4 (Aj .i64 (Int.add i 1)) [.int .i64 a1,.int .i64 a2,.int .i64 a3] [.int .i64 b0,.int .i64 a0]:=by kernel_rfl
theorem eU (pu:Af) (ih:Sl→Nat→Nat→Nat→Nat→Int→List Value→List Value→Option Value) (s:Sl) (i a0 a1 a2 a3 b0:Int):BI pu 1000 ih s 4 8 1 2 i (.ofNat 1) [.int .i64 a0,.int .i64 a1,.int .i64 a2,.int .i64 a3] [.int .i64 b0]=ih s 3 6 2 4 (Aj .i64 (Int.add i 1)) [.int .i64 a0,.int .i64 a2,.int .i64 a3] [.int .i64 b0,.int .i64 a1]:=by kernel_rfl
theorem eX (pu:Af) (ih:Sl→Nat→Nat→Nat→Nat→Int→List Value→List Value→Option Value) (s:Sl) (i a0 a1 a2 a3 b0:Int):BI pu 1000 ih s 4 8 1 2 i (.ofNat 2) [.int .i64 a0,.int .i64 a1,.int .i64 a2,.int .i64 a3] [.int .i64 b0]=ih s 3 6 2 4 (Aj .i64 (Int.add i 1)) [.int .i64 a0,.int .i64 a1,.int .i64 a3] [.int .i64 b0,.int .i64 a2]:=by kernel_rfl
theorem eY (pu:Af) (ih:Sl→Nat→Nat→Nat→Nat→Int→List Value→List Value→Option Value) (s:Sl) (i a0 a1 a2 a3 b0:Int):BI pu 1000 ih s 4 8 1 2 i (.ofNat 3) [.int .i64 a0,.int .i64 a1,.int .i64 a2,.int .i64 a3] [.int .i64 b0]=ih s 3 6 2 4 (Aj .i64 (Int.add i 1)) [.int .i64 a0,.int .i64 a1,.int .i64 a2] [.int .i64 b0,.int .i64 a3]:=by kernel_rfl
theorem fA (pu:Af) (ih:Sl→Nat→Nat→Nat→Nat→Int→List Value→List Value→Option Value) (s:Sl) (i a0 a1 a2 a3 a4:Int):BI pu 1000 ih s 5 10 0 0 i (.ofNat 0) [.int .i64 a0,.int .i64 a1,.int .i64 a2,.int .i64 a3,.int .i64 a4] []=ih s 4 8 1 2 (Aj .i64 (Int.add i 1)) [.int .i64 a1,.int .i64 a2,.int .i64 a3,.int .i64 a4] [.int .i64 a0]:=by kernel_rfl
theorem fB (pu:Af) (ih:Sl→Nat→Nat→Nat→Nat→Int→List Value→List Value→Option Value) (s:Sl) (i a0 a1 a2 a3 a4:Int):BI pu 1000 ih s 5 10 0 0 i (.ofNat 1) [.int .i64 a0,.int .i64 a1,.int .i64 a2,.int .i64 a3,.int .i64 a4] []=ih s 4 8 1 2 (Aj .i64 (Int.add i 1)) [.int .i64 a0,.int .i64 a2,.int .i64 a3,.int .i64 a4] [.int .i64 a1]:=by kernel_rfl
theorem fC (pu:Af) (ih:Sl→Nat→Nat→Nat→Nat→Int→List Value→List Value→Option Value) (s:Sl) (i a0 a1 a2 a3 a4:Int):BI pu 1000 ih s 5 10 0 0 i (.ofNat 2) [.int .i64 a0,.int .i64 a1,.int .i64 a2,.int .i64 a3,.int .i64 a4] []=ih s 4 8 1 2 (Aj .i64 (Int.add i 1)) [.int .i64 a0,.int .i64 a1,.int .i64 a3,.int .i64 a4] [.int .i64 a2]:=by kernel_rfl
theorem fD (pu:Af) (ih:Sl→Nat→Nat→Nat→Nat→Int→List Value→List Value→Option Value) (s:Sl) (i a0 a1 a2 a3 a4:Int):BI pu 1000 ih s 5 10 0 0 i (.ofNat 3) [.int .i64 a0,.int .i64 a1,.int .i64 a2,.int .i64 a3,.int .i64 a4] []=ih s 4 8 1 2 (Aj .i64 (Int.add i 1)) [.int .i64 a0,.int .i64 a1,.int .i64 a2,.int .i64 a4] [.int .i64 a3]:=by kernel_rfl
theorem fE (pu:Af) (ih:Sl→Nat→Nat→Nat→Nat→Int→List Value→List Value→Option Value) (s:Sl) (i a0 a1 a2 a3 a4:Int):BI pu 1000 ih s 5 10 0 0 i (.ofNat 4) [.int .i64 a0,.int .i64 a1,.int .i64 a2,.int .i64 a3,.int .i64 a4] []=ih s 4 8 1 2 (Aj .i64 (Int.add i 1)) [.int .i64 a0,.int .i64 a1,.int .i64 a2,.int .i64 a3] [.int .i64 a4]:=by kernel_rfl
theorem Bq {j:Nat} (h:j < 100):Aj .i64 (Int.add (.ofNat j) 1) = .ofNat (j+1):=by
 have:∀ m:Fin 100,Aj .i64 (Int.add (.ofNat m.1) 1) = .ofNat (m.1+1):=by decide
 exact this ⟨j,h⟩
theorem AcU:∀ x:Fin 256,∀ m:Fin 6,1≤m.1→∃ k:Fin 6,k.1 < m.1∧Int.tmod (Aj .i64 (.ofNat x.1)) (.ofNat m.1) = .ofNat k.1:=by decide +kernel
theorem FY (pu:Af) {bs:List Int} (hb:∀ x∈bs,0≤x∧x < 256) {m c d c1 j:Nat} (hm:1≤m) (hm5:m≤5) {ql qo:List Value} (h1:Au Ah ql=true) (h2:Au Ah qo=true) (ih:Sl→Nat→Nat→Nat→Nat→Int→List Value→List Value→Option Value) :
 ∃ k,k < m∧Eo pu 1000 ih (G5 bs) m c d c1 (.ofNat j) ql qo=BI pu 1000 ih (G5 bs) m c d c1 (.ofNat j) (.ofNat k) ql qo:=by
 unfold Eo
 rw[h1,Ak,h2,Ak,show AY (0:Int) (Int.ofNat m)=true from Nat.ble_eq_true_of_le hm,Ak]
 cases hlt:AY (Int.ofNat j) (Int.ofNat (G5 bs).n) with
 | false=>rw[AA];exact⟨0,hm,rfl⟩
 | true =>
  have hj:j < bs.length:=Nat.le_of_ble_eq_true hlt
  rw[Ak,show EA (Int.ofNat j)=some j from rfl,Ac,show Nat.blt j (G5 bs).n=true from hlt,show an true true=true from rfl,Ak]
  have hn:AL (G5 bs).cs (j*1)=some (.int .u8 bs[j]):=by
   rw[Nat.mul_one,BZ]
   show (bs.map (Value.int .u8))[j]?=_
   rw[List.getElem?_map,List.getElem?_eq_getElem hj];rfl
  rw[hn,Ac,show Bi .u8 (.int .u8 bs[j])=some bs[j] from rfl,Ac]
  have hx:=hb bs[j] (List.getElem_mem hj)
  obtain⟨x,hx1⟩:=Int.eq_ofNat_of_zero_le hx.1
  have hx2:x < 256:=by omega
  obtain⟨k,hk,e⟩:=AcU ⟨x,hx2⟩ ⟨m,by omega⟩ hm
  refine⟨k.1,hk,?_⟩
  have hz:nt (Bd (Int.ofNat m) (0:Int))=true:=by
   cases m with
   | zero=>omega
   | succ m=>rfl
  rw[hz,Ak,hx1,show ((x:Nat):Int)=Int.ofNat x from rfl,e]
theorem AcV (pu:Af) {bs:List Int} (hb:∀ x∈bs,0≤x∧x < 256) (w c j:Nat) (hj:j+0 < 90) (b0:Int):∃ pk,A7 pu 1000 (w+1) (G5 bs) 0 c 1 2 (.ofNat j) [] [.int .i64 b0]=some (Sl.v 1 ⟨1,0,AP (fun z=>.int .i64 z) pk⟩)∧pk∈BO 0 [] [b0]:=by
 exact⟨[b0],en1 pu w c 2 _ _ b0,List.mem_singleton.2 rfl⟩
theorem AcW (pu:Af) {bs:List Int} (hb:∀ x∈bs,0≤x∧x < 256) (w c j:Nat) (hj:j+0 < 90) (b0 b1:Int):∃ pk,A7 pu 1000 (w+1) (G5 bs) 0 c 2 4 (.ofNat j) [] [.int .i64 b0,.int .i64 b1]=some (Sl.v 1 ⟨2,0,AP (fun z=>.int .i64 z) pk⟩)∧pk∈BO 0 [] [b0,b1]:=by
 exact⟨[b0,b1],en2 pu w c 4 _ _ b0 b1,List.mem_singleton.2 rfl⟩
theorem AcX (pu:Af) {bs:List Int} (hb:∀ x∈bs,0≤x∧x < 256) (w c j:Nat) (hj:j+0 < 90) (b0 b1 b2:Int):∃ pk,A7 pu 1000 (w+1) (G5 bs) 0 c 3 6 (.ofNat j) [] [.int .i64 b0,.int .i64 b1,.int .i64 b2]=some (Sl.v 1 ⟨3,0,AP (fun z=>.int .i64 z) pk⟩)∧pk∈BO 0 [] [b0,b1,b2]:=by
 exact⟨[b0,b1,b2],en3 pu w c 6 _ _ b0 b1 b2,List.mem_singleton.2 rfl⟩
theorem AcY (pu:Af) {bs:List Int} (hb:∀ x∈bs,0≤x∧x < 256) (w c j:Nat) (hj:j+0 < 90) (b0 b1 b2 b3:Int):∃ pk,A7 pu 1000 (w+1) (G5 bs) 0 c 4 8 (.ofNat j) [] [.int .i64 b0,.int .i64 b1,.int .i64 b2,.int .i64 b3]=some (Sl.v 1 ⟨4,0,AP (fun z=>.int .i64 z) pk⟩)∧pk∈BO 0 [] [b0,b1,b2,b3]:=by
 exact⟨[b0,b1,b2,b3],en4 pu w c 8 _ _ b0 b1 b2 b3,List.mem_singleton.2 rfl⟩
theorem AcZ (pu:Af) {bs:List Int} (hb:∀ x∈bs,0≤x∧x < 256) (w c j:Nat) (hj:j+0 < 90) (b0 b1 b2 b3 b4:Int):∃ pk,A7 pu 1000 (w+1) (G5 bs) 0 c 5 10 (.ofNat j) [] [.int .i64 b0,.int .i64 b1,.int .i64 b2,.int .i64 b3,.int .i64 b4]=some (Sl.v 1 ⟨5,0,AP (fun z=>.int .i64 z) pk⟩)∧pk∈BO 0 [] [b0,b1,b2,b3,b4]:=by
 exact⟨[b0,b1,b2,b3,b4],en5 pu w c 10 _ _ b0 b1 b2 b3 b4,List.mem_singleton.2 rfl⟩
theorem Ac0 (pu:Af) {bs:List Int} (hb:∀ x∈bs,0≤x∧x < 256) (w j:Nat) (hj:j+1 < 90) (a0:Int):∃ pk,A7 pu 1000 (w+2) (G5 bs) 1 2 0 0 (.ofNat j) [.int .i64 a0] []=some (Sl.v 1 ⟨1,0,AP (fun z=>.int .i64 z) pk⟩)∧pk∈BO 1 [a0] []:=by
 obtain⟨k,hk,e⟩:=FY pu hb (m:=1) (c:=2) (d:=0) (c1:=0) (j:=j) (by omega) (by omega) (ql:=[.int .i64 a0]) (qo:=[]) rfl rfl (A7 pu 1000 (w+1))
 rw[show A7 pu 1000 (w+2)=Eo pu 1000 (A7 pu 1000 (w+1)) from rfl,e]
 obtain rfl:k=0:=by omega
 obtain⟨pk,h1,h2⟩:=AcV pu hb w 1 (j+1) (by omega) a0
 exact⟨pk,by rw[bV,Bq (by omega)];exact h1,Bp 0 (by simp) h2⟩
theorem lL (pu:Af) {bs:List Int} (hb:∀ x∈bs,0≤x∧x < 256) (w j:Nat) (hj:j+1 < 90) (a0 b0:Int):∃ pk,A7 pu 1000 (w+2) (G5 bs) 1 2 1 2 (.ofNat j) [.int .i64 a0] [.int .i64 b0]=some (Sl.v 1 ⟨2,0,AP (fun z=>.int .i64 z) pk⟩)∧pk∈BO 1 [a0] [b0]:=by
 obtain⟨k,hk,e⟩:=FY pu hb (m:=1) (c:=2) (d:=1) (c1:=2) (j:=j) (by omega) (by omega) (ql:=[.int .i64 a0]) (qo:=[.int .i64 b0]) rfl rfl (A7 pu 1000 (w+1))
 rw[show A7 pu 1000 (w+2)=Eo pu 1000 (A7 pu 1000 (w+1)) from rfl,e]
 obtain rfl:k=0:=by omega
 obtain⟨pk,h1,h2⟩:=AcW pu hb w 1 (j+1) (by omega) b0 a0
 exact⟨pk,by rw[bW,Bq (by omega)];exact h1,Bp 0 (by simp) h2⟩
theorem lM (pu:Af) {bs:List Int} (hb:∀ x∈bs,0≤x∧x < 256) (w j:Nat) (hj:j+1 < 90) (a0 b0 b1:Int):∃ pk,A7 pu 1000 (w+2) (G5 bs) 1 2 2 4 (.ofNat j) [.int .i64 a0] [.int .i64 b0,.int .i64 b1]=some (Sl.v 1 ⟨3,0,AP (fun z=>.int .i64 z) pk⟩)∧pk∈BO 1 [a0] [b0,b1]:=by
 obtain⟨k,hk,e⟩:=FY pu hb (m:=1) (c:=2) (d:=2) (c1:=4) (j:=j) (by omega) (by omega) (ql:=[.int .i64 a0]) (qo:=[.int .i64 b0,.int .i64 b1]) rfl rfl (A7 pu 1000 (w+1))
 rw[show A7 pu 1000 (w+2)=Eo pu 1000 (A7 pu 1000 (w+1)) from rfl,e]
 obtain rfl:k=0:=by omega
 obtain⟨pk,h1,h2⟩:=AcX pu hb w 1 (j+1) (by omega) b0 b1 a0
 exact⟨pk,by rw[bX,Bq (by omega)];exact h1,Bp 0 (by simp) h2⟩
theorem lN (pu:Af) {bs:List Int} (hb:∀ x∈bs,0≤x∧x < 256) (w j:Nat) (hj:j+1 < 90) (a0 b0 b1 b2:Int):∃ pk,A7 pu 1000 (w+2) (G5 bs) 1 2 3 6 (.ofNat j) [.int .i64 a0] [.int .i64 b0,.int .i64 b1,.int .i64 b2]=some (Sl.v 1 ⟨4,0,AP (fun z=>.int .i64 z) pk⟩)∧pk∈BO 1 [a0] [b0,b1,b2]:=by
 obtain⟨k,hk,e⟩:=FY pu hb (m:=1) (c:=2) (d:=3) (c1:=6) (j:=j) (by omega) (by omega) (ql:=[.int .i64 a0]) (qo:=[.int .i64 b0,.int .i64 b1,.int .i64 b2]) rfl rfl (A7 pu 1000 (w+1))
 rw[show A7 pu 1000 (w+2)=Eo pu 1000 (A7 pu 1000 (w+1)) from rfl,e]
 obtain rfl:k=0:=by omega
 obtain⟨pk,h1,h2⟩:=AcY pu hb w 1 (j+1) (by omega) b0 b1 b2 a0
 exact⟨pk,by rw[bY,Bq (by omega)];exact h1,Bp 0 (by simp) h2⟩
theorem lQ (pu:Af) {bs:List Int} (hb:∀ x∈bs,0≤x∧x < 256) (w j:Nat) (hj:j+1 < 90) (a0 b0 b1 b2 b3:Int):∃ pk,A7 pu 1000 (w+2) (G5 bs) 1 2 4 8 (.ofNat j) [.int .i64 a0] [.int .i64 b0,.int .i64 b1,.int .i64 b2,.int .i64 b3]=some (Sl.v 1 ⟨5,0,AP (fun z=>.int .i64 z) pk⟩)∧pk∈BO 1 [a0] [b0,b1,b2,b3]:=by
 obtain⟨k,hk,e⟩:=FY pu hb (m:=1) (c:=2) (d:=4) (c1:=8) (j:=j) (by omega) (by omega) (ql:=[.int .i64 a0]) (qo:=[.int .i64 b0,.int .i64 b1,.int .i64 b2,.int .i64 b3]) rfl rfl (A7 pu 1000 (w+1))
 rw[show A7 pu 1000 (w+2)=Eo pu 1000 (A7 pu 1000 (w+1)) from rfl,e]
 obtain rfl:k=0:=by omega
 obtain⟨pk,h1,h2⟩:=AcZ pu hb w 1 (j+1) (by omega) b0 b1 b2 b3 a0
 exact⟨pk,by rw[bZ,Bq (by omega)];exact h1,Bp 0 (by simp) h2⟩
theorem Ac1 (pu:Af) {bs:List Int} (hb:∀ x∈bs,0≤x∧x < 256) (w j:Nat) (hj:j+2 < 90) (a0 a1:Int):∃ pk,A7 pu 1000 (w+3) (G5 bs) 2 4 0 0 (.ofNat j) [.int .i64 a0,.int .i64 a1] []=some (Sl.v 1 ⟨2,0,AP (fun z=>.int .i64 z) pk⟩)∧pk∈BO 2 [a0,a1] []:=by
 obtain⟨k,hk,e⟩:=FY pu hb (m:=2) (c:=4) (d:=0) (c1:=0) (j:=j) (by omega) (by omega) (ql:=[.int .i64 a0,.int .i64 a1]) (qo:=[]) rfl rfl (A7 pu 1000 (w+2))
 rw[show A7 pu 1000 (w+3)=Eo pu 1000 (A7 pu 1000 (w+2)) from rfl,e]
 obtain rfl | rfl:k=0∨k=1:=by omega
 ·obtain⟨pk,h1,h2⟩:=lL pu hb w (j+1) (by omega) a1 a0
  exact⟨pk,by rw[cB,Bq (by omega)];exact h1,Bp 0 (by simp) h2⟩
 ·obtain⟨pk,h1,h2⟩:=lL pu hb w (j+1) (by omega) a0 a1
  exact⟨pk,by rw[cK,Bq (by omega)];exact h1,Bp 1 (by simp) h2⟩
theorem Wp (pu:Af) {bs:List Int} (hb:∀ x∈bs,0≤x∧x < 256) (w j:Nat) (hj:j+2 < 90) (a0 a1 b0:Int):∃ pk,A7 pu 1000 (w+3) (G5 bs) 2 4 1 2 (.ofNat j) [.int .i64 a0,.int .i64 a1] [.int .i64 b0]=some (Sl.v 1 ⟨3,0,AP (fun z=>.int .i64 z) pk⟩)∧pk∈BO 2 [a0,a1] [b0]:=by
 obtain⟨k,hk,e⟩:=FY pu hb (m:=2) (c:=4) (d:=1) (c1:=2) (j:=j) (by omega) (by omega) (ql:=[.int .i64 a0,.int .i64 a1]) (qo:=[.int .i64 b0]) rfl rfl (A7 pu 1000 (w+2))
 rw[show A7 pu 1000 (w+3)=Eo pu 1000 (A7 pu 1000 (w+2)) from rfl,e]
 obtain rfl | rfl:k=0∨k=1:=by omega
 ·obtain⟨pk,h1,h2⟩:=lM pu hb w (j+1) (by omega) a1 b0 a0
  exact⟨pk,by rw[cO,Bq (by omega)];exact h1,Bp 0 (by simp) h2⟩
 ·obtain⟨pk,h1,h2⟩:=lM pu hb w (j+1) (by omega) a0 b0 a1
  exact⟨pk,by rw[cZ,Bq (by omega)];exact h1,Bp 1 (by simp) h2⟩
theorem Wq (pu:Af) {bs:List Int} (hb:∀ x∈bs,0≤x∧x < 256) (w j:Nat) (hj:j+2 < 90) (a0 a1 b0 b1:Int):∃ pk,A7 pu 1000 (w+3) (G5 bs) 2 4 2 4 (.ofNat j) [.int .i64 a0,.int .i64 a1] [.int .i64 b0,.int .i64 b1]=some (Sl.v 1 ⟨4,0,AP (fun z=>.int .i64 z) pk⟩)∧pk∈BO 2 [a0,a1] [b0,b1]:=by
 obtain⟨k,hk,e⟩:=FY pu hb (m:=2) (c:=4) (d:=2) (c1:=4) (j:=j) (by omega) (by omega) (ql:=[.int .i64 a0,.int .i64 a1]) (qo:=[.int .i64 b0,.int .i64 b1]) rfl rfl (A7 pu 1000 (w+2))
 rw[show A7 pu 1000 (w+3)=Eo pu 1000 (A7 pu 1000 (w+2)) from rfl,e]
 obtain rfl | rfl:k=0∨k=1:=by omega
 ·obtain⟨pk,h1,h2⟩:=lN pu hb w (j+1) (by omega) a1 b0 b1 a0
  exact⟨pk,by rw[dA,Bq (by omega)];exact h1,Bp 0 (by simp) h2⟩
 ·obtain⟨pk,h1,h2⟩:=lN pu hb w (j+1) (by omega) a0 b0 b1 a1
  exact⟨pk,by rw[dB,Bq (by omega)];exact h1,Bp 1 (by simp) h2⟩
theorem Ws (pu:Af) {bs:List Int} (hb:∀ x∈bs,0≤x∧x < 256) (w j:Nat) (hj:j+2 < 90) (a0 a1 b0 b1 b2:Int):∃ pk,A7 pu 1000 (w+3) (G5 bs) 2 4 3 6 (.ofNat j) [.int .i64 a0,.int .i64 a1] [.int .i64 b0,.int .i64 b1,.int .i64 b2]=some (Sl.v 1 ⟨5,0,AP (fun z=>.int .i64 z) pk⟩)∧pk∈BO 2 [a0,a1] [b0,b1,b2]:=by
 obtain⟨k,hk,e⟩:=FY pu hb (m:=2) (c:=4) (d:=3) (c1:=6) (j:=j) (by omega) (by omega) (ql:=[.int .i64 a0,.int .i64 a1]) (qo:=[.int .i64 b0,.int .i64 b1,.int .i64 b2]) rfl rfl (A7 pu 1000 (w+2))
 rw[show A7 pu 1000 (w+3)=Eo pu 1000 (A7 pu 1000 (w+2)) from rfl,e]
 obtain rfl | rfl:k=0∨k=1:=by omega
 ·obtain⟨pk,h1,h2⟩:=lQ pu hb w (j+1) (by omega) a1 b0 b1 b2 a0
  exact⟨pk,by rw[dC,Bq (by omega)];exact h1,Bp 0 (by simp) h2⟩
 ·obtain⟨pk,h1,h2⟩:=lQ pu hb w (j+1) (by omega) a0 b0 b1 b2 a1
  exact⟨pk,by rw[dP,Bq (by omega)];exact h1,Bp 1 (by simp) h2⟩
theorem Ac2 (pu:Af) {bs:List Int} (hb:∀ x∈bs,0≤x∧x < 256) (w j:Nat) (hj:j+3 < 90) (a0 a1 a2:Int):∃ pk,A7 pu 1000 (w+4) (G5 bs) 3 6 0 0 (.ofNat j) [.int .i64 a0,.int .i64 a1,.int .i64 a2] []=some (Sl.v 1 ⟨3,0,AP (fun z=>.int .i64 z) pk⟩)∧pk∈BO 3 [a0,a1,a2] []:=by
 obtain⟨k,hk,e⟩:=FY pu hb (m:=3) (c:=6) (d:=0) (c1:=0) (j:=j) (by omega) (by omega) (ql:=[.int .i64 a0,.int .i64 a1,.int .i64 a2]) (qo:=[]) rfl rfl (A7 pu 1000 (w+3))
 rw[show A7 pu 1000 (w+4)=Eo pu 1000 (A7 pu 1000 (w+3)) from rfl,e]
 obtain rfl | rfl | rfl:k=0∨k=1∨k=2:=by omega
 ·obtain⟨pk,h1,h2⟩:=Wp pu hb w (j+1) (by omega) a1 a2 a0
  exact⟨pk,by rw[dQ,Bq (by omega)];exact h1,Bp 0 (by simp) h2⟩
 ·obtain⟨pk,h1,h2⟩:=Wp pu hb w (j+1) (by omega) a0 a2 a1
  exact⟨pk,by rw[dR,Bq (by omega)];exact h1,Bp 1 (by simp) h2⟩
 ·obtain⟨pk,h1,h2⟩:=Wp pu hb w (j+1) (by omega) a0 a1 a2
  exact⟨pk,by rw[dS,Bq (by omega)];exact h1,Bp 2 (by simp) h2⟩
theorem RZ (pu:Af) {bs:List Int} (hb:∀ x∈bs,0≤x∧x < 256) (w j:Nat) (hj:j+3 < 90) (a0 a1 a2 b0:Int):∃ pk,A7 pu 1000 (w+4) (G5 bs) 3 6 1 2 (.ofNat j) [.int .i64 a0,.int .i64 a1,.int .i64 a2] [.int .i64 b0]=some (Sl.v 1 ⟨4,0,AP (fun z=>.int .i64 z) pk⟩)∧pk∈BO 3 [a0,a1,a2] [b0]:=by
 obtain⟨k,hk,e⟩:=FY pu hb (m:=3) (c:=6) (d:=1) (c1:=2) (j:=j) (by omega) (by omega) (ql:=[.int .i64 a0,.int .i64 a1,.int .i64 a2]) (qo:=[.int .i64 b0]) rfl rfl (A7 pu 1000 (w+3))
 rw[show A7 pu 1000 (w+4)=Eo pu 1000 (A7 pu 1000 (w+3)) from rfl,e]
 obtain rfl | rfl | rfl:k=0∨k=1∨k=2:=by omega
 ·obtain⟨pk,h1,h2⟩:=Wq pu hb w (j+1) (by omega) a1 a2 b0 a0
  exact⟨pk,by rw[dU,Bq (by omega)];exact h1,Bp 0 (by simp) h2⟩
 ·obtain⟨pk,h1,h2⟩:=Wq pu hb w (j+1) (by omega) a0 a2 b0 a1
  exact⟨pk,by rw[dV,Bq (by omega)];exact h1,Bp 1 (by simp) h2⟩
 ·obtain⟨pk,h1,h2⟩:=Wq pu hb w (j+1) (by omega) a0 a1 b0 a2
  exact⟨pk,by rw[dX,Bq (by omega)];exact h1,Bp 2 (by simp) h2⟩
theorem R4 (pu:Af) {bs:List Int} (hb:∀ x∈bs,0≤x∧x < 256) (w j:Nat) (hj:j+3 < 90) (a0 a1 a2 b0 b1:Int):∃ pk,A7 pu 1000 (w+4) (G5 bs) 3 6 2 4 (.ofNat j) [.int .i64 a0,.int .i64 a1,.int .i64 a2] [.int .i64 b0,.int .i64 b1]=some (Sl.v 1 ⟨5,0,AP (fun z=>.int .i64 z) pk⟩)∧pk∈BO 3 [a0,a1,a2] [b0,b1]:=by
 obtain⟨k,hk,e⟩:=FY pu hb (m:=3) (c:=6) (d:=2) (c1:=4) (j:=j) (by omega) (by omega) (ql:=[.int .i64 a0,.int .i64 a1,.int .i64 a2]) (qo:=[.int .i64 b0,.int .i64 b1]) rfl rfl (A7 pu 1000 (w+3))
 rw[show A7 pu 1000 (w+4)=Eo pu 1000 (A7 pu 1000 (w+3)) from rfl,e]
 obtain rfl | rfl | rfl:k=0∨k=1∨k=2:=by omega
 ·obtain⟨pk,h1,h2⟩:=Ws pu hb w (j+1) (by omega) a1 a2 b0 b1 a0
  exact⟨pk,by rw[dY,Bq (by omega)];exact h1,Bp 0 (by simp) h2⟩
 ·obtain⟨pk,h1,h2⟩:=Ws pu hb w (j+1) (by omega) a0 a2 b0 b1 a1
  exact⟨pk,by rw[dZ,Bq (by omega)];exact h1,Bp 1 (by simp) h2⟩
 ·obtain⟨pk,h1,h2⟩:=Ws pu hb w (j+1) (by omega) a0 a1 b0 b1 a2
  exact⟨pk,by rw[eF,Bq (by omega)];exact h1,Bp 2 (by simp) h2⟩
theorem Ac3 (pu:Af) {bs:List Int} (hb:∀ x∈bs,0≤x∧x < 256) (w j:Nat) (hj:j+4 < 90) (a0 a1 a2 a3:Int):∃ pk,A7 pu 1000 (w+5) (G5 bs) 4 8 0 0 (.ofNat j) [.int .i64 a0,.int .i64 a1,.int .i64 a2,.int .i64 a3] []=some (Sl.v 1 ⟨4,0,AP (fun z=>.int .i64 z) pk⟩)∧pk∈BO 4 [a0,a1,a2,a3] []:=by
 obtain⟨k,hk,e⟩:=FY pu hb (m:=4) (c:=8) (d:=0) (c1:=0) (j:=j) (by omega) (by omega) (ql:=[.int .i64 a0,.int .i64 a1,.int .i64 a2,.int .i64 a3]) (qo:=[]) rfl rfl (A7 pu 1000 (w+4))
 rw[show A7 pu 1000 (w+5)=Eo pu 1000 (A7 pu 1000 (w+4)) from rfl,e]
 obtain rfl | rfl | rfl | rfl:k=0∨k=1∨k=2∨k=3:=by omega
 ·obtain⟨pk,h1,h2⟩:=RZ pu hb w (j+1) (by omega) a1 a2 a3 a0
  exact⟨pk,by rw[eH,Bq (by omega)];exact h1,Bp 0 (by simp) h2⟩
 ·obtain⟨pk,h1,h2⟩:=RZ pu hb w (j+1) (by omega) a0 a2 a3 a1
  exact⟨pk,by rw[eO,Bq (by omega)];exact h1,Bp 1 (by simp) h2⟩
 ·obtain⟨pk,h1,h2⟩:=RZ pu hb w (j+1) (by omega) a0 a1 a3 a2
  exact⟨pk,by rw[eP,Bq (by omega)];exact h1,Bp 2 (by simp) h2⟩
 ·obtain⟨pk,h1,h2⟩:=RZ pu hb w (j+1) (by omega) a0 a1 a2 a3
  exact⟨pk,by rw[eQ,Bq (by omega)];exact h1,Bp 3 (by simp) h2⟩
theorem Pj (pu:Af) {bs:List Int} (hb:∀ x∈bs,0≤x∧x < 256) (w j:Nat) (hj:j+4 < 90) (a0 a1 a2 a3 b0:Int):∃ pk,A7 pu 1000 (w+5) (G5 bs) 4 8 1 2 (.ofNat j) [.int .i64 a0,.int .i64 a1,.int .i64 a2,.int .i64 a3] [.int .i64 b0]=some (Sl.v 1 ⟨5,0,AP (fun z=>.int .i64 z) pk⟩)∧pk∈BO 4 [a0,a1,a2,a3] [b0]:=by
 obtain⟨k,hk,e⟩:=FY pu hb (m:=4) (c:=8) (d:=1) (c1:=2) (j:=j) (by omega) (by omega) (ql:=[.int .i64 a0,.int .i64 a1,.int .i64 a2,.int .i64 a3]) (qo:=[.int .i64 b0]) rfl rfl (A7 pu 1000 (w+4))
 rw[show A7 pu 1000 (w+5)=Eo pu 1000 (A7 pu 1000 (w+4)) from rfl,e]
 obtain rfl | rfl | rfl | rfl:k=0∨k=1∨k=2∨k=3:=by omega
 ·obtain⟨pk,h1,h2⟩:=R4 pu hb w (j+1) (by omega) a1 a2 a3 b0 a0
  exact⟨pk,by rw[eT,Bq (by omega)];exact h1,Bp 0 (by simp) h2⟩
 ·obtain⟨pk,h1,h2⟩:=R4 pu hb w (j+1) (by omega) a0 a2 a3 b0 a1
  exact⟨pk,by rw[eU,Bq (by omega)];exact h1,Bp 1 (by simp) h2⟩
 ·obtain⟨pk,h1,h2⟩:=R4 pu hb w (j+1) (by omega) a0 a1 a3 b0 a2
  exact⟨pk,by rw[eX,Bq (by omega)];exact h1,Bp 2 (by simp) h2⟩
 ·obtain⟨pk,h1,h2⟩:=R4 pu hb w (j+1) (by omega) a0 a1 a2 b0 a3
  exact⟨pk,by rw[eY,Bq (by omega)];exact h1,Bp 3 (by simp) h2⟩
theorem Ac4 (pu:Af) {bs:List Int} (hb:∀ x∈bs,0≤x∧x < 256) (w j:Nat) (hj:j+5 < 90) (a0 a1 a2 a3 a4:Int):∃ pk,A7 pu 1000 (w+6) (G5 bs) 5 10 0 0 (.ofNat j) [.int .i64 a0,.int .i64 a1,.int .i64 a2,.int .i64 a3,.int .i64 a4] []=some (Sl.v 1 ⟨5,0,AP (fun z=>.int .i64 z) pk⟩)∧pk∈BO 5 [a0,a1,a2,a3,a4] []:=by
 obtain⟨k,hk,e⟩:=FY pu hb (m:=5) (c:=10) (d:=0) (c1:=0) (j:=j) (by omega) (by omega) (ql:=[.int .i64 a0,.int .i64 a1,.int .i64 a2,.int .i64 a3,.int .i64 a4]) (qo:=[]) rfl rfl (A7 pu 1000 (w+5))
 rw[show A7 pu 1000 (w+6)=Eo pu 1000 (A7 pu 1000 (w+5)) from rfl,e]
 obtain rfl | rfl | rfl | rfl | rfl:k=0∨k=1∨k=2∨k=3∨k=4:=by omega
 ·obtain⟨pk,h1,h2⟩:=Pj pu hb w (j+1) (by omega) a1 a2 a3 a4 a0
  exact⟨pk,by rw[fA,Bq (by omega)];exact h1,Bp 0 (by simp) h2⟩
 ·obtain⟨pk,h1,h2⟩:=Pj pu hb w (j+1) (by omega) a0 a2 a3 a4 a1
  exact⟨pk,by rw[fB,Bq (by omega)];exact h1,Bp 1 (by simp) h2⟩
 ·obtain⟨pk,h1,h2⟩:=Pj pu hb w (j+1) (by omega) a0 a1 a3 a4 a2
  exact⟨pk,by rw[fC,Bq (by omega)];exact h1,Bp 2 (by simp) h2⟩
 ·obtain⟨pk,h1,h2⟩:=Pj pu hb w (j+1) (by omega) a0 a1 a2 a4 a3
  exact⟨pk,by rw[fD,Bq (by omega)];exact h1,Bp 3 (by simp) h2⟩
 ·obtain⟨pk,h1,h2⟩:=Pj pu hb w (j+1) (by omega) a0 a1 a2 a3 a4
  exact⟨pk,by rw[fE,Bq (by omega)];exact h1,Bp 4 (by simp) h2⟩
theorem fi1 (pu:Af) (s:Sl):Pb pu 1000 (.ofNat 1) s=A7 pu 1000 1000 s 1 2 0 0 (.ofNat 0) [.int .i64 0] []:=by kernel_rfl
theorem fi2 (pu:Af) (s:Sl):Pb pu 1000 (.ofNat 2) s=A7 pu 1000 1000 s 2 4 0 0 (.ofNat 0) [.int .i64 0,.int .i64 1] []:=by kernel_rfl
theorem fi3 (pu:Af) (s:Sl):Pb pu 1000 (.ofNat 3) s=A7 pu 1000 1000 s 3 6 0 0 (.ofNat 0) [.int .i64 0,.int .i64 1,.int .i64 2] []:=by kernel_rfl
theorem fi4 (pu:Af) (s:Sl):Pb pu 1000 (.ofNat 4) s=A7 pu 1000 1000 s 4 8 0 0 (.ofNat 0) [.int .i64 0,.int .i64 1,.int .i64 2,.int .i64 3] []:=by kernel_rfl
theorem fi5 (pu:Af) (s:Sl):Pb pu 1000 (.ofNat 5) s=A7 pu 1000 1000 s 5 10 0 0 (.ofNat 0) [.int .i64 0,.int .i64 1,.int .i64 2,.int .i64 3,.int .i64 4] []:=by kernel_rfl
theorem Wt (z:Int) (s:Sl):puB 10 [.int .i64 z,Sl.v 1 s]=Pb (OQ 59) 1000 z s:=by rw[eB 10 rfl];kernel_rfl
theorem zP:∀ x:Fin 256,Aj .i64 (Int.add (1:Int) (Int.tmod (Aj .i64 (.ofNat x.1)) (5:Int)))∈([.ofNat 1,.ofNat 2,.ofNat 3,.ofNat 4,.ofNat 5]:List Int):=by decide +kernel
theorem LX {o:Option Value} (h:Sc o=true):o=some (.bool true):=by
 unfold Sc at h
 cases o with
 | none=>cases h
 | some v =>
  replace h:oo (Bf v) false (fun b=>b)=true:=h
  cases hb:Bf v with
  | none=>rw[hb] at h;cases h
  | some b=>rw[hb,Ac] at h;subst h;rw[BV hb]
theorem FM {α:Type} {p:α→Bool} {l:List α} (h:Au p l=true) {x:α} (hx:x∈l):p x=true:=by
 rw[Bh] at h
 exact List.all_eq_true.1 h x hx
theorem wfU {n:Int} (h:(Lit.int .u8 n).wf=true):0≤n∧n < 256:=by
 simp only[Lit.wf,Bool.and_eq_true,decide_eq_true_eq] at h
 have h1:(0:Int)≤n:=h.1
 have h2:n≤(255:Int):=h.2
 omega
theorem LY (n:Nat) (s:Sl) (pk:List Int) (hs:s=⟨n,0,AP (fun z=>.int .i64 z) pk⟩):(oo (some (Sl.v 1 s)) none fun v9=>(oo (Bj 1 v9) none fun s11=>(Ul puB 1000 1000 s11 0 0 (Int.ofNat (Sl.n s11)) (0:Int) ([]:List Value))))=Gw n pk:=by
 subst hs
 rw[Ac,show Bj 1 (Sl.v 1 ⟨n,0,AP (fun z=>.int .i64 z) pk⟩)=some ⟨n,0,AP (fun z=>.int .i64 z) pk⟩ from rfl,Ac]
 rfl
end Go.Proofs.YtflonlkiajhhjaaGreatDoor.TpD
