/- Made from wip. -/
import Derived.Test.YtokbaaeimejjlaaDoorBkChunkx
import Derived.Test.YtokbaaeimejjlaaDoorBkCellsx
import Derived.Test.YtokbaaeimejjlaaDoorSpYield
import Derived.Test.YtokbaaeimejjlaaDoorSpMorex
import Derived.KernelRfl
import Derived.Shelf.Sort.Plain
import Derived.Test.YtokbaaeimejjlaaDoorProg

namespace Go.Proofs
open Go Go.RowKit Go.Shelf Go.Sp Go.BkO Go.Proofs.YtokbaaeimejjlaaDoor.BkO
attribute [local go_sem] Oper.semAt_some

noncomputable section
def bS:List Value:=[.int .u8 0,.int .u8 1,.int .u8 28,.int .u8 2,.int .u8 29,.int .u8 14,.int .u8 24,.int .u8 3,.int .u8 30,.int .u8 22,.int .u8 20,.int .u8 15,.int .u8 25,.int .u8 17,.int .u8 4,.int .u8 8,.int .u8 31,.int .u8 27,.int .u8 13,.int .u8 23,.int .u8 21,.int .u8 19,.int .u8 16,.int .u8 7,.int .u8 26,.int .u8 12,.int .u8 18,.int .u8 6,.int .u8 11,.int .u8 5,.int .u8 10,.int .u8 9]
def C8:List (List Value):=[bS]
def Fb (c x:Nat) (zs:List Int):List Int:=zs.take (x*c)++(((zs.drop (x*c)).take c).reverse++zs.drop (x*c+c))
def Fp (zs:List Int):Aa:=((Ao C8).push (.cells [] false false [])).push (.cells (AP FC zs) false false [])
def KW (c:Nat) {r:Nat} (zs:List Int) (xs:List (Fin r)):List Int:=xs.foldl (fun zs x=>Fb c x.1 zs) zs
end
set_option maxHeartbeats 1000000 in
theorem fO (F:Fence) (n:Nat) (h97:F.fn 97) (hro:F.round=none) (a:Option Addr) (len cap c:Nat) (hc:1≤c) (hc4:c≤4) (w:World) :
 CallsIn F n Tryd.prog 97 #[.slice a len cap,.int .i64 c] w fun e w'=>e = .returned (.func (.func 106) #[] #[.pointer (some ⟨w.heap.size,0,none⟩),.pointer (some ⟨w.heap.size+1,0,none⟩)])∧w'=(w.alloc (.cells #[.slice a len cap] 25)).alloc (.cells #[.int .i64 c] 3):=by
 refine callsIn_of_wp Tryd.func97 rfl h97 ?_ hro
 simp only[Tryd.ntmps97,List.size_toArray,List.length_cons,List.length_nil,Nat.reduceAdd,Nat.reduceSub,Array.replicate_succ,Array.replicate_zero,List.push_toArray,List.append_toArray,List.nil_append,List.cons_append]
 gi_wp2
 go_ret
 exact⟨rfl,rfl⟩
def Ago (Bs Bn:Nat) (A B:World):Prop:=B.heap[Bs]?=A.heap[Bs]?∧B.heap[Bn]?=A.heap[Bn]?
theorem SB (n:Nat) (hn:1≤n) (Bs Bn b off r c N cap:Nat) (hr:0 < r) (hc:1≤c) (hc4:c≤4) (hN:N=r*c) (hrc:N≤16) (hcap:N≤cap) (w:World) (hBs:Bs < w.heap.size) (hBn:Bn < w.heap.size)
 (h1:w.cell? ⟨Bs,0,none⟩=some (.slice (some ⟨b,off,none⟩) N cap)) (h2:w.cell? ⟨Bn,0,none⟩=some (.int .i64 c)) :
 SeqStopsK Fence.wide n Tryd.prog 106 #[.pointer (some ⟨Bs,0,none⟩),.pointer (some ⟨Bn,0,none⟩)] (fun x:Fin r=>#[.slice (some ⟨b,off+x.1*c,none⟩) c c]) (Ago Bs Bn) (fun xs=>xs=OD hr r) (fun _=>True) r w:=fun l J Jx W hW hJ hJx hY h0=>by
 have hs:=(World.cell?_of_block (w:=w) (a:=⟨Bs,0,none⟩) (hW.block Bs hBs)).trans h1
 have hb:=(World.cell?_of_block (w:=w) (a:=⟨Bn,0,none⟩) (hW.block Bn hBn)).trans h2
 refine (bR Fence.wide n trivial rfl hn l Bs Bn b off r c N cap hr hc hc4 hN hrc hcap J Jx (fun s A h => hJ s A A.drew none h ⟨rfl, rfl, rfl, Nat.le_refl _, fun _ _ _ => rfl⟩ (fun r e => by cases e))
  (fun pre x W1 hj hl=>(hY pre x W1 hj hl).mono fun e W' h=>?_) W hs hb h0).mono fun e W' ⟨he,h⟩=>⟨he,?_⟩
 ·rcases h with⟨he,hj,k1,k2⟩ | h
  ·exact .inl ⟨he,hj,World.cell?_of_block k1,World.cell?_of_block k2⟩
  ·exact .inr h
 ·exact h

noncomputable def Wh:List (Nat×Nat×Nat):=[1,2,3,4].flatMap fun r=>[1,2,3,4].flatMap fun c=>(Go.BkQ.upN r).map fun x=>(r,c,x)
theorem zC (z:Nat→Int):AP (fun p:Nat×Nat×Nat=>Cr tt Jf 40 75 [.slice (some ⟨2,p.2.2*p.2.1,some 1⟩) p.2.1 (2*p.2.1)] (Fp (AP z (Go.BkQ.upN (p.1*p.2.1))))) Wh=AP (fun p:Nat×Nat×Nat=>some (.tuple ⟨[]⟩,Fp (Fb p.2.1 p.2.2 (AP z (Go.BkQ.upN (p.1*p.2.1)))))) Wh:=by kernel_rfl
theorem bT:∀ n,Go.BkQ.upN n=List.range n
 | 0=>rfl
 | n + 1 => by
  rw[List.range_succ,←bT n,←BH];rfl
theorem Wi {n:Nat} {zs:List Int} (hz:zs.length=n):AP (fun i=>zs.getD i 0) (Go.BkQ.upN n)=zs:=by
 rw[Cc,bT,←hz]
 apply List.ext_getElem
 ·simp
 ·intro i h1 h2
  simp[List.getD_eq_getElem?_getD,h2]
theorem Agp {r c:Nat} (hr:1≤r) (hr4:r≤4) (hc:1≤c) (hc4:c≤4) (zs:List Int) (hz:zs.length=r*c) (x:Nat) (hx:x < r) :
 Cr tt Jf 40 75 [.slice (some ⟨2,x*c,some 1⟩) c (2*c)] (Fp zs)=some (.tuple ⟨[]⟩,Fp (Fb c x zs)):=by
 have h4:∀ n,1≤n→n≤4→n∈[1,2,3,4]:=fun n h1 h2=>by
  obtain rfl | rfl | rfl | rfl:n=1∨n=2∨n=3∨n=4:=by omega
  all_goals simp
 have hm:(r,c,x)∈Wh:=List.mem_flatMap.2 ⟨r,h4 r hr hr4,List.mem_flatMap.2 ⟨c,h4 c hc hc4,List.mem_map.2 ⟨x,by rw[bT];exact List.mem_range.2 hx,rfl⟩⟩⟩
 have e:AP (fun i=>zs.getD i 0) (Go.BkQ.upN (r*c))=zs:=Wi hz
 have h:=zC fun i=>zs.getD i 0
 rw[Cc,Cc] at h
 have h:=List.map_inj_left.1 h _ hm
 have h:Cr tt Jf 40 75 [.slice (some ⟨2,x*c,some 1⟩) c (2*c)] (Fp (AP (fun i=>zs.getD i 0) (Go.BkQ.upN (r*c))))=some (.tuple ⟨[]⟩,Fp (Fb c x (AP (fun i=>zs.getD i 0) (Go.BkQ.upN (r*c))))):=h
 rw[e] at h
 exact h
def LQ:List Nat:=[1,2,3,4,6,8,9,12,16]
theorem bU {r c:Nat} (hr:1≤r) (hr4:r≤4) (hc:1≤c) (hc4:c≤4):r*c∈LQ:=by
 obtain rfl | rfl | rfl | rfl:r=1∨r=2∨r=3∨r=4:=by omega
 all_goals
  obtain rfl | rfl | rfl | rfl:c=1∨c=2∨c=3∨c=4:=by omega
  all_goals decide
theorem bV (z:Nat→Int):AP (fun n=>Cr tt Jf 40 55 [FP 1 n 0 (AP FC (AP z (Go.BkQ.upN n)))] (Ao C8)) LQ=AP (fun n=>some (.slice (some ⟨2,0,some 1⟩) n (2*n),Fp (AP z (Go.BkQ.upN n)))) LQ:=by kernel_rfl
theorem fP {r c:Nat} (hr:1≤r) (hr4:r≤4) (hc:1≤c) (hc4:c≤4) (zs:List Int) (hz:zs.length=r*c) :
 Cr tt Jf 40 55 [FP 1 (r*c) 0 (AP FC zs)] (Ao C8)=some (.slice (some ⟨2,0,some 1⟩) (r*c) (2*(r*c)),Fp zs):=by
 have h:=bV fun i=>zs.getD i 0
 rw[Cc,Cc] at h
 have h:=List.map_inj_left.1 h _ (bU hr hr4 hc hc4)
 have h:Cr tt Jf 40 55 [FP 1 (r*c) 0 (AP FC (AP (fun i=>zs.getD i 0) (Go.BkQ.upN (r*c))))] (Ao C8)=some (.slice (some ⟨2,0,some 1⟩) (r*c) (2*(r*c)),Fp (AP (fun i=>zs.getD i 0) (Go.BkQ.upN (r*c)))):=h
 rw[Wi hz] at h
 exact h
theorem XR (zs:List Int) (i:Nat) (h:i < 3):∃ xs imm spent anc,(Fp zs).get i = .cells xs imm spent anc:=by
 obtain rfl | rfl | rfl:i=0∨i=1∨i=2:=by omega
 ·exact⟨_,_,_,_,rfl⟩
 ·exact⟨_,_,_,_,rfl⟩
 ·exact⟨_,_,_,_,rfl⟩
theorem Gm (zs:List Int):Qx (Fp zs):=fun i h=>XR zs i h
theorem SC {c x:Nat} {zs:List Int}:(Fb c x zs).length=zs.length:=by
 simp only[Fb,List.length_append,List.length_take,List.length_reverse,List.length_drop]
 omega
theorem Pi (c:Nat) {r:Nat} (zs:List Int) (xs:List (Fin r)) (x:Fin r):KW c zs (xs++[x])=Fb c x.1 (KW c zs xs):=by simp[KW]
theorem QN (c:Nat) {r:Nat} (zs:List Int) (xs:List (Fin r)):(KW c zs xs).length=zs.length:=by
 unfold KW
 induction xs generalizing zs with
 | nil=>rfl
 | cons x xs ih=>rw[List.foldl_cons,ih,SC]

set_option maxRecDepth 100000 in
set_option maxHeartbeats 4000000 in
theorem SE (hm:Tryd.prog.follows .mixedOrders=true) {r c N:Nat} (hr:1≤r) (hr4:r≤4) (hc:1≤c) (hc4:c≤4) (hN:N=r*c) {zs:List Int} (hz:zs.length=N) {R:Sp.Ren} {w:World} {args':List Value}
 (hR:R.f=fun i=>if i < C8.length then some (i,0) else none) (hs:Ck (Ao C8) R w) (ha:Cf R [FP 1 N 0 (AP FC zs),.int .i64 c] args') :
 Calls Tryd.prog 77 ⟨args'⟩ w fun e w'=>∃ u R',e = .returned u∧VR R' (.slice (some ⟨2,0,some 1⟩) N (2*N)) u∧Ba (Ao C8) R w (Fp (KW c zs (OD hr r))) R' w':=by
 have hrc:N≤16:=by rw[hN];exact Nat.mul_le_mul hr4 hc4
 have hN1:1≤N:=by rw[hN];exact Nat.mul_le_mul hr hc
 have hgl:JH (List.range 1) R:=fun g hg=>by
  simp at hg;subst hg;rw[hR];rfl
 obtain⟨u0,us,rfl,hu0,ha1⟩:=ha.uncons
 obtain⟨u1,us,rfl,hu1,hnil⟩:=ha1.uncons
 obtain rfl:=hnil.unnil
 have hu1:=hu1.int_l
 subst hu1
 have hclone:=((Rx DT UA hm 40) 55 _ _ _ _ (by rw[hN] at hz ⊢;exact fP hr hr4 hc hc4 zs hz:Cr tt Jf 40 55 [FP 1 N 0 (AP FC zs)] (Ao C8)=some (.slice (some ⟨2,0,some 1⟩) N (2*N),Fp zs))).2 R w [u0] hs hgl (.one hu0)
 have hcl:Calls Tryd.prog 55 #[u0] w fun e w1=>∃ (cb β cap:Nat) (R1:Sp.Ren),e = .returned (.slice (some ⟨cb,β,none⟩) N cap)∧R1.f 2=some (cb,β)∧N≤cap∧β+cap≤R1.sz cb∧Ba (Ao C8) R w (Fp zs) R1 w1:=by
  refine hclone.mono fun e w1 ⟨v1,R1,he,hv,hp⟩=>?_
  cases hv with
  | @sl _ _ _ _ _ cb β cap hf h1 h2 h3 h4=>exact⟨cb,β,cap,R1,by rw[he,Nat.add_zero],hf,by omega,by omega,hp⟩
  | slE h=>omega
  | slN h=>omega
 clear hclone
 have hck:=fun (a:Option Addr) (len cap:Nat) (w:World)=>fO Fence.wide (10 - 1) trivial rfl a len cap c hc hc4 w
 have hNh:Hid (N=r*c):=hN
 clear hN
 refine callsIn_wide (n:=10).1 ?_
 refine callsIn_of_wp_marks Tryd.func77 rfl trivial ?_ rfl
 simp only[Tryd.ntmps77,List.size_toArray,List.length_cons,List.length_nil,Nat.reduceAdd,Nat.reduceSub,Array.replicate_succ,Array.replicate_zero,List.push_toArray,List.append_toArray,List.nil_append,List.cons_append]
 gi_wp2_with first
  | (refine⟨trivial,?_⟩;gi_at_call 55;refine(callsIn_wide.2 hcl).mono ?_;clear hcl;rintro e w1 ⟨cb,β,cap,R1,rfl,hf,hcap,hsz,hp1⟩)
  | (refine⟨trivial,?_⟩;gi_at_call 97;refine(hck _ _ _ _).mono ?_;rintro e w2 ⟨rfl,rfl⟩)
 obtain⟨w2,hw2⟩:∃ w2,(w1.alloc (.cells #[.slice (some ⟨cb,β,none⟩) N cap] 25)).alloc (.cells #[.int .i64 c] 3)=w2:=⟨_,rfl⟩
 have hsz2:w2.heap.size=w1.heap.size+2:=by rw[←hw2];simp
 have hcs:w2.cell? ⟨w1.heap.size,0,none⟩=some (.slice (some ⟨cb,β,none⟩) N cap):=by rw[←hw2];exact Uv _ (Qy w1 (.slice (some ⟨cb,β,none⟩) N cap) 25) (by simp)
 have hcn:w2.cell? ⟨w1.heap.size+1,0,none⟩=some (.int .i64 c):=by
  have:=Qy (w1.alloc (.cells #[.slice (some ⟨cb,β,none⟩) N cap] 25)) (.int .i64 c) 3
  rw[World.size_alloc] at this
  rw[←hw2];exact this
 have hp2:Ba (Ao C8) R w (Fp zs) R1 w2:=by
  have hc1:=hp1.sim.cellsOnly (Gm zs)
  have hg1:=World.grownBy_alloc w1 (.cells #[.slice (some ⟨cb,β,none⟩) N cap] 25) none
  have hp:=hp1.grown hg1 (fun r e=>by cases e) hc1
  have hg2:=World.grownBy_alloc (w1.alloc (.cells #[.slice (some ⟨cb,β,none⟩) N cap] 25)) (.cells #[.int .i64 c] 3) none
  rw[←hw2]
  exact hp.grown hg2 (fun r e=>by cases e) (hp.sim.cellsOnly (Gm zs))
 have hdom:∀ id cc ββ,R1.f id=some (cc,ββ)→cc < w1.heap.size:=fun id cc ββ h=>(hp1.sim.dom id cc ββ h).2
 rw[hw2]
 have hgr:w.heap.size≤w2.heap.size:=hp2.grow
 refine wpIn_rangeFunc_ownF (α := Fin r) rfl (by omega) (gf := 106) (lb := #[.pointer (some ⟨w1.heap.size, 0, none⟩), .pointer (some ⟨w1.heap.size + 1, 0, none⟩)]) rfl trivial (enters_of Tryd.func106 (by kernel_rfl) rfl)
  (SB (10 - 1) (by omega) w1.heap.size (w1.heap.size+1) cb β r c N cap hr hc hc4 hNh.out hrc hcap w2 (by omega) (by omega) hcs hcn) (fun h k=>⟨k.1.trans h.1,k.2.trans h.2⟩)
  (fun W l o o' hl ho hc1 _=>⟨World.putObj_heap_other (by omega),World.putObj_heap_other (by omega)⟩) (Below.refl _ _) (fun _=>rfl)
  (fun pre W=>∃ R2,Ba (Ao C8) R w (Fp (KW c zs pre)) R2 W∧R1.le R2∧R2.f=R1.f∧w2.heap.size≤W.heap.size)
  (fun _ _ _=>False)
  (fun s A B row ⟨R2,h1,h2,h3,h4⟩ hg hr=>⟨R2,h1.grown hg (fun r e=>⟨by have:=(hr r e).1;omega,(hr r e).2⟩) (h1.sim.cellsOnly (Gm _)),h2,h3,Nat.le_trans h4 hg.size⟩)
  (fun _ _ _ _ _ hs _ _=>hs)
  ⟨R1,hp2,R1.le_refl,rfl,Nat.le_refl _⟩
  (fun x => { tmps := #[u0, Value.int IntKind.i64 ↑c, undef, undef, Value.slice none 0 0, Value.slice (some ⟨cb, β, none⟩) N cap, .slice (some ⟨cb, β + x.1 * c, none⟩) c c, u0, Value.slice (some ⟨cb, β, none⟩) N cap, Value.slice (some ⟨cb, β, none⟩) N cap, Value.int IntKind.i64 ↑c,
    Value.func (Fn.func 106) #[] #[Value.pointer (some ⟨w1.heap.size,0,none⟩),Value.pointer (some ⟨w1.heap.size+1,0,none⟩)],.slice (some ⟨cb,β+x.1*c,none⟩) c c,undef,undef,undef],defers:=[] }) ?assign ?body ?done ?stop
 case assign=>
  intro l x W K hK
  gi_wp2
  exact hK
 case body=>
  rintro l pre x W ⟨R2,h1,h2,h3,hWs⟩ hlt
  have hx:x.1*c+c≤N:=by rw[hNh.out,←Nat.succ_mul];exact Nat.mul_le_mul_right c x.2
  have hrun:=Agp hr hr4 hc hc4 (KW c zs pre) (by rw[QN,hz];exact hNh.out) x.1 x.2
  have hgl2:JH (List.range 1) R2:=fun g hg=>by
   simp at hg;subst hg;rw[h3];exact(hp1.le.up 0 0 0 (by rw[hR];rfl)).1
  have hrev := ((Rx DT UA hm 40) 75 _ _ _ _ hrun).2 R2 W [.slice (some ⟨cb, β + x.1 * c, none⟩) c c] h1.sim hgl2 (.one (.sl (by rw [h3]; exact hf) (by omega) (by omega) (fun h => by omega) (by
   have:=(h2.up 2 cb β hf).2
   rw[this];omega)))
  have hrev2:Calls Tryd.prog 75 #[.slice (some ⟨cb,β+x.1*c,none⟩) c c] W fun e W'=>e = .returned (.tuple #[])∧KeepsOthers W W'∧Ago w1.heap.size (w1.heap.size+1) W W'∧∃ R3,Ba (Ao C8) R w (Fp (KW c zs (pre++[x]))) R3 W'∧R1.le R3∧R3.f=R1.f∧w2.heap.size≤W'.heap.size:=by
   refine hrev.mono fun e W' ⟨u,R3,he,hu,hp⟩=>?_
   have hbox:∀ k,w1.heap.size≤k→k < W.heap.size→W'.heap[k]?=W.heap[k]?:=fun k hk hk2=>hp.frame k hk2 fun id ββ h=>by
    rw[h3] at h;have:=hdom id k ββ h;omega
   have hf3:R3.f=R2.f:=hp.sameF rfl
   have hW:w2.heap.size≤W.heap.size:=hWs
   obtain⟨us,rfl,hul⟩:=hu.tuple_l
   have hus:us=[]:=by have:=hul.1;simpa using this.symm
   subst hus
   refine⟨he,hp.keepsOthers (h1.sim.cellsOnly (Gm _)),⟨hbox _ (Nat.le_refl _) (by omega),hbox _ (by omega) (by omega)⟩,R3,?_,Sp.Ren.le_trans h2 hp.le,hf3.trans h3,Nat.le_trans hWs hp.grow⟩
   rw[Pi]
   exact h1.trans hp hs
  clear hrev
  gi_wp2_with (refine⟨trivial,?_⟩;gi_at_call 75;refine(CallsIn.inRound l (callsIn_wide.2 hrev2)).mono ?_;clear hrev2;rintro e W' ⟨rfl,hk,hkp,hI⟩)
  exact⟨hk,hkp,hI⟩
 case done=>
  rintro D ys W hD rfl ⟨R2,h1,h2,h3,_⟩ hK
  gi_wp2
  refine⟨by simp,.inl ⟨_,_,rfl,run_takeDeferred hK,?_⟩⟩
  refine⟨_,results_tmp rfl _ _ _,_,R2,rfl,?_,?_⟩
  ·exact .sl (β := β) (off := 0) (by rw [h3]; exact hf) (by omega) (by omega) (fun h => by omega) (by
    have:=(h2.up 2 cb β hf).2
    rw[this];omega)
  ·exact h1.grown (grownBy_putObj' W D _) (fun r e=>by cases e;exact⟨by omega,_,hK,rfl⟩) (h1.sim.cellsOnly (Gm _))
 case stop=>
  rintro D c pre W _ _ h _
  exact h.elim
noncomputable section
def SF (c:Nat) (zs:List Int) (r:Nat):List Int:=Nat.rec (motive:=fun _=>List Int) zs (fun k ih=>Fb c k ih) r
def SG (args:List Value):Option Value:=ll args none fun a r=>ll r none fun b r=>ll r (oo (Bj 1 a) none fun s=>oo (Bi .i64 b) none fun z=>oo (EA z) none fun c=>oo (CG (Bi .i64) s.cs) none fun zs=>
 bb (an (Nat.beq s.fl 0) (an (Nat.ble 1 c) (an (Nat.ble c 4) (an (Nat.ble c s.n) (an (Nat.ble (s.n / c) 4) (an (Nat.beq (s.n / c*c) s.n) (Nat.beq (len zs) s.n))))))) (some (FP 1 s.n 0 (AP FC (SF c zs (s.n / c))))) none) fun _ _=>none
end
theorem Pj (c:Nat) {r:Nat} (hr:0 < r) (zs:List Int):∀ k,k≤r→KW c zs (OD hr k)=SF c zs k
 | 0,_=>rfl
 | k + 1, h => by
  rw[QM,Pi,Pj c hr zs k (by omega)]
  show Fb c (k % r) _=Fb c k _
  rw[Nat.mod_eq_of_lt h];rfl
theorem zD (z:Nat→Int):AP (fun n=>oo (Cq 1 false (.slice (some ⟨2,0,some 1⟩) n (2*n)) (Fp (AP z (Go.BkQ.upN n)))) none (fun p=>pp p fun v _=>some v)) LQ=AP (fun n=>some (FP 1 n 0 (AP FC (AP z (Go.BkQ.upN n))))) LQ:=by kernel_rfl
theorem Agq {r c:Nat} (hr:1≤r) (hr4:r≤4) (hc:1≤c) (hc4:c≤4) (zs:List Int) (hz:zs.length=r*c) :
 oo (Cq 1 false (.slice (some ⟨2,0,some 1⟩) (r*c) (2*(r*c))) (Fp zs)) none (fun p=>pp p fun v _=>some v)=some (FP 1 (r*c) 0 (AP FC zs)):=by
 have h:=zD fun i=>zs.getD i 0
 rw[Cc,Cc] at h
 have h:=List.map_inj_left.1 h _ (bU hr hr4 hc hc4)
 have h:oo (Cq 1 false (.slice (some ⟨2,0,some 1⟩) (r*c) (2*(r*c))) (Fp (AP (fun i=>zs.getD i 0) (Go.BkQ.upN (r*c))))) none (fun p=>pp p fun v _=>some v)=some (FP 1 (r*c) 0 (AP FC (AP (fun i=>zs.getD i 0) (Go.BkQ.upN (r*c))))):=h
 rw[Wi hz] at h
 exact h
theorem bW (n:Nat) (zs:List Int):Fe (FP 1 n 0 (AP FC zs))=true:=rfl
theorem UB {vs:List Value} {zs:List Int} (h:CG (Bi .i64) vs=some zs):vs=AP FC zs:=by
 obtain⟨h1,h2⟩:=Di h
 rw[KX]
 refine List.ext_getElem? fun i=>?_
 rw[List.getElem?_map]
 cases hv:vs[i]? with
 | none=>rw[List.getElem?_eq_none (by rw[h1];exact List.getElem?_eq_none_iff.1 hv)];rfl
 | some v =>
  obtain⟨b,h3,h4⟩:=h2 i v hv
  rw[h3,Eh h4];rfl
theorem QO (hm:Tryd.prog.follows .mixedOrders=true):BA Tryd.prog C8 77 SG:=by
 refine⟨enters_of Tryd.func77 (by kernel_rfl) rfl,fun args v hv hcl R w args' hR hs ha=>?_⟩
 replace hv:=Ad hv;obtain⟨a,r1,rfl,hv⟩:=hv
 replace hv:=Ad hv;obtain⟨b,r2,rfl,hv⟩:=hv
 replace hv:=AC hv;obtain⟨rfl,hv⟩:=hv
 replace hv:=Ab hv;obtain⟨s,h1,hv⟩:=hv
 replace hv:=Ab hv;obtain⟨z,h2,hv⟩:=hv
 replace hv:=Ab hv;obtain⟨c,h3,hv⟩:=hv
 replace hv:=Ab hv;obtain⟨zs,h4,hv⟩:=hv
 replace hv:=Ae hv;obtain⟨hc,hv⟩:=hv
 injection hv with hv
 obtain⟨n,fl,cs⟩:=s
 obtain⟨c0,hc⟩:=Av hc
 obtain⟨c1,hc⟩:=Av hc
 obtain⟨c2,hc⟩:=Av hc
 obtain⟨c3,hc⟩:=Av hc
 obtain⟨c4,hc⟩:=Av hc
 obtain⟨c5,c6⟩:=Av hc
 replace c0:fl=0:=Nat.eq_of_beq_eq_true c0
 replace c1:=Nat.le_of_ble_eq_true c1
 replace c2:=Nat.le_of_ble_eq_true c2
 replace c3:c≤n:=Nat.le_of_ble_eq_true c3
 replace c4:n / c≤4:=Nat.le_of_ble_eq_true c4
 replace c5:n / c*c=n:=Nat.eq_of_beq_eq_true c5
 replace c6:len zs=n:=Nat.eq_of_beq_eq_true c6
 rw[AV] at c6
 subst c0
 obtain rfl:=Qh h1
 obtain rfl:=Eh h2
 obtain rfl:=AR h3
 replace h4:cs=AP FC zs:=UB h4
 subst h4
 have hr:1≤n / c:=Nat.div_pos c3 c1
 have hcalls:=SE hm hr c4 c1 c2 c5.symm c6 hR hs ha
 refine hcalls.mono fun e w' ⟨u,R1,he,hu,hp⟩=>?_
 rw[Pj c hr zs (n / c) (Nat.le_refl _)] at hp
 have hfz0:=Agq hr c4 c1 c2 (SF c zs (n / c)) (by rw[←Pj c hr zs (n / c) (Nat.le_refl _),QN,c6,c5])
 rw[c5] at hfz0
 obtain⟨⟨v2,H2⟩,hfz,hfz1⟩:=Ab hfz0
 injection (show some v2=_ from hfz1) with hfz1
 subst hfz1
 obtain⟨R2,_,_,k2,k3⟩:=Gg hfz hs (Nat.le_refl _) hp hu
 subst hv
 exact⟨u,H2,R2,he,bW _ _,k3,k2⟩
end Go.Proofs
namespace Go.Proofs
open Go.Shelf
def Tryd.lays189_ren:Go.Shelf.Ren:=⟨fun | 189=>63 | 125=>71 | 257=>73 | 128=>86 | 129=>87 | 294=>88 | 295=>89 | 296=>90 | 297=>91 | 298=>92 | 299=>93 | 216=>94 | 300=>95 | 301=>96 | 328=>103 | 329=>99 | 330=>100 | 331=>104 | 332=>105 | 215=>74 | 343=>108 | n=>n,fun | 28=>25 | 3=>3 | 46=>100 | 0=>0 | 51=>99 | 53=>118 | 4=>4 | 183=>110 | 182=>109 | 131=>114 | 5=>5 | 9=>9 | 218=>128 | 222=>132 | 228=>137 | 229=>138 | n=>n,fun | n=>n⟩
theorem Tryd.lays189:Go.Proofs.Lays.n189 Tryd.prog Tryd.lays189_ren:={
 mixed:=by kernel_rfl
 f125:=Tryd.func71.trans (congrArg some (by kernel_rfl))
 f128:=Tryd.func86.trans (congrArg some (by kernel_rfl))
 f129:=Tryd.func87.trans (congrArg some (by kernel_rfl))
 f189:=Tryd.func63.trans (congrArg some (by kernel_rfl))
 f215:=Tryd.func74.trans (congrArg some (by kernel_rfl))
 f216:=Tryd.func94.trans (congrArg some (by kernel_rfl))
 f257:=Tryd.func73.trans (congrArg some (by kernel_rfl))
 f294:=Tryd.func88.trans (congrArg some (by kernel_rfl))
 f295:=Tryd.func89.trans (congrArg some (by kernel_rfl))
 f296:=Tryd.func90.trans (congrArg some (by kernel_rfl))
 f297:=Tryd.func91.trans (congrArg some (by kernel_rfl))
 f298:=Tryd.func92.trans (congrArg some (by kernel_rfl))
 f299:=Tryd.func93.trans (congrArg some (by kernel_rfl))
 f300:=Tryd.func95.trans (congrArg some (by kernel_rfl))
 f301:=Tryd.func96.trans (congrArg some (by kernel_rfl))
 f328:=Tryd.func103.trans (congrArg some (by kernel_rfl))
 f329:=Tryd.func99.trans (congrArg some (by kernel_rfl))
 f330:=Tryd.func100.trans (congrArg some (by kernel_rfl))
 f331:=Tryd.func104.trans (congrArg some (by kernel_rfl))
 f332:=Tryd.func105.trans (congrArg some (by kernel_rfl))
 f343:=Tryd.func108.trans (congrArg some (by kernel_rfl))
 t0:=Tryd.underlying0
 a0:=Tryd.isAgg0
 z0:=Tryd.sizeOf0
 v0:=Tryd.zeroValue0
 t3:=Tryd.underlying3
 a3:=Tryd.isAgg3
 z3:=Tryd.sizeOf3
 v3:=Tryd.zeroValue3
 t4:=Tryd.underlying4
 a4:=Tryd.isAgg4
 z4:=Tryd.sizeOf4
 v4:=Tryd.zeroValue4
 t5:=Tryd.underlying5
 a5:=Tryd.isAgg5
 z5:=Tryd.sizeOf5
 v5:=Tryd.zeroValue5
 t9:=Tryd.underlying9
 a9:=Tryd.isAgg9
 z9:=Tryd.sizeOf9
 v9:=Tryd.zeroValue9
 t28:=Tryd.underlying25
 a28:=Tryd.isAgg25
 z28:=Tryd.sizeOf25
 v28:=Tryd.zeroValue25
 t46:=Tryd.underlying100
 a46:=Tryd.isAgg100
 z46:=Tryd.sizeOf100
 v46:=Tryd.zeroValue100
 t51:=Tryd.underlying99
 a51:=Tryd.isAgg99
 z51:=Tryd.sizeOf99
 v51:=Tryd.zeroValue99
 t53:=Tryd.underlying118
 a53:=Tryd.isAgg118
 z53:=Tryd.sizeOf118
 v53:=Tryd.zeroValue118
 t131:=Tryd.underlying114
 a131:=Tryd.isAgg114
 z131:=Tryd.sizeOf114
 v131:=Tryd.zeroValue114
 t182:=Tryd.underlying109
 a182:=Tryd.isAgg109
 z182:=Tryd.sizeOf109
 v182:=Tryd.zeroValue109
 t183:=Tryd.underlying110
 a183:=Tryd.isAgg110
 z183:=Tryd.sizeOf110
 v183:=Tryd.zeroValue110
 t218:=Tryd.underlying128
 a218:=Tryd.isAgg128
 z218:=Tryd.sizeOf128
 v218:=Tryd.zeroValue128
 t222:=Tryd.underlying132
 a222:=Tryd.isAgg132
 z222:=Tryd.sizeOf132
 v222:=Tryd.zeroValue132
 t228:=Tryd.underlying137
 a228:=Tryd.isAgg137
 z228:=Tryd.sizeOf137
 v228:=Tryd.zeroValue137
 t229:=Tryd.underlying138
 a229:=Tryd.isAgg138
 z229:=Tryd.sizeOf138
 v229:=Tryd.zeroValue138 }
open Go.Sort Go.RowKit in
theorem Tryd.slices_Sort_int (blk off cap:Nat) (zs:List Int) (w:World) (hH:Holds (Value.int .i64) w blk off zs.toArray) (hblk:blk < w.heap.size) (hsz:zs.length < 4611686018427387904) :
 Calls Tryd.prog 63 #[.slice (some ⟨blk,off,none⟩) zs.length cap] w fun e w'=>
  e = .returned (.tuple #[])∧∃ n os,w'=grow (putRow (Value.int .i64) (Sort.ahead w n) blk off (zs.mergeSort fun x y=>decide (x≤y)).toArray) os:=Any.slices_Sort_int Tryd.lays189 blk off cap zs w hH hblk hsz
end Go.Proofs
