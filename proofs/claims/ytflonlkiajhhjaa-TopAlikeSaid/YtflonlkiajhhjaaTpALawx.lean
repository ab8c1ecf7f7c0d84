/- Made from wip. -/
import Derived.Test.YtflonlkiajhhjaaTpChunk
import Derived.Test.YtflonlkiajhhjaaTpAJoinx
import Derived.Test.YtflonlkiajhhjaaBkCellsx
import Derived.Test.YtflonlkiajhhjaaSpYield
import Derived.Test.YtflonlkiajhhjaaSpObjx
import Derived.KernelRfl

namespace Go.Proofs
open Go Go.RowKit Go.Shelf Go.Sp Go.TpA Go.Proofs.Ytflonlkiajhhjaa.TpA
attribute [local go_sem] Oper.semAt_some

noncomputable section
def Ha:List (List Value):=[]
def Gm (c x:Nat) (zs:List Int):List Int:=zs.take (x*c)++(((zs.drop (x*c)).take c).reverse++zs.drop (x*c+c))
def Gp (zs:List Int):Aa:=((Ao Ha).push (.cells [] false false [])).push (.cells (AP QF zs) false false [])
def Iy (c:Nat) {r:Nat} (zs:List Int) (xs:List (Fin r)):List Int:=xs.foldl (fun zs x=>Gm c x.1 zs) zs
end
set_option maxHeartbeats 1000000 in
theorem Yd (F:Fence) (n:Nat) (h97:F.fn 107) (hro:F.round=none) (a:Option Addr) (len cap c:Nat) (hc:1≤c) (hc4:c≤4) (w:World) :
 CallsIn F n Try.prog 107 #[.slice a len cap,.int .i64 c] w fun e w'=>e = .returned (.func (.func 114) #[] #[.pointer (some ⟨w.heap.size,0,none⟩),.pointer (some ⟨w.heap.size+1,0,none⟩)])∧w'=(w.alloc (.cells #[.slice a len cap] 23)).alloc (.cells #[.int .i64 c] 3):=by
 refine callsIn_of_wp Try.func107 rfl h97 ?_ hro
 simp only[Try.ntmps107,List.size_toArray,List.length_cons,List.length_nil,Nat.reduceAdd,Nat.reduceSub,Array.replicate_succ,Array.replicate_zero,List.push_toArray,List.append_toArray,List.nil_append,List.cons_append]
 gi_wp2
 go_ret
 exact⟨rfl,rfl⟩
def AeX (Bs Bn:Nat) (A B:World):Prop:=B.heap[Bs]?=A.heap[Bs]?∧B.heap[Bn]?=A.heap[Bn]?
theorem Qq (n:Nat) (hn:1≤n) (Bs Bn b off r c N cap:Nat) (hr:0 < r) (hc:1≤c) (hc4:c≤4) (hN:N=r*c) (hrc:N≤16) (hcap:N≤cap) (w:World) (hBs:Bs < w.heap.size) (hBn:Bn < w.heap.size)
 (h1:w.cell? ⟨Bs,0,none⟩=some (.slice (some ⟨b,off,none⟩) N cap)) (h2:w.cell? ⟨Bn,0,none⟩=some (.int .i64 c)) :
 SeqStopsK Fence.wide n Try.prog 114 #[.pointer (some ⟨Bs,0,none⟩),.pointer (some ⟨Bn,0,none⟩)] (fun x:Fin r=>#[.slice (some ⟨b,off+x.1*c,none⟩) c c]) (AeX Bs Bn) (fun xs=>xs=Kg hr r) (fun _=>True) r w:=fun l J Jx W hW hJ hJx hY h0=>by
 have hs:=(World.cell?_of_block (w:=w) (a:=⟨Bs,0,none⟩) (hW.block Bs hBs)).trans h1
 have hb:=(World.cell?_of_block (w:=w) (a:=⟨Bn,0,none⟩) (hW.block Bn hBn)).trans h2
 refine (WP Fence.wide n trivial rfl hn l Bs Bn b off r c N cap hr hc hc4 hN hrc hcap J Jx (fun s A h => hJ s A A.drew none h ⟨rfl, rfl, rfl, Nat.le_refl _, fun _ _ _ => rfl⟩ (fun r e => by cases e))
  (fun pre x W1 hj hl=>(hY pre x W1 hj hl).mono fun e W' h=>?_) W hs hb h0).mono fun e W' ⟨he,h⟩=>⟨he,?_⟩
 ·rcases h with⟨he,hj,k1,k2⟩ | h
  ·exact .inl ⟨he,hj,World.cell?_of_block k1,World.cell?_of_block k2⟩
  ·exact .inr h
 ·exact h

noncomputable def R4:List (Nat×Nat×Nat):=[1,2,3,4].flatMap fun r=>[1,2,3,4].flatMap fun c=>(Go.BkQ.upN r).map fun x=>(r,c,x)
theorem vR (z:Nat→Int):AP (fun p:Nat×Nat×Nat=>Cr tt HV 40 83 [.slice (some ⟨1,p.2.2*p.2.1,some 1⟩) p.2.1 (2*p.2.1)] (Gp (AP z (Go.BkQ.upN (p.1*p.2.1))))) R4=AP (fun p:Nat×Nat×Nat=>some (.tuple ⟨[]⟩,Gp (Gm p.2.1 p.2.2 (AP z (Go.BkQ.upN (p.1*p.2.1)))))) R4:=by kernel_rfl
theorem WQ:∀ n,Go.BkQ.upN n=List.range n
 | 0=>rfl
 | n + 1 => by
  rw[List.range_succ,←WQ n,←BH];rfl
theorem R5 {n:Nat} {zs:List Int} (hz:zs.length=n):AP (fun i=>zs.getD i 0) (Go.BkQ.upN n)=zs:=by
 rw[Cc,WQ,←hz]
 apply List.ext_getElem
 ·simp
 ·intro i h1 h2
  simp[List.getD_eq_getElem?_getD,h2]
theorem AeY {r c:Nat} (hr:1≤r) (hr4:r≤4) (hc:1≤c) (hc4:c≤4) (zs:List Int) (hz:zs.length=r*c) (x:Nat) (hx:x < r) :
 Cr tt HV 40 83 [.slice (some ⟨1,x*c,some 1⟩) c (2*c)] (Gp zs)=some (.tuple ⟨[]⟩,Gp (Gm c x zs)):=by
 have h4:∀ n,1≤n→n≤4→n∈[1,2,3,4]:=fun n h1 h2=>by
  obtain rfl | rfl | rfl | rfl:n=1∨n=2∨n=3∨n=4:=by omega
  all_goals simp
 have hm:(r,c,x)∈R4:=List.mem_flatMap.2 ⟨r,h4 r hr hr4,List.mem_flatMap.2 ⟨c,h4 c hc hc4,List.mem_map.2 ⟨x,by rw[WQ];exact List.mem_range.2 hx,rfl⟩⟩⟩
 have e:AP (fun i=>zs.getD i 0) (Go.BkQ.upN (r*c))=zs:=R5 hz
 have h:=vR fun i=>zs.getD i 0
 rw[Cc,Cc] at h
 have h:=List.map_inj_left.1 h _ hm
 have h:Cr tt HV 40 83 [.slice (some ⟨1,x*c,some 1⟩) c (2*c)] (Gp (AP (fun i=>zs.getD i 0) (Go.BkQ.upN (r*c))))=some (.tuple ⟨[]⟩,Gp (Gm c x (AP (fun i=>zs.getD i 0) (Go.BkQ.upN (r*c))))):=h
 rw[e] at h
 exact h
def JO:List Nat:=[1,2,3,4,6,8,9,12,16]
theorem WR {r c:Nat} (hr:1≤r) (hr4:r≤4) (hc:1≤c) (hc4:c≤4):r*c∈JO:=by
 obtain rfl | rfl | rfl | rfl:r=1∨r=2∨r=3∨r=4:=by omega
 all_goals
  obtain rfl | rfl | rfl | rfl:c=1∨c=2∨c=3∨c=4:=by omega
  all_goals decide
theorem WS (z:Nat→Int):AP (fun n=>Cr tt HV 40 106 [FP 1 n 0 (AP QF (AP z (Go.BkQ.upN n)))] (Ao Ha)) JO=AP (fun n=>some (.slice (some ⟨1,0,some 1⟩) n (2*n),Gp (AP z (Go.BkQ.upN n)))) JO:=by kernel_rfl
theorem Ye {r c:Nat} (hr:1≤r) (hr4:r≤4) (hc:1≤c) (hc4:c≤4) (zs:List Int) (hz:zs.length=r*c) :
 Cr tt HV 40 106 [FP 1 (r*c) 0 (AP QF zs)] (Ao Ha)=some (.slice (some ⟨1,0,some 1⟩) (r*c) (2*(r*c)),Gp zs):=by
 have h:=WS fun i=>zs.getD i 0
 rw[Cc,Cc] at h
 have h:=List.map_inj_left.1 h _ (WR hr hr4 hc hc4)
 have h:Cr tt HV 40 106 [FP 1 (r*c) 0 (AP QF (AP (fun i=>zs.getD i 0) (Go.BkQ.upN (r*c))))] (Ao Ha)=some (.slice (some ⟨1,0,some 1⟩) (r*c) (2*(r*c)),Gp (AP (fun i=>zs.getD i 0) (Go.BkQ.upN (r*c)))):=h
 rw[R5 hz] at h
 exact h
theorem Ux (zs:List Int) (i:Nat) (h:i < 2):∃ xs imm spent anc,(Gp zs).get i = .cells xs imm spent anc:=by
 obtain rfl | rfl:i=0∨i=1:=by omega
 ·exact⟨_,_,_,_,rfl⟩
 ·exact⟨_,_,_,_,rfl⟩
theorem Gv (zs:List Int):Qx (Gp zs):=fun i h=>Ux zs i h
theorem Qr {c x:Nat} {zs:List Int}:(Gm c x zs).length=zs.length:=by
 simp only[Gm,List.length_append,List.length_take,List.length_reverse,List.length_drop]
 omega
theorem O0 (c:Nat) {r:Nat} (zs:List Int) (xs:List (Fin r)) (x:Fin r):Iy c zs (xs++[x])=Gm c x.1 (Iy c zs xs):=by simp[Iy]
theorem O9 (c:Nat) {r:Nat} (zs:List Int) (xs:List (Fin r)):(Iy c zs xs).length=zs.length:=by
 unfold Iy
 induction xs generalizing zs with
 | nil=>rfl
 | cons x xs ih=>rw[List.foldl_cons,ih,Qr]

set_option maxRecDepth 100000 in
set_option maxHeartbeats 4000000 in
theorem Qs (hm:Try.prog.follows .mixedOrders=true) {r c N:Nat} (hr:1≤r) (hr4:r≤4) (hc:1≤c) (hc4:c≤4) (hN:N=r*c) {zs:List Int} (hz:zs.length=N) {R:Sp.Ren} {w:World} {args':List Value}
 (hR:R.f=fun i=>if i < Ha.length then some (i,0) else none) (hs:Ck (Ao Ha) R w) (ha:Cf R [FP 1 N 0 (AP QF zs),.int .i64 c] args') :
 Calls Try.prog 85 ⟨args'⟩ w fun e w'=>∃ u R',e = .returned u∧VR R' (.slice (some ⟨1,0,some 1⟩) N (2*N)) u∧Ba (Ao Ha) R w (Gp (Iy c zs (Kg hr r))) R' w':=by
 have hrc:N≤16:=by rw[hN];exact Nat.mul_le_mul hr4 hc4
 have hN1:1≤N:=by rw[hN];exact Nat.mul_le_mul hr hc
 have hgl:JH [] R:=fun g hg=>by cases hg
 obtain⟨u0,us,rfl,hu0,ha1⟩:=ha.uncons
 obtain⟨u1,us,rfl,hu1,hnil⟩:=ha1.uncons
 obtain rfl:=hnil.unnil
 have hu1:=hu1.int_l
 subst hu1
 have hclone:=((Rx FD QS hm 40) 106 _ _ _ _ (by rw[hN] at hz ⊢;exact Ye hr hr4 hc hc4 zs hz:Cr tt HV 40 106 [FP 1 N 0 (AP QF zs)] (Ao Ha)=some (.slice (some ⟨1,0,some 1⟩) N (2*N),Gp zs))).2 R w [u0] hs hgl (.one hu0)
 have hcl:Calls Try.prog 106 #[u0] w fun e w1=>∃ (cb β cap:Nat) (R1:Sp.Ren),e = .returned (.slice (some ⟨cb,β,none⟩) N cap)∧R1.f 1=some (cb,β)∧N≤cap∧β+cap≤R1.sz cb∧Ba (Ao Ha) R w (Gp zs) R1 w1:=by
  refine hclone.mono fun e w1 ⟨v1,R1,he,hv,hp⟩=>?_
  cases hv with
  | @sl _ _ _ _ _ cb β cap hf h1 h2 h3 h4=>exact⟨cb,β,cap,R1,by rw[he,Nat.add_zero],hf,by omega,by omega,hp⟩
  | slE h=>omega
  | slN h=>omega
 clear hclone
 have hck:=fun (a:Option Addr) (len cap:Nat) (w:World)=>Yd Fence.wide (10 - 1) trivial rfl a len cap c hc hc4 w
 have hNh:Hid (N=r*c):=hN
 clear hN
 refine callsIn_wide (n:=10).1 ?_
 refine callsIn_of_wp_marks Try.func85 rfl trivial ?_ rfl
 simp only[Try.ntmps85,List.size_toArray,List.length_cons,List.length_nil,Nat.reduceAdd,Nat.reduceSub,Array.replicate_succ,Array.replicate_zero,List.push_toArray,List.append_toArray,List.nil_append,List.cons_append]
 gi_wp2_with first
  | (refine⟨trivial,?_⟩;gi_at_call 106;refine(callsIn_wide.2 hcl).mono ?_;clear hcl;rintro e w1 ⟨cb,β,cap,R1,rfl,hf,hcap,hsz,hp1⟩)
  | (refine⟨trivial,?_⟩;gi_at_call 107;refine(hck _ _ _ _).mono ?_;rintro e w2 ⟨rfl,rfl⟩)
 obtain⟨w2,hw2⟩:∃ w2,(w1.alloc (.cells #[.slice (some ⟨cb,β,none⟩) N cap] 23)).alloc (.cells #[.int .i64 c] 3)=w2:=⟨_,rfl⟩
 have hsz2:w2.heap.size=w1.heap.size+2:=by rw[←hw2];simp
 have hcs:w2.cell? ⟨w1.heap.size,0,none⟩=some (.slice (some ⟨cb,β,none⟩) N cap):=by rw[←hw2];exact Uv _ (Qy w1 (.slice (some ⟨cb,β,none⟩) N cap) 23) (by simp)
 have hcn:w2.cell? ⟨w1.heap.size+1,0,none⟩=some (.int .i64 c):=by
  have:=Qy (w1.alloc (.cells #[.slice (some ⟨cb,β,none⟩) N cap] 23)) (.int .i64 c) 3
  rw[World.size_alloc] at this
  rw[←hw2];exact this
 have hp2:Ba (Ao Ha) R w (Gp zs) R1 w2:=by
  have hc1:=hp1.sim.cellsOnly (Gv zs)
  have hg1:=World.grownBy_alloc w1 (.cells #[.slice (some ⟨cb,β,none⟩) N cap] 23) none
  have hp:=hp1.grown hg1 (fun r e=>by cases e) hc1
  have hg2:=World.grownBy_alloc (w1.alloc (.cells #[.slice (some ⟨cb,β,none⟩) N cap] 23)) (.cells #[.int .i64 c] 3) none
  rw[←hw2]
  exact hp.grown hg2 (fun r e=>by cases e) (hp.sim.cellsOnly (Gv zs))
 have hdom:∀ id cc ββ,R1.f id=some (cc,ββ)→cc < w1.heap.size:=fun id cc ββ h=>(hp1.sim.dom id cc ββ h).2
 rw[hw2]
 have hgr:w.heap.size≤w2.heap.size:=hp2.grow
 refine wpIn_rangeFunc_ownF (α := Fin r) rfl (by omega) (gf := 114) (lb := #[.pointer (some ⟨w1.heap.size, 0, none⟩), .pointer (some ⟨w1.heap.size + 1, 0, none⟩)]) rfl trivial (enters_of Try.func114 (by kernel_rfl) rfl)
  (Qq (10 - 1) (by omega) w1.heap.size (w1.heap.size+1) cb β r c N cap hr hc hc4 hNh.out hrc hcap w2 (by omega) (by omega) hcs hcn) (fun h k=>⟨k.1.trans h.1,k.2.trans h.2⟩)
  (fun W l o o' hl ho hc1 _=>⟨World.putObj_heap_other (by omega),World.putObj_heap_other (by omega)⟩) (Below.refl _ _) (fun _=>rfl)
  (fun pre W=>∃ R2,Ba (Ao Ha) R w (Gp (Iy c zs pre)) R2 W∧R1.le R2∧R2.f=R1.f∧w2.heap.size≤W.heap.size)
  (fun _ _ _=>False)
  (fun s A B row ⟨R2,h1,h2,h3,h4⟩ hg hr=>⟨R2,h1.grown hg (fun r e=>⟨by have:=(hr r e).1;omega,(hr r e).2⟩) (h1.sim.cellsOnly (Gv _)),h2,h3,Nat.le_trans h4 hg.size⟩)
  (fun _ _ _ _ _ hs _ _=>hs)
  ⟨R1,hp2,R1.le_refl,rfl,Nat.le_refl _⟩
  (fun x => { tmps := #[u0, Value.int IntKind.i64 ↑c, undef, undef, Value.slice none 0 0, Value.slice (some ⟨cb, β, none⟩) N cap, .slice (some ⟨cb, β + x.1 * c, none⟩) c c, u0, Value.slice (some ⟨cb, β, none⟩) N cap, Value.slice (some ⟨cb, β, none⟩) N cap, Value.int IntKind.i64 ↑c,
    Value.func (Fn.func 114) #[] #[Value.pointer (some ⟨w1.heap.size,0,none⟩),Value.pointer (some ⟨w1.heap.size+1,0,none⟩)],.slice (some ⟨cb,β+x.1*c,none⟩) c c,undef,undef,undef],defers:=[] }) ?assign ?body ?done ?stop
 case assign=>
  intro l x W K hK
  gi_wp2
  exact hK
 case body=>
  rintro l pre x W ⟨R2,h1,h2,h3,hWs⟩ hlt
  have hx:x.1*c+c≤N:=by rw[hNh.out,←Nat.succ_mul];exact Nat.mul_le_mul_right c x.2
  have hrun:=AeY hr hr4 hc hc4 (Iy c zs pre) (by rw[O9,hz];exact hNh.out) x.1 x.2
  have hgl2:JH [] R2:=fun g hg=>by cases hg
  have hrev := ((Rx FD QS hm 40) 83 _ _ _ _ hrun).2 R2 W [.slice (some ⟨cb, β + x.1 * c, none⟩) c c] h1.sim hgl2 (.one (.sl (by rw [h3]; exact hf) (by omega) (by omega) (fun h => by omega) (by
   have:=(h2.up 1 cb β hf).2
   rw[this];omega)))
  have hrev2:Calls Try.prog 83 #[.slice (some ⟨cb,β+x.1*c,none⟩) c c] W fun e W'=>e = .returned (.tuple #[])∧KeepsOthers W W'∧AeX w1.heap.size (w1.heap.size+1) W W'∧∃ R3,Ba (Ao Ha) R w (Gp (Iy c zs (pre++[x]))) R3 W'∧R1.le R3∧R3.f=R1.f∧w2.heap.size≤W'.heap.size:=by
   refine hrev.mono fun e W' ⟨u,R3,he,hu,hp⟩=>?_
   have hbox:∀ k,w1.heap.size≤k→k < W.heap.size→W'.heap[k]?=W.heap[k]?:=fun k hk hk2=>hp.frame k hk2 fun id ββ h=>by
    rw[h3] at h;have:=hdom id k ββ h;omega
   have hf3:R3.f=R2.f:=hp.sameF rfl
   have hW:w2.heap.size≤W.heap.size:=hWs
   obtain⟨us,rfl,hul⟩:=hu.tuple_l
   have hus:us=[]:=by have:=hul.1;simpa using this.symm
   subst hus
   refine⟨he,hp.keepsOthers (h1.sim.cellsOnly (Gv _)),⟨hbox _ (Nat.le_refl _) (by omega),hbox _ (by omega) (by omega)⟩,R3,?_,Sp.Ren.le_trans h2 hp.le,hf3.trans h3,Nat.le_trans hWs hp.grow⟩
   rw[O0]
   exact h1.trans hp hs
  clear hrev
  gi_wp2_with (refine⟨trivial,?_⟩;gi_at_call 83;refine(CallsIn.inRound l (callsIn_wide.2 hrev2)).mono ?_;clear hrev2;rintro e W' ⟨rfl,hk,hkp,hI⟩)
  exact⟨hk,hkp,hI⟩
 case done=>
  rintro D ys W hD rfl ⟨R2,h1,h2,h3,_⟩ hK
  gi_wp2
  refine⟨by simp,.inl ⟨_,_,rfl,run_takeDeferred hK,?_⟩⟩
  refine⟨_,results_tmp rfl _ _ _,_,R2,rfl,?_,?_⟩
  ·exact .sl (β := β) (off := 0) (by rw [h3]; exact hf) (by omega) (by omega) (fun h => by omega) (by
    have:=(h2.up 1 cb β hf).2
    rw[this];omega)
  ·exact h1.grown (grownBy_putObj' W D _) (fun r e=>by cases e;exact⟨by omega,_,hK,rfl⟩) (h1.sim.cellsOnly (Gv _))
 case stop=>
  rintro D c pre W _ _ h _
  exact h.elim
noncomputable section
def Qu (c:Nat) (zs:List Int) (r:Nat):List Int:=Nat.rec (motive:=fun _=>List Int) zs (fun k ih=>Gm c k ih) r
def K7 (args:List Value):Option Value:=ll args none fun a r=>ll r none fun b r=>ll r (oo (Bj 1 a) none fun s=>oo (Bi .i64 b) none fun z=>oo (EA z) none fun c=>oo (CG (Bi .i64) s.cs) none fun zs=>
 bb (an (Nat.beq s.fl 0) (an (Nat.ble 1 c) (an (Nat.ble c 4) (an (Nat.ble c s.n) (an (Nat.ble (s.n / c) 4) (an (Nat.beq (s.n / c*c) s.n) (Nat.beq (len zs) s.n))))))) (some (FP 1 s.n 0 (AP QF (Qu c zs (s.n / c))))) none) fun _ _=>none
end
theorem O1 (c:Nat) {r:Nat} (hr:0 < r) (zs:List Int):∀ k,k≤r→Iy c zs (Kg hr k)=Qu c zs k
 | 0,_=>rfl
 | k + 1, h => by
  rw[O8,O0,O1 c hr zs k (by omega)]
  show Gm c (k % r) _=Gm c k _
  rw[Nat.mod_eq_of_lt h];rfl
theorem vS (z:Nat→Int):AP (fun n=>oo (Cq 0 false (.slice (some ⟨1,0,some 1⟩) n (2*n)) (Gp (AP z (Go.BkQ.upN n)))) none (fun p=>pp p fun v _=>some v)) JO=AP (fun n=>some (FP 1 n 0 (AP QF (AP z (Go.BkQ.upN n))))) JO:=by kernel_rfl
theorem AeZ {r c:Nat} (hr:1≤r) (hr4:r≤4) (hc:1≤c) (hc4:c≤4) (zs:List Int) (hz:zs.length=r*c) :
 oo (Cq 0 false (.slice (some ⟨1,0,some 1⟩) (r*c) (2*(r*c))) (Gp zs)) none (fun p=>pp p fun v _=>some v)=some (FP 1 (r*c) 0 (AP QF zs)):=by
 have h:=vS fun i=>zs.getD i 0
 rw[Cc,Cc] at h
 have h:=List.map_inj_left.1 h _ (WR hr hr4 hc hc4)
 have h:oo (Cq 0 false (.slice (some ⟨1,0,some 1⟩) (r*c) (2*(r*c))) (Gp (AP (fun i=>zs.getD i 0) (Go.BkQ.upN (r*c))))) none (fun p=>pp p fun v _=>some v)=some (FP 1 (r*c) 0 (AP QF (AP (fun i=>zs.getD i 0) (Go.BkQ.upN (r*c))))):=h
 rw[R5 hz] at h
 exact h
theorem WT (n:Nat) (zs:List Int):Fe (FP 1 n 0 (AP QF zs))=true:=rfl
theorem RO {vs:List Value} {zs:List Int} (h:CG (Bi .i64) vs=some zs):vs=AP QF zs:=by
 obtain⟨h1,h2⟩:=Di h
 rw[sZ]
 refine List.ext_getElem? fun i=>?_
 rw[List.getElem?_map]
 cases hv:vs[i]? with
 | none=>rw[List.getElem?_eq_none (by rw[h1];exact List.getElem?_eq_none_iff.1 hv)];rfl
 | some v =>
  obtain⟨b,h3,h4⟩:=h2 i v hv
  rw[h3,Eh h4];rfl
theorem Uy (hm:Try.prog.follows .mixedOrders=true):BA Try.prog Ha 85 K7:=by
 refine⟨enters_of Try.func85 (by kernel_rfl) rfl,fun args v hv hcl R w args' hR hs ha=>?_⟩
 replace hv:=Ad hv;obtain⟨a,r1,rfl,hv⟩:=hv
 replace hv:=Ad hv;obtain⟨b,r2,rfl,hv⟩:=hv
 replace hv:=AC hv;obtain⟨rfl,hv⟩:=hv
 replace hv:=Ab hv;obtain⟨s,h1,hv⟩:=hv
 replace hv:=Ab hv;obtain⟨z,h2,hv⟩:=hv
 replace hv:=Ab hv;obtain⟨c,h3,hv⟩:=hv
 replace hv:=Ab hv;obtain⟨zs,h4,hv⟩:=hv
 replace hv:=Ae hv;obtain⟨hc,hv⟩:=hv
 injection hv with hv
 obtain⟨n,fl,cs⟩:=s
 obtain⟨c0,hc⟩:=Av hc
 obtain⟨c1,hc⟩:=Av hc
 obtain⟨c2,hc⟩:=Av hc
 obtain⟨c3,hc⟩:=Av hc
 obtain⟨c4,hc⟩:=Av hc
 obtain⟨c5,c6⟩:=Av hc
 replace c0:fl=0:=Nat.eq_of_beq_eq_true c0
 replace c1:=Nat.le_of_ble_eq_true c1
 replace c2:=Nat.le_of_ble_eq_true c2
 replace c3:c≤n:=Nat.le_of_ble_eq_true c3
 replace c4:n / c≤4:=Nat.le_of_ble_eq_true c4
 replace c5:n / c*c=n:=Nat.eq_of_beq_eq_true c5
 replace c6:len zs=n:=Nat.eq_of_beq_eq_true c6
 rw[AV] at c6
 subst c0
 obtain rfl:=Qh h1
 obtain rfl:=Eh h2
 obtain rfl:=AR h3
 replace h4:cs=AP QF zs:=RO h4
 subst h4
 have hr:1≤n / c:=Nat.div_pos c3 c1
 have hcalls:=Qs hm hr c4 c1 c2 c5.symm c6 hR hs ha
 refine hcalls.mono fun e w' ⟨u,R1,he,hu,hp⟩=>?_
 rw[O1 c hr zs (n / c) (Nat.le_refl _)] at hp
 have hfz0:=AeZ hr c4 c1 c2 (Qu c zs (n / c)) (by rw[←O1 c hr zs (n / c) (Nat.le_refl _),O9,c6,c5])
 rw[c5] at hfz0
 obtain⟨⟨v2,H2⟩,hfz,hfz1⟩:=Ab hfz0
 injection (show some v2=_ from hfz1) with hfz1
 subst hfz1
 obtain⟨R2,_,_,k2,k3⟩:=Gg hfz hs (Nat.le_refl _) hp hu
 subst hv
 exact⟨u,H2,R2,he,WT _ _,k3,k2⟩
end Go.Proofs
set_option maxRecDepth 100000
set_option maxHeartbeats 0
namespace Go.Proofs.Ytflonlkiajhhjaa.TpA
open Go Go.Sp Go.TpA Go.TpAM Go.BkQ
noncomputable section
def isA:FuncId→Bool:=fun _=>false
def puA:Af:=fun _ _=>none
def vT:A8:=fun g args H=>bb (Nat.beq g 85) (Hr tabs 1 K7 args H) none
def evL (n:Nat) (g:FuncId) (args:List Value):Option (Value×Aa):=Mw tabs isA puA vT tt HV n g args (Ao tabs)
def vU (v3 v4:Value) (p:Nat×Nat×Nat):Option Value:=(fun r=>oo (kN 0 r) (kP r) fun v=>some v) (evL 100 64 [.agg ⟨[IV (.ofNat p.1),IV (.ofNat p.2.1),v3,v4]⟩,IV (.ofNat p.2.2)])
end
theorem Um (hm:Try.prog.follows .mixedOrders=true):BA Try.prog tabs 85 K7:=Uy hm
theorem qA:∀ g,isA g=true→BA Try.prog tabs g (puA g):=fun g h=>by cases h
theorem iA (hm:Try.prog.follows .mixedOrders=true):CO Try.prog (List.range tabs.length) vT:=fun g args H v H' h=>by
 obtain⟨e,h⟩:=Ae (show bb (Nat.beq g 85) (Hr tabs 1 K7 args H) none=some (v,H') from h)
 obtain rfl:=Nat.eq_of_beq_eq_true e
 exact Og Fb Fh (Um hm) h
theorem RP {α β:Type} {f g:α→β}:∀ {l:List α},AP f l=AP g l→∀ x∈l,f x=g x
 | [],_,_,h=>by cases h
 | a :: l, h, x, hx => by
  injection (show f a::AP f l=g a::AP g l from h) with h1 h2
  cases hx with
  | head=>exact h1
  | tail _ hx=>exact RP h2 x hx
theorem Ae0 (v3 v4:Value):AP (vU v3 v4) triples=AP (fun p=>some (XZ (cellL p.1 p.2.1 p.2.2))) triples:=by kernel_rfl
theorem Ag2 (hm:Try.prog.follows .mixedOrders=true):BA Try.prog tabs 64 cellsM:=by
 refine I5 (tabs:=tabs) (n:=100) (g:=64) (H:=Ao tabs) (isP:=isA) (pu:=puA) (inl:=vT) FD Fb Fh QS hm qA (iA hm) (fun i=>rfl) rfl (A9 ZO) fun args v h=>?_
 obtain⟨r,c,t,v3,v4,rfl,hp,rfl⟩:=RU h
 have hr:=RP (Ae0 v3 v4) (r,c,t) hp
 replace hr:oo (kN 0 (evL 100 64 [.agg ⟨[IV (.ofNat r),IV (.ofNat c),v3,v4]⟩,IV (.ofNat t)])) (kP (evL 100 64 [.agg ⟨[IV (.ofNat r),IV (.ofNat c),v3,v4]⟩,IV (.ofNat t)])) (fun v=>some v)=some (XZ (cellL r c t)):=hr
 refine⟨rfl,?_⟩
 cases hf:kN 0 (evL 100 64 [.agg ⟨[IV (.ofNat r),IV (.ofNat c),v3,v4]⟩,IV (.ofNat t)]) with
 | some w=>rw[hf,Ac] at hr;injection hr with hr;subst hr;exact .inr hf
 | none=>rw[hf,Az] at hr;exact .inl hr
theorem hw (hm:Try.prog.follows .mixedOrders=true):BA Try.prog tabs 64 Sq∧BA Try.prog tabs 85 Sz∧BA Try.prog tabs 9 X3:=⟨Ag2 hm,⟨(Um hm).1,fun _ _ h=>by cases h⟩,⟨A9 uN,fun _ _ h=>by cases h⟩⟩
noncomputable def Uz:Af:=RX 30
theorem vV (hm:Try.prog.follows .mixedOrders=true):∀ g,isP g=true→BA Try.prog tabs g (Uz g):=(RZ hm (hw hm) 30).1
theorem i0 (hm:Try.prog.follows .mixedOrders=true):CO Try.prog (List.range tabs.length) (inl Uz):=by
 obtain⟨_,h1,h2,h3,h4,h5,h6,h7,h8,h9,hA,hB,hC,hD⟩:=RZ hm (hw hm) 30
 exact RY hm (pu:=Uz) h1 h2 h3 h4 h5 h6 h7 h8 h9 hA hB hC hD
noncomputable section
def ev0 (n:Nat) (g:FuncId) (args:List Value):Option (Value×Aa):=Mw tabs isP Uz (inl Uz) tt HV n g args (KF tabs)
end
theorem Ae1:kP (ev0 4000 26 [])=some (.bool true):=by kernel_rfl
theorem Ag3 (hm:Try.prog.follows .mixedOrders=true):BA Try.prog tabs 26 O7:=by
 refine I5 (tabs:=tabs) (n:=4000) (g:=26) (H:=KF tabs) (isP:=isP) (pu:=Uz) (inl:=inl Uz) FD Fb Fh QS hm (vV hm) (i0 hm) (fun i=>RN i) rfl (A9 Zz) fun args v h=>?_
 replace h:=AC h;obtain⟨rfl,h⟩:=h
 injection h with h;subst h
 exact⟨rfl,.inl Ae1⟩
noncomputable section
def isW:FuncId→Bool:=fun g=>Dp (Nat.beq g 26) (an (isP g) (nt (Nat.beq g 9)))
def vW:Af:=fun g=>bb (Nat.beq g 26) O7 (Uz g)
def evW (n:Nat) (g:FuncId) (args:List Value):Option (Value×Aa):=Mw tabs isW vW (inl Uz) tt HV n g args (KF tabs)
end
theorem R6 {a b:Nat} (h:a≠b):Nat.beq a b=false:=by
 cases e:Nat.beq a b with
 | false=>rfl
 | true=>exact absurd (Nat.eq_of_beq_eq_true e) h
theorem Ag5 (hm:Try.prog.follows .mixedOrders=true):∀ g,isW g=true→BA Try.prog tabs g (vW g):=fun g hg=>by
 by_cases e:g=26
 ·subst e
  have:vW 26=O7:=by unfold vW;rw[show Nat.beq 26 26=true from rfl,Ak]
  rw[this];exact Ag3 hm
 ·have:vW g=Uz g:=by unfold vW;rw[R6 e,AA]
  rw[this]
  have h:Dp (Nat.beq g 26) (an (isP g) (nt (Nat.beq g 9)))=true:=hg
  rw[R6 e] at h
  exact vV hm g (Av (show an (isP g) (nt (Nat.beq g 9))=true from h)).1
theorem Ag6:kP (evW 4000 9 [])=some (.bool true):=by kernel_rfl
theorem ok9 (hm:Try.prog.follows .mixedOrders=true):BA Try.prog tabs 9 O7:=by
 refine I5 (tabs:=tabs) (n:=4000) (g:=9) (H:=KF tabs) (isP:=isW) (pu:=vW) (inl:=inl Uz) FD Fb Fh QS hm (Ag5 hm) (i0 hm) (fun i=>RN i) rfl (A9 uN) fun args v h=>?_
 replace h:=AC h;obtain⟨rfl,h⟩:=h
 injection h with h;subst h
 exact⟨rfl,.inl Ag6⟩
noncomputable def puB:Af:=fun g=>bb (Nat.beq g 9) O7 (Uz g)
theorem eB (g:FuncId) (h:Nat.beq g 9=false):puB g=Uz g:=by unfold puB;rw[h,AA]
theorem eB9:puB 9=O7:=by unfold puB;rw[show Nat.beq 9 9=true from rfl,Ak]
theorem Ag7 (hm:Try.prog.follows .mixedOrders=true):∀ g,isP g=true→BA Try.prog tabs g (puB g):=fun g hg=>by
 by_cases e:g=9
 ·subst e;rw[eB9];exact ok9 hm
 ·rw[eB g (R6 e)];exact vV hm g hg
theorem hcB (hm:Try.prog.follows .mixedOrders=true):CO Try.prog (List.range tabs.length) (Bb tabs isP puB (inl puB)):=by
 obtain⟨_,h1,h2,h3,h4,h5,h6,h7,h8,h9,hA,hB,hC,hD⟩:=RZ hm (hw hm) 30
 exact TG (P := Try.prog) (tabs := tabs) (pu := puB) Fb Fh (RY hm (pu := puB) (by rw [eB 85 rfl]; exact h1) (by rw [eB 19 rfl]; exact h2) (by rw [eB 10050 rfl]; exact h3) (by rw [eB 10230 rfl]; exact h4) (by rw [eB 10510 rfl]; exact h5)
  (by rw[eB 10740 rfl];exact h6) (by rw[eB 10440 rfl];exact h7) (by rw[eB 10680 rfl];exact h8) (by rw[eB 10860 rfl];exact h9) (by rw[eB 10460 rfl];exact hA) (by rw[eB 10480 rfl];exact hB) (by rw[eB 10710 rfl];exact hC) (by rw[eB 11020 rfl];exact hD)) (Ag7 hm)
theorem lawOk (hm:Try.prog.follows .mixedOrders=true):BA Try.prog tabs 3 (m3 puB L):=Aw (tabs:=tabs) (f:=m3 puB L) FD hm (hcB hm) fk3 fun args v h hx=>r3 puB L rfl h hx
end Go.Proofs.Ytflonlkiajhhjaa.TpA
set_option maxRecDepth 100000
set_option maxHeartbeats 0
namespace Go.Proofs.Ytflonlkiajhhjaa.TpA
open Go Go.Sp Go.TpA Go.TpAM Go.BkQ
noncomputable section
def mxI (a b:Int):Int:=bb (AY a b) b a
def kd (x:Int):Int:=Int.tmod (Aj .i64 x) (4:Int)
def Ag8:Sl:=Sl.mk 8 0 [.int .i64 0,.int .i64 1,.int .i64 2,.int .i64 3,.int .i64 4,.int .i64 5,.int .i64 6,.int .i64 7]
def Pb (t0 t1 t2 t3:Int):Option Value:=V5 puB 1000 4 (2*4) (mxI (mxI (mxI (mxI 0 t0) t1) t2) t3) 2 2 4 Ag8 [.int .i64 t0,.int .i64 t1,.int .i64 t2,.int .i64 t3]
def vZ (o:Option Value):Bool:=oo o false fun v=>oo (Bf v) false fun b=>b
def four:List Int:=[0,1,2,3]
end
theorem early (x0 x1 x2 x3:Int):m3 puB L [.agg ⟨[.int .u8 x0,.int .u8 x1,.int .u8 x2,.int .u8 x3]⟩]=Pb (kd x0) (kd x1) (kd x2) (kd x3):=by kernel_rfl
theorem Ae2:Au (fun t1=>Au (fun t2=>Au (fun t3=>vZ (Pb 0 t1 t2 t3)) four) four) four=true:=by kernel_rfl
theorem Ae3:Au (fun t1=>Au (fun t2=>Au (fun t3=>vZ (Pb 1 t1 t2 t3)) four) four) four=true:=by kernel_rfl
theorem Ae4:Au (fun t1=>Au (fun t2=>Au (fun t3=>vZ (Pb 2 t1 t2 t3)) four) four) four=true:=by kernel_rfl
theorem Ae5:Au (fun t1=>Au (fun t2=>Au (fun t3=>vZ (Pb 3 t1 t2 t3)) four) four) four=true:=by kernel_rfl
theorem vX {o:Option Value} (h:vZ o=true):o=some (.bool true):=by
 unfold vZ at h
 cases o with
 | none=>cases h
 | some v =>
  replace h:oo (Bf v) false (fun b=>b)=true:=h
  cases hb:Bf v with
  | none=>rw[hb] at h;cases h
  | some b=>rw[hb,Ac] at h;subst h;rw[BV hb]
theorem K8 {x:Int} (h0:0≤x) (h1:x < 256):kd x∈four:=by
 have hx:Aj .i64 x=x:=by
  obtain⟨n,rfl⟩:=Int.eq_ofNat_of_zero_le h0
  have hn:n < 256:=by omega
  have:∀ m:Fin 256,Aj .i64 (.ofNat m.1) = .ofNat m.1:=by decide
  exact this ⟨n,hn⟩
 unfold kd
 rw[hx]
 have h2:0≤Int.tmod x 4:=Int.tmod_nonneg _ h0
 have h3:Int.tmod x 4 < 4:=Int.tmod_lt_of_pos _ (by omega)
 have:Int.tmod x 4=0∨Int.tmod x 4=1∨Int.tmod x 4=2∨Int.tmod x 4=3:=by omega
 rcases this with h | h | h | h <;> rw[h] <;> simp[four]
theorem Gn {p:Int→Bool} {l:List Int} (h:Au p l=true) {x:Int} (hx:x∈l):p x=true:=by
 rw[Bh] at h
 exact List.all_eq_true.1 h x hx
theorem Yf {t0 t1 t2 t3:Int} (h0:t0∈four) (h1:t1∈four) (h2:t2∈four) (h3:t3∈four):Pb t0 t1 t2 t3=some (.bool true):=by
 apply vX
 simp only[four,List.mem_cons,List.not_mem_nil,or_false] at h0
 rcases h0 with rfl | rfl | rfl | rfl
 ·exact Gn (Gn (Gn Ae2 h1) h2) h3
 ·exact Gn (Gn (Gn Ae3 h1) h2) h3
 ·exact Gn (Gn (Gn Ae4 h1) h2) h3
 ·exact Gn (Gn (Gn Ae5 h1) h2) h3
theorem alike_law {x0 x1 x2 x3:Int} (a0:0≤x0) (b0:x0 < 256) (a1:0≤x1) (b1:x1 < 256) (a2:0≤x2) (b2:x2 < 256) (a3:0≤x3) (b3:x3 < 256):m3 puB L [.agg ⟨[.int .u8 x0,.int .u8 x1,.int .u8 x2,.int .u8 x3]⟩]=some (.bool true):=by
 rw[early]
 exact Yf (K8 a0 b0) (K8 a1 b1) (K8 a2 b2) (K8 a3 b3)
theorem wfU {n:Int} (h:(Lit.int .u8 n).wf=true):0≤n∧n < 256:=by
 simp only[Lit.wf,Bool.and_eq_true,decide_eq_true_eq] at h
 have h1:(0:Int)≤n:=h.1
 have h2:n≤(255:Int):=h.2
 omega
end Go.Proofs.Ytflonlkiajhhjaa.TpA
