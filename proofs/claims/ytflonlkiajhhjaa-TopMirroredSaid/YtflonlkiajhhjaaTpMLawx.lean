/- Made from wip. -/
import Derived.Test.YtflonlkiajhhjaaTpChunk
import Derived.Test.YtflonlkiajhhjaaTpMJoinx
import Derived.Test.YtflonlkiajhhjaaBkCellsx
import Derived.Test.YtflonlkiajhhjaaSpYield
import Derived.Test.YtflonlkiajhhjaaSpObjx
import Derived.KernelRfl

namespace Go.Proofs
open Go Go.RowKit Go.Shelf Go.Sp Go.TpM Go.Proofs.Ytflonlkiajhhjaa.TpM
attribute [local go_sem] Oper.semAt_some

noncomputable section
def Gq:List (List Value):=[]
def DL (c x:Nat) (zs:List Int):List Int:=zs.take (x*c)++(((zs.drop (x*c)).take c).reverse++zs.drop (x*c+c))
def Eb (zs:List Int):Aa:=((Ao Gq).push (.cells [] false false [])).push (.cells (AP Po zs) false false [])
def G9 (c:Nat) {r:Nat} (zs:List Int) (xs:List (Fin r)):List Int:=xs.foldl (fun zs x=>DL c x.1 zs) zs
end
set_option maxHeartbeats 1000000 in
theorem Yy (F:Fence) (n:Nat) (h97:F.fn 107) (hro:F.round=none) (a:Option Addr) (len cap c:Nat) (hc:1≤c) (hc4:c≤4) (w:World) :
 CallsIn F n Try.prog 107 #[.slice a len cap,.int .i64 c] w fun e w'=>e = .returned (.func (.func 114) #[] #[.pointer (some ⟨w.heap.size,0,none⟩),.pointer (some ⟨w.heap.size+1,0,none⟩)])∧w'=(w.alloc (.cells #[.slice a len cap] 23)).alloc (.cells #[.int .i64 c] 3):=by
 refine callsIn_of_wp Try.func107 rfl h97 ?_ hro
 simp only[Try.ntmps107,List.size_toArray,List.length_cons,List.length_nil,Nat.reduceAdd,Nat.reduceSub,Array.replicate_succ,Array.replicate_zero,List.push_toArray,List.append_toArray,List.nil_append,List.cons_append]
 gi_wp2
 go_ret
 exact⟨rfl,rfl⟩
def AgO (Bs Bn:Nat) (A B:World):Prop:=B.heap[Bs]?=A.heap[Bs]?∧B.heap[Bn]?=A.heap[Bn]?
theorem Pb (n:Nat) (hn:1≤n) (Bs Bn b off r c N cap:Nat) (hr:0 < r) (hc:1≤c) (hc4:c≤4) (hN:N=r*c) (hrc:N≤16) (hcap:N≤cap) (w:World) (hBs:Bs < w.heap.size) (hBn:Bn < w.heap.size)
 (h1:w.cell? ⟨Bs,0,none⟩=some (.slice (some ⟨b,off,none⟩) N cap)) (h2:w.cell? ⟨Bn,0,none⟩=some (.int .i64 c)) :
 SeqStopsK Fence.wide n Try.prog 114 #[.pointer (some ⟨Bs,0,none⟩),.pointer (some ⟨Bn,0,none⟩)] (fun x:Fin r=>#[.slice (some ⟨b,off+x.1*c,none⟩) c c]) (AgO Bs Bn) (fun xs=>xs=Jg hr r) (fun _=>True) r w:=fun l J Jx W hW hJ hJx hY h0=>by
 have hs:=(World.cell?_of_block (w:=w) (a:=⟨Bs,0,none⟩) (hW.block Bs hBs)).trans h1
 have hb:=(World.cell?_of_block (w:=w) (a:=⟨Bn,0,none⟩) (hW.block Bn hBn)).trans h2
 refine (XP Fence.wide n trivial rfl hn l Bs Bn b off r c N cap hr hc hc4 hN hrc hcap J Jx (fun s A h => hJ s A A.drew none h ⟨rfl, rfl, rfl, Nat.le_refl _, fun _ _ _ => rfl⟩ (fun r e => by cases e))
  (fun pre x W1 hj hl=>(hY pre x W1 hj hl).mono fun e W' h=>?_) W hs hb h0).mono fun e W' ⟨he,h⟩=>⟨he,?_⟩
 ·rcases h with⟨he,hj,k1,k2⟩ | h
  ·exact .inl ⟨he,hj,World.cell?_of_block k1,World.cell?_of_block k2⟩
  ·exact .inr h
 ·exact h

noncomputable def QF:List (Nat×Nat×Nat):=[1,2,3,4].flatMap fun r=>[1,2,3,4].flatMap fun c=>(Go.BkQ.upN r).map fun x=>(r,c,x)
theorem wM (z:Nat→Int):AP (fun p:Nat×Nat×Nat=>Cr tt Gs 40 83 [.slice (some ⟨1,p.2.2*p.2.1,some 1⟩) p.2.1 (2*p.2.1)] (Eb (AP z (Go.BkQ.upN (p.1*p.2.1))))) QF=AP (fun p:Nat×Nat×Nat=>some (.tuple ⟨[]⟩,Eb (DL p.2.1 p.2.2 (AP z (Go.BkQ.upN (p.1*p.2.1)))))) QF:=by kernel_rfl
theorem XQ:∀ n,Go.BkQ.upN n=List.range n
 | 0=>rfl
 | n + 1 => by
  rw[List.range_succ,←XQ n,←BH];rfl
theorem QG {n:Nat} {zs:List Int} (hz:zs.length=n):AP (fun i=>zs.getD i 0) (Go.BkQ.upN n)=zs:=by
 rw[Cc,XQ,←hz]
 apply List.ext_getElem
 ·simp
 ·intro i h1 h2
  simp[List.getD_eq_getElem?_getD,h2]
theorem AgP {r c:Nat} (hr:1≤r) (hr4:r≤4) (hc:1≤c) (hc4:c≤4) (zs:List Int) (hz:zs.length=r*c) (x:Nat) (hx:x < r) :
 Cr tt Gs 40 83 [.slice (some ⟨1,x*c,some 1⟩) c (2*c)] (Eb zs)=some (.tuple ⟨[]⟩,Eb (DL c x zs)):=by
 have h4:∀ n,1≤n→n≤4→n∈[1,2,3,4]:=fun n h1 h2=>by
  obtain rfl | rfl | rfl | rfl:n=1∨n=2∨n=3∨n=4:=by omega
  all_goals simp
 have hm:(r,c,x)∈QF:=List.mem_flatMap.2 ⟨r,h4 r hr hr4,List.mem_flatMap.2 ⟨c,h4 c hc hc4,List.mem_map.2 ⟨x,by rw[XQ];exact List.mem_range.2 hx,rfl⟩⟩⟩
 have e:AP (fun i=>zs.getD i 0) (Go.BkQ.upN (r*c))=zs:=QG hz
 have h:=wM fun i=>zs.getD i 0
 rw[Cc,Cc] at h
 have h:=List.map_inj_left.1 h _ hm
 have h:Cr tt Gs 40 83 [.slice (some ⟨1,x*c,some 1⟩) c (2*c)] (Eb (AP (fun i=>zs.getD i 0) (Go.BkQ.upN (r*c))))=some (.tuple ⟨[]⟩,Eb (DL c x (AP (fun i=>zs.getD i 0) (Go.BkQ.upN (r*c))))):=h
 rw[e] at h
 exact h
def I8:List Nat:=[1,2,3,4,6,8,9,12,16]
theorem XR {r c:Nat} (hr:1≤r) (hr4:r≤4) (hc:1≤c) (hc4:c≤4):r*c∈I8:=by
 obtain rfl | rfl | rfl | rfl:r=1∨r=2∨r=3∨r=4:=by omega
 all_goals
  obtain rfl | rfl | rfl | rfl:c=1∨c=2∨c=3∨c=4:=by omega
  all_goals decide
theorem XT (z:Nat→Int):AP (fun n=>Cr tt Gs 40 106 [FP 1 n 0 (AP Po (AP z (Go.BkQ.upN n)))] (Ao Gq)) I8=AP (fun n=>some (.slice (some ⟨1,0,some 1⟩) n (2*n),Eb (AP z (Go.BkQ.upN n)))) I8:=by kernel_rfl
theorem Yz {r c:Nat} (hr:1≤r) (hr4:r≤4) (hc:1≤c) (hc4:c≤4) (zs:List Int) (hz:zs.length=r*c) :
 Cr tt Gs 40 106 [FP 1 (r*c) 0 (AP Po zs)] (Ao Gq)=some (.slice (some ⟨1,0,some 1⟩) (r*c) (2*(r*c)),Eb zs):=by
 have h:=XT fun i=>zs.getD i 0
 rw[Cc,Cc] at h
 have h:=List.map_inj_left.1 h _ (XR hr hr4 hc hc4)
 have h:Cr tt Gs 40 106 [FP 1 (r*c) 0 (AP Po (AP (fun i=>zs.getD i 0) (Go.BkQ.upN (r*c))))] (Ao Gq)=some (.slice (some ⟨1,0,some 1⟩) (r*c) (2*(r*c)),Eb (AP (fun i=>zs.getD i 0) (Go.BkQ.upN (r*c)))):=h
 rw[QG hz] at h
 exact h
theorem Ux (zs:List Int) (i:Nat) (h:i < 2):∃ xs imm spent anc,(Eb zs).get i = .cells xs imm spent anc:=by
 obtain rfl | rfl:i=0∨i=1:=by omega
 ·exact⟨_,_,_,_,rfl⟩
 ·exact⟨_,_,_,_,rfl⟩
theorem FL (zs:List Int):Qx (Eb zs):=fun i h=>Ux zs i h
theorem Pe {c x:Nat} {zs:List Int}:(DL c x zs).length=zs.length:=by
 simp only[DL,List.length_append,List.length_take,List.length_reverse,List.length_drop]
 omega
theorem LX (c:Nat) {r:Nat} (zs:List Int) (xs:List (Fin r)) (x:Fin r):G9 c zs (xs++[x])=DL c x.1 (G9 c zs xs):=by simp[G9]
theorem M9 (c:Nat) {r:Nat} (zs:List Int) (xs:List (Fin r)):(G9 c zs xs).length=zs.length:=by
 unfold G9
 induction xs generalizing zs with
 | nil=>rfl
 | cons x xs ih=>rw[List.foldl_cons,ih,Pe]

set_option maxRecDepth 100000 in
set_option maxHeartbeats 4000000 in
theorem Pf (hm:Try.prog.follows .mixedOrders=true) {r c N:Nat} (hr:1≤r) (hr4:r≤4) (hc:1≤c) (hc4:c≤4) (hN:N=r*c) {zs:List Int} (hz:zs.length=N) {R:Sp.Ren} {w:World} {args':List Value}
 (hR:R.f=fun i=>if i < Gq.length then some (i,0) else none) (hs:Ck (Ao Gq) R w) (ha:Cf R [FP 1 N 0 (AP Po zs),.int .i64 c] args') :
 Calls Try.prog 85 ⟨args'⟩ w fun e w'=>∃ u R',e = .returned u∧VR R' (.slice (some ⟨1,0,some 1⟩) N (2*N)) u∧Ba (Ao Gq) R w (Eb (G9 c zs (Jg hr r))) R' w':=by
 have hrc:N≤16:=by rw[hN];exact Nat.mul_le_mul hr4 hc4
 have hN1:1≤N:=by rw[hN];exact Nat.mul_le_mul hr hc
 have hgl:JH [] R:=fun g hg=>by cases hg
 obtain⟨u0,us,rfl,hu0,ha1⟩:=ha.uncons
 obtain⟨u1,us,rfl,hu1,hnil⟩:=ha1.uncons
 obtain rfl:=hnil.unnil
 have hu1:=hu1.int_l
 subst hu1
 have hclone:=((Rx BO MU hm 40) 106 _ _ _ _ (by rw[hN] at hz ⊢;exact Yz hr hr4 hc hc4 zs hz:Cr tt Gs 40 106 [FP 1 N 0 (AP Po zs)] (Ao Gq)=some (.slice (some ⟨1,0,some 1⟩) N (2*N),Eb zs))).2 R w [u0] hs hgl (.one hu0)
 have hcl:Calls Try.prog 106 #[u0] w fun e w1=>∃ (cb β cap:Nat) (R1:Sp.Ren),e = .returned (.slice (some ⟨cb,β,none⟩) N cap)∧R1.f 1=some (cb,β)∧N≤cap∧β+cap≤R1.sz cb∧Ba (Ao Gq) R w (Eb zs) R1 w1:=by
  refine hclone.mono fun e w1 ⟨v1,R1,he,hv,hp⟩=>?_
  cases hv with
  | @sl _ _ _ _ _ cb β cap hf h1 h2 h3 h4=>exact⟨cb,β,cap,R1,by rw[he,Nat.add_zero],hf,by omega,by omega,hp⟩
  | slE h=>omega
  | slN h=>omega
 clear hclone
 have hck:=fun (a:Option Addr) (len cap:Nat) (w:World)=>Yy Fence.wide (10 - 1) trivial rfl a len cap c hc hc4 w
 have hNh:Hid (N=r*c):=hN
 clear hN
 refine callsIn_wide (n:=10).1 ?_
 refine callsIn_of_wp_marks Try.func85 rfl trivial ?_ rfl
 simp only[Try.ntmps85,List.size_toArray,List.length_cons,List.length_nil,Nat.reduceAdd,Nat.reduceSub,Array.replicate_succ,Array.replicate_zero,List.push_toArray,List.append_toArray,List.nil_append,List.cons_append]
 gi_wp2_with first
  | (refine⟨trivial,?_⟩;gi_at_call 106;refine(callsIn_wide.2 hcl).mono ?_;clear hcl;rintro e w1 ⟨cb,β,cap,R1,rfl,hf,hcap,hsz,hp1⟩)
  | (refine⟨trivial,?_⟩;gi_at_call 107;refine(hck _ _ _ _).mono ?_;rintro e w2 ⟨rfl,rfl⟩)
 obtain⟨w2,hw2⟩:∃ w2,(w1.alloc (.cells #[.slice (some ⟨cb,β,none⟩) N cap] 23)).alloc (.cells #[.int .i64 c] 3)=w2:=⟨_,rfl⟩
 have hsz2:w2.heap.size=w1.heap.size+2:=by rw[←hw2];simp
 have hcs:w2.cell? ⟨w1.heap.size,0,none⟩=some (.slice (some ⟨cb,β,none⟩) N cap):=by rw[←hw2];exact Uv _ (Qy w1 (.slice (some ⟨cb,β,none⟩) N cap) 23) (by simp)
 have hcn:w2.cell? ⟨w1.heap.size+1,0,none⟩=some (.int .i64 c):=by
  have:=Qy (w1.alloc (.cells #[.slice (some ⟨cb,β,none⟩) N cap] 23)) (.int .i64 c) 3
  rw[World.size_alloc] at this
  rw[←hw2];exact this
 have hp2:Ba (Ao Gq) R w (Eb zs) R1 w2:=by
  have hc1:=hp1.sim.cellsOnly (FL zs)
  have hg1:=World.grownBy_alloc w1 (.cells #[.slice (some ⟨cb,β,none⟩) N cap] 23) none
  have hp:=hp1.grown hg1 (fun r e=>by cases e) hc1
  have hg2:=World.grownBy_alloc (w1.alloc (.cells #[.slice (some ⟨cb,β,none⟩) N cap] 23)) (.cells #[.int .i64 c] 3) none
  rw[←hw2]
  exact hp.grown hg2 (fun r e=>by cases e) (hp.sim.cellsOnly (FL zs))
 have hdom:∀ id cc ββ,R1.f id=some (cc,ββ)→cc < w1.heap.size:=fun id cc ββ h=>(hp1.sim.dom id cc ββ h).2
 rw[hw2]
 have hgr:w.heap.size≤w2.heap.size:=hp2.grow
 refine wpIn_rangeFunc_ownF (α := Fin r) rfl (by omega) (gf := 114) (lb := #[.pointer (some ⟨w1.heap.size, 0, none⟩), .pointer (some ⟨w1.heap.size + 1, 0, none⟩)]) rfl trivial (enters_of Try.func114 (by kernel_rfl) rfl)
  (Pb (10 - 1) (by omega) w1.heap.size (w1.heap.size+1) cb β r c N cap hr hc hc4 hNh.out hrc hcap w2 (by omega) (by omega) hcs hcn) (fun h k=>⟨k.1.trans h.1,k.2.trans h.2⟩)
  (fun W l o o' hl ho hc1 _=>⟨World.putObj_heap_other (by omega),World.putObj_heap_other (by omega)⟩) (Below.refl _ _) (fun _=>rfl)
  (fun pre W=>∃ R2,Ba (Ao Gq) R w (Eb (G9 c zs pre)) R2 W∧R1.le R2∧R2.f=R1.f∧w2.heap.size≤W.heap.size)
  (fun _ _ _=>False)
  (fun s A B row ⟨R2,h1,h2,h3,h4⟩ hg hr=>⟨R2,h1.grown hg (fun r e=>⟨by have:=(hr r e).1;omega,(hr r e).2⟩) (h1.sim.cellsOnly (FL _)),h2,h3,Nat.le_trans h4 hg.size⟩)
  (fun _ _ _ _ _ hs _ _=>hs)
  ⟨R1,hp2,R1.le_refl,rfl,Nat.le_refl _⟩
  (fun x => { tmps := #[u0, Value.int IntKind.i64 ↑c, undef, undef, Value.slice none 0 0, Value.slice (some ⟨cb, β, none⟩) N cap, .slice (some ⟨cb, β + x.1 * c, none⟩) c c, u0, Value.slice (some ⟨cb, β, none⟩) N cap, Value.slice (some ⟨cb, β, none⟩) N cap, Value.int IntKind.i64 ↑c,
    Value.func (Fn.func 114) #[] #[Value.pointer (some ⟨w1.heap.size,0,none⟩),Value.pointer (some ⟨w1.heap.size+1,0,none⟩)],.slice (some ⟨cb,β+x.1*c,none⟩) c c,undef,undef,undef],defers:=[] }) ?assign ?body ?done ?stop
 case assign=>
  intro l x W K hK
  gi_wp2
  exact hK
 case body=>
  rintro l pre x W ⟨R2,h1,h2,h3,hWs⟩ hlt
  have hx:x.1*c+c≤N:=by rw[hNh.out,←Nat.succ_mul];exact Nat.mul_le_mul_right c x.2
  have hrun:=AgP hr hr4 hc hc4 (G9 c zs pre) (by rw[M9,hz];exact hNh.out) x.1 x.2
  have hgl2:JH [] R2:=fun g hg=>by cases hg
  have hrev := ((Rx BO MU hm 40) 83 _ _ _ _ hrun).2 R2 W [.slice (some ⟨cb, β + x.1 * c, none⟩) c c] h1.sim hgl2 (.one (.sl (by rw [h3]; exact hf) (by omega) (by omega) (fun h => by omega) (by
   have:=(h2.up 1 cb β hf).2
   rw[this];omega)))
  have hrev2:Calls Try.prog 83 #[.slice (some ⟨cb,β+x.1*c,none⟩) c c] W fun e W'=>e = .returned (.tuple #[])∧KeepsOthers W W'∧AgO w1.heap.size (w1.heap.size+1) W W'∧∃ R3,Ba (Ao Gq) R w (Eb (G9 c zs (pre++[x]))) R3 W'∧R1.le R3∧R3.f=R1.f∧w2.heap.size≤W'.heap.size:=by
   refine hrev.mono fun e W' ⟨u,R3,he,hu,hp⟩=>?_
   have hbox:∀ k,w1.heap.size≤k→k < W.heap.size→W'.heap[k]?=W.heap[k]?:=fun k hk hk2=>hp.frame k hk2 fun id ββ h=>by
    rw[h3] at h;have:=hdom id k ββ h;omega
   have hf3:R3.f=R2.f:=hp.sameF rfl
   have hW:w2.heap.size≤W.heap.size:=hWs
   obtain⟨us,rfl,hul⟩:=hu.tuple_l
   have hus:us=[]:=by have:=hul.1;simpa using this.symm
   subst hus
   refine⟨he,hp.keepsOthers (h1.sim.cellsOnly (FL _)),⟨hbox _ (Nat.le_refl _) (by omega),hbox _ (by omega) (by omega)⟩,R3,?_,Sp.Ren.le_trans h2 hp.le,hf3.trans h3,Nat.le_trans hWs hp.grow⟩
   rw[LX]
   exact h1.trans hp hs
  clear hrev
  gi_wp2_with (refine⟨trivial,?_⟩;gi_at_call 83;refine(CallsIn.inRound l (callsIn_wide.2 hrev2)).mono ?_;clear hrev2;rintro e W' ⟨rfl,hk,hkp,hI⟩)
  exact⟨hk,hkp,hI⟩
 case done=>
  rintro D ys W hD rfl ⟨R2,h1,h2,h3,_⟩ hK
  gi_wp2
  refine⟨by simp,.inl ⟨_,_,rfl,run_takeDeferred hK,?_⟩⟩
  refine⟨_,results_tmp rfl _ _ _,_,R2,rfl,?_,?_⟩
  ·exact .sl (β := β) (off := 0) (by rw [h3]; exact hf) (by omega) (by omega) (fun h => by omega) (by
    have:=(h2.up 1 cb β hf).2
    rw[this];omega)
  ·exact h1.grown (grownBy_putObj' W D _) (fun r e=>by cases e;exact⟨by omega,_,hK,rfl⟩) (h1.sim.cellsOnly (FL _))
 case stop=>
  rintro D c pre W _ _ h _
  exact h.elim
noncomputable section
def Pg (c:Nat) (zs:List Int) (r:Nat):List Int:=Nat.rec (motive:=fun _=>List Int) zs (fun k ih=>DL c k ih) r
def Kb (args:List Value):Option Value:=ll args none fun a r=>ll r none fun b r=>ll r (oo (Bj 1 a) none fun s=>oo (Bi .i64 b) none fun z=>oo (EA z) none fun c=>oo (CG (Bi .i64) s.cs) none fun zs=>
 bb (an (Nat.beq s.fl 0) (an (Nat.ble 1 c) (an (Nat.ble c 4) (an (Nat.ble c s.n) (an (Nat.ble (s.n / c) 4) (an (Nat.beq (s.n / c*c) s.n) (Nat.beq (len zs) s.n))))))) (some (FP 1 s.n 0 (AP Po (Pg c zs (s.n / c))))) none) fun _ _=>none
end
theorem LY (c:Nat) {r:Nat} (hr:0 < r) (zs:List Int):∀ k,k≤r→G9 c zs (Jg hr k)=Pg c zs k
 | 0,_=>rfl
 | k + 1, h => by
  rw[M8,LX,LY c hr zs k (by omega)]
  show DL c (k % r) _=DL c k _
  rw[Nat.mod_eq_of_lt h];rfl
theorem wN (z:Nat→Int):AP (fun n=>oo (Cq 0 false (.slice (some ⟨1,0,some 1⟩) n (2*n)) (Eb (AP z (Go.BkQ.upN n)))) none (fun p=>pp p fun v _=>some v)) I8=AP (fun n=>some (FP 1 n 0 (AP Po (AP z (Go.BkQ.upN n))))) I8:=by kernel_rfl
theorem AgQ {r c:Nat} (hr:1≤r) (hr4:r≤4) (hc:1≤c) (hc4:c≤4) (zs:List Int) (hz:zs.length=r*c) :
 oo (Cq 0 false (.slice (some ⟨1,0,some 1⟩) (r*c) (2*(r*c))) (Eb zs)) none (fun p=>pp p fun v _=>some v)=some (FP 1 (r*c) 0 (AP Po zs)):=by
 have h:=wN fun i=>zs.getD i 0
 rw[Cc,Cc] at h
 have h:=List.map_inj_left.1 h _ (XR hr hr4 hc hc4)
 have h:oo (Cq 0 false (.slice (some ⟨1,0,some 1⟩) (r*c) (2*(r*c))) (Eb (AP (fun i=>zs.getD i 0) (Go.BkQ.upN (r*c))))) none (fun p=>pp p fun v _=>some v)=some (FP 1 (r*c) 0 (AP Po (AP (fun i=>zs.getD i 0) (Go.BkQ.upN (r*c))))):=h
 rw[QG hz] at h
 exact h
theorem XU (n:Nat) (zs:List Int):Fe (FP 1 n 0 (AP Po zs))=true:=rfl
theorem Qq {vs:List Value} {zs:List Int} (h:CG (Bi .i64) vs=some zs):vs=AP Po zs:=by
 obtain⟨h1,h2⟩:=Di h
 rw[uO]
 refine List.ext_getElem? fun i=>?_
 rw[List.getElem?_map]
 cases hv:vs[i]? with
 | none=>rw[List.getElem?_eq_none (by rw[h1];exact List.getElem?_eq_none_iff.1 hv)];rfl
 | some v =>
  obtain⟨b,h3,h4⟩:=h2 i v hv
  rw[h3,Eh h4];rfl
theorem Uy (hm:Try.prog.follows .mixedOrders=true):BA Try.prog Gq 85 Kb:=by
 refine⟨enters_of Try.func85 (by kernel_rfl) rfl,fun args v hv hcl R w args' hR hs ha=>?_⟩
 replace hv:=Ad hv;obtain⟨a,r1,rfl,hv⟩:=hv
 replace hv:=Ad hv;obtain⟨b,r2,rfl,hv⟩:=hv
 replace hv:=AC hv;obtain⟨rfl,hv⟩:=hv
 replace hv:=Ab hv;obtain⟨s,h1,hv⟩:=hv
 replace hv:=Ab hv;obtain⟨z,h2,hv⟩:=hv
 replace hv:=Ab hv;obtain⟨c,h3,hv⟩:=hv
 replace hv:=Ab hv;obtain⟨zs,h4,hv⟩:=hv
 replace hv:=Ae hv;obtain⟨hc,hv⟩:=hv
 injection hv with hv
 obtain⟨n,fl,cs⟩:=s
 obtain⟨c0,hc⟩:=Av hc
 obtain⟨c1,hc⟩:=Av hc
 obtain⟨c2,hc⟩:=Av hc
 obtain⟨c3,hc⟩:=Av hc
 obtain⟨c4,hc⟩:=Av hc
 obtain⟨c5,c6⟩:=Av hc
 replace c0:fl=0:=Nat.eq_of_beq_eq_true c0
 replace c1:=Nat.le_of_ble_eq_true c1
 replace c2:=Nat.le_of_ble_eq_true c2
 replace c3:c≤n:=Nat.le_of_ble_eq_true c3
 replace c4:n / c≤4:=Nat.le_of_ble_eq_true c4
 replace c5:n / c*c=n:=Nat.eq_of_beq_eq_true c5
 replace c6:len zs=n:=Nat.eq_of_beq_eq_true c6
 rw[AV] at c6
 subst c0
 obtain rfl:=Qh h1
 obtain rfl:=Eh h2
 obtain rfl:=AR h3
 replace h4:cs=AP Po zs:=Qq h4
 subst h4
 have hr:1≤n / c:=Nat.div_pos c3 c1
 have hcalls:=Pf hm hr c4 c1 c2 c5.symm c6 hR hs ha
 refine hcalls.mono fun e w' ⟨u,R1,he,hu,hp⟩=>?_
 rw[LY c hr zs (n / c) (Nat.le_refl _)] at hp
 have hfz0:=AgQ hr c4 c1 c2 (Pg c zs (n / c)) (by rw[←LY c hr zs (n / c) (Nat.le_refl _),M9,c6,c5])
 rw[c5] at hfz0
 obtain⟨⟨v2,H2⟩,hfz,hfz1⟩:=Ab hfz0
 injection (show some v2=_ from hfz1) with hfz1
 subst hfz1
 obtain⟨R2,_,_,k2,k3⟩:=Gg hfz hs (Nat.le_refl _) hp hu
 subst hv
 exact⟨u,H2,R2,he,XU _ _,k3,k2⟩
end Go.Proofs
set_option maxRecDepth 100000
set_option maxHeartbeats 0
namespace Go.Proofs.Ytflonlkiajhhjaa.TpM
open Go Go.Sp Go.TpM Go.TpMM Go.BkQ
noncomputable section
def isA:FuncId→Bool:=fun _=>false
def puA:Af:=fun _ _=>none
def wO:A8:=fun g args H=>bb (Nat.beq g 85) (Hr tabs 1 Kb args H) none
def evL (n:Nat) (g:FuncId) (args:List Value):Option (Value×Aa):=Mw tabs isA puA wO tt Gs n g args (Ao tabs)
def wP (v3 v4:Value) (p:Nat×Nat×Nat):Option Value:=(fun r=>oo (kN 0 r) (kP r) fun v=>some v) (evL 100 64 [.agg ⟨[IV (.ofNat p.1),IV (.ofNat p.2.1),v3,v4]⟩,IV (.ofNat p.2.2)])
end
theorem Ug (hm:Try.prog.follows .mixedOrders=true):BA Try.prog tabs 85 Kb:=Uy hm
theorem qA:∀ g,isA g=true→BA Try.prog tabs g (puA g):=fun g h=>by cases h
theorem iA (hm:Try.prog.follows .mixedOrders=true):CO Try.prog (List.range tabs.length) wO:=fun g args H v H' h=>by
 obtain⟨e,h⟩:=Ae (show bb (Nat.beq g 85) (Hr tabs 1 Kb args H) none=some (v,H') from h)
 obtain rfl:=Nat.eq_of_beq_eq_true e
 exact Og Co Cs (Ug hm) h
theorem Qr {α β:Type} {f g:α→β}:∀ {l:List α},AP f l=AP g l→∀ x∈l,f x=g x
 | [],_,_,h=>by cases h
 | a :: l, h, x, hx => by
  injection (show f a::AP f l=g a::AP g l from h) with h1 h2
  cases hx with
  | head=>exact h1
  | tail _ hx=>exact Qr h2 x hx
theorem AgR (v3 v4:Value):AP (wP v3 v4) triples=AP (fun p=>some (Yn (cellL p.1 p.2.1 p.2.2))) triples:=by kernel_rfl
theorem AiU (hm:Try.prog.follows .mixedOrders=true):BA Try.prog tabs 64 cellsM:=by
 refine I5 (tabs:=tabs) (n:=100) (g:=64) (H:=Ao tabs) (isP:=isA) (pu:=puA) (inl:=wO) BO Co Cs MU hm qA (iA hm) (fun i=>rfl) rfl (A9 dC) fun args v h=>?_
 obtain⟨r,c,t,v3,v4,rfl,hp,rfl⟩:=Qz h
 have hr:=Qr (AgR v3 v4) (r,c,t) hp
 replace hr:oo (kN 0 (evL 100 64 [.agg ⟨[IV (.ofNat r),IV (.ofNat c),v3,v4]⟩,IV (.ofNat t)])) (kP (evL 100 64 [.agg ⟨[IV (.ofNat r),IV (.ofNat c),v3,v4]⟩,IV (.ofNat t)])) (fun v=>some v)=some (Yn (cellL r c t)):=hr
 refine⟨rfl,?_⟩
 cases hf:kN 0 (evL 100 64 [.agg ⟨[IV (.ofNat r),IV (.ofNat c),v3,v4]⟩,IV (.ofNat t)]) with
 | some w=>rw[hf,Ac] at hr;injection hr with hr;subst hr;exact .inr hf
 | none=>rw[hf,Az] at hr;exact .inl hr
theorem hw (hm:Try.prog.follows .mixedOrders=true):BA Try.prog tabs 64 RQ∧BA Try.prog tabs 85 RS∧BA Try.prog tabs 10 RU∧BA Try.prog tabs 12 RX:=⟨AiU hm,⟨(Ug hm).1,fun _ _ h=>by cases h⟩,⟨A9 Xf,fun _ _ h=>by cases h⟩,⟨A9 XM,fun _ _ h=>by cases h⟩⟩
noncomputable def Qs:Af:=X0 30
theorem wQ (hm:Try.prog.follows .mixedOrders=true):∀ g,isP g=true→BA Try.prog tabs g (Qs g):=(QE hm (hw hm) 30).1
theorem i0 (hm:Try.prog.follows .mixedOrders=true):CO Try.prog (List.range tabs.length) (inl Qs):=by
 obtain⟨_,h1,h2,h3,h4,h5,h6,h7,h8⟩:=QE hm (hw hm) 30
 exact QC hm (pu:=Qs) h1 h2 h3 h4 h5 h6 h7 h8
noncomputable section
def isW:FuncId→Bool:=fun g=>an (isP g) (nt (ED g [10,12]))
def ev0 (n:Nat) (g:FuncId) (args:List Value):Option (Value×Aa):=Mw tabs isW Qs (inl Qs) tt Gs n g args (KF tabs)
end
theorem AgS (hm:Try.prog.follows .mixedOrders=true):∀ g,isW g=true→BA Try.prog tabs g (Qs g):=fun g hg=>wQ hm g (Av (show an (isP g) (nt (ED g [10,12]))=true from hg)).1
theorem AgT:kP (ev0 4000 12 [])=some (.bool true):=by kernel_rfl
theorem AiV (hm:Try.prog.follows .mixedOrders=true):BA Try.prog tabs 12 Wl:=by
 refine I5 (tabs:=tabs) (n:=4000) (g:=12) (H:=KF tabs) (isP:=isW) (pu:=Qs) (inl:=inl Qs) BO Co Cs MU hm (AgS hm) (i0 hm) (fun i=>RN i) rfl (A9 XM) fun args v h=>?_
 replace h:=AC h;obtain⟨rfl,h⟩:=h
 injection h with h;subst h
 exact⟨rfl,.inl AgT⟩
theorem QJ {a b:Nat} (h:a≠b):Nat.beq a b=false:=by
 cases e:Nat.beq a b with
 | false=>rfl
 | true=>exact absurd (Nat.eq_of_beq_eq_true e) h
end Go.Proofs.Ytflonlkiajhhjaa.TpM
set_option maxRecDepth 100000
set_option maxHeartbeats 0
namespace Go.Proofs.Ytflonlkiajhhjaa.TpM
open Go Go.Sp Go.TpM Go.TpMM Go.BkQ
noncomputable section
def FN:Option (Nat×List Value)→Value:=fun t=>t.elim (.tuple ⟨[.slice none 0 0,.int .i64 12]⟩) fun p=>.tuple ⟨[Sl.v 3 (Sl.mk p.1 0 p.2),.int .i64 0]⟩
def Nc:Option (Nat×List Value)→Value:=fun t=>t.elim (.tuple ⟨[Sl.v 3 (Sl.mk 0 2 []),.int .i64 12]⟩) fun p=>.tuple ⟨[Sl.v 3 (Sl.mk p.1 0 p.2),.int .i64 0]⟩
def shV (a b c d:Nat):Value:=.agg ⟨[IV (.ofNat a),IV (.ofNat b),IV (.ofNat c),IV (.ofNat d)]⟩
def Eo (a b:Nat) (p:Nat×Nat):Option Value:=Ad2 0 (ev0 4000 10 [shV a b p.1 p.2])
def BB:List (Nat×Nat):=[(1,1),(1,2),(1,3),(1,4),(2,1),(2,2),(2,3),(2,4),(3,1),(3,2),(3,3),(3,4),(4,1),(4,2),(4,3),(4,4)]
def wR:List (Option (Nat×List Value)):=[(some (1,[.int .i64 0,.int .i64 0,.bool false])),none,none,none,none,none,none,none,none,none,none,none,none,none,none,none]
def wS:List (Option (Nat×List Value)):=[(some (2,[.int .i64 0,.int .i64 0,.bool false,.int .i64 0,.int .i64 1,.bool false])),(some (1,[.int .i64 0,.int .i64 0,.bool false])),none,none,(some (1,[.int .i64 0,.int .i64 0,.bool true])),none,none,none,none,none,none,none,none,none,none,none]
def wT:List (Option (Nat×List Value)):=[(some (3,[.int .i64 0,.int .i64 0,.bool false,.int .i64 0,.int .i64 1,.bool false,.int .i64 0,.int .i64 2,.bool false])),none,(some (1,[.int .i64 0,.int .i64 0,.bool false])),none,none,none,none,none,(some (1,[.int .i64 0,.int .i64 0,.bool true])),none,none,none,none,none,none,none]
def wU:List (Option (Nat×List Value)):=[(some (4,[.int .i64 0,.int .i64 0,.bool false,.int .i64 0,.int .i64 1,.bool false,.int .i64 0,.int .i64 2,.bool false,.int .i64 0,.int .i64 3,.bool false])),(some (2,[.int .i64 0,.int .i64 0,.bool false,.int .i64 0,.int .i64 2,.bool false])),none,(some (1,[.int .i64 0,.int .i64 0,.bool false])),(some (2,[.int .i64 0,.int .i64 0,.bool true,.int .i64 0,.int .i64 2,.bool true])),none,none,none,none,none,none,none,(some (1,[.int .i64 0,.int .i64 0,.bool true])),none,none,none]
def wV:List (Option (Nat×List Value)):=[(some (2,[.int .i64 0,.int .i64 0,.bool false,.int .i64 1,.int .i64 0,.bool false])),(some (1,[.int .i64 0,.int .i64 0,.bool true])),none,none,(some (1,[.int .i64 0,.int .i64 0,.bool false])),none,none,none,none,none,none,none,none,none,none,none]
def wW:List (Option (Nat×List Value)):=[(some (4,[.int .i64 0,.int .i64 0,.bool false,.int .i64 0,.int .i64 1,.bool false,.int .i64 1,.int .i64 0,.bool false,.int .i64 1,.int .i64 1,.bool false])),(some (2,[.int .i64 0,.int .i64 0,.bool false,.int .i64 1,.int .i64 0,.bool false])),none,none,(some (2,[.int .i64 0,.int .i64 0,.bool false,.int .i64 0,.int .i64 1,.bool false])),(some (1,[.int .i64 0,.int .i64 0,.bool false])),none,none,none,none,none,none,none,none,none,none]
def wZ:List (Option (Nat×List Value)):=[(some (6,[.int .i64 0,.int .i64 0,.bool false,.int .i64 0,.int .i64 1,.bool false,.int .i64 0,.int .i64 2,.bool false,.int .i64 1,.int .i64 0,.bool false,.int .i64 1,.int .i64 1,.bool false,.int .i64 1,.int .i64 2,.bool false])),(some (3,[.int .i64 0,.int .i64 0,.bool false,.int .i64 0,.int .i64 2,.bool true,.int .i64 1,.int .i64 0,.bool false])),(some (2,[.int .i64 0,.int .i64 0,.bool false,.int .i64 1,.int .i64 0,.bool false])),none,(some (3,[.int .i64 0,.int .i64 0,.bool false,.int .i64 0,.int .i64 1,.bool false,.int .i64 0,.int .i64 2,.bool false])),none,(some (1,[.int .i64 0,.int .i64 0,.bool false])),none,(some (2,[.int .i64 0,.int .i64 0,.bool true,.int .i64 1,.int .i64 0,.bool true])),(some (1,[.int .i64 0,.int .i64 0,.bool true])),none,none,none,none,none,none]
def xA:List (Option (Nat×List Value)):=[(some (8,[.int .i64 0,.int .i64 0,.bool false,.int .i64 0,.int .i64 1,.bool false,.int .i64 0,.int .i64 2,.bool false,.int .i64 0,.int .i64 3,.bool false,.int .i64 1,.int .i64 0,.bool false,.int .i64 1,.int .i64 1,.bool false,.int .i64 1,.int .i64 2,.bool false,.int .i64 1,.int .i64 3,.bool false])),(some (4,[.int .i64 0,.int .i64 0,.bool false,.int .i64 0,.int .i64 2,.bool false,.int .i64 1,.int .i64 0,.bool false,.int .i64 1,.int .i64 2,.bool false])),none,(some (2,[.int .i64 0,.int .i64 0,.bool false,.int .i64 1,.int .i64 0,.bool false])),(some (4,[.int .i64 0,.int .i64 0,.bool false,.int .i64 0,.int .i64 1,.bool false,.int .i64 0,.int .i64 2,.bool false,.int .i64 0,.int .i64 3,.bool false])),(some (2,[.int .i64 0,.int .i64 0,.bool false,.int .i64 0,.int .i64 2,.bool false])),none,(some (1,[.int .i64 0,.int .i64 0,.bool false])),none,none,none,none,(some (2,[.int .i64 0,.int .i64 0,.bool true,.int .i64 1,.int .i64 0,.bool true])),(some (1,[.int .i64 0,.int .i64 0,.bool true])),none,none]
def xB:List (Option (Nat×List Value)):=[(some (3,[.int .i64 0,.int .i64 0,.bool false,.int .i64 1,.int .i64 0,.bool false,.int .i64 2,.int .i64 0,.bool false])),none,(some (1,[.int .i64 0,.int .i64 0,.bool true])),none,none,none,none,none,(some (1,[.int .i64 0,.int .i64 0,.bool false])),none,none,none,none,none,none,none]
def xC:List (Option (Nat×List Value)):=[(some (6,[.int .i64 0,.int .i64 0,.bool false,.int .i64 0,.int .i64 1,.bool false,.int .i64 1,.int .i64 0,.bool false,.int .i64 1,.int .i64 1,.bool false,.int .i64 2,.int .i64 0,.bool false,.int .i64 2,.int .i64 1,.bool false])),(some (3,[.int .i64 0,.int .i64 0,.bool false,.int .i64 1,.int .i64 0,.bool false,.int .i64 2,.int .i64 0,.bool false])),(some (2,[.int .i64 0,.int .i64 0,.bool true,.int .i64 0,.int .i64 1,.bool true])),none,(some (3,[.int .i64 0,.int .i64 0,.bool false,.int .i64 0,.int .i64 1,.bool false,.int .i64 2,.int .i64 0,.bool true])),none,(some (1,[.int .i64 0,.int .i64 0,.bool true])),none,(some (2,[.int .i64 0,.int .i64 0,.bool false,.int .i64 0,.int .i64 1,.bool false])),(some (1,[.int .i64 0,.int .i64 0,.bool false])),none,none,none,none,none,none]
def xD:List (Option (Nat×List Value)):=[(some (9,[.int .i64 0,.int .i64 0,.bool false,.int .i64 0,.int .i64 1,.bool false,.int .i64 0,.int .i64 2,.bool false,.int .i64 1,.int .i64 0,.bool false,.int .i64 1,.int .i64 1,.bool false,.int .i64 1,.int .i64 2,.bool false,.int .i64 2,.int .i64 0,.bool false,.int .i64 2,.int .i64 1,.bool false,.int .i64 2,.int .i64 2,.bool false])),none,(some (3,[.int .i64 0,.int .i64 0,.bool false,.int .i64 1,.int .i64 0,.bool false,.int .i64 2,.int .i64 0,.bool false])),none,none,none,none,none,(some (3,[.int .i64 0,.int .i64 0,.bool false,.int .i64 0,.int .i64 1,.bool false,.int .i64 0,.int .i64 2,.bool false])),none,(some (1,[.int .i64 0,.int .i64 0,.bool false])),none,none,none,none,none]
def xE:List (Option (Nat×List Value)):=[(some (12,[.int .i64 0,.int .i64 0,.bool false,.int .i64 0,.int .i64 1,.bool false,.int .i64 0,.int .i64 2,.bool false,.int .i64 0,.int .i64 3,.bool false,.int .i64 1,.int .i64 0,.bool false,.int .i64 1,.int .i64 1,.bool false,.int .i64 1,.int .i64 2,.bool false,.int .i64 1,.int .i64 3,.bool false,.int .i64 2,.int .i64 0,.bool false,.int .i64 2,.int .i64 1,.bool false,.int .i64 2,.int .i64 2,.bool false,.int .i64 2,.int .i64 3,.bool false])),(some (6,[.int .i64 0,.int .i64 0,.bool false,.int .i64 0,.int .i64 2,.bool false,.int .i64 1,.int .i64 0,.bool false,.int .i64 1,.int .i64 2,.bool false,.int .i64 2,.int .i64 0,.bool false,.int .i64 2,.int .i64 2,.bool false])),(some (4,[.int .i64 0,.int .i64 0,.bool false,.int .i64 0,.int .i64 3,.bool true,.int .i64 1,.int .i64 0,.bool false,.int .i64 2,.int .i64 0,.bool false])),(some (3,[.int .i64 0,.int .i64 0,.bool false,.int .i64 1,.int .i64 0,.bool false,.int .i64 2,.int .i64 0,.bool false])),(some (6,[.int .i64 0,.int .i64 0,.bool false,.int .i64 0,.int .i64 1,.bool false,.int .i64 0,.int .i64 2,.bool false,.int .i64 0,.int .i64 3,.bool false,.int .i64 2,.int .i64 0,.bool true,.int .i64 2,.int .i64 2,.bool true])),none,(some (2,[.int .i64 0,.int .i64 0,.bool true,.int .i64 0,.int .i64 2,.bool true])),none,(some (4,[.int .i64 0,.int .i64 0,.bool false,.int .i64 0,.int .i64 1,.bool false,.int .i64 0,.int .i64 2,.bool false,.int .i64 0,.int .i64 3,.bool false])),(some (2,[.int .i64 0,.int .i64 0,.bool false,.int .i64 0,.int .i64 2,.bool false])),none,(some (1,[.int .i64 0,.int .i64 0,.bool false])),(some (3,[.int .i64 0,.int .i64 0,.bool true,.int .i64 1,.int .i64 0,.bool true,.int .i64 2,.int .i64 0,.bool true])),none,(some (1,[.int .i64 0,.int .i64 0,.bool true])),none]
def xG:List (Option (Nat×List Value)):=[(some (4,[.int .i64 0,.int .i64 0,.bool false,.int .i64 1,.int .i64 0,.bool false,.int .i64 2,.int .i64 0,.bool false,.int .i64 3,.int .i64 0,.bool false])),(some (2,[.int .i64 0,.int .i64 0,.bool true,.int .i64 2,.int .i64 0,.bool true])),none,(some (1,[.int .i64 0,.int .i64 0,.bool true])),(some (2,[.int .i64 0,.int .i64 0,.bool false,.int .i64 2,.int .i64 0,.bool false])),none,none,none,none,none,none,none,(some (1,[.int .i64 0,.int .i64 0,.bool false])),none,none,none]
def xH:List (Option (Nat×List Value)):=[(some (8,[.int .i64 0,.int .i64 0,.bool false,.int .i64 0,.int .i64 1,.bool false,.int .i64 1,.int .i64 0,.bool false,.int .i64 1,.int .i64 1,.bool false,.int .i64 2,.int .i64 0,.bool false,.int .i64 2,.int .i64 1,.bool false,.int .i64 3,.int .i64 0,.bool false,.int .i64 3,.int .i64 1,.bool false])),(some (4,[.int .i64 0,.int .i64 0,.bool false,.int .i64 1,.int .i64 0,.bool false,.int .i64 2,.int .i64 0,.bool false,.int .i64 3,.int .i64 0,.bool false])),none,(some (2,[.int .i64 0,.int .i64 0,.bool true,.int .i64 0,.int .i64 1,.bool true])),(some (4,[.int .i64 0,.int .i64 0,.bool false,.int .i64 0,.int .i64 1,.bool false,.int .i64 2,.int .i64 0,.bool false,.int .i64 2,.int .i64 1,.bool false])),(some (2,[.int .i64 0,.int .i64 0,.bool false,.int .i64 2,.int .i64 0,.bool false])),none,(some (1,[.int .i64 0,.int .i64 0,.bool true])),none,none,none,none,(some (2,[.int .i64 0,.int .i64 0,.bool false,.int .i64 0,.int .i64 1,.bool false])),(some (1,[.int .i64 0,.int .i64 0,.bool false])),none,none]
def xI:List (Option (Nat×List Value)):=[(some (12,[.int .i64 0,.int .i64 0,.bool false,.int .i64 0,.int .i64 1,.bool false,.int .i64 0,.int .i64 2,.bool false,.int .i64 1,.int .i64 0,.bool false,.int .i64 1,.int .i64 1,.bool false,.int .i64 1,.int .i64 2,.bool false,.int .i64 2,.int .i64 0,.bool false,.int .i64 2,.int .i64 1,.bool false,.int .i64 2,.int .i64 2,.bool false,.int .i64 3,.int .i64 0,.bool false,.int .i64 3,.int .i64 1,.bool false,.int .i64 3,.int .i64 2,.bool false])),(some (6,[.int .i64 0,.int .i64 0,.bool false,.int .i64 0,.int .i64 2,.bool true,.int .i64 1,.int .i64 0,.bool false,.int .i64 2,.int .i64 0,.bool false,.int .i64 2,.int .i64 2,.bool true,.int .i64 3,.int .i64 0,.bool false])),(some (4,[.int .i64 0,.int .i64 0,.bool false,.int .i64 1,.int .i64 0,.bool false,.int .i64 2,.int .i64 0,.bool false,.int .i64 3,.int .i64 0,.bool false])),(some (3,[.int .i64 0,.int .i64 0,.bool true,.int .i64 0,.int .i64 1,.bool true,.int .i64 0,.int .i64 2,.bool true])),(some (6,[.int .i64 0,.int .i64 0,.bool false,.int .i64 0,.int .i64 1,.bool false,.int .i64 0,.int .i64 2,.bool false,.int .i64 2,.int .i64 0,.bool false,.int .i64 2,.int .i64 1,.bool false,.int .i64 2,.int .i64 2,.bool false])),none,(some (2,[.int .i64 0,.int .i64 0,.bool false,.int .i64 2,.int .i64 0,.bool false])),none,(some (4,[.int .i64 0,.int .i64 0,.bool false,.int .i64 0,.int .i64 1,.bool false,.int .i64 0,.int .i64 2,.bool false,.int .i64 3,.int .i64 0,.bool true])),(some (2,[.int .i64 0,.int .i64 0,.bool true,.int .i64 2,.int .i64 0,.bool true])),none,(some (1,[.int .i64 0,.int .i64 0,.bool true])),(some (3,[.int .i64 0,.int .i64 0,.bool false,.int .i64 0,.int .i64 1,.bool false,.int .i64 0,.int .i64 2,.bool false])),none,(some (1,[.int .i64 0,.int .i64 0,.bool false])),none]
def xJ:List (Option (Nat×List Value)):=[(some (16,[.int .i64 0,.int .i64 0,.bool false,.int .i64 0,.int .i64 1,.bool false,.int .i64 0,.int .i64 2,.bool false,.int .i64 0,.int .i64 3,.bool false,.int .i64 1,.int .i64 0,.bool false,.int .i64 1,.int .i64 1,.bool false,.int .i64 1,.int .i64 2,.bool false,.int .i64 1,.int .i64 3,.bool false,.int .i64 2,.int .i64 0,.bool false,.int .i64 2,.int .i64 1,.bool false,.int .i64 2,.int .i64 2,.bool false,.int .i64 2,.int .i64 3,.bool false,.int .i64 3,.int .i64 0,.bool false,.int .i64 3,.int .i64 1,.bool false,.int .i64 3,.int .i64 2,.bool false,.int .i64 3,.int .i64 3,.bool false])),(some (8,[.int .i64 0,.int .i64 0,.bool false,.int .i64 0,.int .i64 2,.bool false,.int .i64 1,.int .i64 0,.bool false,.int .i64 1,.int .i64 2,.bool false,.int .i64 2,.int .i64 0,.bool false,.int .i64 2,.int .i64 2,.bool false,.int .i64 3,.int .i64 0,.bool false,.int .i64 3,.int .i64 2,.bool false])),none,(some (4,[.int .i64 0,.int .i64 0,.bool false,.int .i64 1,.int .i64 0,.bool false,.int .i64 2,.int .i64 0,.bool false,.int .i64 3,.int .i64 0,.bool false])),(some (8,[.int .i64 0,.int .i64 0,.bool false,.int .i64 0,.int .i64 1,.bool false,.int .i64 0,.int .i64 2,.bool false,.int .i64 0,.int .i64 3,.bool false,.int .i64 2,.int .i64 0,.bool false,.int .i64 2,.int .i64 1,.bool false,.int .i64 2,.int .i64 2,.bool false,.int .i64 2,.int .i64 3,.bool false])),(some (4,[.int .i64 0,.int .i64 0,.bool false,.int .i64 0,.int .i64 2,.bool false,.int .i64 2,.int .i64 0,.bool false,.int .i64 2,.int .i64 2,.bool false])),none,(some (2,[.int .i64 0,.int .i64 0,.bool false,.int .i64 2,.int .i64 0,.bool false])),none,none,none,none,(some (4,[.int .i64 0,.int .i64 0,.bool false,.int .i64 0,.int .i64 1,.bool false,.int .i64 0,.int .i64 2,.bool false,.int .i64 0,.int .i64 3,.bool false])),(some (2,[.int .i64 0,.int .i64 0,.bool false,.int .i64 0,.int .i64 2,.bool false])),none,(some (1,[.int .i64 0,.int .i64 0,.bool false]))]
end
theorem AiX:AP (Eo 1 1) BB=AP (fun v=>some (FN v)) wR:=by kernel_rfl
theorem AiY:AP (Eo 1 2) BB=AP (fun v=>some (FN v)) wS:=by kernel_rfl
theorem AiZ:AP (Eo 1 3) BB=AP (fun v=>some (FN v)) wT:=by kernel_rfl
theorem Ai0:AP (Eo 1 4) BB=AP (fun v=>some (FN v)) wU:=by kernel_rfl
theorem Ai1:AP (Eo 2 1) BB=AP (fun v=>some (FN v)) wV:=by kernel_rfl
theorem Ai2:AP (Eo 2 2) BB=AP (fun v=>some (FN v)) wW:=by kernel_rfl
theorem Ai3:AP (Eo 2 3) BB=AP (fun v=>some (FN v)) wZ:=by kernel_rfl
theorem Ai4:AP (Eo 2 4) BB=AP (fun v=>some (FN v)) xA:=by kernel_rfl
theorem Ai5:AP (Eo 3 1) BB=AP (fun v=>some (FN v)) xB:=by kernel_rfl
theorem Ai7:AP (Eo 3 2) BB=AP (fun v=>some (FN v)) xC:=by kernel_rfl
theorem Ajb:AP (Eo 3 3) BB=AP (fun v=>some (FN v)) xD:=by kernel_rfl
theorem Ajc:AP (Eo 3 4) BB=AP (fun v=>some (FN v)) xE:=by kernel_rfl
theorem Ajd:AP (Eo 4 1) BB=AP (fun v=>some (FN v)) xG:=by kernel_rfl
theorem Aje:AP (Eo 4 2) BB=AP (fun v=>some (FN v)) xH:=by kernel_rfl
theorem Ajf:AP (Eo 4 3) BB=AP (fun v=>some (FN v)) xI:=by kernel_rfl
theorem Ajg:AP (Eo 4 4) BB=AP (fun v=>some (FN v)) xJ:=by kernel_rfl
end Go.Proofs.Ytflonlkiajhhjaa.TpM
set_option maxRecDepth 100000
set_option maxHeartbeats 0
namespace Go.Proofs.Ytflonlkiajhhjaa.TpM
open Go Go.Sp Go.TpM Go.TpMM Go.BkQ
noncomputable section
def xO:List (List (Option (Nat×List Value))):=[wR,wS,wT,wU,wV,wW,wZ,xA,xB,xC,xD,xE,xG,xH,xI,xJ]
def Ha (F : Option (Nat × List Value) → Value) (args : List Value) : Option Value := ll args none fun a r => ll r (oo (Bt a) none fun l => ll l none fun v1 l => ll l none fun v2 l => ll l none fun v3 l => ll l none fun v4 l => ll l
 (oo (Bi .i64 v1) none fun z1 => oo (EA z1) none fun a => oo (Bi .i64 v2) none fun z2 => oo (EA z2) none fun b => oo (Bi .i64 v3) none fun z3 => oo (EA z3) none fun c => oo (Bi .i64 v4) none fun z4 => oo (EA z4) none fun d =>
   bb (an (Nat.ble 1 a) (an (Nat.ble a 4) (an (Nat.ble 1 b) (an (Nat.ble b 4) (an (Nat.ble 1 c) (an (Nat.ble c 4) (an (Nat.ble 1 d) (Nat.ble d 4)))))))) (oo (AL xO ((a - 1)*4+(b - 1))) none fun t=>oo (AL t ((c - 1)*4+(d - 1))) none fun v=>some (F v)) none) fun _ _=>none) fun _ _=>none
end
theorem rows_ok {a b:Nat} {t:List (Option (Nat×List Value))} (h:AP (Eo a b) BB=AP (fun v=>some (FN v)) t) {c d:Nat} (c1:1≤c) (c4:c≤4) (d1:1≤d) (d4:d≤4) {v:Option (Nat×List Value)} (hv:AL t ((c - 1)*4+(d - 1))=some v):Eo a b (c,d)=some (FN v):=by
 rw[BZ] at hv
 rw[Cc,Cc] at h
 have hs:BB[(c - 1)*4+(d - 1)]?=some (c,d):=by
  obtain rfl | rfl | rfl | rfl:c=1∨c=2∨c=3∨c=4:=by omega
  all_goals
   obtain rfl | rfl | rfl | rfl:d=1∨d=2∨d=3∨d=4:=by omega
   all_goals rfl
 have h1:=congrArg (fun l=>l[(c - 1)*4+(d - 1)]?) h
 simp only[List.getElem?_map,hs,hv,Option.map_some] at h1
 injection h1
theorem YA {a b c d:Nat} (a1:1≤a) (a4:a≤4) (b1:1≤b) (b4:b≤4) (c1:1≤c) (c4:c≤4) (d1:1≤d) (d4:d≤4) {t:List (Option (Nat×List Value))} {v:Option (Nat×List Value)} (ht:AL xO ((a - 1)*4+(b - 1))=some t) (hv:AL t ((c - 1)*4+(d - 1))=some v):Eo a b (c,d)=some (FN v):=by
 obtain rfl | rfl | rfl | rfl:a=1∨a=2∨a=3∨a=4:=by omega
 all_goals
  obtain rfl | rfl | rfl | rfl:b=1∨b=2∨b=3∨b=4:=by omega
 all_goals injection ht with ht
 all_goals subst ht
 ·exact rows_ok AiX c1 c4 d1 d4 hv
 ·exact rows_ok AiY c1 c4 d1 d4 hv
 ·exact rows_ok AiZ c1 c4 d1 d4 hv
 ·exact rows_ok Ai0 c1 c4 d1 d4 hv
 ·exact rows_ok Ai1 c1 c4 d1 d4 hv
 ·exact rows_ok Ai2 c1 c4 d1 d4 hv
 ·exact rows_ok Ai3 c1 c4 d1 d4 hv
 ·exact rows_ok Ai4 c1 c4 d1 d4 hv
 ·exact rows_ok Ai5 c1 c4 d1 d4 hv
 ·exact rows_ok Ai7 c1 c4 d1 d4 hv
 ·exact rows_ok Ajb c1 c4 d1 d4 hv
 ·exact rows_ok Ajc c1 c4 d1 d4 hv
 ·exact rows_ok Ajd c1 c4 d1 d4 hv
 ·exact rows_ok Aje c1 c4 d1 d4 hv
 ·exact rows_ok Ajf c1 c4 d1 d4 hv
 ·exact rows_ok Ajg c1 c4 d1 d4 hv
theorem QK:Au (fun t=>Au (fun v=>an (Fe (FN v)) (Fe (Nc v))) t) xO=true:=by kernel_rfl
theorem Qu {α:Type} {p:α→Bool} {l:List α} (h:Au p l=true) {i:Nat} {x:α} (hx:AL l i=some x):p x=true:=by
 rw[BZ] at hx
 rw[Bh] at h
 exact List.all_eq_true.1 h x (List.mem_of_getElem? hx)
theorem Jd {F:Option (Nat×List Value)→Value} {args:List Value} {v:Value} (h:Ha F args=some v):∃ a b c d u,args=[shV a b c d]∧Eo a b (c,d)=some (FN u)∧an (Fe (FN u)) (Fe (Nc u))=true∧v=F u∧(∀ G,Ha G args=some (G u))∧∃ t,1≤a∧a≤4∧1≤b∧b≤4∧1≤c∧c≤4∧1≤d∧d≤4∧AL xO ((a - 1)*4+(b - 1))=some t∧AL t ((c - 1)*4+(d - 1))=some u:=by
 have h0:=h
 replace h:=Ad h;obtain⟨a,r1,rfl,h⟩:=h
 replace h:=AC h;obtain⟨rfl,h⟩:=h
 replace h:=Ab h;obtain⟨l,hl,h⟩:=h
 replace h:=Ad h;obtain⟨v1,l1,rfl,h⟩:=h
 replace h:=Ad h;obtain⟨v2,l2,rfl,h⟩:=h
 replace h:=Ad h;obtain⟨v3,l3,rfl,h⟩:=h
 replace h:=Ad h;obtain⟨v4,l4,rfl,h⟩:=h
 replace h:=AC h;obtain⟨rfl,h⟩:=h
 replace h:=Ab h;obtain⟨z1,e1,h⟩:=h
 replace h:=Ab h;obtain⟨a,f1,h⟩:=h
 replace h:=Ab h;obtain⟨z2,e2,h⟩:=h
 replace h:=Ab h;obtain⟨b,f2,h⟩:=h
 replace h:=Ab h;obtain⟨z3,e3,h⟩:=h
 replace h:=Ab h;obtain⟨c,f3,h⟩:=h
 replace h:=Ab h;obtain⟨z4,e4,h⟩:=h
 replace h:=Ab h;obtain⟨d,f4,h⟩:=h
 replace h:=Ae h;obtain⟨hc,h⟩:=h
 replace h:=Ab h;obtain⟨t,ht,h⟩:=h
 replace h:=Ab h;obtain⟨u,hu,h⟩:=h
 injection h with h
 obtain⟨k1,hc⟩:=Av hc
 obtain⟨k2,hc⟩:=Av hc
 obtain⟨k3,hc⟩:=Av hc
 obtain⟨k4,hc⟩:=Av hc
 obtain⟨k5,hc⟩:=Av hc
 obtain⟨k6,hc⟩:=Av hc
 obtain⟨k7,k8⟩:=Av hc
 refine⟨a,b,c,d,u,?_,?_,Qu (Qu QK ht) hu,h.symm,fun G=>?_,t,Nat.le_of_ble_eq_true k1,Nat.le_of_ble_eq_true k2,Nat.le_of_ble_eq_true k3,Nat.le_of_ble_eq_true k4,Nat.le_of_ble_eq_true k5,Nat.le_of_ble_eq_true k6,Nat.le_of_ble_eq_true k7,Nat.le_of_ble_eq_true k8,ht,hu⟩
 ·rw[BQ hl,Eh e1,Eh e2,Eh e3,Eh e4,AR f1,AR f2,AR f3,AR f4];rfl
 ·exact YA (Nat.le_of_ble_eq_true k1) (Nat.le_of_ble_eq_true k2) (Nat.le_of_ble_eq_true k3) (Nat.le_of_ble_eq_true k4) (Nat.le_of_ble_eq_true k5) (Nat.le_of_ble_eq_true k6) (Nat.le_of_ble_eq_true k7) (Nat.le_of_ble_eq_true k8) ht hu
 ·unfold Ha
  rw[Aih,Ai8,hl,Ac,Aih,Aih,Aih,Aih,Ai8,e1,Ac,f1,Ac,e2,Ac,f2,Ac,e3,Ac,f3,Ac,e4,Ac,f4,Ac,k1,k2,k3,k4,k5,k6,k7,k8]
  show oo (AL xO ((a - 1)*4+(b - 1))) none (fun t=>oo (AL t ((c - 1)*4+(d - 1))) none fun v=>some (G v))=some (G u)
  rw[ht,Ac,hu,Ac]
theorem AgU (hm:Try.prog.follows .mixedOrders=true):BA Try.prog tabs 10 (Ha FN):=by
 refine KS (tabs:=tabs) (n:=4000) (g:=10) (H:=KF tabs) (isP:=isW) (pu:=Qs) (inl:=inl Qs) BO Co Cs MU hm (AgS hm) (i0 hm) (fun i=>RN i) rfl (A9 Xf) fun args v h=>?_
 obtain⟨a,b,c,d,u,rfl,h1,h2,rfl,_,_⟩:=Jd h
 exact⟨(Av h2).1,h1⟩
theorem xK (u:Option (Nat×List Value)):PG (FN u) (Nc u):=by
 cases u with
 | none=>exact PG.tup (l:=[.slice none 0 0,.int .i64 12]) (l':=[Sl.v 3 ⟨0,2,[]⟩,.int .i64 12]) ⟨PG.nil 3 2,PG.refl _,trivial⟩
 | some p=>exact PG.refl _
theorem Uz {P:Program} {tabs:List (List Value)} {g:FuncId} {f f':List Value→Option Value} (h:BA P tabs g f) (hf:∀ a v,f' a=some v→∃ v0,f a=some v0∧PG v0 v∧Fe v=true):BA P tabs g f':=⟨h.1,fun args v hv hcl R w args' hR hs ha=>by
 obtain⟨v0,h1,h2,h3⟩:=hf args v hv
 exact(h.2 args v0 h1 hcl R w args' hR hs ha).mono fun e w' ⟨u,H',R',he,_,hu,hp⟩=>⟨u,H',R',he,h3,h2 _ _ hu,hp⟩⟩
theorem Ajh (hm:Try.prog.follows .mixedOrders=true):BA Try.prog tabs 10 (Ha Nc):=Uz (AgU hm) fun args v h=>by
 obtain⟨a,b,c,d,u,rfl,h1,h2,rfl,h3,_⟩:=Jd h
 exact⟨_,h3 FN,xK u,(Av h2).2⟩
end Go.Proofs.Ytflonlkiajhhjaa.TpM
set_option maxRecDepth 100000
set_option maxHeartbeats 0
namespace Go.Proofs.Ytflonlkiajhhjaa.TpM
open Go Go.Sp Go.TpM Go.TpMM Go.BkQ
noncomputable section
def FY:Option (Nat×List Value)→Value:=fun t=>.tuple ⟨[.bool (t.elim false fun _=>true),.int .i64 0]⟩
def isC:FuncId→Bool:=fun g=>an (isP g) (nt (ED g [10,11,12]))
def MZ (n:Nat) (g:FuncId) (args:List Value):Option (Value×Aa):=Mw tabs isC Qs (inl Qs) tt Gs n g args (KF tabs)
def Gt (a b:Nat) (p:Nat×Nat):Option Value:=kP (MZ 4000 11 [shV a b p.1 p.2])
end
theorem Ajk (hm:Try.prog.follows .mixedOrders=true):∀ g,isC g=true→BA Try.prog tabs g (Qs g):=fun g hg=>wQ hm g (Av (show an (isP g) (nt (ED g [10,11,12]))=true from hg)).1
theorem Ajl:AP (Gt 1 1) BB=AP (fun v=>some (FY v)) wR:=by kernel_rfl
theorem Ajm:AP (Gt 1 2) BB=AP (fun v=>some (FY v)) wS:=by kernel_rfl
theorem Ajn:AP (Gt 1 3) BB=AP (fun v=>some (FY v)) wT:=by kernel_rfl
theorem Ajo:AP (Gt 1 4) BB=AP (fun v=>some (FY v)) wU:=by kernel_rfl
theorem Ajp:AP (Gt 2 1) BB=AP (fun v=>some (FY v)) wV:=by kernel_rfl
theorem Ajq:AP (Gt 2 2) BB=AP (fun v=>some (FY v)) wW:=by kernel_rfl
theorem Ajr:AP (Gt 2 3) BB=AP (fun v=>some (FY v)) wZ:=by kernel_rfl
theorem Ajs:AP (Gt 2 4) BB=AP (fun v=>some (FY v)) xA:=by kernel_rfl
theorem Ajt:AP (Gt 3 1) BB=AP (fun v=>some (FY v)) xB:=by kernel_rfl
theorem Aju:AP (Gt 3 2) BB=AP (fun v=>some (FY v)) xC:=by kernel_rfl
theorem Ajv:AP (Gt 3 3) BB=AP (fun v=>some (FY v)) xD:=by kernel_rfl
theorem Ajw:AP (Gt 3 4) BB=AP (fun v=>some (FY v)) xE:=by kernel_rfl
theorem Ajx:AP (Gt 4 1) BB=AP (fun v=>some (FY v)) xG:=by kernel_rfl
theorem Ajy:AP (Gt 4 2) BB=AP (fun v=>some (FY v)) xH:=by kernel_rfl
theorem Ajz:AP (Gt 4 3) BB=AP (fun v=>some (FY v)) xI:=by kernel_rfl
theorem AjA:AP (Gt 4 4) BB=AP (fun v=>some (FY v)) xJ:=by kernel_rfl
theorem BI {a b:Nat} {t:List (Option (Nat×List Value))} (h:AP (Gt a b) BB=AP (fun v=>some (FY v)) t) {c d:Nat} (c1:1≤c) (c4:c≤4) (d1:1≤d) (d4:d≤4) {v:Option (Nat×List Value)} (hv:AL t ((c - 1)*4+(d - 1))=some v):Gt a b (c,d)=some (FY v):=by
 rw[BZ] at hv
 rw[Cc,Cc] at h
 have hs:BB[(c - 1)*4+(d - 1)]?=some (c,d):=by
  obtain rfl | rfl | rfl | rfl:c=1∨c=2∨c=3∨c=4:=by omega
  all_goals
   obtain rfl | rfl | rfl | rfl:d=1∨d=2∨d=3∨d=4:=by omega
   all_goals rfl
 have h1:=congrArg (fun l=>l[(c - 1)*4+(d - 1)]?) h
 simp only[List.getElem?_map,hs,hv,Option.map_some] at h1
 injection h1
theorem xL {a b c d:Nat} (a1:1≤a) (a4:a≤4) (b1:1≤b) (b4:b≤4) (c1:1≤c) (c4:c≤4) (d1:1≤d) (d4:d≤4) {t:List (Option (Nat×List Value))} {v:Option (Nat×List Value)} (ht:AL xO ((a - 1)*4+(b - 1))=some t) (hv:AL t ((c - 1)*4+(d - 1))=some v):Gt a b (c,d)=some (FY v):=by
 obtain rfl | rfl | rfl | rfl:a=1∨a=2∨a=3∨a=4:=by omega
 all_goals
  obtain rfl | rfl | rfl | rfl:b=1∨b=2∨b=3∨b=4:=by omega
 all_goals injection ht with ht
 all_goals subst ht
 ·exact BI Ajl c1 c4 d1 d4 hv
 ·exact BI Ajm c1 c4 d1 d4 hv
 ·exact BI Ajn c1 c4 d1 d4 hv
 ·exact BI Ajo c1 c4 d1 d4 hv
 ·exact BI Ajp c1 c4 d1 d4 hv
 ·exact BI Ajq c1 c4 d1 d4 hv
 ·exact BI Ajr c1 c4 d1 d4 hv
 ·exact BI Ajs c1 c4 d1 d4 hv
 ·exact BI Ajt c1 c4 d1 d4 hv
 ·exact BI Aju c1 c4 d1 d4 hv
 ·exact BI Ajv c1 c4 d1 d4 hv
 ·exact BI Ajw c1 c4 d1 d4 hv
 ·exact BI Ajx c1 c4 d1 d4 hv
 ·exact BI Ajy c1 c4 d1 d4 hv
 ·exact BI Ajz c1 c4 d1 d4 hv
 ·exact BI AjA c1 c4 d1 d4 hv
theorem AjB (hm:Try.prog.follows .mixedOrders=true):BA Try.prog tabs 11 (Ha FY):=by
 refine I5 (tabs:=tabs) (n:=4000) (g:=11) (H:=KF tabs) (isP:=isC) (pu:=Qs) (inl:=inl Qs) BO Co Cs MU hm (Ajk hm) (i0 hm) (fun i=>RN i) rfl (A9 XL) fun args v h=>?_
 obtain⟨a,b,c,d,u,rfl,h1,h2,rfl,h3,t,a1,a4,b1,b4,c1,c4,d1,d4,ht,hu⟩:=Jd h
 exact⟨by cases u <;> rfl,.inl (xL a1 a4 b1 b4 c1 c4 d1 d4 ht hu)⟩
end Go.Proofs.Ytflonlkiajhhjaa.TpM
set_option maxRecDepth 100000
set_option maxHeartbeats 0
namespace Go.Proofs.Ytflonlkiajhhjaa.TpM
open Go Go.Sp Go.TpM Go.TpMM Go.BkQ
noncomputable section
def puB:Af:=fun g=>bb (Nat.beq g 12) Wl (bb (Nat.beq g 10) (Ha Nc) (bb (Nat.beq g 11) (Ha FY) (Qs g)))
end
theorem eB (g:FuncId) (h:Nat.beq g 12=false) (h2:Nat.beq g 10=false) (h3:Nat.beq g 11=false):puB g=Qs g:=by unfold puB;rw[h,AA,h2,AA,h3,AA]
theorem AjC:puB 12=Wl:=by unfold puB;rw[show Nat.beq 12 12=true from rfl,Ak]
theorem AjD:puB 10=Ha Nc:=by unfold puB;rw[show Nat.beq 10 12=false from rfl,AA,show Nat.beq 10 10=true from rfl,Ak]
theorem AjE:puB 11=Ha FY:=by unfold puB;rw[show Nat.beq 11 12=false from rfl,AA,show Nat.beq 11 10=false from rfl,AA,show Nat.beq 11 11=true from rfl,Ak]
theorem AjF (hm:Try.prog.follows .mixedOrders=true):∀ g,isP g=true→BA Try.prog tabs g (puB g):=fun g hg=>by
 by_cases e:g=12
 ·subst e;rw[AjC];exact AiV hm
 ·by_cases e2:g=10
  ·subst e2;rw[AjD];exact Ajh hm
  ·by_cases e3:g=11
   ·subst e3;rw[AjE];exact AjB hm
   ·rw[eB g (QJ e) (QJ e2) (QJ e3)];exact wQ hm g hg
theorem hcB (hm:Try.prog.follows .mixedOrders=true):CO Try.prog (List.range tabs.length) (Bb tabs isP puB (inl puB)):=by
 obtain⟨_,h1,h2,h3,h4,h5,h6,h7,h8⟩:=QE hm (hw hm) 30
 exact TG (P:=Try.prog) (tabs:=tabs) (pu:=puB) Co Cs (QC hm (pu:=puB) (by rw[eB 85 rfl rfl rfl];exact h1) (by rw[eB 19 rfl rfl rfl];exact h2) (by rw[eB 10050 rfl rfl rfl];exact h3) (by rw[eB 10440 rfl rfl rfl];exact h4) (by rw[eB 10680 rfl rfl rfl];exact h5) (by rw[eB 10860 rfl rfl rfl];exact h6) (by rw[eB 10460 rfl rfl rfl];exact h7) (by rw[eB 11020 rfl rfl rfl];exact h8)) (AjF hm)
theorem lawOk (hm:Try.prog.follows .mixedOrders=true):BA Try.prog tabs 4 (m4 puB L):=Aw (tabs:=tabs) (f:=m4 puB L) BO hm (hcB hm) fk4 fun args v h hx=>r4 puB L rfl h hx
end Go.Proofs.Ytflonlkiajhhjaa.TpM
set_option maxRecDepth 100000
set_option maxHeartbeats 0
namespace Go.Proofs.Ytflonlkiajhhjaa.TpM
open Go Go.Sp Go.TpM Go.TpMM Go.BkQ
noncomputable section
def kd (x:Int):Int:=Int.tmod (Aj .i64 x) (4:Int)
def Uh (a b c d t:Int):Option Value:=xN puB 1000 a b c d t
def isT (o:Option Value):Bool:=oo o false fun v=>oo (Bf v) false fun b=>b
def four:List Int:=[0,1,2,3]
def three:List Int:=[0,1,2]
def ways (a b:Int):Bool:=Au (fun c=>Au (fun d=>Au (fun t=>isT (Uh a b c d t)) three) four) four
end
theorem Ui {x:Int} (h:kd x∈four):kd (kd x)=kd x:=by
 simp only[four,List.mem_cons,List.not_mem_nil,or_false] at h
 rcases h with h | h | h | h <;> rw[h] <;> rfl
theorem early {x1 x3 x5 x7 x9:Int} (h1:kd x1∈four) (h3:kd x3∈four) (h5:kd x5∈four) (h7:kd x7∈four) (h9:Int.tmod (Int.tmod x9 3) 3=Int.tmod x9 3):xN puB 1000 x1 x3 x5 x7 x9=Uh (kd x1) (kd x3) (kd x5) (kd x7) (Int.tmod x9 3):=by
 have e1:=Ui h1
 have e3:=Ui h3
 have e5:=Ui h5
 have e7:=Ui h7
 unfold Uh xN
 unfold kd at e1 e3 e5 e7 ⊢
 rw[e1,e3,e5,e7,h9]
theorem xM {o:Option Value} (h:isT o=true):o=some (.bool true):=by
 unfold isT at h
 cases o with
 | none=>cases h
 | some v =>
  replace h:oo (Bf v) false (fun b=>b)=true:=h
  cases hb:Bf v with
  | none=>rw[hb] at h;cases h
  | some b=>rw[hb,Ac] at h;subst h;rw[BV hb]
theorem Gn {x:Int} (h0:0≤x) (h1:x < 256):kd x∈four:=by
 have hx:Aj .i64 x=x:=by
  obtain⟨n,rfl⟩:=Int.eq_ofNat_of_zero_le h0
  have hn:n < 256:=by omega
  have:∀ m:Fin 256,Aj .i64 (.ofNat m.1) = .ofNat m.1:=by decide
  exact this ⟨n,hn⟩
 unfold kd
 rw[hx]
 have h2:0≤Int.tmod x 4:=Int.tmod_nonneg _ h0
 have h3:Int.tmod x 4 < 4:=Int.tmod_lt_of_pos _ (by omega)
 have:Int.tmod x 4=0∨Int.tmod x 4=1∨Int.tmod x 4=2∨Int.tmod x 4=3:=by omega
 rcases this with h | h | h | h <;> rw[h] <;> simp[four]
theorem Uj {x:Int} (h0:0≤x):Int.tmod x 3∈three:=by
 have h2:0≤Int.tmod x 3:=Int.tmod_nonneg _ h0
 have h3:Int.tmod x 3 < 3:=Int.tmod_lt_of_pos _ (by omega)
 have:Int.tmod x 3=0∨Int.tmod x 3=1∨Int.tmod x 3=2:=by omega
 rcases this with h | h | h <;> rw[h] <;> simp[three]
theorem YB {y:Int} (h:y∈three):Int.tmod y 3=y:=by
 simp only[three,List.mem_cons,List.not_mem_nil,or_false] at h
 rcases h with rfl | rfl | rfl <;> rfl
theorem Ph {p:Int→Bool} {l:List Int} (h:Au p l=true) {x:Int} (hx:x∈l):p x=true:=by
 rw[Bh] at h
 exact List.all_eq_true.1 h x hx
theorem wfU {n:Int} (h:(Lit.int .u8 n).wf=true):0≤n∧n < 256:=by
 simp only[Lit.wf,Bool.and_eq_true,decide_eq_true_eq] at h
 have h1:(0:Int)≤n:=h.1
 have h2:n≤(255:Int):=h.2
 omega
end Go.Proofs.Ytflonlkiajhhjaa.TpM
