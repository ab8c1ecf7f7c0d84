/- Made from wip. -/
import Derived.Test.YtlgmapibifphaaaDoorMnOMod1x

set_option maxRecDepth 100000
set_option maxHeartbeats 20000000
set_option linter.unusedVariables false
namespace Go.MnOM
open Go.Sp Go.MnO
noncomputable section
def QB (pu:Af) (n n0 c0:Nat) (q0:LV):OV:=
 (bb (Au Ah q0) (bb (an (Nat.ble (0+n0*2) (len q0)) (Au Ah (Aq (n0*2) (Am 0 q0)))) (some (.tuple ⟨[(Sl.v 2 (Sl.mk n0 0 (Aq (n0*2) (Am 0 q0)))),(.int .i64 (0:Int))]⟩)) none) none)
def WA (pu:Af) (n:Nat) (ih0:Int→Nat→Nat→Int→Int→Int→Sl→Sl→LV→OV) (z0:Int) (n0 c0:Nat) (z1 z2 z3:Int) (s0 s1:Sl) (q0:LV):OV:=
 (bb (Au Ah q0) (ih0 z0 n0 c0 z1 (Aj .i64 (Int.add z2 (1:Int))) z3 s0 s1 q0) none)
def QC (pu:Af) (n:Nat) (ih0:Int→Nat→Nat→Int→Int→Int→Sl→Sl→LV→OV) (ih1:Int→Nat→Nat→Int→Int→Int→Int→Int→Sl→Sl→LV→OV) (z0:Int) (n0 c0:Nat) (z1 z2 z3 z4 z5:Int) (s0 s1:Sl) (q0:LV):OV:=
 (bb (Au Ah q0) (ih1 z0 n0 c0 z1 (Aj .i64 (Int.add z2 (1:Int))) z3 z4 z5 s0 s1 q0) none)
def Uf (pu:Af) (n:Nat) (ih0:Int→Nat→Nat→Int→Int→Int→Sl→Sl→LV→OV) (ih1:Int→Nat→Nat→Int→Int→Int→Int→Int→Sl→Sl→LV→OV) (z0:Int) (n0 c0:Nat) (z1 z2 z3 z4 z5:Int) (s0 s1:Sl) (q0:LV):OV:=
 (bb (Au Ah q0) (bb (AY z2 (Int.ofNat (Sl.n s0))) (oo (pu 43 [(.agg ⟨[.int .i64 z5,Sl.v 1 s0,Sl.v 1 s1]⟩),.int .i64 z1,.int .i64 z2]) none fun v0=>(oo (Bt v0) none fun l0=>(ll l0 none fun v1 l0=>(ll l0 none fun v2 l0=>(ll l0 none fun v3 l0=>(ll l0 (oo (Bi .i64 v1) none fun x0=>(oo (Bj 1 v2) none fun s2=>(oo (Bj 1 v3) none fun s3=>(oo (pu 44 [(.agg ⟨[.int .i64 x0,Sl.v 1 s2,Sl.v 1 s3]⟩)]) none fun v4=>(oo (Bi .i64 v4) none fun x1=>(bb (AY x1 z0) (bb (GV 2 16 n0 c0 1 q0) (bb (Au Ah (Br (Am 0 q0) [.int .i64 z1,.int .i64 z2])) (QC pu n ih0 ih1 z0 (n0+1) (2*(n0+1)+bb false 1 0) z1 z2 z3 z4 z5 s0 s1 (Br (Am 0 q0) [.int .i64 z1,.int .i64 z2])) none) none) (QC pu n ih0 ih1 z0 n0 c0 z1 z2 z3 z4 z5 s0 s1 q0))))))) fun _ _=>none)))))) (WA pu n ih0 z0 n0 c0 z3 z4 z5 s0 s1 q0)) none)
def QD (pu:Af) (n:Nat) (ih0:Int→Nat→Nat→Int→Int→Int→Sl→Sl→LV→OV) (w:Nat):Int→Nat→Nat→Int→Int→Int→Int→Int→Sl→Sl→LV→OV:=
 Nat.rec (motive:=fun _=>Int→Nat→Nat→Int→Int→Int→Int→Int→Sl→Sl→LV→OV) (fun _ _ _ _ _ _ _ _ _ _ _=>none) (fun _ ih1=>Uf pu n ih0 ih1) w
def Ug (pu:Af) (n:Nat) (ih0:Int→Nat→Nat→Int→Int→Int→Sl→Sl→LV→OV) (z0:Int) (n0 c0:Nat) (z1 z2 z3:Int) (s0 s1:Sl) (q0:LV):OV:=
 (bb (Au Ah q0) (bb (AY z2 z1) (QD pu n ih0 n z0 n0 c0 z2 (Aj .i64 (Int.add z2 (1:Int))) z1 z2 z3 s0 s1 q0) (QB pu n n0 c0 q0)) none)
def KT (pu:Af) (n w:Nat):Int→Nat→Nat→Int→Int→Int→Sl→Sl→LV→OV:=
 Nat.rec (motive:=fun _=>Int→Nat→Nat→Int→Int→Int→Sl→Sl→LV→OV) (fun _ _ _ _ _ _ _ _ _=>none) (fun _ ih0=>Ug pu n ih0) w
def bI (pu:Af) (n:Nat) (x0:Int) (s0 s1:Sl):OV:=
 (oo (pu 29 [(.agg ⟨[.int .i64 x0,Sl.v 1 s0,Sl.v 1 s1]⟩)]) none fun v0=>(oo (CQ v0) none fun l0=>(ll l0 none fun v1 l0=>(ll l0 none fun v2 l0=>(ll l0 (oo (Bi .i64 v1) none fun x1=>(oo (Bi .i64 v2) none fun x2=>(bb (nt (Bd x2 (0:Int))) (some (.tuple ⟨[(Sl.v 2 (Sl.mk 0 2 [])),.int .i64 x2]⟩)) (KT pu n n x1 0 0 (Int.ofNat (Sl.n s0)) (0:Int) x0 s0 s1 ([]:LV))))) fun _ _=>none)))))
def m13 (pu:Af) (n:Nat) (args:LV):OV:=
 (ll args none fun a0 args=>(ll args (oo (Bt a0) none fun l0=>(ll l0 none fun v0 l0=>(ll l0 none fun v1 l0=>(ll l0 none fun v2 l0=>(ll l0 (oo (Bi .i64 v0) none fun x0=>(oo (Bj 1 v1) none fun s0=>(oo (Bj 1 v2) none fun s1=>(bI pu n x0 s0 s1)))) fun _ _=>none))))) fun _ _=>none))
theorem AaO (pu:Af) (n n0 c0:Nat) (q0:LV) {v:Value} (hm:QB pu n n0 c0 q0=some v):BN tt (Bb tabs HV pu (inl pu)) 1 XQ (fr 47 [(6,sc 1 0 2 n0 c0)]) (hT 2 [oC q0]) (Fin tt 1 [.tmp 2,.tmp 3] v):=by
 unfold QB at hm
 refine .then (.rK ?_)
 replace hm:=Ae hm;obtain⟨h0,hm⟩:=hm
 refine .ghs (fr 47 [(2,sc 1 0 2 n0 c0),(3,(zI (0:Int)))]) (hT 2 [oC q0]) (.k [1] [false] [.tmp 2 false] [2,3] ⟨Dy h0,trivial⟩) ?_
 replace hm:=Ae hm;obtain⟨h1,hm⟩:=hm
 refine .ghs (Fr.puts (fr 47 [(2,sc 1 0 2 n0 c0),(3,(zI (0:Int)))]) [(2,(Sl.v 2 (Sl.mk n0 0 (Aq (n0*2) (Am 0 q0)))))]) (hT 2 [.dead]) (.freezeC 1 2 2 (an (Nat.ble (0+n0*2) (len q0)) (Au Ah (Aq (n0*2) (Am 0 q0)))) (F1:=(Fr.puts (fr 47 [(2,sc 1 0 2 n0 c0),(3,(zI (0:Int)))]) [(2,(Sl.v 2 (Sl.mk n0 0 (Aq (n0*2) (Am 0 q0)))))])) (H1:=(hT 2 [.dead])) (by kernel_rfl) (by kernel_rfl) h1 (E9.id _ _)) ?_
 refine .ret ?_
 exact Fp (.tuple ⟨[(Sl.v 2 (Sl.mk n0 0 (Aq (n0*2) (Am 0 q0)))),(zI (0:Int))]⟩) hm
theorem r13 {call:A8} (pu:Af) (n:Nat) (hcall:call=Bb tabs HV pu (inl pu)) {args:LV} {v:Value} (hm:m13 pu n args=some v) (_:∀ x∈args,closed2 x=true):args.length≤47∧BN tt call 1 R4 (Fr.made 47 args) (Ao tabs) (Fin tt 1 [.tmp 2,.tmp 3] v):=by
 subst hcall
 unfold m13 at hm
 replace hm:=Ad hm;obtain⟨a0,args_0,rfl,hm⟩:=hm
 replace hm:=AC hm;obtain⟨rfl,hm⟩:=hm
 replace hm:=BG hm;obtain⟨l0,rfl,hm⟩:=hm
 replace hm:=Ad hm;obtain⟨v0,l31169_0,rfl,hm⟩:=hm
 replace hm:=Ad hm;obtain⟨v1,l31169_1,rfl,hm⟩:=hm
 replace hm:=Ad hm;obtain⟨v2,l31169_2,rfl,hm⟩:=hm
 replace hm:=AC hm;obtain⟨rfl,hm⟩:=hm
 replace hm:=Ai hm;obtain⟨x0,rfl,hm⟩:=hm
 replace hm:=Al hm;obtain⟨s0,rfl,hm⟩:=hm
 replace hm:=Al hm;obtain⟨s1,rfl,hm⟩:=hm
 unfold bI at hm
 refine⟨by simp,?_⟩
 refine .same (F':=(fr 47 [(0,(.agg ⟨[zI x0,Sl.v 1 s0,Sl.v 1 s1]⟩))])) (H':=DT) (by kernel_rfl) (by kernel_rfl) ?_
 refine .then (.rK (.ghs (fr 47 [(1,pt 1 0)]) (hT 2 [(oC [zI x0,Sl.v 1 s0,Sl.v 1 s1])]) (.k0 [false] [.tmp 1 false] [1]) ?_))
 refine .then ?_
 replace hm:=Ab hm;obtain⟨v3,h0,hm⟩:=hm
 replace hm:=Ch hm;obtain⟨l1,rfl,hm⟩:=hm
 replace hm:=Ad hm;obtain⟨v4,l31192_0,rfl,hm⟩:=hm
 replace hm:=Ad hm;obtain⟨v5,l31192_1,rfl,hm⟩:=hm
 replace hm:=AC hm;obtain⟨rfl,hm⟩:=hm
 replace hm:=Ai hm;obtain⟨x1,rfl,hm⟩:=hm
 replace hm:=Ai hm;obtain⟨x2,rfl,hm⟩:=hm
 refine .reg (eC 1 ((oo (pu 29 [(.agg ⟨[zI x0,Sl.v 1 s0,Sl.v 1 s1]⟩)]) none fun v=>some (v,(hT 2 [(oC [zI x0,Sl.v 1 s0,Sl.v 1 s1])])))) (AB h0) (eE)) ?_
 refine .ghs (fr 47 [(1,pt 1 0),(4,zI x1),(5,zI x2)]) (hT 2 [(oC [zI x0,Sl.v 1 s0,Sl.v 1 s1])]) (.k0 [false] [.tmp 1 false] [1,4,5]) ?_
 refine .then (.then (.rK (.ghs (fr 47 [(1,pt 1 0),(4,zI x1),(5,zI x2),(15,(zB (nt (Bd x2 (0:Int)))))]) (hT 2 [(oC [zI x0,Sl.v 1 s0,Sl.v 1 s1])]) (.k0 [false] [.tmp 1 false] [1,4,5,15]) ?_)))
 replace hm:=Ag hm;rcases hm with⟨h1,hm⟩ | ⟨h1,hm⟩
 ·refine FX (nt (Bd x2 (0:Int))) h1 ?_
  refine .then (.rK (.ghs (fr 47 [(2,(.slice none 0 0)),(3,zI x2)]) DT (.k0 [false] [] [2,3]) ?_))
  refine .ghs (Fr.puts (fr 47 [(2,(.slice none 0 0)),(3,zI x2)]) [(2,(Sl.v 2 (Sl.mk 0 2 [])))]) DT (.freeze 1 2 2 (by kernel_rfl) (by kernel_rfl) (E9.id _ _)) ?_
  refine .ret ?_
  exact Fp (.tuple ⟨[(Sl.v 2 (Sl.mk 0 2 [])),zI x2]⟩) hm
 ·refine FY (nt (Bd x2 (0:Int))) h1 ?_
  refine .skip (.ghs (fr 47 [(1,pt 1 0),(4,zI x1)]) (hT 2 [(oC [zI x0,Sl.v 1 s0,Sl.v 1 s1])]) (.k0 [false] [.tmp 1 false] [1,4]) ?_)
  refine .then (.rK (.ghs (fr 47 [(1,pt 1 0),(4,zI x1),(6,(.slice none 0 0))]) (hT 2 [(oC [zI x0,Sl.v 1 s0,Sl.v 1 s1])]) (.k0 [false] [.tmp 1 false] [1,4,6]) ?_))
  refine .join (v:=v) (fun y:Nat×Nat×LV=>((fr 47 [(6,(sc 1 0 2 y.1 y.2.1))]),(hT 2 [(oC y.2.2)]))) (fun y=>QB pu n y.1 y.2.1 y.2.2) ?_ ?_
  ·rintro⟨n0,c0,q0⟩ hm
   exact AaO pu n n0 c0 q0 hm
  ·refine .then (.rK (.ghs (fr 47 [(1,pt 1 0),(4,zI x1),(6,(.slice none 0 0)),(19,(zI (Int.ofNat (Sl.n s0)))),(20,(zI (0:Int)))]) (hT 2 [(oC [zI x0,Sl.v 1 s0,Sl.v 1 s1])]) (.k0 [false] [.tmp 1 false] [1,4,6,19,20]) ?_))
   refine .block (.loopM (v:=v) (fun y:Int×Nat×Nat×Int×Int×Int×Sl×Sl×LV=>((fr 47 [(1,pt 1 0),(4,(zI y.1)),(6,(sc 2 0 2 y.2.1 y.2.2.1)),(19,(zI y.2.2.2.1)),(20,(zI y.2.2.2.2.1))]),(hT 3 [(oC [(zI y.2.2.2.2.2.1),(Sl.v 1 y.2.2.2.2.2.2.1),(Sl.v 1 y.2.2.2.2.2.2.2.1)]),(oC y.2.2.2.2.2.2.2.2)]))) (fun w y=>KT pu n w y.1 y.2.1 y.2.2.1 y.2.2.2.1 y.2.2.2.2.1 y.2.2.2.2.2.1 y.2.2.2.2.2.2.1 y.2.2.2.2.2.2.2.1 y.2.2.2.2.2.2.2.2) n ⟨(x1,0,0,(Int.ofNat (Sl.n s0)),(0:Int),x0,s0,s1,([]:LV)),hm,(.thaw 6 2 (by kernel_rfl) (.k0 [false] [.tmp 1 false,.tmp 6 false] [1,4,6,19,20]))⟩ (fun _=>rfl) ?_)
   rintro w0 ⟨z0,n1,c1,z1,z2,z3,s2,s3,q1⟩ hm
   replace hm:Ug pu n (KT pu n w0) z0 n1 c1 z1 z2 z3 s2 s3 q1=some v:=hm
   unfold Ug at hm
   refine .then (.rK ?_)
   replace hm:=Ae hm;obtain⟨h2,hm⟩:=hm
   refine .ghs (fr 47 [(1,pt 1 0),(4,zI z0),(6,sc 2 0 2 n1 c1),(19,zI z1),(20,zI z2),(21,(zB (AY z2 z1)))]) (hT 3 [(oC [zI z3,Sl.v 1 s2,Sl.v 1 s3]),oC q1]) (.k [2] [false] [.tmp 1 false,.tmp 6 false] [1,4,6,19,20,21] ⟨Dy h2,trivial⟩) ?_
   refine .then ?_
   replace hm:=Ag hm;rcases hm with⟨h3,hm⟩ | ⟨h3,hm⟩
   ·refine FX (AY z2 z1) h3 ?_
    refine .skip (.ghs (fr 47 [(1,pt 1 0),(4,zI z0),(6,sc 2 0 2 n1 c1),(19,zI z1),(20,zI z2)]) (hT 3 [(oC [zI z3,Sl.v 1 s2,Sl.v 1 s3]),oC q1]) (.k [2] [false] [.tmp 1 false,.tmp 6 false] [1,4,6,19,20] ⟨Dy h2,trivial⟩) ?_)
    refine .join (v:=v) (fun y:Int×Nat×Nat×Int×Int×Int×Sl×Sl×LV=>((fr 47 [(1,pt 1 0),(4,(zI y.1)),(6,(sc 2 0 2 y.2.1 y.2.2.1)),(19,(zI y.2.2.2.1)),(20,(zI y.2.2.2.2.1))]),(hT 3 [(oC [(zI y.2.2.2.2.2.1),(Sl.v 1 y.2.2.2.2.2.2.1),(Sl.v 1 y.2.2.2.2.2.2.2.1)]),(oC y.2.2.2.2.2.2.2.2)]))) (fun y=>WA pu n (KT pu n w0) y.1 y.2.1 y.2.2.1 y.2.2.2.1 y.2.2.2.2.1 y.2.2.2.2.2.1 y.2.2.2.2.2.2.1 y.2.2.2.2.2.2.2.1 y.2.2.2.2.2.2.2.2) ?_ ?_
    ·rintro⟨z4,n2,c2,z5,z6,z7,s4,s5,q2⟩ hm
     unfold WA at hm
     refine .rK ?_
     replace hm:=Ae hm;obtain⟨h4,hm⟩:=hm
     exact⟨(z4,n2,c2,z5,(Aj .i64 (Int.add z6 (1:Int))),z7,s4,s5,q2),hm,(.k [2] [false] [.tmp 1 false,.tmp 6 false] [1,4,6,19,20] ⟨Dy h4,trivial⟩)⟩
    ·refine .block (.then (.rK (.ghs (fr 47 [(1,pt 1 0),(4,zI z0),(6,sc 2 0 2 n1 c1),(7,zI z2),(19,zI z1),(20,zI z2)]) (hT 3 [(oC [zI z3,Sl.v 1 s2,Sl.v 1 s3]),oC q1]) (.k [2] [false] [.tmp 1 false,.tmp 6 false] [1,4,6,7,19,20] ⟨Dy h2,trivial⟩) ?_)))
     refine .then (.rK (.ghs (fr 47 [(1,pt 1 0),(4,zI z0),(6,sc 2 0 2 n1 c1),(7,zI z2),(8,(zI (Aj .i64 (Int.add z2 (1:Int))))),(19,zI z1),(20,zI z2)]) (hT 3 [(oC [zI z3,Sl.v 1 s2,Sl.v 1 s3]),oC q1]) (.k [2] [false] [.tmp 1 false,.tmp 6 false] [1,4,6,7,8,19,20] ⟨Dy h2,trivial⟩) ?_))
     refine .block (.loopM (v:=v) (fun y:Int×Nat×Nat×Int×Int×Int×Int×Int×Sl×Sl×LV=>((fr 47 [(1,pt 1 0),(4,(zI y.1)),(6,(sc 2 0 2 y.2.1 y.2.2.1)),(7,(zI y.2.2.2.1)),(8,(zI y.2.2.2.2.1)),(19,(zI y.2.2.2.2.2.1)),(20,(zI y.2.2.2.2.2.2.1))]),(hT 3 [(oC [(zI y.2.2.2.2.2.2.2.1),(Sl.v 1 y.2.2.2.2.2.2.2.2.1),(Sl.v 1 y.2.2.2.2.2.2.2.2.2.1)]),(oC y.2.2.2.2.2.2.2.2.2.2)]))) (fun w y=>QD pu n (KT pu n w0) w y.1 y.2.1 y.2.2.1 y.2.2.2.1 y.2.2.2.2.1 y.2.2.2.2.2.1 y.2.2.2.2.2.2.1 y.2.2.2.2.2.2.2.1 y.2.2.2.2.2.2.2.2.1 y.2.2.2.2.2.2.2.2.2.1 y.2.2.2.2.2.2.2.2.2.2) n ⟨(z0,n1,c1,z2,(Aj .i64 (Int.add z2 (1:Int))),z1,z2,z3,s2,s3,q1),hm,(.k [2] [false] [.tmp 1 false,.tmp 6 false] [1,4,6,7,8,19,20] ⟨Dy h2,trivial⟩)⟩ (fun _=>rfl) ?_)
     rintro w1 ⟨z8,n3,c3,z9,z10,z11,z12,z13,s6,s7,q3⟩ hm
     replace hm:Uf pu n (KT pu n w0) (QD pu n (KT pu n w0) w1) z8 n3 c3 z9 z10 z11 z12 z13 s6 s7 q3=some v:=hm
     unfold Uf at hm
     refine .then (.then (.rK ?_))
     replace hm:=Ae hm;obtain⟨h5,hm⟩:=hm
     refine .ghs (fr 47 [(1,pt 1 0),(4,zI z8),(6,sc 2 0 2 n3 c3),(7,zI z9),(8,zI z10),(19,zI z11),(20,zI z12),(29,(zB (AY z10 (Int.ofNat (Sl.n s6)))))]) (hT 3 [(oC [zI z13,Sl.v 1 s6,Sl.v 1 s7]),oC q3]) (.k [2] [false] [.tmp 1 false,.tmp 6 false] [1,4,6,7,8,19,20,29] ⟨Dy h5,trivial⟩) ?_
     replace hm:=Ag hm;rcases hm with⟨h6,hm⟩ | ⟨h6,hm⟩
     ·refine FX (AY z10 (Int.ofNat (Sl.n s6))) h6 ?_
      refine .skip (.ghs (fr 47 [(1,pt 1 0),(4,zI z8),(6,sc 2 0 2 n3 c3),(7,zI z9),(8,zI z10),(19,zI z11),(20,zI z12)]) (hT 3 [(oC [zI z13,Sl.v 1 s6,Sl.v 1 s7]),oC q3]) (.k [2] [false] [.tmp 1 false,.tmp 6 false] [1,4,6,7,8,19,20] ⟨Dy h5,trivial⟩) ?_)
      refine .join (v:=v) (fun y:Int×Nat×Nat×Int×Int×Int×Int×Int×Sl×Sl×LV=>((fr 47 [(1,pt 1 0),(4,(zI y.1)),(6,(sc 2 0 2 y.2.1 y.2.2.1)),(7,(zI y.2.2.2.1)),(8,(zI y.2.2.2.2.1)),(19,(zI y.2.2.2.2.2.1)),(20,(zI y.2.2.2.2.2.2.1))]),(hT 3 [(oC [(zI y.2.2.2.2.2.2.2.1),(Sl.v 1 y.2.2.2.2.2.2.2.2.1),(Sl.v 1 y.2.2.2.2.2.2.2.2.2.1)]),(oC y.2.2.2.2.2.2.2.2.2.2)]))) (fun y=>QC pu n (KT pu n w0) (QD pu n (KT pu n w0) w1) y.1 y.2.1 y.2.2.1 y.2.2.2.1 y.2.2.2.2.1 y.2.2.2.2.2.1 y.2.2.2.2.2.2.1 y.2.2.2.2.2.2.2.1 y.2.2.2.2.2.2.2.2.1 y.2.2.2.2.2.2.2.2.2.1 y.2.2.2.2.2.2.2.2.2.2) ?_ ?_
      ·rintro⟨z14,n4,c4,z15,z16,z17,z18,z19,s8,s9,q4⟩ hm
       unfold QC at hm
       refine .rK ?_
       replace hm:=Ae hm;obtain⟨h7,hm⟩:=hm
       exact⟨(z14,n4,c4,z15,(Aj .i64 (Int.add z16 (1:Int))),z17,z18,z19,s8,s9,q4),hm,(.k [2] [false] [.tmp 1 false,.tmp 6 false] [1,4,6,7,8,19,20] ⟨Dy h7,trivial⟩)⟩
      ·refine .block (.then ?_)
       replace hm:=Ab hm;obtain⟨v6,h8,hm⟩:=hm
       replace hm:=BG hm;obtain⟨l2,rfl,hm⟩:=hm
       replace hm:=Ad hm;obtain⟨v7,l32492_0,rfl,hm⟩:=hm
       replace hm:=Ad hm;obtain⟨v8,l32492_1,rfl,hm⟩:=hm
       replace hm:=Ad hm;obtain⟨v9,l32492_2,rfl,hm⟩:=hm
       replace hm:=AC hm;obtain⟨rfl,hm⟩:=hm
       replace hm:=Ai hm;obtain⟨x3,rfl,hm⟩:=hm
       replace hm:=Al hm;obtain⟨s10,rfl,hm⟩:=hm
       replace hm:=Al hm;obtain⟨s11,rfl,hm⟩:=hm
       replace hm:=Hy hm;obtain⟨x4,h9,hm⟩:=hm
       refine .reg (eC 3 ((oo (pu 43 [(.agg ⟨[zI z13,Sl.v 1 s6,Sl.v 1 s7]⟩),zI z9,zI z10]) none fun v=>some (v,(hT 3 [(oC [zI z13,Sl.v 1 s6,Sl.v 1 s7]),oC q3])))) (AB h8) (eD ((oo (pu 44 [(.agg ⟨[zI x3,Sl.v 1 s10,Sl.v 1 s11]⟩)]) none fun v=>some (v,(hT 3 [(oC [zI z13,Sl.v 1 s6,Sl.v 1 s7]),oC q3])))) (AB h9) (eE))) ?_
       refine .ghs (fr 47 [(1,pt 1 0),(4,zI z8),(6,sc 2 0 2 n3 c3),(7,zI z9),(8,zI z10),(19,zI z11),(20,zI z12),(38,(zB (AY x4 z8)))]) (hT 3 [(oC [zI z13,Sl.v 1 s6,Sl.v 1 s7]),oC q3]) (.k [2] [false] [.tmp 1 false,.tmp 6 false] [1,4,6,7,8,19,20,38] ⟨Dy h5,trivial⟩) ?_
       replace hm:=Ag hm;rcases hm with⟨h10,hm⟩ | ⟨h10,hm⟩
       ·refine FX (AY x4 z8) h10 ?_
        replace hm:=Ae hm;obtain⟨h11,hm⟩:=hm
        refine .reg (eC 5 (Oc 2 16 n3 c3 1 2 q3 [zI z9,zI z10] [] (hT 4 [(oC [zI z13,Sl.v 1 s6,Sl.v 1 s7]),oC q3,(oC [zI z9,zI z10])])) (I1 h11) (eE)) ?_
        replace hm:=Ae hm;obtain⟨h12,hm⟩:=hm
        exact⟨(z8,(n3+1),(d2 (n3+1)),z9,z10,z11,z12,z13,s6,s7,(Br (Am 0 q3) [zI z9,zI z10])),hm,(.k [4] [false] [.tmp 1 false,.tmp 6 false] [1,4,6,7,8,19,20] ⟨Dy h12,trivial⟩)⟩
       ·refine FY (AY x4 z8) h10 ?_
        refine .skip ?_
        exact⟨(z8,n3,c3,z9,z10,z11,z12,z13,s6,s7,q3),hm,(.k [2] [false] [.tmp 1 false,.tmp 6 false] [1,4,6,7,8,19,20] ⟨Dy h5,trivial⟩)⟩
     ·refine FY (AY z10 (Int.ofNat (Sl.n s6))) h6 ?_
      refine .exit ?_
      exact⟨(z8,n3,c3,z11,z12,z13,s6,s7,q3),hm,(.k [2] [false] [.tmp 1 false,.tmp 6 false] [1,4,6,19,20] ⟨Dy h5,trivial⟩)⟩
   ·refine FY (AY z2 z1) h3 ?_
    refine .exit ?_
    exact⟨(n1,c1,q1),hm,(.k [2] [false] [.tmp 6 false] [6] ⟨Dy h2,trivial⟩)⟩

def bJ (pu:Af) (n:Nat) (x0:Int) (s0 s1:Sl):OV:=
 (oo (pu 47 [(.agg ⟨[.int .i64 x0,Sl.v 1 s0,Sl.v 1 s1]⟩)]) none fun v0=>(oo (Bi .i64 v0) none fun x1=>(bb (nt (Bd x1 (0:Int))) (some (.tuple ⟨[(Sl.v 1 (Sl.mk 0 2 [])),.int .i64 x1]⟩)) (oo (pu 48 [(.agg ⟨[.int .i64 x0,Sl.v 1 s0,Sl.v 1 s1]⟩)]) none fun v1=>(oo (Bj 1 v1) none fun s2=>(some (.tuple ⟨[Sl.v 1 s2,(.int .i64 (0:Int))]⟩)))))))
def uW (pu:Af) (n:Nat) (args:LV):OV:=
 (ll args none fun a0 args=>(ll args (oo (Bt a0) none fun l0=>(ll l0 none fun v0 l0=>(ll l0 none fun v1 l0=>(ll l0 none fun v2 l0=>(ll l0 (oo (Bi .i64 v0) none fun x0=>(oo (Bj 1 v1) none fun s0=>(oo (Bj 1 v2) none fun s1=>(bJ pu n x0 s0 s1)))) fun _ _=>none))))) fun _ _=>none))
theorem r16 {call:A8} (pu:Af) (n:Nat) (hcall:call=Bb tabs HV pu (inl pu)) {args:LV} {v:Value} (hm:uW pu n args=some v) (_:∀ x∈args,closed2 x=true):args.length≤12∧BN tt call 1 R5 (Fr.made 12 args) (Ao tabs) (Fin tt 1 [.tmp 2,.tmp 3] v):=by
 subst hcall
 unfold uW at hm
 replace hm:=Ad hm;obtain⟨a0,args_0,rfl,hm⟩:=hm
 replace hm:=AC hm;obtain⟨rfl,hm⟩:=hm
 replace hm:=BG hm;obtain⟨l0,rfl,hm⟩:=hm
 replace hm:=Ad hm;obtain⟨v0,l32511_0,rfl,hm⟩:=hm
 replace hm:=Ad hm;obtain⟨v1,l32511_1,rfl,hm⟩:=hm
 replace hm:=Ad hm;obtain⟨v2,l32511_2,rfl,hm⟩:=hm
 replace hm:=AC hm;obtain⟨rfl,hm⟩:=hm
 replace hm:=Ai hm;obtain⟨x0,rfl,hm⟩:=hm
 replace hm:=Al hm;obtain⟨s0,rfl,hm⟩:=hm
 replace hm:=Al hm;obtain⟨s1,rfl,hm⟩:=hm
 unfold bJ at hm
 refine⟨by simp,?_⟩
 refine .same (F':=(fr 12 [(0,(.agg ⟨[zI x0,Sl.v 1 s0,Sl.v 1 s1]⟩))])) (H':=DT) (by kernel_rfl) (by kernel_rfl) ?_
 refine .then (.rK (.ghs (fr 12 [(1,pt 1 0)]) (hT 2 [(oC [zI x0,Sl.v 1 s0,Sl.v 1 s1])]) (.k0 [false] [.tmp 1 false] [1]) ?_))
 refine .then (.then ?_)
 replace hm:=Hy hm;obtain⟨x1,h0,hm⟩:=hm
 refine .reg (eC 1 ((oo (pu 47 [(.agg ⟨[zI x0,Sl.v 1 s0,Sl.v 1 s1]⟩)]) none fun v=>some (v,(hT 2 [(oC [zI x0,Sl.v 1 s0,Sl.v 1 s1])])))) (AB h0) (eE)) ?_
 refine .ghs (fr 12 [(1,pt 1 0),(4,zI x1)]) (hT 2 [(oC [zI x0,Sl.v 1 s0,Sl.v 1 s1])]) (.k0 [false] [.tmp 1 false] [1,4]) ?_
 refine .then (.rK (.ghs (fr 12 [(1,pt 1 0),(4,zI x1),(8,(zB (nt (Bd x1 (0:Int)))))]) (hT 2 [(oC [zI x0,Sl.v 1 s0,Sl.v 1 s1])]) (.k0 [false] [.tmp 1 false] [1,4,8]) ?_))
 replace hm:=Ag hm;rcases hm with⟨h1,hm⟩ | ⟨h1,hm⟩
 ·refine FX (nt (Bd x1 (0:Int))) h1 ?_
  refine .then (.rK (.ghs (fr 12 [(2,(.slice none 0 0)),(3,zI x1)]) DT (.k0 [false] [] [2,3]) ?_))
  refine .ghs (Fr.puts (fr 12 [(2,(.slice none 0 0)),(3,zI x1)]) [(2,(Sl.v 1 (Sl.mk 0 2 [])))]) DT (.freeze 1 2 1 (by kernel_rfl) (by kernel_rfl) (E9.id _ _)) ?_
  refine .ret ?_
  exact Fp (.tuple ⟨[(Sl.v 1 (Sl.mk 0 2 [])),zI x1]⟩) hm
 ·refine FY (nt (Bd x1 (0:Int))) h1 ?_
  refine .skip (.ghs (fr 12 [(1,pt 1 0)]) (hT 2 [(oC [zI x0,Sl.v 1 s0,Sl.v 1 s1])]) (.k0 [false] [.tmp 1 false] [1]) ?_)
  refine .then ?_
  replace hm:=fC hm;obtain⟨s2,h2,hm⟩:=hm
  refine .reg (eC 1 ((oo (pu 48 [(.agg ⟨[zI x0,Sl.v 1 s0,Sl.v 1 s1]⟩)]) none fun v=>some (v,(hT 2 [(oC [zI x0,Sl.v 1 s0,Sl.v 1 s1])])))) (AB h2) (eE)) ?_
  refine .ghs (fr 12 [(2,Sl.v 1 s2),(3,(zI (0:Int)))]) DT (.k0 [false] [] [2,3]) ?_
  refine .ret ?_
  exact Fp (.tuple ⟨[Sl.v 1 s2,(zI (0:Int))]⟩) hm
def QE (pu:Af) (n:Nat) (z0 z1:Int) (n0 c0 n1 c1:Nat) (q0:LV) (q1:LV):OV:=
 (bb (Au Ah q0) (bb (Au Ah q1) (bb (an (Nat.ble (0+n0*1) (len q0)) (Au Ah (Aq (n0*1) (Am 0 q0)))) (bb (an (Nat.ble (0+n1*1) (len q1)) (Au Ah (Aq (n1*1) (Am 0 q1)))) (some (.agg ⟨[.int .i64 z1,(Sl.v 1 (Sl.mk n0 0 (Aq (n0*1) (Am 0 q0)))),(Sl.v 1 (Sl.mk n1 0 (Aq (n1*1) (Am 0 q1))))]⟩)) none) none) none) none)
def Pg (pu:Af) (n:Nat) (ih0:Nat→Nat→Int→LV→Int→Int→Nat→Nat→Nat→Nat→LV→LV→LV→OV) (n0 c0:Nat) (z0:Int) (q0:LV) (z1 z2:Int) (n1 c1 n2 c2:Nat) (q1:LV) (q2:LV) (q3:LV):OV:=
 (bb (Au Ah q0) (bb (Au Ah q1) (bb (Au Ah q2) (bb (Au Ah q3) (bb (AY (0:Int) (Int.ofNat n0)) (oo (EA z0) none fun k1=>(bb (Nat.blt k1 10) (oo (AL q0 (12+k1*1)) none fun v0=>(oo (Bi .u8 v0) none fun x0=>(bb (nt (Bd (Int.ofNat n0) (0:Int))) (oo (EA (Int.tmod (Aj .i64 x0) (Int.ofNat n0))) none fun k2=>(bb (an (Nat.blt k2 n0) true) (oo (AL q1 (0+k2*1)) none fun v1=>(oo (Bi .i64 v1) none fun x1=>(bb (GV 1 8 n1 c1 1 q2) (bb (Au Ah (Br (Am 0 q2) [.int .i64 x1])) (oo (EA (Int.tmod (Aj .i64 x0) (Int.ofNat n0))) none fun k3=>(bb (Nat.ble k3 (c0 / 2)) (oo (EA (Aj .i64 (Int.add (Int.tmod (Aj .i64 x0) (Int.ofNat n0)) (1:Int)))) none fun k4=>(bb (Nat.ble k4 n0) (bb (Nat.ble (0+k3*1) (len q1)) (bb (Nat.beq (Sl.n (Sl.mk k3 0 (Aq (k3*1) (Am 0 q1)))) 0) (bb (Nat.ble ((0+k4*1)+(n0 - k4)*1) (len q1)) (bb (Nat.beq (Sl.n (Sl.mk (n0 - k4) 0 (Aq ((n0 - k4)*1) (Am (0+k4*1) q1)))) 0) (ih0 0 1 (Aj .i64 (Int.add (Int.ofNat k1) (1:Int))) q0 z1 z2 (n1+1) (2*(n1+1)+bb false 1 0) n2 c2 ([]:LV) (Br (Am 0 q2) [.int .i64 x1]) q3) (bb (EQ (0+(Sl.n (Sl.mk (n0 - k4) 0 (Aq ((n0 - k4)*1) (Am (0+k4*1) q1))))) 8) (bb (Au Ah (Aq ((Sl.n (Sl.mk (n0 - k4) 0 (Aq ((n0 - k4)*1) (Am (0+k4*1) q1))))*1) (Sl.cs (Sl.mk (n0 - k4) 0 (Aq ((n0 - k4)*1) (Am (0+k4*1) q1)))))) (ih0 (0+(Sl.n (Sl.mk (n0 - k4) 0 (Aq ((n0 - k4)*1) (Am (0+k4*1) q1))))) (2*(0+(Sl.n (Sl.mk (n0 - k4) 0 (Aq ((n0 - k4)*1) (Am (0+k4*1) q1)))))+bb false 1 0) (Aj .i64 (Int.add (Int.ofNat k1) (1:Int))) q0 z1 z2 (n1+1) (2*(n1+1)+bb false 1 0) n2 c2 (Aq ((Sl.n (Sl.mk (n0 - k4) 0 (Aq ((n0 - k4)*1) (Am (0+k4*1) q1))))*1) (Sl.cs (Sl.mk (n0 - k4) 0 (Aq ((n0 - k4)*1) (Am (0+k4*1) q1))))) (Br (Am 0 q2) [.int .i64 x1]) q3) none) none)) none) (bb (EQ (0+(Sl.n (Sl.mk k3 0 (Aq (k3*1) (Am 0 q1))))) 8) (bb (Nat.ble ((0+k4*1)+(n0 - k4)*1) (len q1)) (bb (Nat.beq (Sl.n (Sl.mk (n0 - k4) 0 (Aq ((n0 - k4)*1) (Am (0+k4*1) q1)))) 0) (bb (Au Ah (Aq ((Sl.n (Sl.mk k3 0 (Aq (k3*1) (Am 0 q1))))*1) (Sl.cs (Sl.mk k3 0 (Aq (k3*1) (Am 0 q1)))))) (ih0 (0+(Sl.n (Sl.mk k3 0 (Aq (k3*1) (Am 0 q1))))) (2*(0+(Sl.n (Sl.mk k3 0 (Aq (k3*1) (Am 0 q1)))))+bb false 1 0) (Aj .i64 (Int.add (Int.ofNat k1) (1:Int))) q0 z1 z2 (n1+1) (2*(n1+1)+bb false 1 0) n2 c2 (Aq ((Sl.n (Sl.mk k3 0 (Aq (k3*1) (Am 0 q1))))*1) (Sl.cs (Sl.mk k3 0 (Aq (k3*1) (Am 0 q1))))) (Br (Am 0 q2) [.int .i64 x1]) q3) none) (bb (an (Au D6 (Aq ((Sl.n (Sl.mk (n0 - k4) 0 (Aq ((n0 - k4)*1) (Am (0+k4*1) q1))))*1) (Sl.cs (Sl.mk (n0 - k4) 0 (Aq ((n0 - k4)*1) (Am (0+k4*1) q1)))))) (GV 1 8 (0+(Sl.n (Sl.mk k3 0 (Aq (k3*1) (Am 0 q1))))) (2*(0+(Sl.n (Sl.mk k3 0 (Aq (k3*1) (Am 0 q1)))))+bb false 1 0) (Sl.n (Sl.mk (n0 - k4) 0 (Aq ((n0 - k4)*1) (Am (0+k4*1) q1)))) (Aq ((Sl.n (Sl.mk k3 0 (Aq (k3*1) (Am 0 q1))))*1) (Sl.cs (Sl.mk k3 0 (Aq (k3*1) (Am 0 q1))))))) (bb (Au Ah (Br (Am 0 (Aq ((Sl.n (Sl.mk k3 0 (Aq (k3*1) (Am 0 q1))))*1) (Sl.cs (Sl.mk k3 0 (Aq (k3*1) (Am 0 q1)))))) (Aq ((Sl.n (Sl.mk (n0 - k4) 0 (Aq ((n0 - k4)*1) (Am (0+k4*1) q1))))*1) (Sl.cs (Sl.mk (n0 - k4) 0 (Aq ((n0 - k4)*1) (Am (0+k4*1) q1))))))) (ih0 ((0+(Sl.n (Sl.mk k3 0 (Aq (k3*1) (Am 0 q1)))))+(Sl.n (Sl.mk (n0 - k4) 0 (Aq ((n0 - k4)*1) (Am (0+k4*1) q1))))) (2*((0+(Sl.n (Sl.mk k3 0 (Aq (k3*1) (Am 0 q1)))))+(Sl.n (Sl.mk (n0 - k4) 0 (Aq ((n0 - k4)*1) (Am (0+k4*1) q1)))))+bb false 1 0) (Aj .i64 (Int.add (Int.ofNat k1) (1:Int))) q0 z1 z2 (n1+1) (2*(n1+1)+bb false 1 0) n2 c2 (Br (Am 0 (Aq ((Sl.n (Sl.mk k3 0 (Aq (k3*1) (Am 0 q1))))*1) (Sl.cs (Sl.mk k3 0 (Aq (k3*1) (Am 0 q1)))))) (Aq ((Sl.n (Sl.mk (n0 - k4) 0 (Aq ((n0 - k4)*1) (Am (0+k4*1) q1))))*1) (Sl.cs (Sl.mk (n0 - k4) 0 (Aq ((n0 - k4)*1) (Am (0+k4*1) q1)))))) (Br (Am 0 q2) [.int .i64 x1]) q3) none) none)) none) none)) none) none)) none)) none) none))) none)) none))) none)) (QE pu n z1 z2 n1 c1 n2 c2 q2 q3)) none) none) none) none)
def QF (pu:Af) (n w:Nat):Nat→Nat→Int→LV→Int→Int→Nat→Nat→Nat→Nat→LV→LV→LV→OV:=
 Nat.rec (motive:=fun _=>Nat→Nat→Int→LV→Int→Int→Nat→Nat→Nat→Nat→LV→LV→LV→OV) (fun _ _ _ _ _ _ _ _ _ _ _ _ _=>none) (fun _ ih0=>Pg pu n ih0) w
def QG (pu:Af) (n n0 c0:Nat) (q0:LV) (z0 z1:Int) (n1 c1:Nat) (q1:LV) (q2:LV):OV:=
 (bb (Au Ah q0) (bb (Au Ah q1) (bb (Au Ah q2) (QF pu n n n0 c0 (0:Int) q0 z0 z1 0 0 n1 c1 q1 ([]:LV) q2) none) none) none)
def Ph (pu:Af) (n:Nat) (ih0:Nat→Nat→Int→Int→LV→Int→Int→Nat→Nat→LV→LV→OV) (n0 c0:Nat) (z0 z1:Int) (q0:LV) (z2 z3:Int) (n1 c1:Nat) (q1:LV) (q2:LV):OV:=
 (bb (Au Ah q0) (bb (Au Ah q1) (bb (Au Ah q2) (bb (AY z1 z0) (oo (EA z1) none fun k1=>(bb (Nat.blt k1 10) (oo (AL q0 (2+k1*1)) none fun v0=>(oo (Bi .u8 v0) none fun x0=>(bb (nt (Bd z3 (0:Int))) (bb (GV 1 8 n1 c1 1 q2) (bb (Au Ah (Br (Am 0 q2) [(.int .i64 (Int.tmod (Aj .i64 x0) z3))])) (bb (an (Nat.blt k1 (n1+1)) true) (oo (AL (Br (Am 0 q2) [(.int .i64 (Int.tmod (Aj .i64 x0) z3))]) (0+k1*1)) none fun v1=>(oo (Bi .i64 v1) none fun x1=>(bb (GV 1 8 n0 c0 1 q1) (bb (Au Ah (Br (Am 0 q1) [.int .i64 x1])) (ih0 (n0+1) (2*(n0+1)+bb false 1 0) z0 (Aj .i64 (Int.add (Int.ofNat k1) (1:Int))) q0 z2 z3 (n1+1) (2*(n1+1)+bb false 1 0) (Br (Am 0 q1) [.int .i64 x1]) (Br (Am 0 q2) [(.int .i64 (Int.tmod (Aj .i64 x0) z3))])) none) none))) none) none) none) none))) none)) (QG pu n n0 c0 q0 z2 z3 n1 c1 q1 q2)) none) none) none)
def QH (pu:Af) (n w:Nat):Nat→Nat→Int→Int→LV→Int→Int→Nat→Nat→LV→LV→OV:=
 Nat.rec (motive:=fun _=>Nat→Nat→Int→Int→LV→Int→Int→Nat→Nat→LV→LV→OV) (fun _ _ _ _ _ _ _ _ _ _ _=>none) (fun _ ih0=>Ph pu n ih0) w
def Yj (pu:Af) (n:Nat) (q0:LV) (x0 x1:Int):OV:=
 (bb (Au Ah q0) (oo (AL q0 0) none fun v0=>(oo (Bi .u8 v0) none fun x2=>(bb (nt (Bd x1 (0:Int))) (oo (AL q0 1) none fun v1=>(oo (Bi .u8 v1) none fun x3=>(bb (nt (Bd x0 (0:Int))) (QH pu n n 0 0 (Aj .i64 (Int.add (1:Int) (Int.tmod (Aj .i64 x3) x0))) (0:Int) q0 (0:Int) (Aj .i64 (Int.add (1:Int) (Int.tmod (Aj .i64 x2) x1))) 0 0 ([]:LV) ([]:LV)) none))) none))) none)
def uX (pu:Af) (n:Nat) (args:LV):OV:=
 (ll args none fun a0 args=>(ll args none fun a1 args=>(ll args none fun a2 args=>(ll args (oo (Bt a0) none fun q0=>(bb (an (Nat.beq (len q0) 22) (Au Ah q0)) (oo (Bi .i64 a1) none fun x0=>(oo (Bi .i64 a2) none fun x1=>(Yj pu n q0 x0 x1))) none)) fun _ _=>none))))
theorem AaP (pu:Af) (n:Nat) (z0 z1:Int) (n0 c0 n1 c1:Nat) (q0:LV) (q1:LV) {v:Value} (hm:QE pu n z0 z1 n0 c0 n1 c1 q0 q1=some v):BN tt (Bb tabs HV pu (inl pu)) 1 XR (fr 83 [(6,pt 1 0),(7,(pt 2 0))]) (hT 5 [(oC [zI z0,(.slice none 0 0),(.slice none 0 0)]),(oC [zI z1,sc 3 0 1 n0 c0,sc 4 0 1 n1 c1]),oC q0,oC q1]) (Fin tt 1 [.cell 6 24] v):=by
 unfold QE at hm
 refine .then (.rK ?_)
 replace hm:=Ae hm;obtain⟨h0,hm⟩:=hm
 replace hm:=Ae hm;obtain⟨h1,hm⟩:=hm
 refine .ghs (fr 83 [(6,pt 1 0)]) (hT 4 [(oC [zI z1,sc 2 0 1 n0 c0,sc 3 0 1 n1 c1]),oC q0,oC q1]) (.k [3,4] [false] [.tmp 6 true,.cell 1 1 false,.cell 1 2 false] [6] ⟨Dy h0,Dy h1,trivial⟩) ?_
 refine .ret ?_
 replace hm:=Ae hm;obtain⟨h2,hm⟩:=hm
 replace hm:=Ae hm;obtain⟨h3,hm⟩:=hm
 exact Uc (.agg ⟨[zI z1,sc 2 0 1 n0 c0,sc 3 0 1 n1 c1]⟩) (.agg ⟨[zI z1,(Sl.v 1 (Sl.mk n0 0 (Aq (n0*1) (Am 0 q0)))),(Sl.v 1 (Sl.mk n1 0 (Aq (n1*1) (Am 0 q1))))]⟩) (by kernel_rfl) (FU.agg (.cons (FU.refl _ _ _) (.cons (FU.frz (v':=(Sl.v 1 (Sl.mk n0 0 (Aq (n0*1) (Am 0 q0))))) (H1:=(hT 4 [(oC [zI z1,sc 2 0 1 n0 c0,sc 3 0 1 n1 c1]),.dead,oC q1])) 1 false (an (Nat.ble (0+n0*1) (len q0)) (Au Ah (Aq (n0*1) (Am 0 q0)))) (by kernel_rfl) (by kernel_rfl) h2) (.cons (FU.frz (v':=(Sl.v 1 (Sl.mk n1 0 (Aq (n1*1) (Am 0 q1))))) (H1:=(hT 4 [(oC [zI z1,sc 2 0 1 n0 c0,sc 3 0 1 n1 c1]),.dead,.dead])) 1 false (an (Nat.ble (0+n1*1) (len q1)) (Au Ah (Aq (n1*1) (Am 0 q1)))) (by kernel_rfl) (by kernel_rfl) h3) (Mr.nil _))))) (by kernel_rfl) hm
theorem AaQ (pu:Af) (n n0 c0:Nat) (q0:LV) (z0 z1:Int) (n1 c1:Nat) (q1:LV) (q2:LV) {v:Value} (hm:QG pu n n0 c0 q0 z0 z1 n1 c1 q1 q2=some v):BN tt (Bb tabs HV pu (inl pu)) 1 XT (fr 83 [(3,pt 1 0),(6,(pt 2 0)),(7,(pt 3 0)),(8,sc 4 0 1 n0 c0)]) (hT 6 [oC q0,(oC [zI z0,(.slice none 0 0),(.slice none 0 0)]),(oC [zI z1,(.slice none 0 0),sc 5 0 1 n1 c1]),oC q1,oC q2]) (Fin tt 1 [.cell 6 24] v):=by
 unfold QG at hm
 refine .join (v:=v) (fun y:Int×Int×Nat×Nat×Nat×Nat×LV×LV=>((fr 83 [(6,pt 1 0),(7,(pt 2 0))]),(hT 5 [(oC [(zI y.1),(.slice none 0 0),(.slice none 0 0)]),(oC [(zI y.2.1),(sc 3 0 1 y.2.2.1 y.2.2.2.1),(sc 4 0 1 y.2.2.2.2.1 y.2.2.2.2.2.1)]),(oC y.2.2.2.2.2.2.1),(oC y.2.2.2.2.2.2.2)]))) (fun y=>QE pu n y.1 y.2.1 y.2.2.1 y.2.2.2.1 y.2.2.2.2.1 y.2.2.2.2.2.1 y.2.2.2.2.2.2.1 y.2.2.2.2.2.2.2) ?_ ?_
 ·rintro⟨z2,z3,n2,c3,n3,c4,q3,q4⟩ hm
  exact AaP pu n z2 z3 n2 c3 n3 c4 q3 q4 hm
 ·refine .then (.rK ?_)
  replace hm:=Ae hm;obtain⟨h0,hm⟩:=hm
  replace hm:=Ae hm;obtain⟨h1,hm⟩:=hm
  replace hm:=Ae hm;obtain⟨h2,hm⟩:=hm
  refine .ghs (fr 83 [(3,pt 1 0),(6,(pt 2 0)),(7,(pt 3 0)),(8,sc 4 0 1 n0 c0),(10,(zI (0:Int)))]) (hT 6 [oC q0,(oC [zI z0,(.slice none 0 0),(.slice none 0 0)]),(oC [zI z1,(.slice none 0 0),sc 5 0 1 n1 c1]),oC q1,oC q2]) (.k [1,4,5] [false] [.tmp 3 false,.tmp 6 false,.tmp 7 true,.tmp 8 false,.cell 3 2 false] [3,6,7,8,10] ⟨Dy h0,Dy h1,Dy h2,trivial⟩) ?_
  refine .block (.loopM (v:=v) (fun y:Nat×Nat×Int×LV×Int×Int×Nat×Nat×Nat×Nat×LV×LV×LV=>((fr 83 [(3,pt 1 0),(6,(pt 2 0)),(7,(pt 3 0)),(8,(sc 4 0 1 y.1 y.2.1)),(10,(zI y.2.2.1))]),(hT 7 [(oC y.2.2.2.1),(oC [(zI y.2.2.2.2.1),(.slice none 0 0),(.slice none 0 0)]),(oC [(zI y.2.2.2.2.2.1),(sc 5 0 1 y.2.2.2.2.2.2.1 y.2.2.2.2.2.2.2.1),(sc 6 0 1 y.2.2.2.2.2.2.2.2.1 y.2.2.2.2.2.2.2.2.2.1)]),(oC y.2.2.2.2.2.2.2.2.2.2.1),(oC y.2.2.2.2.2.2.2.2.2.2.2.1),(oC y.2.2.2.2.2.2.2.2.2.2.2.2)]))) (fun w y=>QF pu n w y.1 y.2.1 y.2.2.1 y.2.2.2.1 y.2.2.2.2.1 y.2.2.2.2.2.1 y.2.2.2.2.2.2.1 y.2.2.2.2.2.2.2.1 y.2.2.2.2.2.2.2.2.1 y.2.2.2.2.2.2.2.2.2.1 y.2.2.2.2.2.2.2.2.2.2.1 y.2.2.2.2.2.2.2.2.2.2.2.1 y.2.2.2.2.2.2.2.2.2.2.2.2) n ⟨(n0,c0,(0:Int),q0,z0,z1,0,0,n1,c1,q1,([]:LV),q2),hm,(.thawC 3 1 1 [zI z1,(.slice none 0 0),sc 5 0 1 n1 c1] (imm:=false) (spent:=false) (anc:=[]) (by kernel_rfl) (by kernel_rfl) (by kernel_rfl) (by kernel_rfl) (.k [1,4,5] [false] [.tmp 3 false,.tmp 6 false,.tmp 7 true,.tmp 8 false,.cell 3 1 false,.cell 3 2 false] [3,6,7,8,10] ⟨Dy h0,Dy h1,Dy h2,trivial⟩))⟩ (fun _=>rfl) ?_)
  rintro w0 ⟨n4,c6,z4,q6,z5,z6,n5,c7,n6,c8,q7,q8,q9⟩ hm
  replace hm:Pg pu n (QF pu n w0) n4 c6 z4 q6 z5 z6 n5 c7 n6 c8 q7 q8 q9=some v:=hm
  unfold Pg at hm
  refine .then (.then (.rK ?_))
  replace hm:=Ae hm;obtain⟨h3,hm⟩:=hm
  replace hm:=Ae hm;obtain⟨h4,hm⟩:=hm
  replace hm:=Ae hm;obtain⟨h5,hm⟩:=hm
  replace hm:=Ae hm;obtain⟨h6,hm⟩:=hm
  refine .ghs (fr 83 [(3,pt 1 0),(6,(pt 2 0)),(7,(pt 3 0)),(8,sc 4 0 1 n4 c6),(10,zI z4),(52,(zB (AY (0:Int) (Int.ofNat n4))))]) (hT 7 [oC q6,(oC [zI z5,(.slice none 0 0),(.slice none 0 0)]),(oC [zI z6,sc 5 0 1 n5 c7,sc 6 0 1 n6 c8]),oC q7,oC q8,oC q9]) (.k [1,4,5,6] [false] [.tmp 3 false,.tmp 6 false,.tmp 7 true,.tmp 8 false,.cell 3 1 false,.cell 3 2 false] [3,6,7,8,10,52] ⟨Dy h3,Dy h4,Dy h5,Dy h6,trivial⟩) ?_
  replace hm:=Ag hm;rcases hm with⟨h7,hm⟩ | ⟨h7,hm⟩
  ·refine FX (AY (0:Int) (Int.ofNat n4)) h7 ?_
   refine .skip (.ghs (fr 83 [(3,pt 1 0),(6,(pt 2 0)),(7,(pt 3 0)),(8,sc 4 0 1 n4 c6),(10,zI z4)]) (hT 7 [oC q6,(oC [zI z5,(.slice none 0 0),(.slice none 0 0)]),(oC [zI z6,sc 5 0 1 n5 c7,sc 6 0 1 n6 c8]),oC q7,oC q8,oC q9]) (.k [1,4,5,6] [false] [.tmp 3 false,.tmp 6 false,.tmp 7 true,.tmp 8 false,.cell 3 1 false,.cell 3 2 false] [3,6,7,8,10] ⟨Dy h3,Dy h4,Dy h5,Dy h6,trivial⟩) ?_)
   refine .then (.block (.then ?_))
   replace hm:=Ab hm;obtain⟨k1,h8,hm⟩:=hm
   obtain rfl:=AR h8
   replace hm:=Ae hm;obtain⟨h9,hm⟩:=hm
   replace hm:=Hy hm;obtain⟨x0,h10,hm⟩:=hm
   replace hm:=Ae hm;obtain⟨h11,hm⟩:=hm
   refine .reg (eC 2 (keep (hT 7 [oC q6,(oC [zI z5,(.slice none 0 0),(.slice none 0 0)]),(oC [zI z6,sc 5 0 1 n5 c7,sc 6 0 1 n6 c8]),oC q7,oC q8,oC q9]) (bb (Nat.blt k1 10) (some (.pointer (some ⟨1,(12+k1*1),none⟩))) none)) (AX h9) (eD (keep (hT 7 [oC q6,(oC [zI z5,(.slice none 0 0),(.slice none 0 0)]),(oC [zI z6,sc 5 0 1 n5 c7,sc 6 0 1 n6 c8]),oC q7,oC q8,oC q9]) (AL q6 (12+k1*1))) (AZ h10) (eC 3 (keep (hT 7 [oC q6,(oC [zI z5,(.slice none 0 0),(.slice none 0 0)]),(oC [zI z6,sc 5 0 1 n5 c7,sc 6 0 1 n6 c8]),oC q7,oC q8,oC q9]) (bb (Bd (Int.ofNat n4) (0:Int)) none (some (zI (Int.tmod (Aj .i64 x0) (Int.ofNat n4)))))) (XH h11) (eE)))) ?_
   refine .ghs (fr 83 [(3,pt 1 0),(6,(pt 2 0)),(7,(pt 3 0)),(8,sc 4 0 1 n4 c6),(10,(zI (Int.ofNat k1))),(11,(zI (Int.tmod (Aj .i64 x0) (Int.ofNat n4))))]) (hT 7 [oC q6,(oC [zI z5,(.slice none 0 0),(.slice none 0 0)]),(oC [zI z6,sc 5 0 1 n5 c7,sc 6 0 1 n6 c8]),oC q7,oC q8,oC q9]) (.k [1,4,5,6] [false] [.tmp 3 false,.tmp 6 false,.tmp 7 true,.tmp 8 false,.cell 3 1 false,.cell 3 2 false] [3,6,7,8,10,11] ⟨Dy h3,Dy h4,Dy h5,Dy h6,trivial⟩) ?_
   refine .then ?_
   replace hm:=Ab hm;obtain⟨k2,h12,hm⟩:=hm
   replace hm:=Ae hm;obtain⟨h13,hm⟩:=hm
   replace hm:=Hy hm;obtain⟨x1,h14,hm⟩:=hm
   replace hm:=Ae hm;obtain⟨h15,hm⟩:=hm
   refine .reg (eC 3 (some ((zI (Int.tmod (Aj .i64 x0) (Int.ofNat n4))),(hT 7 [oC q6,(oC [zI z5,(.slice none 0 0),(.slice none 0 0)]),(oC [zI z6,sc 5 0 1 n5 c7,sc 6 0 1 n6 c8]),oC q7,oC q8,oC q9]))) (show _=some ((zI (Int.ofNat k2)),_) from (by rw[AR h12])) (eD (keep (hT 7 [oC q6,(oC [zI z5,(.slice none 0 0),(.slice none 0 0)]),(oC [zI z6,sc 5 0 1 n5 c7,sc 6 0 1 n6 c8]),oC q7,oC q8,oC q9]) (bb (an (Nat.blt k2 n4) true) (some (.pointer (some ⟨4,(0+k2*1),none⟩))) none)) (AX h13) (eD (keep (hT 7 [oC q6,(oC [zI z5,(.slice none 0 0),(.slice none 0 0)]),(oC [zI z6,sc 5 0 1 n5 c7,sc 6 0 1 n6 c8]),oC q7,oC q8,oC q9]) (AL q7 (0+k2*1))) (AZ h14) (eC 1 (Oc 1 8 n5 c7 1 5 q8 [zI x1] [] (hT 8 [oC q6,(oC [zI z5,(.slice none 0 0),(.slice none 0 0)]),(oC [zI z6,sc 5 0 1 n5 c7,sc 6 0 1 n6 c8]),oC q7,oC q8,oC q9,(oC [zI x1])])) (I1 h15) (eE))))) ?_
   replace hm:=Ae hm;obtain⟨h16,hm⟩:=hm
   refine .ghs (fr 83 [(3,pt 1 0),(6,(pt 2 0)),(7,(pt 3 0)),(8,sc 4 0 1 n4 c6),(10,(zI (Int.ofNat k1))),(11,(zI (Int.tmod (Aj .i64 x0) (Int.ofNat n4))))]) (hT 7 [oC q6,(oC [zI z5,(.slice none 0 0),(.slice none 0 0)]),(oC [zI z6,(sc 5 0 1 (n5+1) (d2 (n5+1))),sc 6 0 1 n6 c8]),oC q7,(oC (Br (Am 0 q8) [zI x1])),oC q9]) (.k [1,4,8,6] [false] [.tmp 3 false,.tmp 6 false,.tmp 7 true,.tmp 8 false,.cell 3 1 false,.cell 3 2 false] [3,6,7,8,10,11] ⟨Dy h3,Dy h4,Dy h16,Dy h6,trivial⟩) ?_
   replace hm:=Ab hm;obtain⟨k3,h17,hm⟩:=hm
   replace hm:=Ae hm;obtain⟨h18,hm⟩:=hm
   replace hm:=Ab hm;obtain⟨k4,h19,hm⟩:=hm
   replace hm:=Ae hm;obtain⟨h20,hm⟩:=hm
   replace hm:=Ae hm;obtain⟨h21,hm⟩:=hm
   replace hm:=Ag hm;rcases hm with⟨h22,hm⟩ | ⟨h22,hm⟩
   ·replace hm:=Ae hm;obtain⟨h23,hm⟩:=hm
    replace hm:=Ag hm;rcases hm with⟨h24,hm⟩ | ⟨h24,hm⟩
    ·refine .reg (eN 7 (Fr.puts (fr 83 [(3,pt 1 0),(6,(pt 2 0)),(7,(pt 3 0)),(8,sc 4 0 1 n4 c6),(10,(zI (Int.ofNat k1))),(11,(zI (Int.tmod (Aj .i64 x0) (Int.ofNat n4))))]) [(72,sc 7 0 1 0 1),(73,sc 4 0 1 n4 c6),(74,(zI (Int.ofNat k3))),(75,(sc 4 0 1 k3 (2*(c6 / 2)+bb (Dp false (Nat.beq (c6 % 2) 1)) 1 0))),(77,sc 4 0 1 n4 c6),(78,(zI (Int.tmod (Aj .i64 x0) (Int.ofNat n4)))),(79,(zI (Int.ofNat k4)))]) (hT 8 [oC q6,(oC [zI z5,(.slice none 0 0),(.slice none 0 0)]),(oC [zI z6,(sc 5 0 1 (n5+1) (d2 (n5+1))),sc 6 0 1 n6 c8]),oC q7,(oC (Br (Am 0 q8) [zI x1])),oC q9,(oC [])]) (eC 2 (some ((zI (Int.tmod (Aj .i64 x0) (Int.ofNat n4))),(hT 8 [oC q6,(oC [zI z5,(.slice none 0 0),(.slice none 0 0)]),(oC [zI z6,(sc 5 0 1 (n5+1) (d2 (n5+1))),sc 6 0 1 n6 c8]),oC q7,(oC (Br (Am 0 q8) [zI x1])),oC q9,(oC [])]))) (show _=some ((zI (Int.ofNat k3)),_) from (by rw[AR h17])) (eD (keep (hT 8 [oC q6,(oC [zI z5,(.slice none 0 0),(.slice none 0 0)]),(oC [zI z6,(sc 5 0 1 (n5+1) (d2 (n5+1))),sc 6 0 1 n6 c8]),oC q7,(oC (Br (Am 0 q8) [zI x1])),oC q9,(oC [])]) (oo (bb (Nat.ble k3 (c6 / 2)) (some k3) none) none fun h=>some (sliceAt 4 (0+0*1) 1 (h - 0) (c6 / 2 - 0) (Dp false (Nat.beq (c6 % 2) 1))))) (show _=some ((sc 4 0 1 k3 (2*(c6 / 2)+bb (Dp false (Nat.beq (c6 % 2) 1)) 1 0)),(hT 8 [oC q6,(oC [zI z5,(.slice none 0 0),(.slice none 0 0)]),(oC [zI z6,(sc 5 0 1 (n5+1) (d2 (n5+1))),sc 6 0 1 n6 c8]),oC q7,(oC (Br (Am 0 q8) [zI x1])),oC q9,(oC [])])) from (RJ h18).trans (by kernel_rfl)) (eC 2 (some ((zI (Aj .i64 (Int.add (Int.tmod (Aj .i64 x0) (Int.ofNat n4)) (1:Int)))),(hT 8 [oC q6,(oC [zI z5,(.slice none 0 0),(.slice none 0 0)]),(oC [zI z6,(sc 5 0 1 (n5+1) (d2 (n5+1))),sc 6 0 1 n6 c8]),oC q7,(oC (Br (Am 0 q8) [zI x1])),oC q9,(oC [])]))) (show _=some ((zI (Int.ofNat k4)),_) from (by rw[AR h19])) (by kernel_rfl)))) (eD (keep (hT 8 [oC q6,(oC [zI z5,(.slice none 0 0),(.slice none 0 0)]),(oC [zI z6,(sc 5 0 1 (n5+1) (d2 (n5+1))),sc 6 0 1 n6 c8]),oC q7,(oC (Br (Am 0 q8) [zI x1])),oC q9,(oC [])]) (oo (bb (Nat.ble k4 n4) (some k4) none) none fun l=>some (sliceAt 4 (0+l*1) 1 (n4 - l) (c6 / 2 - l) (Dp false (Nat.beq (c6 % 2) 1))))) (show _=some ((.slice (some ⟨4,(0+k4*1),some 1⟩) (n4 - k4) (2*(c6 / 2 - k4)+bb (Dp false (Nat.beq (c6 % 2) 1)) 1 0)),(hT 8 [oC q6,(oC [zI z5,(.slice none 0 0),(.slice none 0 0)]),(oC [zI z6,(sc 5 0 1 (n5+1) (d2 (n5+1))),sc 6 0 1 n6 c8]),oC q7,(oC (Br (Am 0 q8) [zI x1])),oC q9,(oC [])])) from (RJ h20).trans (by kernel_rfl)) (eD (Gl (hT 8 [oC q6,(oC [zI z5,(.slice none 0 0),(.slice none 0 0)]),(oC [zI z6,(sc 5 0 1 (n5+1) (d2 (n5+1))),sc 6 0 1 n6 c8]),oC q7,(oC (Br (Am 0 q8) [zI x1])),oC q9,(oC [])]) 1 8 (sc 7 0 1 0 1) k3 (sc 4 0 1 k3 (2*(c6 / 2)+bb (Dp false (Nat.beq (c6 % 2) 1)) 1 0))) ((Ez (imm:=false) (sp:=false) (anc:=[]) h21).trans (Ze h22)) (eD (Gl (hT 8 [oC q6,(oC [zI z5,(.slice none 0 0),(.slice none 0 0)]),(oC [zI z6,(sc 5 0 1 (n5+1) (d2 (n5+1))),sc 6 0 1 n6 c8]),oC q7,(oC (Br (Am 0 q8) [zI x1])),oC q9,(oC [])]) 1 8 (sc 7 0 1 0 1) (n4 - k4) (.slice (some ⟨4,(0+k4*1),some 1⟩) (n4 - k4) (2*(c6 / 2 - k4)+bb (Dp false (Nat.beq (c6 % 2) 1)) 1 0))) ((Ez (imm:=false) (sp:=false) (anc:=[]) h23).trans (Ze h24)) (eE))))) ?_
     refine .ghs (fr 83 [(3,pt 1 0),(6,(pt 2 0)),(7,(pt 3 0)),(8,sc 4 0 1 0 1),(10,(zI (Int.ofNat k1)))]) (hT 7 [oC q6,(oC [zI z5,(.slice none 0 0),(.slice none 0 0)]),(oC [zI z6,(sc 5 0 1 (n5+1) (d2 (n5+1))),sc 6 0 1 n6 c8]),(oC []),(oC (Br (Am 0 q8) [zI x1])),oC q9]) (.k [1,5,6] [false] [.tmp 3 false,.tmp 6 false,.tmp 7 true,.tmp 8 false,.cell 3 1 false,.cell 3 2 false] [3,6,7,8,10] ⟨Dy h3,Dy h16,Dy h6,trivial⟩) ?_
     refine .rK ?_
     exact⟨(0,1,(Aj .i64 (Int.add (Int.ofNat k1) (1:Int))),q6,z5,z6,(n5+1),(d2 (n5+1)),n6,c8,([]:LV),(Br (Am 0 q8) [zI x1]),q9),hm,(.k [1,5,6] [false] [.tmp 3 false,.tmp 6 false,.tmp 7 true,.tmp 8 false,.cell 3 1 false,.cell 3 2 false] [3,6,7,8,10] ⟨Dy h3,Dy h16,Dy h6,trivial⟩)⟩
    ·replace hm:=Ae hm;obtain⟨h25,hm⟩:=hm
     refine .reg (eN 7 (Fr.puts (fr 83 [(3,pt 1 0),(6,(pt 2 0)),(7,(pt 3 0)),(8,sc 4 0 1 n4 c6),(10,(zI (Int.ofNat k1))),(11,(zI (Int.tmod (Aj .i64 x0) (Int.ofNat n4))))]) [(72,sc 7 0 1 0 1),(73,sc 4 0 1 n4 c6),(74,(zI (Int.ofNat k3))),(75,(sc 4 0 1 k3 (2*(c6 / 2)+bb (Dp false (Nat.beq (c6 % 2) 1)) 1 0))),(77,sc 4 0 1 n4 c6),(78,(zI (Int.tmod (Aj .i64 x0) (Int.ofNat n4)))),(79,(zI (Int.ofNat k4)))]) (hT 8 [oC q6,(oC [zI z5,(.slice none 0 0),(.slice none 0 0)]),(oC [zI z6,(sc 5 0 1 (n5+1) (d2 (n5+1))),sc 6 0 1 n6 c8]),oC q7,(oC (Br (Am 0 q8) [zI x1])),oC q9,(oC [])]) (eC 2 (some ((zI (Int.tmod (Aj .i64 x0) (Int.ofNat n4))),(hT 8 [oC q6,(oC [zI z5,(.slice none 0 0),(.slice none 0 0)]),(oC [zI z6,(sc 5 0 1 (n5+1) (d2 (n5+1))),sc 6 0 1 n6 c8]),oC q7,(oC (Br (Am 0 q8) [zI x1])),oC q9,(oC [])]))) (show _=some ((zI (Int.ofNat k3)),_) from (by rw[AR h17])) (eD (keep (hT 8 [oC q6,(oC [zI z5,(.slice none 0 0),(.slice none 0 0)]),(oC [zI z6,(sc 5 0 1 (n5+1) (d2 (n5+1))),sc 6 0 1 n6 c8]),oC q7,(oC (Br (Am 0 q8) [zI x1])),oC q9,(oC [])]) (oo (bb (Nat.ble k3 (c6 / 2)) (some k3) none) none fun h=>some (sliceAt 4 (0+0*1) 1 (h - 0) (c6 / 2 - 0) (Dp false (Nat.beq (c6 % 2) 1))))) (show _=some ((sc 4 0 1 k3 (2*(c6 / 2)+bb (Dp false (Nat.beq (c6 % 2) 1)) 1 0)),(hT 8 [oC q6,(oC [zI z5,(.slice none 0 0),(.slice none 0 0)]),(oC [zI z6,(sc 5 0 1 (n5+1) (d2 (n5+1))),sc 6 0 1 n6 c8]),oC q7,(oC (Br (Am 0 q8) [zI x1])),oC q9,(oC [])])) from (RJ h18).trans (by kernel_rfl)) (eC 2 (some ((zI (Aj .i64 (Int.add (Int.tmod (Aj .i64 x0) (Int.ofNat n4)) (1:Int)))),(hT 8 [oC q6,(oC [zI z5,(.slice none 0 0),(.slice none 0 0)]),(oC [zI z6,(sc 5 0 1 (n5+1) (d2 (n5+1))),sc 6 0 1 n6 c8]),oC q7,(oC (Br (Am 0 q8) [zI x1])),oC q9,(oC [])]))) (show _=some ((zI (Int.ofNat k4)),_) from (by rw[AR h19])) (by kernel_rfl)))) (eD (keep (hT 8 [oC q6,(oC [zI z5,(.slice none 0 0),(.slice none 0 0)]),(oC [zI z6,(sc 5 0 1 (n5+1) (d2 (n5+1))),sc 6 0 1 n6 c8]),oC q7,(oC (Br (Am 0 q8) [zI x1])),oC q9,(oC [])]) (oo (bb (Nat.ble k4 n4) (some k4) none) none fun l=>some (sliceAt 4 (0+l*1) 1 (n4 - l) (c6 / 2 - l) (Dp false (Nat.beq (c6 % 2) 1))))) (show _=some ((.slice (some ⟨4,(0+k4*1),some 1⟩) (n4 - k4) (2*(c6 / 2 - k4)+bb (Dp false (Nat.beq (c6 % 2) 1)) 1 0)),(hT 8 [oC q6,(oC [zI z5,(.slice none 0 0),(.slice none 0 0)]),(oC [zI z6,(sc 5 0 1 (n5+1) (d2 (n5+1))),sc 6 0 1 n6 c8]),oC q7,(oC (Br (Am 0 q8) [zI x1])),oC q9,(oC [])])) from (RJ h20).trans (by kernel_rfl)) (eD (Gl (hT 8 [oC q6,(oC [zI z5,(.slice none 0 0),(.slice none 0 0)]),(oC [zI z6,(sc 5 0 1 (n5+1) (d2 (n5+1))),sc 6 0 1 n6 c8]),oC q7,(oC (Br (Am 0 q8) [zI x1])),oC q9,(oC [])]) 1 8 (sc 7 0 1 0 1) k3 (sc 4 0 1 k3 (2*(c6 / 2)+bb (Dp false (Nat.beq (c6 % 2) 1)) 1 0))) ((Ez (imm:=false) (sp:=false) (anc:=[]) h21).trans (Ze h22)) (eD (Gl (hT 8 [oC q6,(oC [zI z5,(.slice none 0 0),(.slice none 0 0)]),(oC [zI z6,(sc 5 0 1 (n5+1) (d2 (n5+1))),sc 6 0 1 n6 c8]),oC q7,(oC (Br (Am 0 q8) [zI x1])),oC q9,(oC [])]) 1 8 (sc 7 0 1 0 1) (n4 - k4) (.slice (some ⟨4,(0+k4*1),some 1⟩) (n4 - k4) (2*(c6 / 2 - k4)+bb (Dp false (Nat.beq (c6 % 2) 1)) 1 0))) ((Ez (imm:=false) (sp:=false) (anc:=[]) h23).trans (Zf h24 h25 (by kernel_rfl))) (eE))))) ?_
     replace hm:=Ae hm;obtain⟨h26,hm⟩:=hm
     refine .ghs (fr 83 [(3,pt 1 0),(6,(pt 2 0)),(7,(pt 3 0)),(8,(sc 4 0 1 (0+(Sl.n (Sl.mk (n4 - k4) 0 (Aq ((n4 - k4)*1) (Am (0+k4*1) q7))))) (d2 (0+(Sl.n (Sl.mk (n4 - k4) 0 (Aq ((n4 - k4)*1) (Am (0+k4*1) q7)))))))),(10,(zI (Int.ofNat k1)))]) (hT 7 [oC q6,(oC [zI z5,(.slice none 0 0),(.slice none 0 0)]),(oC [zI z6,(sc 5 0 1 (n5+1) (d2 (n5+1))),sc 6 0 1 n6 c8]),(oC (Aq ((Sl.n (Sl.mk (n4 - k4) 0 (Aq ((n4 - k4)*1) (Am (0+k4*1) q7))))*1) (Sl.cs (Sl.mk (n4 - k4) 0 (Aq ((n4 - k4)*1) (Am (0+k4*1) q7)))))),(oC (Br (Am 0 q8) [zI x1])),oC q9]) (.k [1,8,5,6] [false] [.tmp 3 false,.tmp 6 false,.tmp 7 true,.tmp 8 false,.cell 3 1 false,.cell 3 2 false] [3,6,7,8,10] ⟨Dy h3,Dy h26,Dy h16,Dy h6,trivial⟩) ?_
     refine .rK ?_
     exact⟨((0+(Sl.n (Sl.mk (n4 - k4) 0 (Aq ((n4 - k4)*1) (Am (0+k4*1) q7))))),(d2 (0+(Sl.n (Sl.mk (n4 - k4) 0 (Aq ((n4 - k4)*1) (Am (0+k4*1) q7)))))),(Aj .i64 (Int.add (Int.ofNat k1) (1:Int))),q6,z5,z6,(n5+1),(d2 (n5+1)),n6,c8,(Aq ((Sl.n (Sl.mk (n4 - k4) 0 (Aq ((n4 - k4)*1) (Am (0+k4*1) q7))))*1) (Sl.cs (Sl.mk (n4 - k4) 0 (Aq ((n4 - k4)*1) (Am (0+k4*1) q7))))),(Br (Am 0 q8) [zI x1]),q9),hm,(.k [1,4,5,6] [false] [.tmp 3 false,.tmp 6 false,.tmp 7 true,.tmp 8 false,.cell 3 1 false,.cell 3 2 false] [3,6,7,8,10] ⟨Dy h3,Dy h26,Dy h16,Dy h6,trivial⟩)⟩
   ·replace hm:=Ae hm;obtain⟨h23,hm⟩:=hm
    replace hm:=Ae hm;obtain⟨h24,hm⟩:=hm
    replace hm:=Ag hm;rcases hm with⟨h25,hm⟩ | ⟨h25,hm⟩
    ·refine .reg (eN 7 (Fr.puts (fr 83 [(3,pt 1 0),(6,(pt 2 0)),(7,(pt 3 0)),(8,sc 4 0 1 n4 c6),(10,(zI (Int.ofNat k1))),(11,(zI (Int.tmod (Aj .i64 x0) (Int.ofNat n4))))]) [(72,sc 7 0 1 0 1),(73,sc 4 0 1 n4 c6),(74,(zI (Int.ofNat k3))),(75,(sc 4 0 1 k3 (2*(c6 / 2)+bb (Dp false (Nat.beq (c6 % 2) 1)) 1 0))),(77,sc 4 0 1 n4 c6),(78,(zI (Int.tmod (Aj .i64 x0) (Int.ofNat n4)))),(79,(zI (Int.ofNat k4)))]) (hT 8 [oC q6,(oC [zI z5,(.slice none 0 0),(.slice none 0 0)]),(oC [zI z6,(sc 5 0 1 (n5+1) (d2 (n5+1))),sc 6 0 1 n6 c8]),oC q7,(oC (Br (Am 0 q8) [zI x1])),oC q9,(oC [])]) (eC 2 (some ((zI (Int.tmod (Aj .i64 x0) (Int.ofNat n4))),(hT 8 [oC q6,(oC [zI z5,(.slice none 0 0),(.slice none 0 0)]),(oC [zI z6,(sc 5 0 1 (n5+1) (d2 (n5+1))),sc 6 0 1 n6 c8]),oC q7,(oC (Br (Am 0 q8) [zI x1])),oC q9,(oC [])]))) (show _=some ((zI (Int.ofNat k3)),_) from (by rw[AR h17])) (eD (keep (hT 8 [oC q6,(oC [zI z5,(.slice none 0 0),(.slice none 0 0)]),(oC [zI z6,(sc 5 0 1 (n5+1) (d2 (n5+1))),sc 6 0 1 n6 c8]),oC q7,(oC (Br (Am 0 q8) [zI x1])),oC q9,(oC [])]) (oo (bb (Nat.ble k3 (c6 / 2)) (some k3) none) none fun h=>some (sliceAt 4 (0+0*1) 1 (h - 0) (c6 / 2 - 0) (Dp false (Nat.beq (c6 % 2) 1))))) (show _=some ((sc 4 0 1 k3 (2*(c6 / 2)+bb (Dp false (Nat.beq (c6 % 2) 1)) 1 0)),(hT 8 [oC q6,(oC [zI z5,(.slice none 0 0),(.slice none 0 0)]),(oC [zI z6,(sc 5 0 1 (n5+1) (d2 (n5+1))),sc 6 0 1 n6 c8]),oC q7,(oC (Br (Am 0 q8) [zI x1])),oC q9,(oC [])])) from (RJ h18).trans (by kernel_rfl)) (eC 2 (some ((zI (Aj .i64 (Int.add (Int.tmod (Aj .i64 x0) (Int.ofNat n4)) (1:Int)))),(hT 8 [oC q6,(oC [zI z5,(.slice none 0 0),(.slice none 0 0)]),(oC [zI z6,(sc 5 0 1 (n5+1) (d2 (n5+1))),sc 6 0 1 n6 c8]),oC q7,(oC (Br (Am 0 q8) [zI x1])),oC q9,(oC [])]))) (show _=some ((zI (Int.ofNat k4)),_) from (by rw[AR h19])) (by kernel_rfl)))) (eD (keep (hT 8 [oC q6,(oC [zI z5,(.slice none 0 0),(.slice none 0 0)]),(oC [zI z6,(sc 5 0 1 (n5+1) (d2 (n5+1))),sc 6 0 1 n6 c8]),oC q7,(oC (Br (Am 0 q8) [zI x1])),oC q9,(oC [])]) (oo (bb (Nat.ble k4 n4) (some k4) none) none fun l=>some (sliceAt 4 (0+l*1) 1 (n4 - l) (c6 / 2 - l) (Dp false (Nat.beq (c6 % 2) 1))))) (show _=some ((.slice (some ⟨4,(0+k4*1),some 1⟩) (n4 - k4) (2*(c6 / 2 - k4)+bb (Dp false (Nat.beq (c6 % 2) 1)) 1 0)),(hT 8 [oC q6,(oC [zI z5,(.slice none 0 0),(.slice none 0 0)]),(oC [zI z6,(sc 5 0 1 (n5+1) (d2 (n5+1))),sc 6 0 1 n6 c8]),oC q7,(oC (Br (Am 0 q8) [zI x1])),oC q9,(oC [])])) from (RJ h20).trans (by kernel_rfl)) (eD (Gl (hT 8 [oC q6,(oC [zI z5,(.slice none 0 0),(.slice none 0 0)]),(oC [zI z6,(sc 5 0 1 (n5+1) (d2 (n5+1))),sc 6 0 1 n6 c8]),oC q7,(oC (Br (Am 0 q8) [zI x1])),oC q9,(oC [])]) 1 8 (sc 7 0 1 0 1) k3 (sc 4 0 1 k3 (2*(c6 / 2)+bb (Dp false (Nat.beq (c6 % 2) 1)) 1 0))) ((Ez (imm:=false) (sp:=false) (anc:=[]) h21).trans (Zf h22 h23 (by kernel_rfl))) (eD (Gl (hT 9 [oC q6,(oC [zI z5,(.slice none 0 0),(.slice none 0 0)]),(oC [zI z6,(sc 5 0 1 (n5+1) (d2 (n5+1))),sc 6 0 1 n6 c8]),oC q7,(oC (Br (Am 0 q8) [zI x1])),oC q9,(oC []),(oC (Aq ((Sl.n (Sl.mk k3 0 (Aq (k3*1) (Am 0 q7))))*1) (Sl.cs (Sl.mk k3 0 (Aq (k3*1) (Am 0 q7))))))]) 1 8 (sc 8 0 1 (0+(Sl.n (Sl.mk k3 0 (Aq (k3*1) (Am 0 q7))))) (d2 (0+(Sl.n (Sl.mk k3 0 (Aq (k3*1) (Am 0 q7))))))) (n4 - k4) (.slice (some ⟨4,(0+k4*1),some 1⟩) (n4 - k4) (2*(c6 / 2 - k4)+bb (Dp false (Nat.beq (c6 % 2) 1)) 1 0))) ((Ez (imm:=false) (sp:=false) (anc:=[]) h24).trans (Ze h25)) (eE))))) ?_
     replace hm:=Ae hm;obtain⟨h27,hm⟩:=hm
     refine .ghs (fr 83 [(3,pt 1 0),(6,(pt 2 0)),(7,(pt 3 0)),(8,(sc 4 0 1 (0+(Sl.n (Sl.mk k3 0 (Aq (k3*1) (Am 0 q7))))) (d2 (0+(Sl.n (Sl.mk k3 0 (Aq (k3*1) (Am 0 q7)))))))),(10,(zI (Int.ofNat k1)))]) (hT 7 [oC q6,(oC [zI z5,(.slice none 0 0),(.slice none 0 0)]),(oC [zI z6,(sc 5 0 1 (n5+1) (d2 (n5+1))),sc 6 0 1 n6 c8]),(oC (Aq ((Sl.n (Sl.mk k3 0 (Aq (k3*1) (Am 0 q7))))*1) (Sl.cs (Sl.mk k3 0 (Aq (k3*1) (Am 0 q7)))))),(oC (Br (Am 0 q8) [zI x1])),oC q9]) (.k [1,8,5,6] [false] [.tmp 3 false,.tmp 6 false,.tmp 7 true,.tmp 8 false,.cell 3 1 false,.cell 3 2 false] [3,6,7,8,10] ⟨Dy h3,Dy h27,Dy h16,Dy h6,trivial⟩) ?_
     refine .rK ?_
     exact⟨((0+(Sl.n (Sl.mk k3 0 (Aq (k3*1) (Am 0 q7))))),(d2 (0+(Sl.n (Sl.mk k3 0 (Aq (k3*1) (Am 0 q7)))))),(Aj .i64 (Int.add (Int.ofNat k1) (1:Int))),q6,z5,z6,(n5+1),(d2 (n5+1)),n6,c8,(Aq ((Sl.n (Sl.mk k3 0 (Aq (k3*1) (Am 0 q7))))*1) (Sl.cs (Sl.mk k3 0 (Aq (k3*1) (Am 0 q7))))),(Br (Am 0 q8) [zI x1]),q9),hm,(.k [1,4,5,6] [false] [.tmp 3 false,.tmp 6 false,.tmp 7 true,.tmp 8 false,.cell 3 1 false,.cell 3 2 false] [3,6,7,8,10] ⟨Dy h3,Dy h27,Dy h16,Dy h6,trivial⟩)⟩
    ·replace hm:=Ae hm;obtain⟨h28,hm⟩:=hm
     refine .reg (eN 7 (Fr.puts (fr 83 [(3,pt 1 0),(6,(pt 2 0)),(7,(pt 3 0)),(8,sc 4 0 1 n4 c6),(10,(zI (Int.ofNat k1))),(11,(zI (Int.tmod (Aj .i64 x0) (Int.ofNat n4))))]) [(72,sc 7 0 1 0 1),(73,sc 4 0 1 n4 c6),(74,(zI (Int.ofNat k3))),(75,(sc 4 0 1 k3 (2*(c6 / 2)+bb (Dp false (Nat.beq (c6 % 2) 1)) 1 0))),(77,sc 4 0 1 n4 c6),(78,(zI (Int.tmod (Aj .i64 x0) (Int.ofNat n4)))),(79,(zI (Int.ofNat k4)))]) (hT 8 [oC q6,(oC [zI z5,(.slice none 0 0),(.slice none 0 0)]),(oC [zI z6,(sc 5 0 1 (n5+1) (d2 (n5+1))),sc 6 0 1 n6 c8]),oC q7,(oC (Br (Am 0 q8) [zI x1])),oC q9,(oC [])]) (eC 2 (some ((zI (Int.tmod (Aj .i64 x0) (Int.ofNat n4))),(hT 8 [oC q6,(oC [zI z5,(.slice none 0 0),(.slice none 0 0)]),(oC [zI z6,(sc 5 0 1 (n5+1) (d2 (n5+1))),sc 6 0 1 n6 c8]),oC q7,(oC (Br (Am 0 q8) [zI x1])),oC q9,(oC [])]))) (show _=some ((zI (Int.ofNat k3)),_) from (by rw[AR h17])) (eD (keep (hT 8 [oC q6,(oC [zI z5,(.slice none 0 0),(.slice none 0 0)]),(oC [zI z6,(sc 5 0 1 (n5+1) (d2 (n5+1))),sc 6 0 1 n6 c8]),oC q7,(oC (Br (Am 0 q8) [zI x1])),oC q9,(oC [])]) (oo (bb (Nat.ble k3 (c6 / 2)) (some k3) none) none fun h=>some (sliceAt 4 (0+0*1) 1 (h - 0) (c6 / 2 - 0) (Dp false (Nat.beq (c6 % 2) 1))))) (show _=some ((sc 4 0 1 k3 (2*(c6 / 2)+bb (Dp false (Nat.beq (c6 % 2) 1)) 1 0)),(hT 8 [oC q6,(oC [zI z5,(.slice none 0 0),(.slice none 0 0)]),(oC [zI z6,(sc 5 0 1 (n5+1) (d2 (n5+1))),sc 6 0 1 n6 c8]),oC q7,(oC (Br (Am 0 q8) [zI x1])),oC q9,(oC [])])) from (RJ h18).trans (by kernel_rfl)) (eC 2 (some ((zI (Aj .i64 (Int.add (Int.tmod (Aj .i64 x0) (Int.ofNat n4)) (1:Int)))),(hT 8 [oC q6,(oC [zI z5,(.slice none 0 0),(.slice none 0 0)]),(oC [zI z6,(sc 5 0 1 (n5+1) (d2 (n5+1))),sc 6 0 1 n6 c8]),oC q7,(oC (Br (Am 0 q8) [zI x1])),oC q9,(oC [])]))) (show _=some ((zI (Int.ofNat k4)),_) from (by rw[AR h19])) (by kernel_rfl)))) (eD (keep (hT 8 [oC q6,(oC [zI z5,(.slice none 0 0),(.slice none 0 0)]),(oC [zI z6,(sc 5 0 1 (n5+1) (d2 (n5+1))),sc 6 0 1 n6 c8]),oC q7,(oC (Br (Am 0 q8) [zI x1])),oC q9,(oC [])]) (oo (bb (Nat.ble k4 n4) (some k4) none) none fun l=>some (sliceAt 4 (0+l*1) 1 (n4 - l) (c6 / 2 - l) (Dp false (Nat.beq (c6 % 2) 1))))) (show _=some ((.slice (some ⟨4,(0+k4*1),some 1⟩) (n4 - k4) (2*(c6 / 2 - k4)+bb (Dp false (Nat.beq (c6 % 2) 1)) 1 0)),(hT 8 [oC q6,(oC [zI z5,(.slice none 0 0),(.slice none 0 0)]),(oC [zI z6,(sc 5 0 1 (n5+1) (d2 (n5+1))),sc 6 0 1 n6 c8]),oC q7,(oC (Br (Am 0 q8) [zI x1])),oC q9,(oC [])])) from (RJ h20).trans (by kernel_rfl)) (eD (Gl (hT 8 [oC q6,(oC [zI z5,(.slice none 0 0),(.slice none 0 0)]),(oC [zI z6,(sc 5 0 1 (n5+1) (d2 (n5+1))),sc 6 0 1 n6 c8]),oC q7,(oC (Br (Am 0 q8) [zI x1])),oC q9,(oC [])]) 1 8 (sc 7 0 1 0 1) k3 (sc 4 0 1 k3 (2*(c6 / 2)+bb (Dp false (Nat.beq (c6 % 2) 1)) 1 0))) ((Ez (imm:=false) (sp:=false) (anc:=[]) h21).trans (Zf h22 h23 (by kernel_rfl))) (eD (Gl (hT 9 [oC q6,(oC [zI z5,(.slice none 0 0),(.slice none 0 0)]),(oC [zI z6,(sc 5 0 1 (n5+1) (d2 (n5+1))),sc 6 0 1 n6 c8]),oC q7,(oC (Br (Am 0 q8) [zI x1])),oC q9,(oC []),(oC (Aq ((Sl.n (Sl.mk k3 0 (Aq (k3*1) (Am 0 q7))))*1) (Sl.cs (Sl.mk k3 0 (Aq (k3*1) (Am 0 q7))))))]) 1 8 (sc 8 0 1 (0+(Sl.n (Sl.mk k3 0 (Aq (k3*1) (Am 0 q7))))) (d2 (0+(Sl.n (Sl.mk k3 0 (Aq (k3*1) (Am 0 q7))))))) (n4 - k4) (.slice (some ⟨4,(0+k4*1),some 1⟩) (n4 - k4) (2*(c6 / 2 - k4)+bb (Dp false (Nat.beq (c6 % 2) 1)) 1 0))) ((Ez (imm:=false) (sp:=false) (anc:=[]) h24).trans (QI (H:=(hT 9 [oC q6,(oC [zI z5,(.slice none 0 0),(.slice none 0 0)]),(oC [zI z6,(sc 5 0 1 (n5+1) (d2 (n5+1))),sc 6 0 1 n6 c8]),oC q7,(oC (Br (Am 0 q8) [zI x1])),oC q9,(oC []),(oC (Aq ((Sl.n (Sl.mk k3 0 (Aq (k3*1) (Am 0 q7))))*1) (Sl.cs (Sl.mk k3 0 (Aq (k3*1) (Am 0 q7))))))])) (id:=8) (n:=(0+(Sl.n (Sl.mk k3 0 (Aq (k3*1) (Am 0 q7)))))) (c2:=(d2 (0+(Sl.n (Sl.mk k3 0 (Aq (k3*1) (Am 0 q7))))))) (xs:=(Aq ((Sl.n (Sl.mk k3 0 (Aq (k3*1) (Am 0 q7))))*1) (Sl.cs (Sl.mk k3 0 (Aq (k3*1) (Am 0 q7)))))) (anc:=[]) h25 (by kernel_rfl) (by kernel_rfl) h28)) (eE))))) ?_
     replace hm:=Ae hm;obtain⟨h29,hm⟩:=hm
     refine .ghs (fr 83 [(3,pt 1 0),(6,(pt 2 0)),(7,(pt 3 0)),(8,(sc 4 0 1 ((0+(Sl.n (Sl.mk k3 0 (Aq (k3*1) (Am 0 q7)))))+(Sl.n (Sl.mk (n4 - k4) 0 (Aq ((n4 - k4)*1) (Am (0+k4*1) q7))))) (d2 ((0+(Sl.n (Sl.mk k3 0 (Aq (k3*1) (Am 0 q7)))))+(Sl.n (Sl.mk (n4 - k4) 0 (Aq ((n4 - k4)*1) (Am (0+k4*1) q7)))))))),(10,(zI (Int.ofNat k1)))]) (hT 7 [oC q6,(oC [zI z5,(.slice none 0 0),(.slice none 0 0)]),(oC [zI z6,(sc 5 0 1 (n5+1) (d2 (n5+1))),sc 6 0 1 n6 c8]),(oC (Br (Am 0 (Aq ((Sl.n (Sl.mk k3 0 (Aq (k3*1) (Am 0 q7))))*1) (Sl.cs (Sl.mk k3 0 (Aq (k3*1) (Am 0 q7)))))) (Aq ((Sl.n (Sl.mk (n4 - k4) 0 (Aq ((n4 - k4)*1) (Am (0+k4*1) q7))))*1) (Sl.cs (Sl.mk (n4 - k4) 0 (Aq ((n4 - k4)*1) (Am (0+k4*1) q7))))))),(oC (Br (Am 0 q8) [zI x1])),oC q9]) (.k [1,9,5,6] [false] [.tmp 3 false,.tmp 6 false,.tmp 7 true,.tmp 8 false,.cell 3 1 false,.cell 3 2 false] [3,6,7,8,10] ⟨Dy h3,Dy h29,Dy h16,Dy h6,trivial⟩) ?_
     refine .rK ?_
     exact⟨(((0+(Sl.n (Sl.mk k3 0 (Aq (k3*1) (Am 0 q7)))))+(Sl.n (Sl.mk (n4 - k4) 0 (Aq ((n4 - k4)*1) (Am (0+k4*1) q7))))),(d2 ((0+(Sl.n (Sl.mk k3 0 (Aq (k3*1) (Am 0 q7)))))+(Sl.n (Sl.mk (n4 - k4) 0 (Aq ((n4 - k4)*1) (Am (0+k4*1) q7)))))),(Aj .i64 (Int.add (Int.ofNat k1) (1:Int))),q6,z5,z6,(n5+1),(d2 (n5+1)),n6,c8,(Br (Am 0 (Aq ((Sl.n (Sl.mk k3 0 (Aq (k3*1) (Am 0 q7))))*1) (Sl.cs (Sl.mk k3 0 (Aq (k3*1) (Am 0 q7)))))) (Aq ((Sl.n (Sl.mk (n4 - k4) 0 (Aq ((n4 - k4)*1) (Am (0+k4*1) q7))))*1) (Sl.cs (Sl.mk (n4 - k4) 0 (Aq ((n4 - k4)*1) (Am (0+k4*1) q7)))))),(Br (Am 0 q8) [zI x1]),q9),hm,(.k [1,4,5,6] [false] [.tmp 3 false,.tmp 6 false,.tmp 7 true,.tmp 8 false,.cell 3 1 false,.cell 3 2 false] [3,6,7,8,10] ⟨Dy h3,Dy h29,Dy h16,Dy h6,trivial⟩)⟩
  ·refine FY (AY (0:Int) (Int.ofNat n4)) h7 ?_
   refine .exit ?_
   exact⟨(z5,z6,n5,c7,n6,c8,q8,q9),hm,(.k [5,6] [false] [.tmp 6 false,.tmp 7 true,.cell 2 1 false,.cell 2 2 false] [6,7] ⟨Dy h5,Dy h6,trivial⟩)⟩
theorem r21 {call:A8} (pu:Af) (n:Nat) (hcall:call=Bb tabs HV pu (inl pu)) {args:LV} {v:Value} (hm:uX pu n args=some v) (_:∀ x∈args,closed2 x=true):args.length≤83∧BN tt call 1 R6 (Fr.made 83 args) (Ao tabs) (Fin tt 1 [.cell 6 24] v):=by
 subst hcall
 unfold uX at hm
 replace hm:=Ad hm;obtain⟨a0,args_0,rfl,hm⟩:=hm
 replace hm:=Ad hm;obtain⟨a1,args_1,rfl,hm⟩:=hm
 replace hm:=Ad hm;obtain⟨a2,args_2,rfl,hm⟩:=hm
 replace hm:=AC hm;obtain⟨rfl,hm⟩:=hm
 replace hm:=BG hm;obtain⟨q0,rfl,hm⟩:=hm
 replace hm:=Ae hm;obtain⟨h0,hm⟩:=hm
 replace hm:=Ai hm;obtain⟨x0,rfl,hm⟩:=hm
 replace hm:=Ai hm;obtain⟨x1,rfl,hm⟩:=hm
 unfold Yj at hm
 refine⟨by simp,?_⟩
 refine .same (F':=(fr 83 [(0,(.agg ⟨q0⟩)),(1,zI x0),(2,zI x1)])) (H':=DT) (by kernel_rfl) (by kernel_rfl) ?_
 refine .then (.rK ?_)
 replace hm:=Ae hm;obtain⟨h1,hm⟩:=hm
 refine .ghs (fr 83 [(1,zI x0),(2,zI x1),(3,pt 1 0),(6,(pt 2 0))]) (hT 3 [oC q0,(oC [(zI (0:Int)),(.slice none 0 0),(.slice none 0 0)])]) (.k [1] [false] [.tmp 3 false,.tmp 6 false] [1,2,3,6] ⟨Dy h1,trivial⟩) ?_
 refine .then ?_
 replace hm:=Hy hm;obtain⟨x2,h2,hm⟩:=hm
 replace hm:=Ae hm;obtain⟨h3,hm⟩:=hm
 refine .reg (eC 1 (keep (hT 3 [oC q0,(oC [(zI (0:Int)),(.slice none 0 0),(.slice none 0 0)])]) (AL q0 0)) (AZ h2) (eC 2 (keep (hT 3 [oC q0,(oC [(zI (0:Int)),(.slice none 0 0),(.slice none 0 0)])]) (bb (Bd x1 (0:Int)) none (some (zI (Int.tmod (Aj .i64 x2) x1))))) (XH h3) (eE))) ?_
 refine .ghs (fr 83 [(1,zI x0),(3,pt 1 0),(6,(pt 2 0)),(7,(pt 3 0))]) (hT 4 [oC q0,(oC [(zI (0:Int)),(.slice none 0 0),(.slice none 0 0)]),(oC [(zI (Aj .i64 (Int.add (1:Int) (Int.tmod (Aj .i64 x2) x1)))),(.slice none 0 0),(.slice none 0 0)])]) (.k [1] [false] [.tmp 3 false,.tmp 6 false,.tmp 7 false] [1,3,6,7] ⟨Dy h1,trivial⟩) ?_
 refine .then (.rK (.ghs (fr 83 [(1,zI x0),(3,pt 1 0),(6,(pt 2 0)),(7,(pt 3 0)),(8,(.slice none 0 0))]) (hT 4 [oC q0,(oC [(zI (0:Int)),(.slice none 0 0),(.slice none 0 0)]),(oC [(zI (Aj .i64 (Int.add (1:Int) (Int.tmod (Aj .i64 x2) x1)))),(.slice none 0 0),(.slice none 0 0)])]) (.k [1] [false] [.tmp 3 false,.tmp 6 false,.tmp 7 false] [1,3,6,7,8] ⟨Dy h1,trivial⟩) ?_))
 refine .join (v:=v) (fun y:Nat×Nat×LV×Int×Int×Nat×Nat×LV×LV=>((fr 83 [(3,pt 1 0),(6,(pt 2 0)),(7,(pt 3 0)),(8,(sc 4 0 1 y.1 y.2.1))]),(hT 6 [(oC y.2.2.1),(oC [(zI y.2.2.2.1),(.slice none 0 0),(.slice none 0 0)]),(oC [(zI y.2.2.2.2.1),(.slice none 0 0),(sc 5 0 1 y.2.2.2.2.2.1 y.2.2.2.2.2.2.1)]),(oC y.2.2.2.2.2.2.2.1),(oC y.2.2.2.2.2.2.2.2)]))) (fun y=>QG pu n y.1 y.2.1 y.2.2.1 y.2.2.2.1 y.2.2.2.2.1 y.2.2.2.2.2.1 y.2.2.2.2.2.2.1 y.2.2.2.2.2.2.2.1 y.2.2.2.2.2.2.2.2) ?_ ?_
 ·rintro⟨n0,c0,q1,z0,z1,n1,c1,q2,q3⟩ hm
  exact AaQ pu n n0 c0 q1 z0 z1 n1 c1 q2 q3 hm
 ·refine .then ?_
  replace hm:=Hy hm;obtain⟨x3,h4,hm⟩:=hm
  replace hm:=Ae hm;obtain⟨h5,hm⟩:=hm
  refine .reg (eC 1 (keep (hT 4 [oC q0,(oC [(zI (0:Int)),(.slice none 0 0),(.slice none 0 0)]),(oC [(zI (Aj .i64 (Int.add (1:Int) (Int.tmod (Aj .i64 x2) x1)))),(.slice none 0 0),(.slice none 0 0)])]) (AL q0 1)) (AZ h4) (eC 2 (keep (hT 4 [oC q0,(oC [(zI (0:Int)),(.slice none 0 0),(.slice none 0 0)]),(oC [(zI (Aj .i64 (Int.add (1:Int) (Int.tmod (Aj .i64 x2) x1)))),(.slice none 0 0),(.slice none 0 0)])]) (bb (Bd x0 (0:Int)) none (some (zI (Int.tmod (Aj .i64 x3) x0))))) (XH h5) (eE))) ?_
  refine .ghs (fr 83 [(3,pt 1 0),(6,(pt 2 0)),(7,(pt 3 0)),(8,(.slice none 0 0)),(24,(zI (Aj .i64 (Int.add (1:Int) (Int.tmod (Aj .i64 x3) x0))))),(25,(zI (0:Int)))]) (hT 4 [oC q0,(oC [(zI (0:Int)),(.slice none 0 0),(.slice none 0 0)]),(oC [(zI (Aj .i64 (Int.add (1:Int) (Int.tmod (Aj .i64 x2) x1)))),(.slice none 0 0),(.slice none 0 0)])]) (.k [1] [false] [.tmp 3 false,.tmp 6 false,.tmp 7 false] [3,6,7,8,24,25] ⟨Dy h1,trivial⟩) ?_
  refine .block (.loopM (v:=v) (fun y:Nat×Nat×Int×Int×LV×Int×Int×Nat×Nat×LV×LV=>((fr 83 [(3,pt 1 0),(6,(pt 2 0)),(7,(pt 3 0)),(8,(sc 4 0 1 y.1 y.2.1)),(24,(zI y.2.2.1)),(25,(zI y.2.2.2.1))]),(hT 6 [(oC y.2.2.2.2.1),(oC [(zI y.2.2.2.2.2.1),(.slice none 0 0),(.slice none 0 0)]),(oC [(zI y.2.2.2.2.2.2.1),(.slice none 0 0),(sc 5 0 1 y.2.2.2.2.2.2.2.1 y.2.2.2.2.2.2.2.2.1)]),(oC y.2.2.2.2.2.2.2.2.2.1),(oC y.2.2.2.2.2.2.2.2.2.2)]))) (fun w y=>QH pu n w y.1 y.2.1 y.2.2.1 y.2.2.2.1 y.2.2.2.2.1 y.2.2.2.2.2.1 y.2.2.2.2.2.2.1 y.2.2.2.2.2.2.2.1 y.2.2.2.2.2.2.2.2.1 y.2.2.2.2.2.2.2.2.2.1 y.2.2.2.2.2.2.2.2.2.2) n ⟨(0,0,(Aj .i64 (Int.add (1:Int) (Int.tmod (Aj .i64 x3) x0))),(0:Int),q0,(0:Int),(Aj .i64 (Int.add (1:Int) (Int.tmod (Aj .i64 x2) x1))),0,0,([]:LV),([]:LV)),hm,(.thaw 8 1 (by kernel_rfl) (.thawC 3 2 1 [(zI (Aj .i64 (Int.add (1:Int) (Int.tmod (Aj .i64 x2) x1)))),(.slice none 0 0),(.slice none 0 0)] (imm:=false) (spent:=false) (anc:=[]) (by kernel_rfl) (by kernel_rfl) (by kernel_rfl) (by kernel_rfl) (.k [1] [false] [.tmp 3 false,.tmp 6 false,.tmp 7 true,.tmp 8 false,.cell 3 2 false] [3,6,7,8,24,25] ⟨Dy h1,trivial⟩)))⟩ (fun _=>rfl) ?_)
  rintro w0 ⟨n2,c2,z2,z3,q4,z4,z5,n3,c3,q6,q7⟩ hm
  replace hm:Ph pu n (QH pu n w0) n2 c2 z2 z3 q4 z4 z5 n3 c3 q6 q7=some v:=hm
  unfold Ph at hm
  refine .then (.rK ?_)
  replace hm:=Ae hm;obtain⟨h6,hm⟩:=hm
  replace hm:=Ae hm;obtain⟨h7,hm⟩:=hm
  replace hm:=Ae hm;obtain⟨h8,hm⟩:=hm
  refine .ghs (fr 83 [(3,pt 1 0),(6,(pt 2 0)),(7,(pt 3 0)),(8,sc 4 0 1 n2 c2),(24,zI z2),(25,zI z3),(26,(zB (AY z3 z2)))]) (hT 6 [oC q4,(oC [zI z4,(.slice none 0 0),(.slice none 0 0)]),(oC [zI z5,(.slice none 0 0),sc 5 0 1 n3 c3]),oC q6,oC q7]) (.k [1,4,5] [false] [.tmp 3 false,.tmp 6 false,.tmp 7 true,.tmp 8 false,.cell 3 2 false] [3,6,7,8,24,25,26] ⟨Dy h6,Dy h7,Dy h8,trivial⟩) ?_
  refine .then ?_
  replace hm:=Ag hm;rcases hm with⟨h9,hm⟩ | ⟨h9,hm⟩
  ·refine FX (AY z3 z2) h9 ?_
   refine .skip (.ghs (fr 83 [(3,pt 1 0),(6,(pt 2 0)),(7,(pt 3 0)),(8,sc 4 0 1 n2 c2),(24,zI z2),(25,zI z3)]) (hT 6 [oC q4,(oC [zI z4,(.slice none 0 0),(.slice none 0 0)]),(oC [zI z5,(.slice none 0 0),sc 5 0 1 n3 c3]),oC q6,oC q7]) (.k [1,4,5] [false] [.tmp 3 false,.tmp 6 false,.tmp 7 true,.tmp 8 false,.cell 3 2 false] [3,6,7,8,24,25] ⟨Dy h6,Dy h7,Dy h8,trivial⟩) ?_)
   refine .then (.block (.then (.rK (.ghs (fr 83 [(3,pt 1 0),(6,(pt 2 0)),(7,(pt 3 0)),(8,sc 4 0 1 n2 c2),(9,zI z3),(24,zI z2),(25,zI z3)]) (hT 6 [oC q4,(oC [zI z4,(.slice none 0 0),(.slice none 0 0)]),(oC [zI z5,(.slice none 0 0),sc 5 0 1 n3 c3]),oC q6,oC q7]) (.k [1,4,5] [false] [.tmp 3 false,.tmp 6 false,.tmp 7 true,.tmp 8 false,.cell 3 2 false] [3,6,7,8,9,24,25] ⟨Dy h6,Dy h7,Dy h8,trivial⟩) ?_))))
   refine .then ?_
   replace hm:=Ab hm;obtain⟨k1,h10,hm⟩:=hm
   obtain rfl:=AR h10
   replace hm:=Ae hm;obtain⟨h11,hm⟩:=hm
   replace hm:=Hy hm;obtain⟨x4,h12,hm⟩:=hm
   replace hm:=Ae hm;obtain⟨h13,hm⟩:=hm
   replace hm:=Ae hm;obtain⟨h14,hm⟩:=hm
   refine .reg (eC 4 (keep (hT 6 [oC q4,(oC [zI z4,(.slice none 0 0),(.slice none 0 0)]),(oC [zI z5,(.slice none 0 0),sc 5 0 1 n3 c3]),oC q6,oC q7]) (bb (Nat.blt k1 10) (some (.pointer (some ⟨1,(2+k1*1),none⟩))) none)) (AX h11) (eD (keep (hT 6 [oC q4,(oC [zI z4,(.slice none 0 0),(.slice none 0 0)]),(oC [zI z5,(.slice none 0 0),sc 5 0 1 n3 c3]),oC q6,oC q7]) (AL q4 (2+k1*1))) (AZ h12) (eC 3 (keep (hT 6 [oC q4,(oC [zI z4,(.slice none 0 0),(.slice none 0 0)]),(oC [zI z5,(.slice none 0 0),sc 5 0 1 n3 c3]),oC q6,oC q7]) (bb (Bd z5 (0:Int)) none (some (zI (Int.tmod (Aj .i64 x4) z5))))) (XH h13) (eC 1 (Oc 1 8 n3 c3 1 5 q7 [(zI (Int.tmod (Aj .i64 x4) z5))] [] (hT 7 [oC q4,(oC [zI z4,(.slice none 0 0),(.slice none 0 0)]),(oC [zI z5,(.slice none 0 0),sc 5 0 1 n3 c3]),oC q6,oC q7,(oC [(zI (Int.tmod (Aj .i64 x4) z5))])])) (I1 h14) (eE))))) ?_
   replace hm:=Ae hm;obtain⟨h15,hm⟩:=hm
   refine .ghs (fr 83 [(3,pt 1 0),(6,(pt 2 0)),(7,(pt 3 0)),(8,sc 4 0 1 n2 c2),(9,(zI (Int.ofNat k1))),(24,zI z2),(25,(zI (Int.ofNat k1)))]) (hT 6 [oC q4,(oC [zI z4,(.slice none 0 0),(.slice none 0 0)]),(oC [zI z5,(.slice none 0 0),(sc 5 0 1 (n3+1) (d2 (n3+1)))]),oC q6,(oC (Br (Am 0 q7) [(zI (Int.tmod (Aj .i64 x4) z5))]))]) (.k [1,4,7] [false] [.tmp 3 false,.tmp 6 false,.tmp 7 true,.tmp 8 false,.cell 3 2 false] [3,6,7,8,9,24,25] ⟨Dy h6,Dy h7,Dy h15,trivial⟩) ?_
   replace hm:=Ae hm;obtain⟨h16,hm⟩:=hm
   replace hm:=Hy hm;obtain⟨x5,h17,hm⟩:=hm
   replace hm:=Ae hm;obtain⟨h18,hm⟩:=hm
   refine .reg (eC 4 (keep (hT 6 [oC q4,(oC [zI z4,(.slice none 0 0),(.slice none 0 0)]),(oC [zI z5,(.slice none 0 0),(sc 5 0 1 (n3+1) (d2 (n3+1)))]),oC q6,(oC (Br (Am 0 q7) [(zI (Int.tmod (Aj .i64 x4) z5))]))]) (bb (an (Nat.blt k1 (n3+1)) true) (some (.pointer (some ⟨5,(0+k1*1),none⟩))) none)) (AX h16) (eD (keep (hT 6 [oC q4,(oC [zI z4,(.slice none 0 0),(.slice none 0 0)]),(oC [zI z5,(.slice none 0 0),(sc 5 0 1 (n3+1) (d2 (n3+1)))]),oC q6,(oC (Br (Am 0 q7) [(zI (Int.tmod (Aj .i64 x4) z5))]))]) (AL (Br (Am 0 q7) [(zI (Int.tmod (Aj .i64 x4) z5))]) (0+k1*1))) (AZ h17) (eC 1 (Oc 1 8 n2 c2 1 4 q6 [zI x5] [] (hT 7 [oC q4,(oC [zI z4,(.slice none 0 0),(.slice none 0 0)]),(oC [zI z5,(.slice none 0 0),(sc 5 0 1 (n3+1) (d2 (n3+1)))]),oC q6,(oC (Br (Am 0 q7) [(zI (Int.tmod (Aj .i64 x4) z5))])),(oC [zI x5])])) (I1 h18) (eE)))) ?_
   replace hm:=Ae hm;obtain⟨h19,hm⟩:=hm
   refine .ghs (fr 83 [(3,pt 1 0),(6,(pt 2 0)),(7,(pt 3 0)),(8,(sc 4 0 1 (n2+1) (d2 (n2+1)))),(24,zI z2),(25,(zI (Int.ofNat k1)))]) (hT 6 [oC q4,(oC [zI z4,(.slice none 0 0),(.slice none 0 0)]),(oC [zI z5,(.slice none 0 0),(sc 5 0 1 (n3+1) (d2 (n3+1)))]),(oC (Br (Am 0 q6) [zI x5])),(oC (Br (Am 0 q7) [(zI (Int.tmod (Aj .i64 x4) z5))]))]) (.k [1,7,5] [false] [.tmp 3 false,.tmp 6 false,.tmp 7 true,.tmp 8 false,.cell 3 2 false] [3,6,7,8,24,25] ⟨Dy h6,Dy h19,Dy h15,trivial⟩) ?_
   refine .rK ?_
   exact⟨((n2+1),(d2 (n2+1)),z2,(Aj .i64 (Int.add (Int.ofNat k1) (1:Int))),q4,z4,z5,(n3+1),(d2 (n3+1)),(Br (Am 0 q6) [zI x5]),(Br (Am 0 q7) [(zI (Int.tmod (Aj .i64 x4) z5))])),hm,(.k [1,4,5] [false] [.tmp 3 false,.tmp 6 false,.tmp 7 true,.tmp 8 false,.cell 3 2 false] [3,6,7,8,24,25] ⟨Dy h6,Dy h19,Dy h15,trivial⟩)⟩
  ·refine FY (AY z3 z2) h9 ?_
   refine .exit ?_
   exact⟨(n2,c2,q4,z4,z5,n3,c3,q6,q7),hm,(.k [1,4,5] [false] [.tmp 3 false,.tmp 6 false,.tmp 7 true,.tmp 8 false,.cell 3 2 false] [3,6,7,8] ⟨Dy h6,Dy h7,Dy h8,trivial⟩)⟩
end
end Go.MnOM
