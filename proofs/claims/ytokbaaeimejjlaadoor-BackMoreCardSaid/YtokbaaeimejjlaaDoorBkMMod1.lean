/- Made from wip. -/
import Derived.Test.YtokbaaeimejjlaaDoorBkMMod0x

set_option maxRecDepth 100000
set_option maxHeartbeats 20000000
set_option linter.unusedVariables false
namespace Go.BkMM
open Go.Sp Go.BkM
noncomputable section
def MH (pu:Af) (n:Nat) (b0:Bool):OV:=
 (some (.bool b0))
def WH (pu:Af) (n:Nat) (s0:Sl) (n0 c0:Nat) (z0 z1 z2:Int) (s1:Sl) (q0:LV):OV:=
 (oo (pu 15 [(.agg ⟨[.int .i64 z0,.int .i64 z1,.int .i64 z2,Sl.v 1 s1]⟩),Sl.v 1 s0]) none fun v0=>(oo (CQ v0) none fun l0=>(ll l0 none fun v1 l0=>(ll l0 none fun v2 l0=>(ll l0 (oo (Bj 1 v1) none fun s2=>(oo (Bi .i64 v2) none fun x0=>(bb (Au Ah q0) (bb (an (Nat.ble (0+n0*1) (len q0)) (Au Ah (Aq (n0*1) (Am 0 q0)))) (oo (pu 15 [(.agg ⟨[.int .i64 z0,.int .i64 z1,.int .i64 z2,Sl.v 1 s1]⟩),(Sl.v 1 (Sl.mk n0 0 (Aq (n0*1) (Am 0 q0))))]) none fun v3=>(oo (CQ v3) none fun l1=>(ll l1 none fun v4 l1=>(ll l1 none fun v5 l1=>(ll l1 (oo (Bj 1 v4) none fun s3=>(oo (Bi .i64 v5) none fun x1=>(oo (pu 20 [(.agg ⟨[.int .i64 z0,.int .i64 z1,.int .i64 z2,Sl.v 1 s1]⟩),Sl.v 1 s0]) none fun v6=>(oo (CQ v6) none fun l2=>(ll l2 none fun v7 l2=>(ll l2 none fun v8 l2=>(ll l2 (oo (Bj 1 v7) none fun s4=>(oo (Bi .i64 v8) none fun x2=>(oo (pu 20 [(.agg ⟨[.int .i64 z0,.int .i64 z1,.int .i64 z2,Sl.v 1 s1]⟩),(Sl.v 1 (Sl.mk n0 0 (Aq (n0*1) (Am 0 q0))))]) none fun v9=>(oo (CQ v9) none fun l3=>(ll l3 none fun v10 l3=>(ll l3 none fun v11 l3=>(ll l3 (oo (Bj 1 v10) none fun s5=>(oo (Bi .i64 v11) none fun x3=>(oo (pu 14 [(.agg ⟨[.int .i64 z0,.int .i64 z1,.int .i64 z2,Sl.v 1 s1]⟩),Sl.v 1 s0]) none fun v12=>(oo (CQ v12) none fun l4=>(ll l4 none fun v13 l4=>(ll l4 none fun v14 l4=>(ll l4 (oo (Bj 1 v13) none fun s6=>(oo (Bi .i64 v14) none fun x4=>(oo (pu 14 [(.agg ⟨[.int .i64 z0,.int .i64 z1,.int .i64 z2,Sl.v 1 s1]⟩),(Sl.v 1 (Sl.mk n0 0 (Aq (n0*1) (Am 0 q0))))]) none fun v15=>(oo (CQ v15) none fun l5=>(ll l5 none fun v16 l5=>(ll l5 none fun v17 l5=>(ll l5 (oo (Bj 1 v16) none fun s7=>(oo (Bi .i64 v17) none fun x5=>(bb (Bd x0 (0:Int)) (bb (Bd x1 (0:Int)) (bb (Bd x2 (0:Int)) (bb (Bd x3 (0:Int)) (bb (Bd x4 (0:Int)) (bb (Bd x5 (0:Int)) (oo (pu 12 [Sl.v 1 s2,Sl.v 1 s3]) none fun v18=>(oo (Bf v18) none fun b0=>(bb b0 (oo (pu 12 [Sl.v 1 s4,Sl.v 1 s5]) none fun v19=>(oo (Bf v19) none fun b1=>(bb b1 (bb (Bd (Int.ofNat (Sl.n s6)) (Int.ofNat (Sl.n s7))) (oo (pu 19 []) none fun v20=>(oo (Bf v20) none fun b2=>(MH pu n b2))) (MH pu n false)) (MH pu n false)))) (MH pu n false)))) (MH pu n false)) (MH pu n false)) (MH pu n false)) (MH pu n false)) (MH pu n false)) (MH pu n false)))) fun _ _=>none))))))) fun _ _=>none))))))) fun _ _=>none))))))) fun _ _=>none))))))) fun _ _=>none))))) none) none))) fun _ _=>none)))))
def WI (pu:Af) (n:Nat) (ih0:Sl→Int→Int→Nat→Nat→Sl→Int→Int→Int→Int→Int→Sl→LV→OV) (s0:Sl) (z0 z1:Int) (n0 c0:Nat) (z2:Int) (s1:Sl) (z3 z4 z5 z6 z7:Int) (s2:Sl) (q0:LV):OV:=
 (bb (GV 1 8 n0 c0 1 q0) (bb (Au Ah (Br (Am 0 q0) [.int .i64 z2])) (ih0 s0 z0 z1 (n0+1) (2*(n0+1)+bb false 1 0) s1 z3 (Aj .i64 (Int.add z4 (1:Int))) z5 z6 z7 s2 (Br (Am 0 q0) [.int .i64 z2])) none) none)
def WJ (pu:Af) (n:Nat) (ih0:Sl→Int→Int→Nat→Nat→Sl→Int→Int→Int→Int→Int→Sl→LV→OV) (s0:Sl) (z0 z1:Int) (n0 c0:Nat) (s1:Sl) (z2 z3 z4 z5 z6:Int) (s2:Sl) (q0:LV):OV:=
 (bb (Au Ah q0) (bb (AY z3 z2) (oo (EA z3) none fun k1=>(bb (an (Nat.blt k1 (Sl.n s1)) true) (oo (AL (Sl.cs s1) (k1*1)) none fun v0=>(oo (Bi .i64 v0) none fun x0=>(bb (Bd x0 z0) (WI pu n ih0 s0 z0 z1 n0 c0 z1 s1 z2 (Int.ofNat k1) z4 z5 z6 s2 q0) (bb (Bd x0 z1) (WI pu n ih0 s0 z0 z1 n0 c0 z0 s1 z2 (Int.ofNat k1) z4 z5 z6 s2 q0) (WI pu n ih0 s0 z0 z1 n0 c0 x0 s1 z2 (Int.ofNat k1) z4 z5 z6 s2 q0))))) none)) (WH pu n s0 n0 c0 z4 z5 z6 s2 q0)) none)
def Ui (pu:Af) (n w:Nat):Sl→Int→Int→Nat→Nat→Sl→Int→Int→Int→Int→Int→Sl→LV→OV:=
 Nat.rec (motive:=fun _=>Sl→Int→Int→Nat→Nat→Sl→Int→Int→Int→Int→Int→Sl→LV→OV) (fun _ _ _ _ _ _ _ _ _ _ _ _ _=>none) (fun _ ih0=>WJ pu n ih0) w
def YB (pu:Af) (n:Nat) (z0 z1:Int) (s0:Sl) (z2 z3 z4 z5 z6:Int) (s1:Sl):OV:=
 (bb (nt (Bd z2 z3)) (some (.bool false)) (bb (nt (Bd z6 (0:Int))) (bb (nt (Bd z6 (0:Int))) (Ui pu n n s0 (Int.tmod (Aj .i64 z0) z6) (Int.tmod (Aj .i64 z1) z6) 0 0 s0 (Int.ofNat (Sl.n s0)) (0:Int) z4 z5 z6 s1 ([]:LV)) none) none))
def WK (pu:Af) (n:Nat) (ih0:Int→Int→Sl→Int→Int→Int→Int→Int→Int→Int→Sl→OV) (z0 z1:Int) (s0:Sl) (z2 z3 z4 z5 z6 z7 z8:Int) (s1:Sl):OV:=
 (bb (AY z5 z4) (ih0 z0 z1 s0 z2 (Aj .i64 (Int.mul z3 z8)) z4 (Aj .i64 (Int.add z5 (1:Int))) z6 z7 z8 s1) (YB pu n z0 z1 s0 z2 z3 z6 z7 z8 s1))
def YC (pu:Af) (n w:Nat):Int→Int→Sl→Int→Int→Int→Int→Int→Int→Int→Sl→OV:=
 Nat.rec (motive:=fun _=>Int→Int→Sl→Int→Int→Int→Int→Int→Int→Int→Sl→OV) (fun _ _ _ _ _ _ _ _ _ _ _=>none) (fun _ ih0=>WK pu n ih0) w
def UW (pu:Af) (n:Nat) (z0 z1:Int) (s0:Sl) (z2:Int) (b0:Bool) (z3 z4 z5:Int) (s1:Sl):OV:=
 (bb b0 (some (.bool false)) (YC pu n n z0 z1 s0 z2 (1:Int) (Int.ofNat (Sl.n s0)) (0:Int) z3 z4 z5 s1))
def m5_ (pu:Af) (n:Nat) (q1:LV) (x4 x6:Int):OV:=
 (bb (Au Ah q1) (bb (Nat.ble (0+20) (len q1)) (oo (pu 9 [(.agg ⟨(Aq 20 (Am 0 q1))⟩),(.int .i64 (4:Int)),(.int .i64 (3:Int))]) none fun v34=>(oo (CQ v34) none fun l36=>(ll l36 none fun v38 l36=>(ll l36 none fun v39 l36=>(ll l36 (oo (Bt v38) none fun l40=>(ll l40 none fun v42 l40=>(ll l40 none fun v43 l40=>(ll l40 none fun v44 l40=>(ll l40 none fun v45 l40=>(ll l40 (oo (Bi .i64 v42) none fun x46=>(oo (Bi .i64 v43) none fun x48=>(oo (Bi .i64 v44) none fun x50=>(oo (Bj 1 v45) none fun s52=>(oo (Bj 1 v39) none fun s54=>(bb (Au closed2 [(.agg ⟨(Aq 20 (Am 0 q1))⟩),(.int .i64 (4:Int)),(.int .i64 (3:Int))]) (oo (pu 22 [(Sl.v 1 (Sl.mk 1 0 (Aq (1*1) (Am 0 ([(.int .i64 (0:Int))]:LV)))))]) none fun v61=>(oo (Bj 1 v61) none fun s63=>(oo (pu 23 [(.agg ⟨[.int .i64 x46,.int .i64 x48,.int .i64 x50,Sl.v 1 s52]⟩)]) none fun v75=>(oo (CQ v75) none fun l77=>(ll l77 none fun v79 l77=>(ll l77 none fun v80 l77=>(ll l77 (oo (Bi .i64 v79) none fun x81=>(oo (Bi .i64 v80) none fun x83=>(oo (pu 23 [(.agg ⟨[.int .i64 x46,.int .i64 x48,(.int .i64 (Aj .i64 (Int.add x50 (1:Int)))),Sl.v 1 s52]⟩)]) none fun v95=>(oo (CQ v95) none fun l97=>(ll l97 none fun v99 l97=>(ll l97 none fun v0 l97=>(ll l97 (oo (Bi .i64 v99) none fun x0=>(oo (Bi .i64 v0) none fun x1=>(oo (pu 23 [(.agg ⟨[.int .i64 x46,.int .i64 x48,.int .i64 x50,Sl.v 1 s63]⟩)]) none fun v1=>(oo (CQ v1) none fun l0=>(ll l0 none fun v2 l0=>(ll l0 none fun v3 l0=>(ll l0 (oo (Bi .i64 v2) none fun x2=>(oo (Bi .i64 v3) none fun x3=>(bb (nt (Bd x83 (0:Int))) (UW pu n x4 x6 s54 x2 true x46 x48 x50 s52) (bb (nt (Bd x1 (0:Int))) (UW pu n x4 x6 s54 x2 true x46 x48 x50 s52) (bb (nt (Bd x3 (0:Int))) (UW pu n x4 x6 s54 x2 true x46 x48 x50 s52) (bb (AY x0 x81) (UW pu n x4 x6 s54 x2 true x46 x48 x50 s52) (UW pu n x4 x6 s54 x2 (AY x2 x81) x46 x48 x50 s52))))))) fun _ _=>none))))))) fun _ _=>none))))))) fun _ _=>none))))))) none)))))) fun _ _=>none)))))) fun _ _=>none))))) none) none)
def m5 (pu:Af) (n:Nat) (args:LV):OV:=
 (ll args none fun a0 args=>(ll args none fun a1 args=>(ll args none fun a2 args=>(ll args (oo (Bt a0) none fun q1=>(bb (an (Nat.beq (len q1) 20) (Au Ah q1)) (oo (Bi .u8 a1) none fun x4=>(oo (Bi .u8 a2) none fun x6=>(m5_ pu n q1 x4 x6))) none)) fun _ _=>none))))
theorem AiF (pu:Af) (n:Nat) (b0:Bool) {v:Value} (hm:MH pu n b0=some v):BN tt (Bb tabs isP pu (inl pu)) 1 .ret (fr 201 [(6,zB b0)]) Ay (Fin tt 1 [.tmp 6] v):=by
 unfold MH at hm
 refine .ret ?_
 exact AO (zB b0) hm
theorem AiG (pu:Af) (n:Nat) (s0:Sl) (n0 c0:Nat) (z0 z1 z2:Int) (s1:Sl) (q0:LV) {v:Value} (hm:WH pu n s0 n0 c0 z0 z1 z2 s1 q0=some v):BN tt (Bb tabs isP pu (inl pu)) 1 lZ (fr 201 [(7,pt 1 0),(8,Sl.v 1 s0),(20,sc 2 0 1 n0 c0)]) (hT 3 [(oC [zI z0,zI z1,zI z2,Sl.v 1 s1]),oC q0]) (Fin tt 1 [.tmp 6] v):=by
 unfold WH at hm
 refine .then ?_
 replace hm:=Ab hm;obtain⟨v0,h0,hm⟩:=hm
 replace hm:=Ch hm;obtain⟨l0,rfl,hm⟩:=hm
 replace hm:=Ad hm;obtain⟨v1,l313_0,rfl,hm⟩:=hm
 replace hm:=Ad hm;obtain⟨v2,l313_1,rfl,hm⟩:=hm
 replace hm:=AC hm;obtain⟨rfl,hm⟩:=hm
 replace hm:=Al hm;obtain⟨s2,rfl,hm⟩:=hm
 replace hm:=Ai hm;obtain⟨x0,rfl,hm⟩:=hm
 refine .reg (eC 2 ((oo (pu 15 [(.agg ⟨[zI z0,zI z1,zI z2,Sl.v 1 s1]⟩),Sl.v 1 s0]) none fun v=>some (v,(hT 3 [(oC [zI z0,zI z1,zI z2,Sl.v 1 s1]),oC q0])))) (AB h0) (eE)) ?_
 replace hm:=Ae hm;obtain⟨h1,hm⟩:=hm
 refine .ghs (fr 201 [(7,pt 1 0),(8,Sl.v 1 s0),(12,zI x0),(20,sc 2 0 1 n0 c0),(23,Sl.v 1 s2)]) (hT 3 [(oC [zI z0,zI z1,zI z2,Sl.v 1 s1]),oC q0]) (.k [2] [false] [.tmp 7 false,.tmp 20 false] [7,8,12,20,23] ⟨Bq h1,trivial⟩) ?_
 refine .then ?_
 replace hm:=Ae hm;obtain⟨h2,hm⟩:=hm
 refine .ghs (Fr.puts (fr 201 [(7,pt 1 0),(8,Sl.v 1 s0),(12,zI x0),(20,sc 2 0 1 n0 c0),(23,Sl.v 1 s2)]) [(20,(Sl.v 1 (Sl.mk n0 0 (Aq (n0*1) (Am 0 q0)))))]) (hT 3 [(oC [zI z0,zI z1,zI z2,Sl.v 1 s1]),.dead]) (.freezeC 1 20 1 (an (Nat.ble (0+n0*1) (len q0)) (Au Ah (Aq (n0*1) (Am 0 q0)))) (F1:=(Fr.puts (fr 201 [(7,pt 1 0),(8,Sl.v 1 s0),(12,zI x0),(20,sc 2 0 1 n0 c0),(23,Sl.v 1 s2)]) [(20,(Sl.v 1 (Sl.mk n0 0 (Aq (n0*1) (Am 0 q0)))))])) (H1:=(hT 3 [(oC [zI z0,zI z1,zI z2,Sl.v 1 s1]),.dead])) (by kernel_rfl) (by kernel_rfl) h2 (E9.id _ _)) ?_
 replace hm:=Ab hm;obtain⟨v3,h3,hm⟩:=hm
 replace hm:=Ch hm;obtain⟨l1,rfl,hm⟩:=hm
 replace hm:=Ad hm;obtain⟨v4,l335_0,rfl,hm⟩:=hm
 replace hm:=Ad hm;obtain⟨v5,l335_1,rfl,hm⟩:=hm
 replace hm:=AC hm;obtain⟨rfl,hm⟩:=hm
 replace hm:=Al hm;obtain⟨s3,rfl,hm⟩:=hm
 replace hm:=Ai hm;obtain⟨x1,rfl,hm⟩:=hm
 refine .reg (eC 2 ((oo (pu 15 [(.agg ⟨[zI z0,zI z1,zI z2,Sl.v 1 s1]⟩),(Sl.v 1 (Sl.mk n0 0 (Aq (n0*1) (Am 0 q0))))]) none fun v=>some (v,(hT 3 [(oC [zI z0,zI z1,zI z2,Sl.v 1 s1]),.dead])))) (AB h3) (eE)) ?_
 refine .ghs (fr 201 [(7,pt 1 0),(8,Sl.v 1 s0),(12,zI x0),(14,zI x1),(20,(Sl.v 1 (Sl.mk n0 0 (Aq (n0*1) (Am 0 q0))))),(23,Sl.v 1 s2),(24,Sl.v 1 s3)]) (hT 2 [(oC [zI z0,zI z1,zI z2,Sl.v 1 s1])]) (.k0 [false] [.tmp 7 false] [7,8,12,14,20,23,24]) ?_
 refine .then ?_
 replace hm:=Ab hm;obtain⟨v6,h4,hm⟩:=hm
 replace hm:=Ch hm;obtain⟨l2,rfl,hm⟩:=hm
 replace hm:=Ad hm;obtain⟨v7,l355_0,rfl,hm⟩:=hm
 replace hm:=Ad hm;obtain⟨v8,l355_1,rfl,hm⟩:=hm
 replace hm:=AC hm;obtain⟨rfl,hm⟩:=hm
 replace hm:=Al hm;obtain⟨s4,rfl,hm⟩:=hm
 replace hm:=Ai hm;obtain⟨x2,rfl,hm⟩:=hm
 refine .reg (eC 2 ((oo (pu 20 [(.agg ⟨[zI z0,zI z1,zI z2,Sl.v 1 s1]⟩),Sl.v 1 s0]) none fun v=>some (v,(hT 2 [(oC [zI z0,zI z1,zI z2,Sl.v 1 s1])])))) (AB h4) (eE)) ?_
 refine .ghs (fr 201 [(7,pt 1 0),(8,Sl.v 1 s0),(12,zI x0),(14,zI x1),(16,zI x2),(20,(Sl.v 1 (Sl.mk n0 0 (Aq (n0*1) (Am 0 q0))))),(23,Sl.v 1 s2),(24,Sl.v 1 s3),(25,Sl.v 1 s4)]) (hT 2 [(oC [zI z0,zI z1,zI z2,Sl.v 1 s1])]) (.k0 [false] [.tmp 7 false] [7,8,12,14,16,20,23,24,25]) ?_
 refine .then ?_
 replace hm:=Ab hm;obtain⟨v9,h5,hm⟩:=hm
 replace hm:=Ch hm;obtain⟨l3,rfl,hm⟩:=hm
 replace hm:=Ad hm;obtain⟨v10,l375_0,rfl,hm⟩:=hm
 replace hm:=Ad hm;obtain⟨v11,l375_1,rfl,hm⟩:=hm
 replace hm:=AC hm;obtain⟨rfl,hm⟩:=hm
 replace hm:=Al hm;obtain⟨s5,rfl,hm⟩:=hm
 replace hm:=Ai hm;obtain⟨x3,rfl,hm⟩:=hm
 refine .reg (eC 2 ((oo (pu 20 [(.agg ⟨[zI z0,zI z1,zI z2,Sl.v 1 s1]⟩),(Sl.v 1 (Sl.mk n0 0 (Aq (n0*1) (Am 0 q0))))]) none fun v=>some (v,(hT 2 [(oC [zI z0,zI z1,zI z2,Sl.v 1 s1])])))) (AB h5) (eE)) ?_
 refine .ghs (fr 201 [(7,pt 1 0),(8,Sl.v 1 s0),(12,zI x0),(14,zI x1),(16,zI x2),(20,(Sl.v 1 (Sl.mk n0 0 (Aq (n0*1) (Am 0 q0))))),(23,Sl.v 1 s2),(24,Sl.v 1 s3),(25,Sl.v 1 s4),(26,Sl.v 1 s5),(27,zI x3)]) (hT 2 [(oC [zI z0,zI z1,zI z2,Sl.v 1 s1])]) (.k0 [false] [.tmp 7 false] [7,8,12,14,16,20,23,24,25,26,27]) ?_
 refine .then ?_
 replace hm:=Ab hm;obtain⟨v12,h6,hm⟩:=hm
 replace hm:=Ch hm;obtain⟨l4,rfl,hm⟩:=hm
 replace hm:=Ad hm;obtain⟨v13,l395_0,rfl,hm⟩:=hm
 replace hm:=Ad hm;obtain⟨v14,l395_1,rfl,hm⟩:=hm
 replace hm:=AC hm;obtain⟨rfl,hm⟩:=hm
 replace hm:=Al hm;obtain⟨s6,rfl,hm⟩:=hm
 replace hm:=Ai hm;obtain⟨x4,rfl,hm⟩:=hm
 refine .reg (eC 2 ((oo (pu 14 [(.agg ⟨[zI z0,zI z1,zI z2,Sl.v 1 s1]⟩),Sl.v 1 s0]) none fun v=>some (v,(hT 2 [(oC [zI z0,zI z1,zI z2,Sl.v 1 s1])])))) (AB h6) (eE)) ?_
 refine .ghs (fr 201 [(7,pt 1 0),(12,zI x0),(14,zI x1),(16,zI x2),(20,(Sl.v 1 (Sl.mk n0 0 (Aq (n0*1) (Am 0 q0))))),(23,Sl.v 1 s2),(24,Sl.v 1 s3),(25,Sl.v 1 s4),(26,Sl.v 1 s5),(27,zI x3),(28,Sl.v 1 s6),(29,zI x4)]) (hT 2 [(oC [zI z0,zI z1,zI z2,Sl.v 1 s1])]) (.k0 [false] [.tmp 7 false] [7,12,14,16,20,23,24,25,26,27,28,29]) ?_
 refine .then ?_
 replace hm:=Ab hm;obtain⟨v15,h7,hm⟩:=hm
 replace hm:=Ch hm;obtain⟨l5,rfl,hm⟩:=hm
 replace hm:=Ad hm;obtain⟨v16,l415_0,rfl,hm⟩:=hm
 replace hm:=Ad hm;obtain⟨v17,l415_1,rfl,hm⟩:=hm
 replace hm:=AC hm;obtain⟨rfl,hm⟩:=hm
 replace hm:=Al hm;obtain⟨s7,rfl,hm⟩:=hm
 replace hm:=Ai hm;obtain⟨x5,rfl,hm⟩:=hm
 refine .reg (eC 2 ((oo (pu 14 [(.agg ⟨[zI z0,zI z1,zI z2,Sl.v 1 s1]⟩),(Sl.v 1 (Sl.mk n0 0 (Aq (n0*1) (Am 0 q0))))]) none fun v=>some (v,(hT 2 [(oC [zI z0,zI z1,zI z2,Sl.v 1 s1])])))) (AB h7) (eE)) ?_
 refine .ghs (fr 201 [(12,zI x0),(14,zI x1),(16,zI x2),(23,Sl.v 1 s2),(24,Sl.v 1 s3),(25,Sl.v 1 s4),(26,Sl.v 1 s5),(27,zI x3),(28,Sl.v 1 s6),(29,zI x4),(30,Sl.v 1 s7),(31,zI x5)]) Ay (.k0 [false] [] [12,14,16,23,24,25,26,27,28,29,30,31]) ?_
 refine .join (v:=v) (fun y:Bool=>((fr 201 [(6,zB y)]),Ay)) (fun y=>MH pu n y) ?_ ?_
 ·rintro b0 hm
  exact AiF pu n b0 hm
 ·replace hm:=Ag hm;rcases hm with⟨h8,hm⟩ | ⟨h8,hm⟩
  ·replace hm:=Ag hm;rcases hm with⟨h9,hm⟩ | ⟨h9,hm⟩
   ·replace hm:=Ag hm;rcases hm with⟨h10,hm⟩ | ⟨h10,hm⟩
    ·replace hm:=Ag hm;rcases hm with⟨h11,hm⟩ | ⟨h11,hm⟩
     ·replace hm:=Ag hm;rcases hm with⟨h12,hm⟩ | ⟨h12,hm⟩
      ·replace hm:=Ag hm;rcases hm with⟨h13,hm⟩ | ⟨h13,hm⟩
       ·replace hm:=dV hm;obtain⟨b1,h14,hm⟩:=hm
        replace hm:=Ag hm;rcases hm with⟨h15,hm⟩ | ⟨h15,hm⟩
        ·replace hm:=dV hm;obtain⟨b2,h16,hm⟩:=hm
         replace hm:=Ag hm;rcases hm with⟨h17,hm⟩ | ⟨h17,hm⟩
         ·replace hm:=Ag hm;rcases hm with⟨h18,hm⟩ | ⟨h18,hm⟩
          ·replace hm:=dV hm;obtain⟨b3,h19,hm⟩:=hm
           refine .reg (eN 9 (Fr.puts (fr 201 [(12,zI x0),(14,zI x1),(16,zI x2),(23,Sl.v 1 s2),(24,Sl.v 1 s3),(25,Sl.v 1 s4),(26,Sl.v 1 s5),(27,zI x3),(28,Sl.v 1 s6),(29,zI x4),(30,Sl.v 1 s7),(31,zI x5)]) [(159,zI x0),(160,zB true),(161,zB true),(162,zI x1),(163,zB true),(164,zB true),(165,zB true),(166,zI x2),(167,zB true)]) Ay (eC 1 (some ((zB (Bd x0 (0:Int))),Ay)) (show _=some ((zB true),_) from (by rw[show (Bd x0 (0:Int))=true from h8])) (eC 2 (some ((zB (Bd x1 (0:Int))),Ay)) (show _=some ((zB true),_) from (by rw[show (Bd x1 (0:Int))=true from h9])) (eC 3 (some ((zB (Bd x2 (0:Int))),Ay)) (show _=some ((zB true),_) from (by rw[show (Bd x2 (0:Int))=true from h10])) (by kernel_rfl)))) (eN 12 (Fr.puts (fr 201 [(12,zI x0),(14,zI x1),(16,zI x2),(23,Sl.v 1 s2),(24,Sl.v 1 s3),(25,Sl.v 1 s4),(26,Sl.v 1 s5),(27,zI x3),(28,Sl.v 1 s6),(29,zI x4),(30,Sl.v 1 s7),(31,zI x5)]) [(159,zI x0),(160,zB true),(161,zB true),(162,zI x1),(163,zB true),(164,zB true),(165,zB true),(166,zI x2),(167,zB true),(168,zB true),(169,zB true),(170,zI x3),(171,zB true),(172,zB true),(173,zB true),(174,zI x4),(175,zB true),(176,zB true),(177,zB true),(178,zI x5),(179,zB true)]) Ay (eC 3 (some ((zB (Bd x3 (0:Int))),Ay)) (show _=some ((zB true),_) from (by rw[show (Bd x3 (0:Int))=true from h11])) (eC 3 (some ((zB (Bd x4 (0:Int))),Ay)) (show _=some ((zB true),_) from (by rw[show (Bd x4 (0:Int))=true from h12])) (eC 3 (some ((zB (Bd x5 (0:Int))),Ay)) (show _=some ((zB true),_) from (by rw[show (Bd x5 (0:Int))=true from h13])) (by kernel_rfl)))) (eC 4 ((oo (pu 12 [Sl.v 1 s2,Sl.v 1 s3]) none fun v=>some (v,Ay))) (show _=some ((zB true),_) from (by have hz:(oo (pu 12 [Sl.v 1 s2,Sl.v 1 s3]) none fun v=>some (v,Ay))=some ((zB b1),Ay):=(AB h14);rw[h15] at hz;exact hz)) (eC 4 ((oo (pu 12 [Sl.v 1 s4,Sl.v 1 s5]) none fun v=>some (v,Ay))) (show _=some ((zB true),_) from (by have hz:(oo (pu 12 [Sl.v 1 s4,Sl.v 1 s5]) none fun v=>some (v,Ay))=some ((zB b2),Ay):=(AB h16);rw[h17] at hz;exact hz)) (eC 6 (some ((zB (Bd (Int.ofNat (Sl.n s6)) (Int.ofNat (Sl.n s7)))),Ay)) (show _=some ((zB true),_) from (by rw[show (Bd (Int.ofNat (Sl.n s6)) (Int.ofNat (Sl.n s7)))=true from h18])) (eC 2 ((oo (pu 19 []) none fun v=>some (v,Ay))) (AB h19) (eE))))))) ?_
           exact⟨b3,hm,(.k0 [false] [] [6])⟩
          ·refine .reg (eN 9 (Fr.puts (fr 201 [(12,zI x0),(14,zI x1),(16,zI x2),(23,Sl.v 1 s2),(24,Sl.v 1 s3),(25,Sl.v 1 s4),(26,Sl.v 1 s5),(27,zI x3),(28,Sl.v 1 s6),(29,zI x4),(30,Sl.v 1 s7),(31,zI x5)]) [(159,zI x0),(160,zB true),(161,zB true),(162,zI x1),(163,zB true),(164,zB true),(165,zB true),(166,zI x2),(167,zB true)]) Ay (eC 1 (some ((zB (Bd x0 (0:Int))),Ay)) (show _=some ((zB true),_) from (by rw[show (Bd x0 (0:Int))=true from h8])) (eC 2 (some ((zB (Bd x1 (0:Int))),Ay)) (show _=some ((zB true),_) from (by rw[show (Bd x1 (0:Int))=true from h9])) (eC 3 (some ((zB (Bd x2 (0:Int))),Ay)) (show _=some ((zB true),_) from (by rw[show (Bd x2 (0:Int))=true from h10])) (by kernel_rfl)))) (eN 12 (Fr.puts (fr 201 [(12,zI x0),(14,zI x1),(16,zI x2),(23,Sl.v 1 s2),(24,Sl.v 1 s3),(25,Sl.v 1 s4),(26,Sl.v 1 s5),(27,zI x3),(28,Sl.v 1 s6),(29,zI x4),(30,Sl.v 1 s7),(31,zI x5)]) [(159,zI x0),(160,zB true),(161,zB true),(162,zI x1),(163,zB true),(164,zB true),(165,zB true),(166,zI x2),(167,zB true),(168,zB true),(169,zB true),(170,zI x3),(171,zB true),(172,zB true),(173,zB true),(174,zI x4),(175,zB true),(176,zB true),(177,zB true),(178,zI x5),(179,zB true)]) Ay (eC 3 (some ((zB (Bd x3 (0:Int))),Ay)) (show _=some ((zB true),_) from (by rw[show (Bd x3 (0:Int))=true from h11])) (eC 3 (some ((zB (Bd x4 (0:Int))),Ay)) (show _=some ((zB true),_) from (by rw[show (Bd x4 (0:Int))=true from h12])) (eC 3 (some ((zB (Bd x5 (0:Int))),Ay)) (show _=some ((zB true),_) from (by rw[show (Bd x5 (0:Int))=true from h13])) (by kernel_rfl)))) (eC 4 ((oo (pu 12 [Sl.v 1 s2,Sl.v 1 s3]) none fun v=>some (v,Ay))) (show _=some ((zB true),_) from (by have hz:(oo (pu 12 [Sl.v 1 s2,Sl.v 1 s3]) none fun v=>some (v,Ay))=some ((zB b1),Ay):=(AB h14);rw[h15] at hz;exact hz)) (eC 4 ((oo (pu 12 [Sl.v 1 s4,Sl.v 1 s5]) none fun v=>some (v,Ay))) (show _=some ((zB true),_) from (by have hz:(oo (pu 12 [Sl.v 1 s4,Sl.v 1 s5]) none fun v=>some (v,Ay))=some ((zB b2),Ay):=(AB h16);rw[h17] at hz;exact hz)) (eC 6 (some ((zB (Bd (Int.ofNat (Sl.n s6)) (Int.ofNat (Sl.n s7)))),Ay)) (show _=some ((zB false),_) from (by rw[show (Bd (Int.ofNat (Sl.n s6)) (Int.ofNat (Sl.n s7)))=false from h18])) (eE)))))) ?_
           exact⟨false,hm,(.k0 [false] [] [6])⟩
         ·refine .reg (eN 9 (Fr.puts (fr 201 [(12,zI x0),(14,zI x1),(16,zI x2),(23,Sl.v 1 s2),(24,Sl.v 1 s3),(25,Sl.v 1 s4),(26,Sl.v 1 s5),(27,zI x3),(28,Sl.v 1 s6),(29,zI x4),(30,Sl.v 1 s7),(31,zI x5)]) [(159,zI x0),(160,zB true),(161,zB true),(162,zI x1),(163,zB true),(164,zB true),(165,zB true),(166,zI x2),(167,zB true)]) Ay (eC 1 (some ((zB (Bd x0 (0:Int))),Ay)) (show _=some ((zB true),_) from (by rw[show (Bd x0 (0:Int))=true from h8])) (eC 2 (some ((zB (Bd x1 (0:Int))),Ay)) (show _=some ((zB true),_) from (by rw[show (Bd x1 (0:Int))=true from h9])) (eC 3 (some ((zB (Bd x2 (0:Int))),Ay)) (show _=some ((zB true),_) from (by rw[show (Bd x2 (0:Int))=true from h10])) (by kernel_rfl)))) (eC 3 (some ((zB (Bd x3 (0:Int))),Ay)) (show _=some ((zB true),_) from (by rw[show (Bd x3 (0:Int))=true from h11])) (eC 3 (some ((zB (Bd x4 (0:Int))),Ay)) (show _=some ((zB true),_) from (by rw[show (Bd x4 (0:Int))=true from h12])) (eC 3 (some ((zB (Bd x5 (0:Int))),Ay)) (show _=some ((zB true),_) from (by rw[show (Bd x5 (0:Int))=true from h13])) (eC 4 ((oo (pu 12 [Sl.v 1 s2,Sl.v 1 s3]) none fun v=>some (v,Ay))) (show _=some ((zB true),_) from (by have hz:(oo (pu 12 [Sl.v 1 s2,Sl.v 1 s3]) none fun v=>some (v,Ay))=some ((zB b1),Ay):=(AB h14);rw[h15] at hz;exact hz)) (eC 4 ((oo (pu 12 [Sl.v 1 s4,Sl.v 1 s5]) none fun v=>some (v,Ay))) (show _=some ((zB false),_) from (by have hz:(oo (pu 12 [Sl.v 1 s4,Sl.v 1 s5]) none fun v=>some (v,Ay))=some ((zB b2),Ay):=(AB h16);rw[h17] at hz;exact hz)) (eE))))))) ?_
          exact⟨false,hm,(.k0 [false] [] [6])⟩
        ·refine .reg (eN 9 (Fr.puts (fr 201 [(12,zI x0),(14,zI x1),(16,zI x2),(23,Sl.v 1 s2),(24,Sl.v 1 s3),(25,Sl.v 1 s4),(26,Sl.v 1 s5),(27,zI x3),(28,Sl.v 1 s6),(29,zI x4),(30,Sl.v 1 s7),(31,zI x5)]) [(159,zI x0),(160,zB true),(161,zB true),(162,zI x1),(163,zB true),(164,zB true),(165,zB true),(166,zI x2),(167,zB true)]) Ay (eC 1 (some ((zB (Bd x0 (0:Int))),Ay)) (show _=some ((zB true),_) from (by rw[show (Bd x0 (0:Int))=true from h8])) (eC 2 (some ((zB (Bd x1 (0:Int))),Ay)) (show _=some ((zB true),_) from (by rw[show (Bd x1 (0:Int))=true from h9])) (eC 3 (some ((zB (Bd x2 (0:Int))),Ay)) (show _=some ((zB true),_) from (by rw[show (Bd x2 (0:Int))=true from h10])) (by kernel_rfl)))) (eC 3 (some ((zB (Bd x3 (0:Int))),Ay)) (show _=some ((zB true),_) from (by rw[show (Bd x3 (0:Int))=true from h11])) (eC 3 (some ((zB (Bd x4 (0:Int))),Ay)) (show _=some ((zB true),_) from (by rw[show (Bd x4 (0:Int))=true from h12])) (eC 3 (some ((zB (Bd x5 (0:Int))),Ay)) (show _=some ((zB true),_) from (by rw[show (Bd x5 (0:Int))=true from h13])) (eC 4 ((oo (pu 12 [Sl.v 1 s2,Sl.v 1 s3]) none fun v=>some (v,Ay))) (show _=some ((zB false),_) from (by have hz:(oo (pu 12 [Sl.v 1 s2,Sl.v 1 s3]) none fun v=>some (v,Ay))=some ((zB b1),Ay):=(AB h14);rw[h15] at hz;exact hz)) (eE)))))) ?_
         exact⟨false,hm,(.k0 [false] [] [6])⟩
       ·refine .reg (eN 9 (Fr.puts (fr 201 [(12,zI x0),(14,zI x1),(16,zI x2),(23,Sl.v 1 s2),(24,Sl.v 1 s3),(25,Sl.v 1 s4),(26,Sl.v 1 s5),(27,zI x3),(28,Sl.v 1 s6),(29,zI x4),(30,Sl.v 1 s7),(31,zI x5)]) [(159,zI x0),(160,zB true),(161,zB true),(162,zI x1),(163,zB true),(164,zB true),(165,zB true),(166,zI x2),(167,zB true)]) Ay (eC 1 (some ((zB (Bd x0 (0:Int))),Ay)) (show _=some ((zB true),_) from (by rw[show (Bd x0 (0:Int))=true from h8])) (eC 2 (some ((zB (Bd x1 (0:Int))),Ay)) (show _=some ((zB true),_) from (by rw[show (Bd x1 (0:Int))=true from h9])) (eC 3 (some ((zB (Bd x2 (0:Int))),Ay)) (show _=some ((zB true),_) from (by rw[show (Bd x2 (0:Int))=true from h10])) (by kernel_rfl)))) (eC 3 (some ((zB (Bd x3 (0:Int))),Ay)) (show _=some ((zB true),_) from (by rw[show (Bd x3 (0:Int))=true from h11])) (eC 3 (some ((zB (Bd x4 (0:Int))),Ay)) (show _=some ((zB true),_) from (by rw[show (Bd x4 (0:Int))=true from h12])) (eC 3 (some ((zB (Bd x5 (0:Int))),Ay)) (show _=some ((zB false),_) from (by rw[show (Bd x5 (0:Int))=false from h13])) (eE))))) ?_
        exact⟨false,hm,(.k0 [false] [] [6])⟩
      ·refine .reg (eC 1 (some ((zB (Bd x0 (0:Int))),Ay)) (show _=some ((zB true),_) from (by rw[show (Bd x0 (0:Int))=true from h8])) (eC 2 (some ((zB (Bd x1 (0:Int))),Ay)) (show _=some ((zB true),_) from (by rw[show (Bd x1 (0:Int))=true from h9])) (eC 3 (some ((zB (Bd x2 (0:Int))),Ay)) (show _=some ((zB true),_) from (by rw[show (Bd x2 (0:Int))=true from h10])) (eC 3 (some ((zB (Bd x3 (0:Int))),Ay)) (show _=some ((zB true),_) from (by rw[show (Bd x3 (0:Int))=true from h11])) (eC 3 (some ((zB (Bd x4 (0:Int))),Ay)) (show _=some ((zB false),_) from (by rw[show (Bd x4 (0:Int))=false from h12])) (eE)))))) ?_
       exact⟨false,hm,(.k0 [false] [] [6])⟩
     ·refine .reg (eC 1 (some ((zB (Bd x0 (0:Int))),Ay)) (show _=some ((zB true),_) from (by rw[show (Bd x0 (0:Int))=true from h8])) (eC 2 (some ((zB (Bd x1 (0:Int))),Ay)) (show _=some ((zB true),_) from (by rw[show (Bd x1 (0:Int))=true from h9])) (eC 3 (some ((zB (Bd x2 (0:Int))),Ay)) (show _=some ((zB true),_) from (by rw[show (Bd x2 (0:Int))=true from h10])) (eC 3 (some ((zB (Bd x3 (0:Int))),Ay)) (show _=some ((zB false),_) from (by rw[show (Bd x3 (0:Int))=false from h11])) (eE))))) ?_
      exact⟨false,hm,(.k0 [false] [] [6])⟩
    ·refine .reg (eC 1 (some ((zB (Bd x0 (0:Int))),Ay)) (show _=some ((zB true),_) from (by rw[show (Bd x0 (0:Int))=true from h8])) (eC 2 (some ((zB (Bd x1 (0:Int))),Ay)) (show _=some ((zB true),_) from (by rw[show (Bd x1 (0:Int))=true from h9])) (eC 3 (some ((zB (Bd x2 (0:Int))),Ay)) (show _=some ((zB false),_) from (by rw[show (Bd x2 (0:Int))=false from h10])) (eE)))) ?_
     exact⟨false,hm,(.k0 [false] [] [6])⟩
   ·refine .reg (eC 1 (some ((zB (Bd x0 (0:Int))),Ay)) (show _=some ((zB true),_) from (by rw[show (Bd x0 (0:Int))=true from h8])) (eC 2 (some ((zB (Bd x1 (0:Int))),Ay)) (show _=some ((zB false),_) from (by rw[show (Bd x1 (0:Int))=false from h9])) (eE))) ?_
    exact⟨false,hm,(.k0 [false] [] [6])⟩
  ·refine .reg (eC 1 (some ((zB (Bd x0 (0:Int))),Ay)) (show _=some ((zB false),_) from (by rw[show (Bd x0 (0:Int))=false from h8])) (eE)) ?_
   exact⟨false,hm,(.k0 [false] [] [6])⟩
theorem AiH (pu:Af) (n:Nat) (z0 z1:Int) (s0:Sl) (z2 z3 z4 z5 z6:Int) (s1:Sl) {v:Value} (hm:YB pu n z0 z1 s0 z2 z3 z4 z5 z6 s1=some v):BN tt (Bb tabs isP pu (inl pu)) 1 mD (fr 201 [(1,(zY z0)),(2,(zY z1)),(7,pt 1 0),(8,Sl.v 1 s0),(15,zI z2),(17,zI z3)]) (hT 2 [(oC [zI z4,zI z5,zI z6,Sl.v 1 s1])]) (Fin tt 1 [.tmp 6] v):=by
 unfold YB at hm
 refine .then (.then (.rK (.ghs (fr 201 [(1,(zY z0)),(2,(zY z1)),(7,pt 1 0),(8,Sl.v 1 s0),(92,(zB (nt (Bd z2 z3))))]) (hT 2 [(oC [zI z4,zI z5,zI z6,Sl.v 1 s1])]) (.k0 [false] [.tmp 7 false] [1,2,7,8,92]) ?_)))
 replace hm:=Ag hm;rcases hm with⟨h0,hm⟩ | ⟨h0,hm⟩
 ·refine BB (nt (Bd z2 z3)) h0 ?_
  refine .then (.rK (.ghs (fr 201 [(6,zB false)]) Ay (.k0 [false] [] [6]) ?_))
  refine .ret ?_
  exact AO (zB false) hm
 ·refine BI (nt (Bd z2 z3)) h0 ?_
  refine .skip (.ghs (fr 201 [(1,(zY z0)),(2,(zY z1)),(7,pt 1 0),(8,Sl.v 1 s0)]) (hT 2 [(oC [zI z4,zI z5,zI z6,Sl.v 1 s1])]) (.k0 [false] [.tmp 7 false] [1,2,7,8]) ?_)
  refine .then ?_
  replace hm:=Ae hm;obtain⟨h1,hm⟩:=hm
  replace hm:=Ae hm;obtain⟨h2,hm⟩:=hm
  refine .reg (eC 4 (keep (hT 2 [(oC [zI z4,zI z5,zI z6,Sl.v 1 s1])]) (bb (Bd z6 (0:Int)) none (some (zI (Int.tmod (Aj .i64 z0) z6))))) (XH h1) (eC 4 (keep (hT 2 [(oC [zI z4,zI z5,zI z6,Sl.v 1 s1])]) (bb (Bd z6 (0:Int)) none (some (zI (Int.tmod (Aj .i64 z1) z6))))) (XH h2) (eE))) ?_
  refine .ghs (fr 201 [(7,pt 1 0),(8,Sl.v 1 s0),(18,(zI (Int.tmod (Aj .i64 z0) z6))),(19,(zI (Int.tmod (Aj .i64 z1) z6)))]) (hT 2 [(oC [zI z4,zI z5,zI z6,Sl.v 1 s1])]) (.k0 [false] [.tmp 7 false] [7,8,18,19]) ?_
  refine .then (.rK (.ghs (fr 201 [(7,pt 1 0),(8,Sl.v 1 s0),(18,(zI (Int.tmod (Aj .i64 z0) z6))),(19,(zI (Int.tmod (Aj .i64 z1) z6))),(20,(.slice none 0 0))]) (hT 2 [(oC [zI z4,zI z5,zI z6,Sl.v 1 s1])]) (.k0 [false] [.tmp 7 false] [7,8,18,19,20]) ?_))
  refine .join (v:=v) (fun y:Sl×Nat×Nat×Int×Int×Int×Sl×LV=>((fr 201 [(7,pt 1 0),(8,(Sl.v 1 y.1)),(20,(sc 2 0 1 y.2.1 y.2.2.1))]),(hT 3 [(oC [(zI y.2.2.2.1),(zI y.2.2.2.2.1),(zI y.2.2.2.2.2.1),(Sl.v 1 y.2.2.2.2.2.2.1)]),(oC y.2.2.2.2.2.2.2)]))) (fun y=>WH pu n y.1 y.2.1 y.2.2.1 y.2.2.2.1 y.2.2.2.2.1 y.2.2.2.2.2.1 y.2.2.2.2.2.2.1 y.2.2.2.2.2.2.2) ?_ ?_
  ·rintro⟨s2,n0,c0,z7,z8,z9,s3,q0⟩ hm
   exact AiG pu n s2 n0 c0 z7 z8 z9 s3 q0 hm
  ·refine .then (.rK (.ghs (fr 201 [(7,pt 1 0),(8,Sl.v 1 s0),(18,(zI (Int.tmod (Aj .i64 z0) z6))),(19,(zI (Int.tmod (Aj .i64 z1) z6))),(20,(.slice none 0 0)),(103,Sl.v 1 s0),(104,(zI (Int.ofNat (Sl.n s0)))),(105,(zI (0:Int)))]) (hT 2 [(oC [zI z4,zI z5,zI z6,Sl.v 1 s1])]) (.k0 [false] [.tmp 7 false] [7,8,18,19,20,103,104,105]) ?_))
   refine .block (.loopM (v:=v) (fun y:Sl×Int×Int×Nat×Nat×Sl×Int×Int×Int×Int×Int×Sl×LV=>((fr 201 [(7,pt 1 0),(8,(Sl.v 1 y.1)),(18,(zI y.2.1)),(19,(zI y.2.2.1)),(20,(sc 2 0 1 y.2.2.2.1 y.2.2.2.2.1)),(103,(Sl.v 1 y.2.2.2.2.2.1)),(104,(zI y.2.2.2.2.2.2.1)),(105,(zI y.2.2.2.2.2.2.2.1))]),(hT 3 [(oC [(zI y.2.2.2.2.2.2.2.2.1),(zI y.2.2.2.2.2.2.2.2.2.1),(zI y.2.2.2.2.2.2.2.2.2.2.1),(Sl.v 1 y.2.2.2.2.2.2.2.2.2.2.2.1)]),(oC y.2.2.2.2.2.2.2.2.2.2.2.2)]))) (fun w y=>Ui pu n w y.1 y.2.1 y.2.2.1 y.2.2.2.1 y.2.2.2.2.1 y.2.2.2.2.2.1 y.2.2.2.2.2.2.1 y.2.2.2.2.2.2.2.1 y.2.2.2.2.2.2.2.2.1 y.2.2.2.2.2.2.2.2.2.1 y.2.2.2.2.2.2.2.2.2.2.1 y.2.2.2.2.2.2.2.2.2.2.2.1 y.2.2.2.2.2.2.2.2.2.2.2.2) n ⟨(s0,(Int.tmod (Aj .i64 z0) z6),(Int.tmod (Aj .i64 z1) z6),0,0,s0,(Int.ofNat (Sl.n s0)),(0:Int),z4,z5,z6,s1,([]:LV)),hm,(.thaw 20 1 (by kernel_rfl) (.k0 [false] [.tmp 7 false,.tmp 20 false] [7,8,18,19,20,103,104,105]))⟩ (fun _=>rfl) ?_)
   rintro w0 ⟨s4,z10,z11,n1,c1,s5,z12,z13,z14,z15,z16,s6,q1⟩ hm
   replace hm:WJ pu n (Ui pu n w0) s4 z10 z11 n1 c1 s5 z12 z13 z14 z15 z16 s6 q1=some v:=hm
   unfold WJ at hm
   refine .then (.rK ?_)
   replace hm:=Ae hm;obtain⟨h3,hm⟩:=hm
   refine .ghs (fr 201 [(7,pt 1 0),(8,Sl.v 1 s4),(18,zI z10),(19,zI z11),(20,sc 2 0 1 n1 c1),(103,Sl.v 1 s5),(104,zI z12),(105,zI z13),(106,(zB (AY z13 z12)))]) (hT 3 [(oC [zI z14,zI z15,zI z16,Sl.v 1 s6]),oC q1]) (.k [2] [false] [.tmp 7 false,.tmp 20 false] [7,8,18,19,20,103,104,105,106] ⟨Bq h3,trivial⟩) ?_
   refine .then ?_
   replace hm:=Ag hm;rcases hm with⟨h4,hm⟩ | ⟨h4,hm⟩
   ·refine BB (AY z13 z12) h4 ?_
    refine .skip (.ghs (fr 201 [(7,pt 1 0),(8,Sl.v 1 s4),(18,zI z10),(19,zI z11),(20,sc 2 0 1 n1 c1),(103,Sl.v 1 s5),(104,zI z12),(105,zI z13)]) (hT 3 [(oC [zI z14,zI z15,zI z16,Sl.v 1 s6]),oC q1]) (.k [2] [false] [.tmp 7 false,.tmp 20 false] [7,8,18,19,20,103,104,105] ⟨Bq h3,trivial⟩) ?_)
    refine .then (.block (.then ?_))
    replace hm:=Ab hm;obtain⟨k1,h5,hm⟩:=hm
    obtain rfl:=AR h5
    replace hm:=Ae hm;obtain⟨h6,hm⟩:=hm
    replace hm:=G9 hm;obtain⟨x0,h7,hm⟩:=hm
    refine .reg (eD (keep (hT 3 [(oC [zI z14,zI z15,zI z16,Sl.v 1 s6]),oC q1]) (bb (an (Nat.blt k1 (Sl.n s5)) true) (some (Cv (k1*1) (Sl.cs s5))) none)) (AX h6) (eD (keep (hT 3 [(oC [zI z14,zI z15,zI z16,Sl.v 1 s6]),oC q1]) (AL (Sl.cs s5) (k1*1))) (AZ h7) (eE))) ?_
    refine .ghs (fr 201 [(7,pt 1 0),(8,Sl.v 1 s4),(18,zI z10),(19,zI z11),(20,sc 2 0 1 n1 c1),(22,zI x0),(103,Sl.v 1 s5),(104,zI z12),(105,(zI (Int.ofNat k1)))]) (hT 3 [(oC [zI z14,zI z15,zI z16,Sl.v 1 s6]),oC q1]) (.k [2] [false] [.tmp 7 false,.tmp 20 false] [7,8,18,19,20,22,103,104,105] ⟨Bq h3,trivial⟩) ?_
    refine .join (v:=v) (fun y:Sl×Int×Int×Nat×Nat×Int×Sl×Int×Int×Int×Int×Int×Sl×LV=>((fr 201 [(7,pt 1 0),(8,(Sl.v 1 y.1)),(18,(zI y.2.1)),(19,(zI y.2.2.1)),(20,(sc 2 0 1 y.2.2.2.1 y.2.2.2.2.1)),(22,(zI y.2.2.2.2.2.1)),(103,(Sl.v 1 y.2.2.2.2.2.2.1)),(104,(zI y.2.2.2.2.2.2.2.1)),(105,(zI y.2.2.2.2.2.2.2.2.1))]),(hT 3 [(oC [(zI y.2.2.2.2.2.2.2.2.2.1),(zI y.2.2.2.2.2.2.2.2.2.2.1),(zI y.2.2.2.2.2.2.2.2.2.2.2.1),(Sl.v 1 y.2.2.2.2.2.2.2.2.2.2.2.2.1)]),(oC y.2.2.2.2.2.2.2.2.2.2.2.2.2)]))) (fun y=>WI pu n (Ui pu n w0) y.1 y.2.1 y.2.2.1 y.2.2.2.1 y.2.2.2.2.1 y.2.2.2.2.2.1 y.2.2.2.2.2.2.1 y.2.2.2.2.2.2.2.1 y.2.2.2.2.2.2.2.2.1 y.2.2.2.2.2.2.2.2.2.1 y.2.2.2.2.2.2.2.2.2.2.1 y.2.2.2.2.2.2.2.2.2.2.2.1 y.2.2.2.2.2.2.2.2.2.2.2.2.1 y.2.2.2.2.2.2.2.2.2.2.2.2.2) ?_ ?_
    ·rintro⟨s7,z17,z18,n2,c2,z19,s8,z20,z21,z22,z23,z24,s9,q2⟩ hm
     unfold WI at hm
     replace hm:=Ae hm;obtain⟨h8,hm⟩:=hm
     refine .reg (eC 3 (Oc 1 8 n2 c2 1 2 q2 [zI z19] [] (hT 4 [(oC [zI z22,zI z23,zI z24,Sl.v 1 s9]),oC q2,(oC [zI z19])])) (I1 h8) (eE)) ?_
     replace hm:=Ae hm;obtain⟨h9,hm⟩:=hm
     refine .ghs (fr 201 [(7,pt 1 0),(8,Sl.v 1 s7),(18,zI z17),(19,zI z18),(20,(sc 2 0 1 (n2+1) (d2 (n2+1)))),(103,Sl.v 1 s8),(104,zI z20),(105,zI z21)]) (hT 3 [(oC [zI z22,zI z23,zI z24,Sl.v 1 s9]),(oC (Br (Am 0 q2) [zI z19]))]) (.k [4] [false] [.tmp 7 false,.tmp 20 false] [7,8,18,19,20,103,104,105] ⟨Bq h9,trivial⟩) ?_
     refine .rK ?_
     exact⟨(s7,z17,z18,(n2+1),(d2 (n2+1)),s8,z20,(Aj .i64 (Int.add z21 (1:Int))),z22,z23,z24,s9,(Br (Am 0 q2) [zI z19])),hm,(.k [2] [false] [.tmp 7 false,.tmp 20 false] [7,8,18,19,20,103,104,105] ⟨Bq h9,trivial⟩)⟩
    ·refine .then (.rK (.ghs (fr 201 [(7,pt 1 0),(8,Sl.v 1 s4),(18,zI z10),(19,zI z11),(20,sc 2 0 1 n1 c1),(22,zI x0),(103,Sl.v 1 s5),(104,zI z12),(105,(zI (Int.ofNat k1))),(109,zI x0)]) (hT 3 [(oC [zI z14,zI z15,zI z16,Sl.v 1 s6]),oC q1]) (.k [2] [false] [.tmp 7 false,.tmp 20 false] [7,8,18,19,20,22,103,104,105,109] ⟨Bq h3,trivial⟩) ?_))
     refine .block (.then (.rK (.ghs (fr 201 [(7,pt 1 0),(8,Sl.v 1 s4),(18,zI z10),(19,zI z11),(20,sc 2 0 1 n1 c1),(22,zI x0),(103,Sl.v 1 s5),(104,zI z12),(105,(zI (Int.ofNat k1))),(109,zI x0),(110,(zB (Bd x0 z10)))]) (hT 3 [(oC [zI z14,zI z15,zI z16,Sl.v 1 s6]),oC q1]) (.k [2] [false] [.tmp 7 false,.tmp 20 false] [7,8,18,19,20,22,103,104,105,109,110] ⟨Bq h3,trivial⟩) ?_)))
     replace hm:=Ag hm;rcases hm with⟨h10,hm⟩ | ⟨h10,hm⟩
     ·refine BB (Bd x0 z10) h10 ?_
      refine .rK ?_
      exact⟨(s4,z10,z11,n1,c1,z11,s5,z12,(Int.ofNat k1),z14,z15,z16,s6,q1),hm,(.k [2] [false] [.tmp 7 false,.tmp 20 false] [7,8,18,19,20,22,103,104,105] ⟨Bq h3,trivial⟩)⟩
     ·refine BI (Bd x0 z10) h10 ?_
      refine .then (.rK (.ghs (fr 201 [(7,pt 1 0),(8,Sl.v 1 s4),(18,zI z10),(19,zI z11),(20,sc 2 0 1 n1 c1),(22,zI x0),(103,Sl.v 1 s5),(104,zI z12),(105,(zI (Int.ofNat k1))),(114,(zB (Bd x0 z11)))]) (hT 3 [(oC [zI z14,zI z15,zI z16,Sl.v 1 s6]),oC q1]) (.k [2] [false] [.tmp 7 false,.tmp 20 false] [7,8,18,19,20,22,103,104,105,114] ⟨Bq h3,trivial⟩) ?_))
      replace hm:=Ag hm;rcases hm with⟨h11,hm⟩ | ⟨h11,hm⟩
      ·refine BB (Bd x0 z11) h11 ?_
       refine .rK ?_
       exact⟨(s4,z10,z11,n1,c1,z10,s5,z12,(Int.ofNat k1),z14,z15,z16,s6,q1),hm,(.k [2] [false] [.tmp 7 false,.tmp 20 false] [7,8,18,19,20,22,103,104,105] ⟨Bq h3,trivial⟩)⟩
      ·refine BI (Bd x0 z11) h11 ?_
       refine .skip ?_
       exact⟨(s4,z10,z11,n1,c1,x0,s5,z12,(Int.ofNat k1),z14,z15,z16,s6,q1),hm,(.k [2] [false] [.tmp 7 false,.tmp 20 false] [7,8,18,19,20,22,103,104,105] ⟨Bq h3,trivial⟩)⟩
   ·refine BI (AY z13 z12) h4 ?_
    refine .exit ?_
    exact⟨(s4,n1,c1,z14,z15,z16,s6,q1),hm,(.k [2] [false] [.tmp 7 false,.tmp 20 false] [7,8,20] ⟨Bq h3,trivial⟩)⟩
theorem r5 {call:A8} (pu:Af) (n:Nat) (hcall:call=Bb tabs isP pu (inl pu)) {args:LV} {v:Value} (hm:m5 pu n args=some v) (_:∀ x∈args,closed2 x=true):args.length≤201∧BN tt call 1 Xe (Fr.made 201 args) (Ao tabs) (Fin tt 1 [.tmp 6] v):=by
 subst hcall
 unfold m5 at hm
 replace hm:=Ad hm;obtain⟨a0,args_0,rfl,hm⟩:=hm
 replace hm:=Ad hm;obtain⟨a1,args_1,rfl,hm⟩:=hm
 replace hm:=Ad hm;obtain⟨a2,args_2,rfl,hm⟩:=hm
 replace hm:=AC hm;obtain⟨rfl,hm⟩:=hm
 replace hm:=BG hm;obtain⟨q1,rfl,hm⟩:=hm
 replace hm:=Ae hm;obtain⟨h3,hm⟩:=hm
 replace hm:=Ai hm;obtain⟨x4,rfl,hm⟩:=hm
 replace hm:=Ai hm;obtain⟨x6,rfl,hm⟩:=hm
 unfold m5_ at hm
 refine⟨by simp,?_⟩
 refine .same (F':=(fr 201 [(0,(.agg ⟨q1⟩)),(1,(zY x4)),(2,(zY x6))])) (H':=Ay) (by kernel_rfl) (by kernel_rfl) ?_
 refine .then (.rK ?_)
 replace hm:=Ae hm;obtain⟨h8,hm⟩:=hm
 refine .ghs (fr 201 [(1,(zY x4)),(2,(zY x6)),(3,pt 1 0)]) (hT 2 [oC q1]) (.k [1] [false] [.tmp 3 false] [1,2,3] ⟨Bq h8,trivial⟩) ?_
 refine .then ?_
 replace hm:=Ae hm;obtain⟨h33,hm⟩:=hm
 replace hm:=Ab hm;obtain⟨v34,h35,hm⟩:=hm
 replace hm:=Ch hm;obtain⟨l36,rfl,hm⟩:=hm
 replace hm:=Ad hm;obtain⟨v38,l36_0,rfl,hm⟩:=hm
 replace hm:=Ad hm;obtain⟨v39,Gt,rfl,hm⟩:=hm
 replace hm:=AC hm;obtain⟨rfl,hm⟩:=hm
 replace hm:=BG hm;obtain⟨l40,rfl,hm⟩:=hm
 replace hm:=Ad hm;obtain⟨v42,l40_0,rfl,hm⟩:=hm
 replace hm:=Ad hm;obtain⟨v43,l40_1,rfl,hm⟩:=hm
 replace hm:=Ad hm;obtain⟨v44,l40_2,rfl,hm⟩:=hm
 replace hm:=Ad hm;obtain⟨v45,l40_3,rfl,hm⟩:=hm
 replace hm:=AC hm;obtain⟨rfl,hm⟩:=hm
 replace hm:=Ai hm;obtain⟨x46,rfl,hm⟩:=hm
 replace hm:=Ai hm;obtain⟨x48,rfl,hm⟩:=hm
 replace hm:=Ai hm;obtain⟨x50,rfl,hm⟩:=hm
 replace hm:=Al hm;obtain⟨s52,rfl,hm⟩:=hm
 replace hm:=Al hm;obtain⟨s54,rfl,hm⟩:=hm
 replace hm:=Ae hm;obtain⟨h56,hm⟩:=hm
 refine .reg (eD (keep (hT 2 [oC q1]) (bb (Nat.ble (0+20) (len q1)) (some (.agg ⟨(Aq 20 (Am 0 q1))⟩)) none)) (AX h33) (eD (bb (Au closed2 [(.agg ⟨(Aq 20 (Am 0 q1))⟩),(zI (4:Int)),(zI (3:Int))]) (oo (pu 9 [(.agg ⟨(Aq 20 (Am 0 q1))⟩),(zI (4:Int)),(zI (3:Int))]) none fun v=>some (v,(hT 2 [oC q1]))) (oo (CG (RG (hT 2 [oC q1])) [(.agg ⟨(Aq 20 (Am 0 q1))⟩),(zI (4:Int)),(zI (3:Int))]) none fun l1=>oo (pu 9 l1) none fun v=>bb (RH v) (some (v,(hT 2 [oC q1]))) none)) (SL h56 h35) (eE))) ?_
 refine .ghs (fr 201 [(1,(zY x4)),(2,(zY x6)),(7,pt 1 0),(8,Sl.v 1 s54)]) (hT 2 [(oC [zI x46,zI x48,zI x50,Sl.v 1 s52])]) (.k0 [false] [.tmp 7 false] [1,2,7,8]) ?_
 refine .then (.rK (.ghs (fr 201 [(1,(zY x4)),(2,(zY x6)),(7,pt 1 0),(8,Sl.v 1 s54),(9,(pt 2 0))]) (hT 3 [(oC [zI x46,zI x48,zI x50,Sl.v 1 s52]),(oC [zI x46,zI x48,zI x50,Sl.v 1 s52])]) (.k0 [false] [.tmp 7 false,.tmp 9 false] [1,2,7,8,9]) ?_))
 refine .then (.rK (.ghs (fr 201 [(1,(zY x4)),(2,(zY x6)),(7,pt 1 0),(8,Sl.v 1 s54),(9,(pt 2 0))]) (hT 3 [(oC [zI x46,zI x48,zI x50,Sl.v 1 s52]),(oC [zI x46,zI x48,(zI (Aj .i64 (Int.add x50 (1:Int)))),Sl.v 1 s52])]) (.k0 [false] [.tmp 7 false,.tmp 9 false] [1,2,7,8,9]) ?_))
 refine .then (.rK (.ghs (fr 201 [(1,(zY x4)),(2,(zY x6)),(7,pt 1 0),(8,Sl.v 1 s54),(9,(pt 2 0)),(10,(pt 3 0))]) (hT 4 [(oC [zI x46,zI x48,zI x50,Sl.v 1 s52]),(oC [zI x46,zI x48,(zI (Aj .i64 (Int.add x50 (1:Int)))),Sl.v 1 s52]),(oC [zI x46,zI x48,zI x50,Sl.v 1 s52])]) (.k0 [false] [.tmp 7 false,.tmp 9 false,.tmp 10 false] [1,2,7,8,9,10]) ?_))
 refine .then ?_
 replace hm:=LK hm;obtain⟨s63,h62,hm⟩:=hm
 refine .reg (eC 1 (Hr tabs 1 (pu 22) [sc 4 0 1 1 3] (hT 5 [(oC [zI x46,zI x48,zI x50,Sl.v 1 s52]),(oC [zI x46,zI x48,(zI (Aj .i64 (Int.add x50 (1:Int)))),Sl.v 1 s52]),(oC [zI x46,zI x48,zI x50,Sl.v 1 s52]),(oC [(zI (0:Int))])])) (KI (DZ (show ER 1 (sc 4 0 1 1 3) (hT 5 [(oC [zI x46,zI x48,zI x50,Sl.v 1 s52]),(oC [zI x46,zI x48,(zI (Aj .i64 (Int.add x50 (1:Int)))),Sl.v 1 s52]),(oC [zI x46,zI x48,zI x50,Sl.v 1 s52]),(oC [(zI (0:Int))])])=some ((Sl.v 1 (Sl.mk 1 0 (Aq (1*1) (Am 0 ([(zI (0:Int))]:LV))))),(hT 5 [(oC [zI x46,zI x48,zI x50,Sl.v 1 s52]),(oC [zI x46,zI x48,(zI (Aj .i64 (Int.add x50 (1:Int)))),Sl.v 1 s52]),(oC [zI x46,zI x48,zI x50,Sl.v 1 s52]),.dead])) from KH 4 0 1 1 3 ([(zI (0:Int))]:LV) [] (by kernel_rfl) (by kernel_rfl) (by kernel_rfl)) Jt) (by kernel_rfl) h62) (eE)) ?_
 refine .ghs (fr 201 [(1,(zY x4)),(2,(zY x6)),(7,pt 1 0),(8,Sl.v 1 s54),(9,(pt 2 0)),(10,(pt 3 0))]) (hT 4 [(oC [zI x46,zI x48,zI x50,Sl.v 1 s52]),(oC [zI x46,zI x48,(zI (Aj .i64 (Int.add x50 (1:Int)))),Sl.v 1 s52]),(oC [zI x46,zI x48,zI x50,Sl.v 1 s63])]) (.k0 [false] [.tmp 7 false,.tmp 9 false,.tmp 10 false] [1,2,7,8,9,10]) ?_
 refine .then ?_
 replace hm:=Ab hm;obtain⟨v75,h76,hm⟩:=hm
 replace hm:=Ch hm;obtain⟨l77,rfl,hm⟩:=hm
 replace hm:=Ad hm;obtain⟨v79,l77_0,rfl,hm⟩:=hm
 replace hm:=Ad hm;obtain⟨v80,l77_1,rfl,hm⟩:=hm
 replace hm:=AC hm;obtain⟨rfl,hm⟩:=hm
 replace hm:=Ai hm;obtain⟨x81,rfl,hm⟩:=hm
 replace hm:=Ai hm;obtain⟨x83,rfl,hm⟩:=hm
 refine .reg (eC 1 ((oo (pu 23 [(.agg ⟨[zI x46,zI x48,zI x50,Sl.v 1 s52]⟩)]) none fun v=>some (v,(hT 4 [(oC [zI x46,zI x48,zI x50,Sl.v 1 s52]),(oC [zI x46,zI x48,(zI (Aj .i64 (Int.add x50 (1:Int)))),Sl.v 1 s52]),(oC [zI x46,zI x48,zI x50,Sl.v 1 s63])])))) (AB h76) (eE)) ?_
 refine .ghs (fr 201 [(1,(zY x4)),(2,(zY x6)),(7,pt 1 0),(8,Sl.v 1 s54),(9,(pt 2 0)),(10,(pt 3 0)),(11,zI x81),(12,zI x83)]) (hT 4 [(oC [zI x46,zI x48,zI x50,Sl.v 1 s52]),(oC [zI x46,zI x48,(zI (Aj .i64 (Int.add x50 (1:Int)))),Sl.v 1 s52]),(oC [zI x46,zI x48,zI x50,Sl.v 1 s63])]) (.k0 [false] [.tmp 7 false,.tmp 9 false,.tmp 10 false] [1,2,7,8,9,10,11,12]) ?_
 refine .then ?_
 replace hm:=Ab hm;obtain⟨v95,h96,hm⟩:=hm
 replace hm:=Ch hm;obtain⟨l97,rfl,hm⟩:=hm
 replace hm:=Ad hm;obtain⟨v99,l97_0,rfl,hm⟩:=hm
 replace hm:=Ad hm;obtain⟨v0,l97_1,rfl,hm⟩:=hm
 replace hm:=AC hm;obtain⟨rfl,hm⟩:=hm
 replace hm:=Ai hm;obtain⟨x0,rfl,hm⟩:=hm
 replace hm:=Ai hm;obtain⟨x1,rfl,hm⟩:=hm
 refine .reg (eC 1 ((oo (pu 23 [(.agg ⟨[zI x46,zI x48,(zI (Aj .i64 (Int.add x50 (1:Int)))),Sl.v 1 s52]⟩)]) none fun v=>some (v,(hT 4 [(oC [zI x46,zI x48,zI x50,Sl.v 1 s52]),(oC [zI x46,zI x48,(zI (Aj .i64 (Int.add x50 (1:Int)))),Sl.v 1 s52]),(oC [zI x46,zI x48,zI x50,Sl.v 1 s63])])))) (AB h96) (eE)) ?_
 refine .ghs (fr 201 [(1,(zY x4)),(2,(zY x6)),(7,pt 1 0),(8,Sl.v 1 s54),(10,(pt 2 0)),(11,zI x81),(12,zI x83),(13,zI x0),(14,zI x1)]) (hT 3 [(oC [zI x46,zI x48,zI x50,Sl.v 1 s52]),(oC [zI x46,zI x48,zI x50,Sl.v 1 s63])]) (.k0 [false] [.tmp 7 false,.tmp 10 false] [1,2,7,8,10,11,12,13,14]) ?_
 refine .then ?_
 replace hm:=Ab hm;obtain⟨v1,h0,hm⟩:=hm
 replace hm:=Ch hm;obtain⟨l0,rfl,hm⟩:=hm
 replace hm:=Ad hm;obtain⟨v2,l117_0,rfl,hm⟩:=hm
 replace hm:=Ad hm;obtain⟨v3,l117_1,rfl,hm⟩:=hm
 replace hm:=AC hm;obtain⟨rfl,hm⟩:=hm
 replace hm:=Ai hm;obtain⟨x2,rfl,hm⟩:=hm
 replace hm:=Ai hm;obtain⟨x3,rfl,hm⟩:=hm
 refine .reg (eC 1 ((oo (pu 23 [(.agg ⟨[zI x46,zI x48,zI x50,Sl.v 1 s63]⟩)]) none fun v=>some (v,(hT 3 [(oC [zI x46,zI x48,zI x50,Sl.v 1 s52]),(oC [zI x46,zI x48,zI x50,Sl.v 1 s63])])))) (AB h0) (eE)) ?_
 refine .ghs (fr 201 [(1,(zY x4)),(2,(zY x6)),(7,pt 1 0),(8,Sl.v 1 s54),(11,zI x81),(12,zI x83),(13,zI x0),(14,zI x1),(15,zI x2),(16,zI x3)]) (hT 2 [(oC [zI x46,zI x48,zI x50,Sl.v 1 s52])]) (.k0 [false] [.tmp 7 false] [1,2,7,8,11,12,13,14,15,16]) ?_
 refine .then (.join (v:=v) (fun y:Int×Int×Sl×Int×Bool×Int×Int×Int×Sl=>((fr 201 [(1,(zY y.1)),(2,(zY y.2.1)),(7,pt 1 0),(8,(Sl.v 1 y.2.2.1)),(15,(zI y.2.2.2.1)),(80,(zB y.2.2.2.2.1))]),(hT 2 [(oC [(zI y.2.2.2.2.2.1),(zI y.2.2.2.2.2.2.1),(zI y.2.2.2.2.2.2.2.1),(Sl.v 1 y.2.2.2.2.2.2.2.2)])]))) (fun y=>UW pu n y.1 y.2.1 y.2.2.1 y.2.2.2.1 y.2.2.2.2.1 y.2.2.2.2.2.1 y.2.2.2.2.2.2.1 y.2.2.2.2.2.2.2.1 y.2.2.2.2.2.2.2.2) ?_ ?_)
 ·rintro⟨z0,z1,s0,z2,b0,z3,z4,z5,s1⟩ hm
  unfold UW at hm
  replace hm:=Ag hm;rcases hm with⟨h1,hm⟩ | ⟨h1,hm⟩
  ·refine .ifT b0 (by kernel_rfl) h1 ?_
   refine .then (.rK (.ghs (fr 201 [(6,zB false)]) Ay (.k0 [false] [] [6]) ?_))
   refine .ret ?_
   exact AO (zB false) hm
  ·refine .ifF b0 (by kernel_rfl) h1 ?_
   refine .skip (.ghs (fr 201 [(1,(zY z0)),(2,(zY z1)),(7,pt 1 0),(8,Sl.v 1 s0),(15,zI z2)]) (hT 2 [(oC [zI z3,zI z4,zI z5,Sl.v 1 s1])]) (.k0 [false] [.tmp 7 false] [1,2,7,8,15]) ?_)
   refine .then (.rK (.ghs (fr 201 [(1,(zY z0)),(2,(zY z1)),(7,pt 1 0),(8,Sl.v 1 s0),(15,zI z2),(17,(zI (1:Int)))]) (hT 2 [(oC [zI z3,zI z4,zI z5,Sl.v 1 s1])]) (.k0 [false] [.tmp 7 false] [1,2,7,8,15,17]) ?_))
   refine .join (v:=v) (fun y:Int×Int×Sl×Int×Int×Int×Int×Int×Sl=>((fr 201 [(1,(zY y.1)),(2,(zY y.2.1)),(7,pt 1 0),(8,(Sl.v 1 y.2.2.1)),(15,(zI y.2.2.2.1)),(17,(zI y.2.2.2.2.1))]),(hT 2 [(oC [(zI y.2.2.2.2.2.1),(zI y.2.2.2.2.2.2.1),(zI y.2.2.2.2.2.2.2.1),(Sl.v 1 y.2.2.2.2.2.2.2.2)])]))) (fun y=>YB pu n y.1 y.2.1 y.2.2.1 y.2.2.2.1 y.2.2.2.2.1 y.2.2.2.2.2.1 y.2.2.2.2.2.2.1 y.2.2.2.2.2.2.2.1 y.2.2.2.2.2.2.2.2) ?_ ?_
   ·rintro⟨z6,z7,s2,z8,z9,z10,z11,z12,s3⟩ hm
    exact AiH pu n z6 z7 s2 z8 z9 z10 z11 z12 s3 hm
   ·refine .then (.rK (.ghs (fr 201 [(1,(zY z0)),(2,(zY z1)),(7,pt 1 0),(8,Sl.v 1 s0),(15,zI z2),(17,(zI (1:Int))),(82,(zI (Int.ofNat (Sl.n s0)))),(83,(zI (0:Int)))]) (hT 2 [(oC [zI z3,zI z4,zI z5,Sl.v 1 s1])]) (.k0 [false] [.tmp 7 false] [1,2,7,8,15,17,82,83]) ?_))
    refine .block (.loopM (v:=v) (fun y:Int×Int×Sl×Int×Int×Int×Int×Int×Int×Int×Sl=>((fr 201 [(1,(zY y.1)),(2,(zY y.2.1)),(7,pt 1 0),(8,(Sl.v 1 y.2.2.1)),(15,(zI y.2.2.2.1)),(17,(zI y.2.2.2.2.1)),(82,(zI y.2.2.2.2.2.1)),(83,(zI y.2.2.2.2.2.2.1))]),(hT 2 [(oC [(zI y.2.2.2.2.2.2.2.1),(zI y.2.2.2.2.2.2.2.2.1),(zI y.2.2.2.2.2.2.2.2.2.1),(Sl.v 1 y.2.2.2.2.2.2.2.2.2.2)])]))) (fun w y=>YC pu n w y.1 y.2.1 y.2.2.1 y.2.2.2.1 y.2.2.2.2.1 y.2.2.2.2.2.1 y.2.2.2.2.2.2.1 y.2.2.2.2.2.2.2.1 y.2.2.2.2.2.2.2.2.1 y.2.2.2.2.2.2.2.2.2.1 y.2.2.2.2.2.2.2.2.2.2) n ⟨(z0,z1,s0,z2,(1:Int),(Int.ofNat (Sl.n s0)),(0:Int),z3,z4,z5,s1),hm,(.k0 [false] [.tmp 7 false] [1,2,7,8,15,17,82,83])⟩ (fun _=>rfl) ?_)
    rintro w0 ⟨z13,z14,s4,z15,z16,z17,z18,z19,z20,z21,s5⟩ hm
    replace hm:WK pu n (YC pu n w0) z13 z14 s4 z15 z16 z17 z18 z19 z20 z21 s5=some v:=hm
    unfold WK at hm
    refine .then (.rK (.ghs (fr 201 [(1,(zY z13)),(2,(zY z14)),(7,pt 1 0),(8,Sl.v 1 s4),(15,zI z15),(17,zI z16),(82,zI z17),(83,zI z18),(84,(zB (AY z18 z17)))]) (hT 2 [(oC [zI z19,zI z20,zI z21,Sl.v 1 s5])]) (.k0 [false] [.tmp 7 false] [1,2,7,8,15,17,82,83,84]) ?_))
    refine .then ?_
    replace hm:=Ag hm;rcases hm with⟨h2,hm⟩ | ⟨h2,hm⟩
    ·refine BB (AY z18 z17) h2 ?_
     refine .skip (.ghs (fr 201 [(1,(zY z13)),(2,(zY z14)),(7,pt 1 0),(8,Sl.v 1 s4),(15,zI z15),(17,zI z16),(82,zI z17),(83,zI z18)]) (hT 2 [(oC [zI z19,zI z20,zI z21,Sl.v 1 s5])]) (.k0 [false] [.tmp 7 false] [1,2,7,8,15,17,82,83]) ?_)
     refine .then (.block (.rK (.ghs (fr 201 [(1,(zY z13)),(2,(zY z14)),(7,pt 1 0),(8,Sl.v 1 s4),(15,zI z15),(17,(zI (Aj .i64 (Int.mul z16 z21)))),(82,zI z17),(83,zI z18)]) (hT 2 [(oC [zI z19,zI z20,zI z21,Sl.v 1 s5])]) (.k0 [false] [.tmp 7 false] [1,2,7,8,15,17,82,83]) ?_)))
     refine .rK ?_
     exact⟨(z13,z14,s4,z15,(Aj .i64 (Int.mul z16 z21)),z17,(Aj .i64 (Int.add z18 (1:Int))),z19,z20,z21,s5),hm,(.k0 [false] [.tmp 7 false] [1,2,7,8,15,17,82,83])⟩
    ·refine BI (AY z18 z17) h2 ?_
     refine .exit ?_
     exact⟨(z13,z14,s4,z15,z16,z19,z20,z21,s5),hm,(.k0 [false] [.tmp 7 false] [1,2,7,8,15,17])⟩
 ·replace hm:=Ag hm;rcases hm with⟨h4,hm⟩ | ⟨h4,hm⟩
  ·refine .reg (eC 1 (some ((zB (nt (Bd x83 (0:Int)))),(hT 2 [(oC [zI x46,zI x48,zI x50,Sl.v 1 s52])]))) (show _=some ((zB true),_) from (by rw[show (nt (Bd x83 (0:Int)))=true from h4])) (eE)) ?_
   exact⟨(x4,x6,s54,x2,true,x46,x48,x50,s52),hm,(.k0 [false] [.tmp 7 false] [1,2,7,8,15,80])⟩
  ·replace hm:=Ag hm;rcases hm with⟨h5,hm⟩ | ⟨h5,hm⟩
   ·refine .reg (eC 1 (some ((zB (nt (Bd x83 (0:Int)))),(hT 2 [(oC [zI x46,zI x48,zI x50,Sl.v 1 s52])]))) (show _=some ((zB false),_) from (by rw[show (nt (Bd x83 (0:Int)))=false from h4])) (eC 2 (some ((zB (nt (Bd x1 (0:Int)))),(hT 2 [(oC [zI x46,zI x48,zI x50,Sl.v 1 s52])]))) (show _=some ((zB true),_) from (by rw[show (nt (Bd x1 (0:Int)))=true from h5])) (eE))) ?_
    exact⟨(x4,x6,s54,x2,true,x46,x48,x50,s52),hm,(.k0 [false] [.tmp 7 false] [1,2,7,8,15,80])⟩
   ·replace hm:=Ag hm;rcases hm with⟨h6,hm⟩ | ⟨h6,hm⟩
    ·refine .reg (eC 1 (some ((zB (nt (Bd x83 (0:Int)))),(hT 2 [(oC [zI x46,zI x48,zI x50,Sl.v 1 s52])]))) (show _=some ((zB false),_) from (by rw[show (nt (Bd x83 (0:Int)))=false from h4])) (eC 2 (some ((zB (nt (Bd x1 (0:Int)))),(hT 2 [(oC [zI x46,zI x48,zI x50,Sl.v 1 s52])]))) (show _=some ((zB false),_) from (by rw[show (nt (Bd x1 (0:Int)))=false from h5])) (eC 3 (some ((zB (nt (Bd x3 (0:Int)))),(hT 2 [(oC [zI x46,zI x48,zI x50,Sl.v 1 s52])]))) (show _=some ((zB true),_) from (by rw[show (nt (Bd x3 (0:Int)))=true from h6])) (eE)))) ?_
     exact⟨(x4,x6,s54,x2,true,x46,x48,x50,s52),hm,(.k0 [false] [.tmp 7 false] [1,2,7,8,15,80])⟩
    ·replace hm:=Ag hm;rcases hm with⟨h7,hm⟩ | ⟨h7,hm⟩
     ·refine .reg (eC 1 (some ((zB (nt (Bd x83 (0:Int)))),(hT 2 [(oC [zI x46,zI x48,zI x50,Sl.v 1 s52])]))) (show _=some ((zB false),_) from (by rw[show (nt (Bd x83 (0:Int)))=false from h4])) (eC 2 (some ((zB (nt (Bd x1 (0:Int)))),(hT 2 [(oC [zI x46,zI x48,zI x50,Sl.v 1 s52])]))) (show _=some ((zB false),_) from (by rw[show (nt (Bd x1 (0:Int)))=false from h5])) (eC 3 (some ((zB (nt (Bd x3 (0:Int)))),(hT 2 [(oC [zI x46,zI x48,zI x50,Sl.v 1 s52])]))) (show _=some ((zB false),_) from (by rw[show (nt (Bd x3 (0:Int)))=false from h6])) (eC 4 (some ((zB (AY x0 x81)),(hT 2 [(oC [zI x46,zI x48,zI x50,Sl.v 1 s52])]))) (show _=some ((zB true),_) from (by rw[show (AY x0 x81)=true from h7])) (eE))))) ?_
      exact⟨(x4,x6,s54,x2,true,x46,x48,x50,s52),hm,(.k0 [false] [.tmp 7 false] [1,2,7,8,15,80])⟩
     ·refine .reg (eC 1 (some ((zB (nt (Bd x83 (0:Int)))),(hT 2 [(oC [zI x46,zI x48,zI x50,Sl.v 1 s52])]))) (show _=some ((zB false),_) from (by rw[show (nt (Bd x83 (0:Int)))=false from h4])) (eC 2 (some ((zB (nt (Bd x1 (0:Int)))),(hT 2 [(oC [zI x46,zI x48,zI x50,Sl.v 1 s52])]))) (show _=some ((zB false),_) from (by rw[show (nt (Bd x1 (0:Int)))=false from h5])) (eC 3 (some ((zB (nt (Bd x3 (0:Int)))),(hT 2 [(oC [zI x46,zI x48,zI x50,Sl.v 1 s52])]))) (show _=some ((zB false),_) from (by rw[show (nt (Bd x3 (0:Int)))=false from h6])) (eC 4 (some ((zB (AY x0 x81)),(hT 2 [(oC [zI x46,zI x48,zI x50,Sl.v 1 s52])]))) (show _=some ((zB false),_) from (by rw[show (AY x0 x81)=false from h7])) (eE))))) ?_
      exact⟨(x4,x6,s54,x2,(AY x2 x81),x46,x48,x50,s52),hm,(.k0 [false] [.tmp 7 false] [1,2,7,8,15,80])⟩
end
end Go.BkMM
