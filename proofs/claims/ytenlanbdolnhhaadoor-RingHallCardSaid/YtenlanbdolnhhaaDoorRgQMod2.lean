/- Made from wip. -/
import Derived.Test.YtenlanbdolnhhaaDoorRgQMod0x

set_option maxRecDepth 100000
set_option maxHeartbeats 20000000
set_option linter.unusedVariables false
namespace Go.RgQM
open Go.Sp Go.RgQ
noncomputable section
def Xd (pu:Af) (n n0 c0:Nat) (q0:LV):OV:=
 (bb (Au Ah q0) (bb (an (Nat.ble (0+n0*2) (len q0)) (Au Ah (Aq (n0*2) (Am 0 q0)))) (some (.tuple ⟨[(Sl.v 2 (Sl.mk n0 0 (Aq (n0*2) (Am 0 q0)))),(.int .i64 (0:Int))]⟩)) none) none)
def Xe (pu:Af) (n:Nat) (ih0:Int→Int→Int→Int→Sl→Nat→Nat→LV→OV) (z1 z2 z3 z4:Int) (s0:Sl) (n0 c0:Nat) (q0:LV):OV:=
 (bb (Au Ah q0) (ih0 z1 z2 z3 (Aj .i64 (Int.add z4 (1:Int))) s0 n0 c0 q0) none)
def UH (pu:Af) (n:Nat) (ih0:Int→Int→Int→Int→Sl→Nat→Nat→LV→OV) (z1 z2 z3 z4:Int) (s0:Sl) (n0 c0:Nat) (q0:LV):OV:=
 (bb (Au Ah q0) (bb (AY z4 z3) (bb (Bd (Aj .i64 (Int.mul z4 (Aj .i64 (Int.sub z4 (1:Int))))) z2) (bb (Dp (Nat.ble 2 c0) (MQ q0)) (bb (Au Ah q0) (oo (pu 10180 [(.agg ⟨[.int .i64 z1,(.int .u32 (0:Int))]⟩),(.int .i64 (0:Int)),.int .i64 z4,(.func (.func 16) ⟨[]⟩ ⟨[(.pointer (some ⟨1,0,none⟩))]⟩),(.func (.func 19) ⟨[]⟩ ⟨[(.pointer (some ⟨1,0,none⟩)),(.pointer (some ⟨2,0,none⟩))]⟩),(.agg ⟨[Sl.v 1 s0]⟩),(.agg ⟨[(.slice (some ⟨3,0,some 2⟩) n0 c0)]⟩),(.agg ⟨q0⟩)]) none fun v0=>(oo (CQ v0) none fun l0=>(ll l0 none fun v1 l0=>(ll l0 none fun v2 l0=>(ll l0 none fun v3 l0=>(ll l0 none fun v4 l0=>(ll l0 none fun v5 l0=>(ll l0 (oo (Bf v1) none fun b0=>(oo (Bt v2) none fun l1=>(ll l1 none fun v6 l1=>(ll l1 (oo (Bj 1 v6) none fun s1=>(oo (Bt v3) none fun l2=>(ll l2 none fun v7 l2=>(ll l2 (oo (KP 4 0 2 v7) none fun y0=>(bb (Nq v4) (oo (Bt v5) none fun q1=>(bb (Au Ah q1) (bb (Au Ah q1) (Xe pu n ih0 z1 z2 z3 z4 s1 (NC.n y0) (NC.c y0) q1) none) none)) none)) fun _ _=>none)))) fun _ _=>none)))) fun _ _=>none)))))))) none) none) (Xe pu n ih0 z1 z2 z3 z4 s0 n0 c0 q0)) (Xd pu n n0 c0 q0)) none)
def Qr (pu:Af) (n w:Nat):Int→Int→Int→Int→Sl→Nat→Nat→LV→OV:=
 Nat.rec (motive:=fun _=>Int→Int→Int→Int→Sl→Nat→Nat→LV→OV) (fun _ _ _ _ _ _ _ _=>none) (fun _ ih0=>UH pu n ih0) w
def Ue (pu:Af) (n:Nat) (z1 z2:Int) (s0:Sl):OV:=
 (Qr pu n n z1 z2 (Aj .i64 (Int.add (bb (AY z1 (6:Int)) z1 (6:Int)) (1:Int))) (0:Int) s0 0 0 ([]:LV))
def YC (pu:Af) (n:Nat) (ih0:Int→Int→Sl→Int→Int→Sl→OV) (z1 z2 z3:Int) (s0:Sl) (z4 z5:Int) (b0:Bool) (s1:Sl):OV:=
 (bb b0 (some (.tuple ⟨[(Sl.v 2 (Sl.mk 0 2 [])),(.int .i64 (1:Int))]⟩)) (ih0 z1 (Aj .i64 (Int.add z2 z3)) s0 z4 (Aj .i64 (Int.add z5 (1:Int))) s1))
def UI (pu:Af) (n:Nat) (ih0:Int→Int→Sl→Int→Int→Sl→OV) (z1 z2:Int) (s0:Sl) (z3 z4:Int) (s1:Sl):OV:=
 (bb (AY z4 z3) (oo (EA z4) none fun k1=>(bb (an (Nat.blt k1 (Sl.n s0)) true) (oo (AL (Sl.cs s0) (k1*1)) none fun v0=>(oo (Bi .i64 v0) none fun x0=>(bb (AY x0 (0:Int)) (YC pu n ih0 z1 z2 x0 s0 z3 (Int.ofNat k1) true s1) (YC pu n ih0 z1 z2 x0 s0 z3 (Int.ofNat k1) (AY (6:Int) x0) s1)))) none)) (Ue pu n z1 z2 s1))
def Uf (pu:Af) (n w:Nat):Int→Int→Sl→Int→Int→Sl→OV:=
 Nat.rec (motive:=fun _=>Int→Int→Sl→Int→Int→Sl→OV) (fun _ _ _ _ _ _=>none) (fun _ ih0=>UI pu n ih0) w
def Zt (pu:Af) (n:Nat) (z1:Int) (b0:Bool) (s0:Sl):OV:=
 (bb b0 (some (.tuple ⟨[(Sl.v 2 (Sl.mk 0 2 [])),(.int .i64 (1:Int))]⟩)) (bb (nt (Bd (Int.ofNat (Sl.n s0)) (Aj .i64 (Int.sub z1 (1:Int))))) (some (.tuple ⟨[(Sl.v 2 (Sl.mk 0 2 [])),(.int .i64 (5:Int))]⟩)) (Uf pu n n z1 (0:Int) s0 (Int.ofNat (Sl.n s0)) (0:Int) s0)))
def m4_ (pu:Af) (n:Nat) (x0:Int) (s0:Sl):OV:=
 (bb (AY x0 (1:Int)) (Zt pu n x0 true s0) (Zt pu n x0 (AY (21:Int) x0) s0))
def m4 (pu:Af) (n:Nat) (args:LV):OV:=
 (ll args none fun a0 args=>(ll args none fun a1 args=>(ll args (oo (Bi .i64 a0) none fun x0=>(oo (Bj 1 a1) none fun s0=>(m4_ pu n x0 s0))) fun _ _=>none)))
theorem Af4 (pu:Af) (n n0 c0:Nat) (q0:LV) {v:Value} (hm:Xd pu n n0 c0 q0=some v):BN tt (Bb tabs isP pu (inl pu)) 1 kQ (fr 62 [(10,pt 1 0)]) (hT 3 [(oC [sc 2 0 2 n0 c0]),oC q0]) (Fin tt 1 [.tmp 4,.tmp 5] v):=by
 unfold Xd at hm
 refine .then (.rK ?_)
 replace hm:=Ae hm;obtain⟨h0,hm⟩:=hm
 refine .ghs (fr 62 [(4,sc 1 0 2 n0 c0),(5,(zI (0:Int)))]) (hT 2 [oC q0]) (.k [2] [false] [.tmp 4 false] [4,5] ⟨Cs h0,trivial⟩) ?_
 replace hm:=Ae hm;obtain⟨h1,hm⟩:=hm
 refine .ghs (Fr.puts (fr 62 [(4,sc 1 0 2 n0 c0),(5,(zI (0:Int)))]) [(4,(Sl.v 2 (Sl.mk n0 0 (Aq (n0*2) (Am 0 q0)))))]) (hT 2 [.dead]) (.freezeC 1 4 2 (an (Nat.ble (0+n0*2) (len q0)) (Au Ah (Aq (n0*2) (Am 0 q0)))) (F1:=(Fr.puts (fr 62 [(4,sc 1 0 2 n0 c0),(5,(zI (0:Int)))]) [(4,(Sl.v 2 (Sl.mk n0 0 (Aq (n0*2) (Am 0 q0)))))])) (H1:=(hT 2 [.dead])) (by kernel_rfl) (by kernel_rfl) h1 (E9.id _ _)) ?_
 refine .ret ?_
 exact A7 (.tuple ⟨[(Sl.v 2 (Sl.mk n0 0 (Aq (n0*2) (Am 0 q0)))),(zI (0:Int))]⟩) hm
theorem Af5 (pu:Af) (n:Nat) (z1 z2:Int) (s0:Sl) {v:Value} (hm:Ue pu n z1 z2 s0=some v):BN tt (Bb tabs isP pu (inl pu)) 1 kR (fr 62 [(0,zI z1),(3,pt 1 0),(6,zI z2)]) (hT 2 [(oC [Sl.v 1 s0])]) (Fin tt 1 [.tmp 4,.tmp 5] v):=by
 unfold Ue at hm
 refine .then (.rK (.ghs (fr 62 [(0,zI z1),(3,pt 1 0),(6,zI z2),(9,(.func (.func 16) ⟨[]⟩ ⟨[pt 1 0]⟩))]) (hT 2 [(oC [Sl.v 1 s0])]) (.k0 [false] [.tmp 3 false] [0,3,6,9]) ?_))
 refine .then (.rK (.ghs (fr 62 [(0,zI z1),(3,pt 1 0),(6,zI z2),(9,(.func (.func 16) ⟨[]⟩ ⟨[pt 1 0]⟩)),(10,(pt 2 0))]) (hT 3 [(oC [Sl.v 1 s0]),(oC [(.slice none 0 0)])]) (.k0 [false] [.tmp 3 false,.tmp 10 false] [0,3,6,9,10]) ?_))
 refine .join (v:=v) (fun y:Nat×Nat×LV=>((fr 62 [(10,pt 1 0)]),(hT 3 [(oC [(sc 2 0 2 y.1 y.2.1)]),(oC y.2.2)]))) (fun y=>Xd pu n y.1 y.2.1 y.2.2) ?_ ?_
 ·rintro⟨n0,c0,q0⟩ hm
  exact Af4 pu n n0 c0 q0 hm
 ·refine .then (.rK (.ghs (fr 62 [(0,zI z1),(3,pt 1 0),(6,zI z2),(9,(.func (.func 16) ⟨[]⟩ ⟨[pt 1 0]⟩)),(10,(pt 2 0)),(44,(zI (Aj .i64 (Int.add (bb (AY z1 (6:Int)) z1 (6:Int)) (1:Int))))),(45,(zI (0:Int)))]) (hT 3 [(oC [Sl.v 1 s0]),(oC [(.slice none 0 0)])]) (.k0 [false] [.tmp 3 false,.tmp 10 false] [0,3,6,9,10,44,45]) ?_))
  refine .block (.loopM (v:=v) (fun y:Int×Int×Int×Int×Sl×Nat×Nat×LV=>((fr 62 [(0,(zI y.1)),(3,pt 1 0),(6,(zI y.2.1)),(9,(.func (.func 16) ⟨[]⟩ ⟨[pt 1 0]⟩)),(10,(pt 2 0)),(44,(zI y.2.2.1)),(45,(zI y.2.2.2.1))]),(hT 4 [(oC [(Sl.v 1 y.2.2.2.2.1)]),(oC [(sc 3 0 2 y.2.2.2.2.2.1 y.2.2.2.2.2.2.1)]),(oC y.2.2.2.2.2.2.2)]))) (fun w y=>Qr pu n w y.1 y.2.1 y.2.2.1 y.2.2.2.1 y.2.2.2.2.1 y.2.2.2.2.2.1 y.2.2.2.2.2.2.1 y.2.2.2.2.2.2.2) n ⟨(z1,z2,(Aj .i64 (Int.add (bb (AY z1 (6:Int)) z1 (6:Int)) (1:Int))),(0:Int),s0,0,0,([]:LV)),hm,(.thawC 2 0 2 [(.slice none 0 0)] (imm:=false) (spent:=false) (anc:=[]) (by kernel_rfl) (by kernel_rfl) (by kernel_rfl) (by kernel_rfl) (.k0 [false] [.tmp 3 false,.tmp 10 true,.cell 2 0 false] [0,3,6,9,10,44,45]))⟩ (fun _=>rfl) ?_)
  rintro w0 ⟨z3,z4,z5,z6,s1,n1,c1,q1⟩ hm
  replace hm:UH pu n (Qr pu n w0) z3 z4 z5 z6 s1 n1 c1 q1=some v:=hm
  unfold UH at hm
  refine .then (.rK ?_)
  replace hm:=Ae hm;obtain⟨h0,hm⟩:=hm
  refine .ghs (fr 62 [(0,zI z3),(3,pt 1 0),(6,zI z4),(9,(.func (.func 16) ⟨[]⟩ ⟨[pt 1 0]⟩)),(10,(pt 2 0)),(44,zI z5),(45,zI z6),(46,(zB (AY z6 z5)))]) (hT 4 [(oC [Sl.v 1 s1]),(oC [sc 3 0 2 n1 c1]),oC q1]) (.k [3] [false] [.tmp 3 false,.tmp 10 true,.cell 2 0 false] [0,3,6,9,10,44,45,46] ⟨Cs h0,trivial⟩) ?_
  refine .then ?_
  replace hm:=Ag hm;rcases hm with⟨h1,hm⟩ | ⟨h1,hm⟩
  ·refine DT (AY z6 z5) h1 ?_
   refine .skip (.ghs (fr 62 [(0,zI z3),(3,pt 1 0),(6,zI z4),(9,(.func (.func 16) ⟨[]⟩ ⟨[pt 1 0]⟩)),(10,(pt 2 0)),(44,zI z5),(45,zI z6)]) (hT 4 [(oC [Sl.v 1 s1]),(oC [sc 3 0 2 n1 c1]),oC q1]) (.k [3] [false] [.tmp 3 false,.tmp 10 true,.cell 2 0 false] [0,3,6,9,10,44,45] ⟨Cs h0,trivial⟩) ?_)
   refine .join (v:=v) (fun y:Int×Int×Int×Int×Sl×Nat×Nat×LV=>((fr 62 [(0,(zI y.1)),(3,pt 1 0),(6,(zI y.2.1)),(9,(.func (.func 16) ⟨[]⟩ ⟨[pt 1 0]⟩)),(10,(pt 2 0)),(44,(zI y.2.2.1)),(45,(zI y.2.2.2.1))]),(hT 4 [(oC [(Sl.v 1 y.2.2.2.2.1)]),(oC [(sc 3 0 2 y.2.2.2.2.2.1 y.2.2.2.2.2.2.1)]),(oC y.2.2.2.2.2.2.2)]))) (fun y=>Xe pu n (Qr pu n w0) y.1 y.2.1 y.2.2.1 y.2.2.2.1 y.2.2.2.2.1 y.2.2.2.2.2.1 y.2.2.2.2.2.2.1 y.2.2.2.2.2.2.2) ?_ ?_
   ·rintro⟨z7,z8,z9,z10,s2,n2,c2,q2⟩ hm
    unfold Xe at hm
    refine .rK ?_
    replace hm:=Ae hm;obtain⟨h2,hm⟩:=hm
    exact⟨(z7,z8,z9,(Aj .i64 (Int.add z10 (1:Int))),s2,n2,c2,q2),hm,(.k [3] [false] [.tmp 3 false,.tmp 10 true,.cell 2 0 false] [0,3,6,9,10,44,45] ⟨Cs h2,trivial⟩)⟩
   ·refine .block (.then (.rK (.ghs (fr 62 [(0,zI z3),(3,pt 1 0),(6,zI z4),(9,(.func (.func 16) ⟨[]⟩ ⟨[pt 1 0]⟩)),(10,(pt 2 0)),(11,zI z6),(44,zI z5),(45,zI z6)]) (hT 4 [(oC [Sl.v 1 s1]),(oC [sc 3 0 2 n1 c1]),oC q1]) (.k [3] [false] [.tmp 3 false,.tmp 10 true,.cell 2 0 false] [0,3,6,9,10,11,44,45] ⟨Cs h0,trivial⟩) ?_)))
    refine .then (.rK (.ghs (fr 62 [(0,zI z3),(3,pt 1 0),(6,zI z4),(9,(.func (.func 16) ⟨[]⟩ ⟨[pt 1 0]⟩)),(10,(pt 2 0)),(11,zI z6),(44,zI z5),(45,zI z6),(53,(zB (Bd (Aj .i64 (Int.mul z6 (Aj .i64 (Int.sub z6 (1:Int))))) z4)))]) (hT 4 [(oC [Sl.v 1 s1]),(oC [sc 3 0 2 n1 c1]),oC q1]) (.k [3] [false] [.tmp 3 false,.tmp 10 true,.cell 2 0 false] [0,3,6,9,10,11,44,45,53] ⟨Cs h0,trivial⟩) ?_))
    replace hm:=Ag hm;rcases hm with⟨h3,hm⟩ | ⟨h3,hm⟩
    ·refine DT (Bd (Aj .i64 (Int.mul z6 (Aj .i64 (Int.sub z6 (1:Int))))) z4) h3 ?_
     replace hm:=Ae hm;obtain⟨h4,hm⟩:=hm
     replace hm:=Ae hm;obtain⟨h5,hm⟩:=hm
     replace hm:=Ab hm;obtain⟨v0,h6,hm⟩:=hm
     replace hm:=Ch hm;obtain⟨l0,rfl,hm⟩:=hm
     replace hm:=Ad hm;obtain⟨v1,l5871_0,rfl,hm⟩:=hm
     replace hm:=Ad hm;obtain⟨v2,l5871_1,rfl,hm⟩:=hm
     replace hm:=Ad hm;obtain⟨v3,l5871_2,rfl,hm⟩:=hm
     replace hm:=Ad hm;obtain⟨v4,l5871_3,rfl,hm⟩:=hm
     replace hm:=Ad hm;obtain⟨v5,l5871_4,rfl,hm⟩:=hm
     replace hm:=AC hm;obtain⟨rfl,hm⟩:=hm
     replace hm:=Be hm;obtain⟨b0,rfl,hm⟩:=hm
     replace hm:=BG hm;obtain⟨l1,rfl,hm⟩:=hm
     replace hm:=Ad hm;obtain⟨v6,l5880_0,rfl,hm⟩:=hm
     replace hm:=AC hm;obtain⟨rfl,hm⟩:=hm
     replace hm:=Al hm;obtain⟨s3,rfl,hm⟩:=hm
     replace hm:=BG hm;obtain⟨l2,rfl,hm⟩:=hm
     replace hm:=Ad hm;obtain⟨v7,l5885_0,rfl,hm⟩:=hm
     replace hm:=AC hm;obtain⟨rfl,hm⟩:=hm
     replace hm:=Ab hm;obtain⟨y0,h7,hm⟩:=hm
     obtain rfl:=F5 h7
     replace hm:=Ae hm;obtain⟨h8,hm⟩:=hm
     replace hm:=BG hm;obtain⟨q3,rfl,hm⟩:=hm
     replace hm:=Ae hm;obtain⟨h9,hm⟩:=hm
     refine .reg (eC 5 (EK tabs [[none,none],[none],[none],[none],[none]] 5 [.cap 3 0 false,.cap 4 1 true,.cell 2 0 false] [false,true,false,false] (pu 10180) [(.agg ⟨[zI z3,(.int .u32 (0:Int))]⟩),(zI (0:Int)),zI z6,(.func (.func 16) ⟨[]⟩ ⟨[pt 1 0]⟩),(.func (.func 19) ⟨[]⟩ ⟨[pt 1 0,(pt 2 0)]⟩)] (hT 4 [(oC [Sl.v 1 s1]),(oC [sc 3 0 2 n1 c1]),oC q1])) (EL (as:=[(.agg ⟨[zI z3,(.int .u32 (0:Int))]⟩),(zI (0:Int)),zI z6,(.func (.func 16) ⟨[]⟩ ⟨[pt 1 0]⟩),(.func (.func 19) ⟨[]⟩ ⟨[pt 1 0,(pt 2 0)]⟩)]) (H1:=(hT 4 [(oC [Sl.v 1 s1]),(oC [sc 3 0 2 n1 c1]),oC q1])) (BS (Ot (Da Dk (Da Dk Oq))) (BS (Dm Dk) (BS (Dm Dk) (BS (Dm Dk) (BS (Dm Dk) Gj))))) (EI (H2:=(hT 5 [(oC [Sl.v 1 s3]),(oC [(sc 4 0 2 (NC.n y0) (NC.c y0))]),.dead,oC q3])) (v:=(zB b0)) (v':=(zB b0)) [some 0,some 1,some 2,some 3] [(false,some 1),(true,some 2),(false,some 3)] [(oC [Sl.v 1 s1]),(oC [sc 3 0 2 n1 c1]),oC q1] [(.agg ⟨[zI z3,(.int .u32 (0:Int))]⟩),(zI (0:Int)),zI z6,(.func (.func 16) ⟨[]⟩ ⟨[pt 1 0]⟩),(.func (.func 19) ⟨[]⟩ ⟨[pt 1 0,(pt 2 0)]⟩)] [(.agg ⟨[Sl.v 1 s3]⟩),(.agg ⟨[(sc 4 0 2 (NC.n y0) (NC.c y0))]⟩),v4,(.agg ⟨q3⟩)] [(oC [Sl.v 1 s3]),(oC [(sc 4 0 2 (NC.n y0) (NC.c y0))]),.dead,oC q3] [some 0,some 1,some 2,some 3,some 4] [(false,(oC [Sl.v 1 s3])),(true,(oC [(sc 4 0 2 (NC.n y0) (NC.c y0))])),(false,.dead),(false,oC q3)] [(oC [Sl.v 1 s3]),(oC [(sc 4 0 2 (NC.n y0) (NC.c y0))]),.dead,oC q3] (sF (by kernel_rfl) (XX h4 rfl)) (En (by kernel_rfl) (En (by kernel_rfl) (En (Nb (anc:=[]) h5) BX))) (Eq.trans (by kernel_rfl) h6) (En rfl (En rfl (En (OY h8) (En rfl BX)))) (En (by kernel_rfl) (En (by kernel_rfl) (En (by kernel_rfl) (En (KO h9) BX)))))) (eE)) ?_
     replace hm:=Ae hm;obtain⟨h10,hm⟩:=hm
     exact⟨(z3,z4,z5,z6,s3,(NC.n y0),(NC.c y0),q3),hm,(.k [4] [false] [.tmp 3 false,.tmp 10 true,.cell 2 0 false] [0,3,6,9,10,44,45] ⟨Cs h10,trivial⟩)⟩
    ·refine Eb (Bd (Aj .i64 (Int.mul z6 (Aj .i64 (Int.sub z6 (1:Int))))) z4) h3 ?_
     refine .skip ?_
     exact⟨(z3,z4,z5,z6,s1,n1,c1,q1),hm,(.k [3] [false] [.tmp 3 false,.tmp 10 true,.cell 2 0 false] [0,3,6,9,10,44,45] ⟨Cs h0,trivial⟩)⟩
  ·refine Eb (AY z6 z5) h1 ?_
   refine .exit ?_
   exact⟨(n1,c1,q1),hm,(.k [3] [false] [.tmp 10 true,.cell 1 0 false] [10] ⟨Cs h0,trivial⟩)⟩
theorem r4 {call:A8} (pu:Af) (n:Nat) (hcall:call=Bb tabs isP pu (inl pu)) {args:LV} {v:Value} (hm:m4 pu n args=some v) (_:∀ x∈args,closed2 x=true):args.length≤62∧BN tt call 1 V8 (Fr.made 62 args) (Ao tabs) (Fin tt 1 [.tmp 4,.tmp 5] v):=by
 subst hcall
 unfold m4 at hm
 replace hm:=Ad hm;obtain⟨a0,args_0,rfl,hm⟩:=hm
 replace hm:=Ad hm;obtain⟨a1,args_1,rfl,hm⟩:=hm
 replace hm:=AC hm;obtain⟨rfl,hm⟩:=hm
 replace hm:=Ai hm;obtain⟨x0,rfl,hm⟩:=hm
 replace hm:=Al hm;obtain⟨s0,rfl,hm⟩:=hm
 unfold m4_ at hm
 refine⟨by simp,?_⟩
 refine .same (F':=(fr 62 [(0,zI x0),(1,Sl.v 1 s0)])) (H':=AO) (by kernel_rfl) (by kernel_rfl) ?_
 refine .then (.rK (.ghs (fr 62 [(0,zI x0),(3,pt 1 0)]) (hT 2 [(oC [Sl.v 1 s0])]) (.k0 [false] [.tmp 3 false] [0,3]) ?_))
 refine .then (.block (.join (v:=v) (fun y:Int×Bool×Sl=>((fr 62 [(0,(zI y.1)),(3,pt 1 0),(12,(zB y.2.1))]),(hT 2 [(oC [(Sl.v 1 y.2.2)])]))) (fun y=>Zt pu n y.1 y.2.1 y.2.2) ?_ ?_))
 ·rintro⟨z1,b0,s1⟩ hm
  unfold Zt at hm
  replace hm:=Ag hm;rcases hm with⟨h0,hm⟩ | ⟨h0,hm⟩
  ·refine .ifT b0 (by kernel_rfl) h0 ?_
   refine .then (.rK (.ghs (fr 62 [(4,(.slice none 0 0)),(5,(zI (1:Int)))]) AO (.k0 [false] [] [4,5]) ?_))
   refine .ghs (Fr.puts (fr 62 [(4,(.slice none 0 0)),(5,(zI (1:Int)))]) [(4,(Sl.v 2 (Sl.mk 0 2 [])))]) AO (.freeze 1 4 2 (by kernel_rfl) (by kernel_rfl) (E9.id _ _)) ?_
   refine .ret ?_
   exact A7 (.tuple ⟨[(Sl.v 2 (Sl.mk 0 2 [])),(zI (1:Int))]⟩) hm
  ·refine .ifF b0 (by kernel_rfl) h0 ?_
   refine .then (.rK (.ghs (fr 62 [(0,zI z1),(3,pt 1 0),(19,(zB (nt (Bd (Int.ofNat (Sl.n s1)) (Aj .i64 (Int.sub z1 (1:Int)))))))]) (hT 2 [(oC [Sl.v 1 s1])]) (.k0 [false] [.tmp 3 false] [0,3,19]) ?_))
   replace hm:=Ag hm;rcases hm with⟨h1,hm⟩ | ⟨h1,hm⟩
   ·refine DT (nt (Bd (Int.ofNat (Sl.n s1)) (Aj .i64 (Int.sub z1 (1:Int))))) h1 ?_
    refine .then (.rK (.ghs (fr 62 [(4,(.slice none 0 0)),(5,(zI (5:Int)))]) AO (.k0 [false] [] [4,5]) ?_))
    refine .ghs (Fr.puts (fr 62 [(4,(.slice none 0 0)),(5,(zI (5:Int)))]) [(4,(Sl.v 2 (Sl.mk 0 2 [])))]) AO (.freeze 1 4 2 (by kernel_rfl) (by kernel_rfl) (E9.id _ _)) ?_
    refine .ret ?_
    exact A7 (.tuple ⟨[(Sl.v 2 (Sl.mk 0 2 [])),(zI (5:Int))]⟩) hm
   ·refine Eb (nt (Bd (Int.ofNat (Sl.n s1)) (Aj .i64 (Int.sub z1 (1:Int))))) h1 ?_
    refine .skip (.ghs (fr 62 [(0,zI z1),(3,pt 1 0)]) (hT 2 [(oC [Sl.v 1 s1])]) (.k0 [false] [.tmp 3 false] [0,3]) ?_)
    refine .then (.rK (.ghs (fr 62 [(0,zI z1),(3,pt 1 0),(6,(zI (0:Int)))]) (hT 2 [(oC [Sl.v 1 s1])]) (.k0 [false] [.tmp 3 false] [0,3,6]) ?_))
    refine .join (v:=v) (fun y:Int×Int×Sl=>((fr 62 [(0,(zI y.1)),(3,pt 1 0),(6,(zI y.2.1))]),(hT 2 [(oC [(Sl.v 1 y.2.2)])]))) (fun y=>Ue pu n y.1 y.2.1 y.2.2) ?_ ?_
    ·rintro⟨z2,z3,s2⟩ hm
     exact Af5 pu n z2 z3 s2 hm
    ·refine .then (.rK (.ghs (fr 62 [(0,zI z1),(3,pt 1 0),(6,(zI (0:Int))),(25,Sl.v 1 s1),(26,(zI (Int.ofNat (Sl.n s1)))),(27,(zI (0:Int)))]) (hT 2 [(oC [Sl.v 1 s1])]) (.k0 [false] [.tmp 3 false] [0,3,6,25,26,27]) ?_))
     refine .block (.loopM (v:=v) (fun y:Int×Int×Sl×Int×Int×Sl=>((fr 62 [(0,(zI y.1)),(3,pt 1 0),(6,(zI y.2.1)),(25,(Sl.v 1 y.2.2.1)),(26,(zI y.2.2.2.1)),(27,(zI y.2.2.2.2.1))]),(hT 2 [(oC [(Sl.v 1 y.2.2.2.2.2)])]))) (fun w y=>Uf pu n w y.1 y.2.1 y.2.2.1 y.2.2.2.1 y.2.2.2.2.1 y.2.2.2.2.2) n ⟨(z1,(0:Int),s1,(Int.ofNat (Sl.n s1)),(0:Int),s1),hm,(.k0 [false] [.tmp 3 false] [0,3,6,25,26,27])⟩ (fun _=>rfl) ?_)
     rintro w0 ⟨z4,z5,s3,z6,z7,s4⟩ hm
     replace hm:UI pu n (Uf pu n w0) z4 z5 s3 z6 z7 s4=some v:=hm
     unfold UI at hm
     refine .then (.rK (.ghs (fr 62 [(0,zI z4),(3,pt 1 0),(6,zI z5),(25,Sl.v 1 s3),(26,zI z6),(27,zI z7),(28,(zB (AY z7 z6)))]) (hT 2 [(oC [Sl.v 1 s4])]) (.k0 [false] [.tmp 3 false] [0,3,6,25,26,27,28]) ?_))
     refine .then ?_
     replace hm:=Ag hm;rcases hm with⟨h2,hm⟩ | ⟨h2,hm⟩
     ·refine DT (AY z7 z6) h2 ?_
      refine .skip (.ghs (fr 62 [(0,zI z4),(3,pt 1 0),(6,zI z5),(25,Sl.v 1 s3),(26,zI z6),(27,zI z7)]) (hT 2 [(oC [Sl.v 1 s4])]) (.k0 [false] [.tmp 3 false] [0,3,6,25,26,27]) ?_)
      refine .then (.block (.then ?_))
      replace hm:=Ab hm;obtain⟨k1,h3,hm⟩:=hm
      obtain rfl:=AR h3
      replace hm:=Ae hm;obtain⟨h4,hm⟩:=hm
      replace hm:=K8 hm;obtain⟨x1,h5,hm⟩:=hm
      refine .reg (eD (keep (hT 2 [(oC [Sl.v 1 s4])]) (bb (an (Nat.blt k1 (Sl.n s3)) true) (some (Cv (k1*1) (Sl.cs s3))) none)) (AX h4) (eD (keep (hT 2 [(oC [Sl.v 1 s4])]) (AL (Sl.cs s3) (k1*1))) (AZ h5) (eE))) ?_
      refine .ghs (fr 62 [(0,zI z4),(3,pt 1 0),(6,zI z5),(8,zI x1),(25,Sl.v 1 s3),(26,zI z6),(27,(zI (Int.ofNat k1)))]) (hT 2 [(oC [Sl.v 1 s4])]) (.k0 [false] [.tmp 3 false] [0,3,6,8,25,26,27]) ?_
      refine .then (.join (v:=v) (fun y:Int×Int×Int×Sl×Int×Int×Bool×Sl=>((fr 62 [(0,(zI y.1)),(3,pt 1 0),(6,(zI y.2.1)),(8,(zI y.2.2.1)),(25,(Sl.v 1 y.2.2.2.1)),(26,(zI y.2.2.2.2.1)),(27,(zI y.2.2.2.2.2.1)),(36,(zB y.2.2.2.2.2.2.1))]),(hT 2 [(oC [(Sl.v 1 y.2.2.2.2.2.2.2)])]))) (fun y=>YC pu n (Uf pu n w0) y.1 y.2.1 y.2.2.1 y.2.2.2.1 y.2.2.2.2.1 y.2.2.2.2.2.1 y.2.2.2.2.2.2.1 y.2.2.2.2.2.2.2) ?_ ?_)
      ·rintro⟨z8,z9,z10,s5,z11,z12,b1,s6⟩ hm
       unfold YC at hm
       replace hm:=Ag hm;rcases hm with⟨h6,hm⟩ | ⟨h6,hm⟩
       ·refine .ifT b1 (by kernel_rfl) h6 ?_
        refine .then (.rK (.ghs (fr 62 [(4,(.slice none 0 0)),(5,(zI (1:Int)))]) AO (.k0 [false] [] [4,5]) ?_))
        refine .ghs (Fr.puts (fr 62 [(4,(.slice none 0 0)),(5,(zI (1:Int)))]) [(4,(Sl.v 2 (Sl.mk 0 2 [])))]) AO (.freeze 1 4 2 (by kernel_rfl) (by kernel_rfl) (E9.id _ _)) ?_
        refine .ret ?_
        exact A7 (.tuple ⟨[(Sl.v 2 (Sl.mk 0 2 [])),(zI (1:Int))]⟩) hm
       ·refine .ifF b1 (by kernel_rfl) h6 ?_
        refine .skip (.ghs (fr 62 [(0,zI z8),(3,pt 1 0),(6,zI z9),(8,zI z10),(25,Sl.v 1 s5),(26,zI z11),(27,zI z12)]) (hT 2 [(oC [Sl.v 1 s6])]) (.k0 [false] [.tmp 3 false] [0,3,6,8,25,26,27]) ?_)
        refine .rK (.ghs (fr 62 [(0,zI z8),(3,pt 1 0),(6,(zI (Aj .i64 (Int.add z9 z10)))),(25,Sl.v 1 s5),(26,zI z11),(27,zI z12)]) (hT 2 [(oC [Sl.v 1 s6])]) (.k0 [false] [.tmp 3 false] [0,3,6,25,26,27]) ?_)
        refine .rK ?_
        exact⟨(z8,(Aj .i64 (Int.add z9 z10)),s5,z11,(Aj .i64 (Int.add z12 (1:Int))),s6),hm,(.k0 [false] [.tmp 3 false] [0,3,6,25,26,27])⟩
      ·replace hm:=Ag hm;rcases hm with⟨h7,hm⟩ | ⟨h7,hm⟩
       ·refine .reg (eC 1 (some ((zB (AY x1 (0:Int))),(hT 2 [(oC [Sl.v 1 s4])]))) (show _=some ((zB true),_) from (by rw[show (AY x1 (0:Int))=true from h7])) (eE)) ?_
        exact⟨(z4,z5,x1,s3,z6,(Int.ofNat k1),true,s4),hm,(.k0 [false] [.tmp 3 false] [0,3,6,8,25,26,27,36])⟩
       ·refine .reg (eC 1 (some ((zB (AY x1 (0:Int))),(hT 2 [(oC [Sl.v 1 s4])]))) (show _=some ((zB false),_) from (by rw[show (AY x1 (0:Int))=false from h7])) (eE)) ?_
        exact⟨(z4,z5,x1,s3,z6,(Int.ofNat k1),(AY (6:Int) x1),s4),hm,(.k0 [false] [.tmp 3 false] [0,3,6,8,25,26,27,36])⟩
     ·refine Eb (AY z7 z6) h2 ?_
      refine .exit ?_
      exact⟨(z4,z5,s4),hm,(.k0 [false] [.tmp 3 false] [0,3,6])⟩
 ·replace hm:=Ag hm;rcases hm with⟨h8,hm⟩ | ⟨h8,hm⟩
  ·refine .reg (eC 1 (some ((zB (AY x0 (1:Int))),(hT 2 [(oC [Sl.v 1 s0])]))) (show _=some ((zB true),_) from (by rw[show (AY x0 (1:Int))=true from h8])) (eE)) ?_
   exact⟨(x0,true,s0),hm,(.k0 [false] [.tmp 3 false] [0,3,12])⟩
  ·refine .reg (eC 1 (some ((zB (AY x0 (1:Int))),(hT 2 [(oC [Sl.v 1 s0])]))) (show _=some ((zB false),_) from (by rw[show (AY x0 (1:Int))=false from h8])) (eE)) ?_
   exact⟨(x0,(AY (21:Int) x0),s0),hm,(.k0 [false] [.tmp 3 false] [0,3,12])⟩
def eY (pu:Af) (n n0 c0:Nat) (q0:LV):OV:=
 (bb (Au Ah q0) (bb (an (Nat.ble (0+n0*1) (len q0)) (Au Ah (Aq (n0*1) (Am 0 q0)))) (some (.tuple ⟨[(Sl.v 1 (Sl.mk n0 0 (Aq (n0*1) (Am 0 q0)))),(.int .i64 (0:Int))]⟩)) none) none)
def Zu (pu:Af) (n:Nat) (ih0:Nat→Nat→Int→Int→Sl→Int→Int→LV→OV) (n0 c0:Nat) (z1 z2:Int) (s0:Sl) (z3 z4:Int) (q0:LV):OV:=
 (bb (Au Ah q0) (ih0 n0 c0 (Aj .i64 (Int.add z1 (1:Int))) z2 s0 z3 z4 q0) none)
def uI (pu:Af) (n:Nat) (ih0:Nat→Nat→Int→Int→Sl→Int→Int→LV→OV) (n0 c0:Nat) (z1 z2:Int) (s0:Sl) (z3 z4:Int) (q0:LV):OV:=
 (bb (Au Ah q0) (bb (nt (AY z2 z1)) (oo (pu 25 [.int .i64 z1,.int .i64 z2]) none fun v0=>(oo (Bf v0) none fun b0=>(bb (nt b0) (Zu pu n ih0 n0 c0 z1 z2 s0 z3 z4 q0) (oo (pu 26 [(.agg ⟨[.int .i64 z3,.int .u32 z4]⟩),.int .i64 z1]) none fun v1=>(oo (Bt v1) none fun l0=>(ll l0 none fun v2 l0=>(ll l0 none fun v3 l0=>(ll l0 (oo (Bi .i64 v2) none fun x0=>(oo (Bi .u32 v3) none fun x1=>(oo (pu 27 [(.agg ⟨[.int .i64 x0,.int .u32 x1]⟩),(.agg ⟨[.int .i64 z3,.int .u32 z4]⟩)]) none fun v4=>(oo (CQ v4) none fun l1=>(ll l1 none fun v5 l1=>(ll l1 none fun v6 l1=>(ll l1 (oo (Bi .i64 v5) none fun x2=>(oo (Bf v6) none fun b1=>(bb b1 (bb (GV 1 8 n0 c0 1 q0) (bb (Au Ah (Br (Am 0 q0) [.int .i64 z1])) (Zu pu n ih0 (n0+1) (2*(n0+1)+bb false 1 0) z1 z2 s0 z3 z4 (Br (Am 0 q0) [.int .i64 z1])) none) none) (Zu pu n ih0 n0 c0 z1 z2 s0 z3 z4 q0)))) fun _ _=>none))))))) fun _ _=>none)))))))) (eY pu n n0 c0 q0)) none)
def fA (pu:Af) (n w:Nat):Nat→Nat→Int→Int→Sl→Int→Int→LV→OV:=
 Nat.rec (motive:=fun _=>Nat→Nat→Int→Int→Sl→Int→Int→LV→OV) (fun _ _ _ _ _ _ _ _=>none) (fun _ ih0=>uI pu n ih0) w
def m5_ (pu:Af) (n:Nat) (x0:Int) (s0:Sl):OV:=
 (oo (pu 24 [(.agg ⟨[.int .i64 x0,Sl.v 1 s0]⟩)]) none fun v0=>(oo (CQ v0) none fun l0=>(ll l0 none fun v1 l0=>(ll l0 none fun v2 l0=>(ll l0 (oo (Bt v1) none fun l1=>(ll l1 none fun v3 l1=>(ll l1 none fun v4 l1=>(ll l1 (oo (Bi .i64 v3) none fun x1=>(oo (Bi .u32 v4) none fun x2=>(oo (Bi .i64 v2) none fun x3=>(bb (nt (Bd x3 (0:Int))) (some (.tuple ⟨[(Sl.v 1 (Sl.mk 0 2 [])),.int .i64 x3]⟩)) (fA pu n n 0 0 (1:Int) x0 s0 x1 x2 ([]:LV)))))) fun _ _=>none)))) fun _ _=>none)))))
def m5 (pu:Af) (n:Nat) (args:LV):OV:=
 (ll args none fun a0 args=>(ll args (oo (Bt a0) none fun l0=>(ll l0 none fun v0 l0=>(ll l0 none fun v1 l0=>(ll l0 (oo (Bi .i64 v0) none fun x0=>(oo (Bj 1 v1) none fun s0=>(m5_ pu n x0 s0))) fun _ _=>none)))) fun _ _=>none))
theorem Af6 (pu:Af) (n n0 c0:Nat) (q0:LV) {v:Value} (hm:eY pu n n0 c0 q0=some v):BN tt (Bb tabs isP pu (inl pu)) 1 kS (fr 43 [(6,sc 1 0 1 n0 c0)]) (hT 2 [oC q0]) (Fin tt 1 [.tmp 2,.tmp 3] v):=by
 unfold eY at hm
 refine .then (.rK ?_)
 replace hm:=Ae hm;obtain⟨h0,hm⟩:=hm
 refine .ghs (fr 43 [(2,sc 1 0 1 n0 c0),(3,(zI (0:Int)))]) (hT 2 [oC q0]) (.k [1] [false] [.tmp 2 false] [2,3] ⟨Cs h0,trivial⟩) ?_
 replace hm:=Ae hm;obtain⟨h1,hm⟩:=hm
 refine .ghs (Fr.puts (fr 43 [(2,sc 1 0 1 n0 c0),(3,(zI (0:Int)))]) [(2,(Sl.v 1 (Sl.mk n0 0 (Aq (n0*1) (Am 0 q0)))))]) (hT 2 [.dead]) (.freezeC 1 2 1 (an (Nat.ble (0+n0*1) (len q0)) (Au Ah (Aq (n0*1) (Am 0 q0)))) (F1:=(Fr.puts (fr 43 [(2,sc 1 0 1 n0 c0),(3,(zI (0:Int)))]) [(2,(Sl.v 1 (Sl.mk n0 0 (Aq (n0*1) (Am 0 q0)))))])) (H1:=(hT 2 [.dead])) (by kernel_rfl) (by kernel_rfl) h1 (E9.id _ _)) ?_
 refine .ret ?_
 exact A7 (.tuple ⟨[(Sl.v 1 (Sl.mk n0 0 (Aq (n0*1) (Am 0 q0)))),(zI (0:Int))]⟩) hm
theorem r5 {call:A8} (pu:Af) (n:Nat) (hcall:call=Bb tabs isP pu (inl pu)) {args:LV} {v:Value} (hm:m5 pu n args=some v) (_:∀ x∈args,closed2 x=true):args.length≤43∧BN tt call 1 V9 (Fr.made 43 args) (Ao tabs) (Fin tt 1 [.tmp 2,.tmp 3] v):=by
 subst hcall
 unfold m5 at hm
 replace hm:=Ad hm;obtain⟨a0,args_0,rfl,hm⟩:=hm
 replace hm:=AC hm;obtain⟨rfl,hm⟩:=hm
 replace hm:=BG hm;obtain⟨l0,rfl,hm⟩:=hm
 replace hm:=Ad hm;obtain⟨v0,l5933_0,rfl,hm⟩:=hm
 replace hm:=Ad hm;obtain⟨v1,l5933_1,rfl,hm⟩:=hm
 replace hm:=AC hm;obtain⟨rfl,hm⟩:=hm
 replace hm:=Ai hm;obtain⟨x0,rfl,hm⟩:=hm
 replace hm:=Al hm;obtain⟨s0,rfl,hm⟩:=hm
 unfold m5_ at hm
 refine⟨by simp,?_⟩
 refine .same (F':=(fr 43 [(0,(.agg ⟨[zI x0,Sl.v 1 s0]⟩))])) (H':=AO) (by kernel_rfl) (by kernel_rfl) ?_
 refine .then (.rK (.ghs (fr 43 [(1,pt 1 0)]) (hT 2 [(oC [zI x0,Sl.v 1 s0])]) (.k0 [false] [.tmp 1 false] [1]) ?_))
 refine .then ?_
 replace hm:=Ab hm;obtain⟨v2,h0,hm⟩:=hm
 replace hm:=Ch hm;obtain⟨l1,rfl,hm⟩:=hm
 replace hm:=Ad hm;obtain⟨v3,l5959_0,rfl,hm⟩:=hm
 replace hm:=Ad hm;obtain⟨v4,l5959_1,rfl,hm⟩:=hm
 replace hm:=AC hm;obtain⟨rfl,hm⟩:=hm
 replace hm:=BG hm;obtain⟨l2,rfl,hm⟩:=hm
 replace hm:=Ad hm;obtain⟨v5,l5963_0,rfl,hm⟩:=hm
 replace hm:=Ad hm;obtain⟨v6,l5963_1,rfl,hm⟩:=hm
 replace hm:=AC hm;obtain⟨rfl,hm⟩:=hm
 replace hm:=Ai hm;obtain⟨x1,rfl,hm⟩:=hm
 replace hm:=Ai hm;obtain⟨x2,rfl,hm⟩:=hm
 replace hm:=Ai hm;obtain⟨x3,rfl,hm⟩:=hm
 refine .reg (eC 1 ((oo (pu 24 [(.agg ⟨[zI x0,Sl.v 1 s0]⟩)]) none fun v=>some (v,(hT 2 [(oC [zI x0,Sl.v 1 s0])])))) (AB h0) (eE)) ?_
 refine .ghs (fr 43 [(1,pt 1 0),(4,(pt 2 0)),(5,zI x3)]) (hT 3 [(oC [zI x0,Sl.v 1 s0]),(oC [zI x1,.int .u32 x2])]) (.k0 [false] [.tmp 1 false,.tmp 4 false] [1,4,5]) ?_
 refine .then (.then (.rK (.ghs (fr 43 [(1,pt 1 0),(4,(pt 2 0)),(5,zI x3),(16,(zB (nt (Bd x3 (0:Int)))))]) (hT 3 [(oC [zI x0,Sl.v 1 s0]),(oC [zI x1,.int .u32 x2])]) (.k0 [false] [.tmp 1 false,.tmp 4 false] [1,4,5,16]) ?_)))
 replace hm:=Ag hm;rcases hm with⟨h1,hm⟩ | ⟨h1,hm⟩
 ·refine DT (nt (Bd x3 (0:Int))) h1 ?_
  refine .then (.rK (.ghs (fr 43 [(2,(.slice none 0 0)),(3,zI x3)]) AO (.k0 [false] [] [2,3]) ?_))
  refine .ghs (Fr.puts (fr 43 [(2,(.slice none 0 0)),(3,zI x3)]) [(2,(Sl.v 1 (Sl.mk 0 2 [])))]) AO (.freeze 1 2 1 (by kernel_rfl) (by kernel_rfl) (E9.id _ _)) ?_
  refine .ret ?_
  exact A7 (.tuple ⟨[(Sl.v 1 (Sl.mk 0 2 [])),zI x3]⟩) hm
 ·refine Eb (nt (Bd x3 (0:Int))) h1 ?_
  refine .skip (.ghs (fr 43 [(1,pt 1 0),(4,(pt 2 0))]) (hT 3 [(oC [zI x0,Sl.v 1 s0]),(oC [zI x1,.int .u32 x2])]) (.k0 [false] [.tmp 1 false,.tmp 4 false] [1,4]) ?_)
  refine .then (.rK (.ghs (fr 43 [(1,pt 1 0),(4,(pt 2 0)),(6,(.slice none 0 0))]) (hT 3 [(oC [zI x0,Sl.v 1 s0]),(oC [zI x1,.int .u32 x2])]) (.k0 [false] [.tmp 1 false,.tmp 4 false] [1,4,6]) ?_))
  refine .join (v:=v) (fun y:Nat×Nat×LV=>((fr 43 [(6,(sc 1 0 1 y.1 y.2.1))]),(hT 2 [(oC y.2.2)]))) (fun y=>eY pu n y.1 y.2.1 y.2.2) ?_ ?_
  ·rintro⟨n0,c0,q0⟩ hm
   exact Af6 pu n n0 c0 q0 hm
  ·refine .then (.rK (.ghs (fr 43 [(1,pt 1 0),(4,(pt 2 0)),(6,(.slice none 0 0)),(7,(zI (1:Int)))]) (hT 3 [(oC [zI x0,Sl.v 1 s0]),(oC [zI x1,.int .u32 x2])]) (.k0 [false] [.tmp 1 false,.tmp 4 false] [1,4,6,7]) ?_))
   refine .block (.loopM (v:=v) (fun y:Nat×Nat×Int×Int×Sl×Int×Int×LV=>((fr 43 [(1,pt 1 0),(4,(pt 2 0)),(6,(sc 3 0 1 y.1 y.2.1)),(7,(zI y.2.2.1))]),(hT 4 [(oC [(zI y.2.2.2.1),(Sl.v 1 y.2.2.2.2.1)]),(oC [(zI y.2.2.2.2.2.1),(.int .u32 y.2.2.2.2.2.2.1)]),(oC y.2.2.2.2.2.2.2)]))) (fun w y=>fA pu n w y.1 y.2.1 y.2.2.1 y.2.2.2.1 y.2.2.2.2.1 y.2.2.2.2.2.1 y.2.2.2.2.2.2.1 y.2.2.2.2.2.2.2) n ⟨(0,0,(1:Int),x0,s0,x1,x2,([]:LV)),hm,(.thaw 6 1 (by kernel_rfl) (.k0 [false] [.tmp 1 false,.tmp 4 false,.tmp 6 false] [1,4,6,7]))⟩ (fun _=>rfl) ?_)
   rintro w0 ⟨n1,c1,z1,z2,s1,z3,z4,q1⟩ hm
   replace hm:uI pu n (fA pu n w0) n1 c1 z1 z2 s1 z3 z4 q1=some v:=hm
   unfold uI at hm
   refine .then (.then (.rK ?_))
   replace hm:=Ae hm;obtain⟨h2,hm⟩:=hm
   refine .ghs (fr 43 [(1,pt 1 0),(4,(pt 2 0)),(6,sc 3 0 1 n1 c1),(7,zI z1),(21,(zB (nt (AY z2 z1))))]) (hT 4 [(oC [zI z2,Sl.v 1 s1]),(oC [zI z3,.int .u32 z4]),oC q1]) (.k [3] [false] [.tmp 1 false,.tmp 4 false,.tmp 6 false] [1,4,6,7,21] ⟨Cs h2,trivial⟩) ?_
   replace hm:=Ag hm;rcases hm with⟨h3,hm⟩ | ⟨h3,hm⟩
   ·refine DT (nt (AY z2 z1)) h3 ?_
    refine .skip (.ghs (fr 43 [(1,pt 1 0),(4,(pt 2 0)),(6,sc 3 0 1 n1 c1),(7,zI z1)]) (hT 4 [(oC [zI z2,Sl.v 1 s1]),(oC [zI z3,.int .u32 z4]),oC q1]) (.k [3] [false] [.tmp 1 false,.tmp 4 false,.tmp 6 false] [1,4,6,7] ⟨Cs h2,trivial⟩) ?_)
    refine .join (v:=v) (fun y:Nat×Nat×Int×Int×Sl×Int×Int×LV=>((fr 43 [(1,pt 1 0),(4,(pt 2 0)),(6,(sc 3 0 1 y.1 y.2.1)),(7,(zI y.2.2.1))]),(hT 4 [(oC [(zI y.2.2.2.1),(Sl.v 1 y.2.2.2.2.1)]),(oC [(zI y.2.2.2.2.2.1),(.int .u32 y.2.2.2.2.2.2.1)]),(oC y.2.2.2.2.2.2.2)]))) (fun y=>Zu pu n (fA pu n w0) y.1 y.2.1 y.2.2.1 y.2.2.2.1 y.2.2.2.2.1 y.2.2.2.2.2.1 y.2.2.2.2.2.2.1 y.2.2.2.2.2.2.2) ?_ ?_
    ·rintro⟨n2,c2,z5,z6,s2,z7,z8,q2⟩ hm
     unfold Zu at hm
     refine .rK ?_
     replace hm:=Ae hm;obtain⟨h4,hm⟩:=hm
     exact⟨(n2,c2,(Aj .i64 (Int.add z5 (1:Int))),z6,s2,z7,z8,q2),hm,(.k [3] [false] [.tmp 1 false,.tmp 4 false,.tmp 6 false] [1,4,6,7] ⟨Cs h4,trivial⟩)⟩
    ·refine .block (.then (.then ?_))
     replace hm:=Yd hm;obtain⟨b0,h5,hm⟩:=hm
     refine .reg (eC 3 ((oo (pu 25 [zI z1,zI z2]) none fun v=>some (v,(hT 4 [(oC [zI z2,Sl.v 1 s1]),(oC [zI z3,.int .u32 z4]),oC q1])))) (AB h5) (eE)) ?_
     refine .ghs (fr 43 [(1,pt 1 0),(4,(pt 2 0)),(6,sc 3 0 1 n1 c1),(7,zI z1),(28,(zB (nt b0)))]) (hT 4 [(oC [zI z2,Sl.v 1 s1]),(oC [zI z3,.int .u32 z4]),oC q1]) (.k [3] [false] [.tmp 1 false,.tmp 4 false,.tmp 6 false] [1,4,6,7,28] ⟨Cs h2,trivial⟩) ?_
     replace hm:=Ag hm;rcases hm with⟨h6,hm⟩ | ⟨h6,hm⟩
     ·refine DT (nt b0) h6 ?_
      refine .exit ?_
      exact⟨(n1,c1,z1,z2,s1,z3,z4,q1),hm,(.k [3] [false] [.tmp 1 false,.tmp 4 false,.tmp 6 false] [1,4,6,7] ⟨Cs h2,trivial⟩)⟩
     ·refine Eb (nt b0) h6 ?_
      refine .skip (.ghs (fr 43 [(1,pt 1 0),(4,(pt 2 0)),(6,sc 3 0 1 n1 c1),(7,zI z1)]) (hT 4 [(oC [zI z2,Sl.v 1 s1]),(oC [zI z3,.int .u32 z4]),oC q1]) (.k [3] [false] [.tmp 1 false,.tmp 4 false,.tmp 6 false] [1,4,6,7] ⟨Cs h2,trivial⟩) ?_)
      refine .then ?_
      replace hm:=Ab hm;obtain⟨v7,h7,hm⟩:=hm
      replace hm:=BG hm;obtain⟨l3,rfl,hm⟩:=hm
      replace hm:=Ad hm;obtain⟨v8,l6485_0,rfl,hm⟩:=hm
      replace hm:=Ad hm;obtain⟨v9,l6485_1,rfl,hm⟩:=hm
      replace hm:=AC hm;obtain⟨rfl,hm⟩:=hm
      replace hm:=Ai hm;obtain⟨x4,rfl,hm⟩:=hm
      replace hm:=Ai hm;obtain⟨x5,rfl,hm⟩:=hm
      replace hm:=Ab hm;obtain⟨v10,h8,hm⟩:=hm
      replace hm:=Ch hm;obtain⟨l4,rfl,hm⟩:=hm
      replace hm:=Ad hm;obtain⟨v11,l6495_0,rfl,hm⟩:=hm
      replace hm:=Ad hm;obtain⟨v12,l6495_1,rfl,hm⟩:=hm
      replace hm:=AC hm;obtain⟨rfl,hm⟩:=hm
      replace hm:=Ai hm;obtain⟨x6,rfl,hm⟩:=hm
      replace hm:=Be hm;obtain⟨b1,rfl,hm⟩:=hm
      refine .reg (eC 3 ((oo (pu 26 [(.agg ⟨[zI z3,.int .u32 z4]⟩),zI z1]) none fun v=>some (v,(hT 4 [(oC [zI z2,Sl.v 1 s1]),(oC [zI z3,.int .u32 z4]),oC q1])))) (AB h7) (eD ((oo (pu 27 [(.agg ⟨[zI x4,.int .u32 x5]⟩),(.agg ⟨[zI z3,.int .u32 z4]⟩)]) none fun v=>some (v,(hT 4 [(oC [zI z2,Sl.v 1 s1]),(oC [zI z3,.int .u32 z4]),oC q1])))) (AB h8) (eE))) ?_
      refine .ghs (fr 43 [(1,pt 1 0),(4,(pt 2 0)),(6,sc 3 0 1 n1 c1),(7,zI z1),(9,zB b1)]) (hT 4 [(oC [zI z2,Sl.v 1 s1]),(oC [zI z3,.int .u32 z4]),oC q1]) (.k [3] [false] [.tmp 1 false,.tmp 4 false,.tmp 6 false] [1,4,6,7,9] ⟨Cs h2,trivial⟩) ?_
      refine .then (.rK (.ghs (fr 43 [(1,pt 1 0),(4,(pt 2 0)),(6,sc 3 0 1 n1 c1),(7,zI z1),(37,zB b1)]) (hT 4 [(oC [zI z2,Sl.v 1 s1]),(oC [zI z3,.int .u32 z4]),oC q1]) (.k [3] [false] [.tmp 1 false,.tmp 4 false,.tmp 6 false] [1,4,6,7,37] ⟨Cs h2,trivial⟩) ?_))
      replace hm:=Ag hm;rcases hm with⟨h9,hm⟩ | ⟨h9,hm⟩
      ·refine .ifT b1 (by kernel_rfl) h9 ?_
       replace hm:=Ae hm;obtain⟨h10,hm⟩:=hm
       refine .reg (eC 3 (Oc 1 8 n1 c1 1 3 q1 [zI z1] [] (hT 5 [(oC [zI z2,Sl.v 1 s1]),(oC [zI z3,.int .u32 z4]),oC q1,(oC [zI z1])])) (I1 h10) (eE)) ?_
       replace hm:=Ae hm;obtain⟨h11,hm⟩:=hm
       exact⟨((n1+1),(d2 (n1+1)),z1,z2,s1,z3,z4,(Br (Am 0 q1) [zI z1])),hm,(.k [5] [false] [.tmp 1 false,.tmp 4 false,.tmp 6 false] [1,4,6,7] ⟨Cs h11,trivial⟩)⟩
      ·refine .ifF b1 (by kernel_rfl) h9 ?_
       refine .skip ?_
       exact⟨(n1,c1,z1,z2,s1,z3,z4,q1),hm,(.k [3] [false] [.tmp 1 false,.tmp 4 false,.tmp 6 false] [1,4,6,7] ⟨Cs h2,trivial⟩)⟩
   ·refine Eb (nt (AY z2 z1)) h3 ?_
    refine .exit ?_
    exact⟨(n1,c1,q1),hm,(.k [3] [false] [.tmp 6 false] [6] ⟨Cs h2,trivial⟩)⟩
def fB (pu:Af) (n:Nat):OV:=
 (some (.bool true))
def uJ (pu:Af) (n:Nat) (ih0:Sl→Sl→Int→OV) (s0 s1:Sl) (z1:Int):OV:=
 (bb (AY z1 (Int.ofNat (Sl.n s0))) (oo (EA z1) none fun k1=>(bb (an (Nat.blt k1 (Sl.n s0)) true) (oo (AL (Sl.cs s0) (k1*1)) none fun v0=>(oo (Bi .i64 v0) none fun x0=>(bb (an (Nat.blt k1 (Sl.n s1)) true) (oo (AL (Sl.cs s1) (k1*1)) none fun v1=>(oo (Bi .i64 v1) none fun x1=>(bb (nt (Bd x0 x1)) (some (.bool false)) (ih0 s0 s1 (Aj .i64 (Int.add (Int.ofNat k1) (1:Int))))))) none))) none)) (fB pu n))
def uK (pu:Af) (n w:Nat):Sl→Sl→Int→OV:=
 Nat.rec (motive:=fun _=>Sl→Sl→Int→OV) (fun _ _ _=>none) (fun _ ih0=>uJ pu n ih0) w
def m6_ (pu:Af) (n:Nat) (s0 s1:Sl):OV:=
 (bb (nt (Bd (Int.ofNat (Sl.n s0)) (Int.ofNat (Sl.n s1)))) (some (.bool false)) (uK pu n n s0 s1 (0:Int)))
def m6 (pu:Af) (n:Nat) (args:LV):OV:=
 (ll args none fun a0 args=>(ll args none fun a1 args=>(ll args (oo (Bj 1 a0) none fun s0=>(oo (Bj 1 a1) none fun s1=>(m6_ pu n s0 s1))) fun _ _=>none)))
theorem Af7 (pu:Af) (n:Nat) {v:Value} (hm:fB pu n=some v):BN tt (Bb tabs isP pu (inl pu)) 1 kT (fr 26 []) AO (Fin tt 1 [.tmp 4] v):=by
 unfold fB at hm
 refine .then (.rK (.ghs (fr 26 [(4,zB true)]) AO (.k0 [false] [] [4]) ?_))
 refine .ret ?_
 exact A7 (zB true) hm
theorem r6 {call:A8} (pu:Af) (n:Nat) (hcall:call=Bb tabs isP pu (inl pu)) {args:LV} {v:Value} (hm:m6 pu n args=some v) (_:∀ x∈args,closed2 x=true):args.length≤26∧BN tt call 1 Wl (Fr.made 26 args) (Ao tabs) (Fin tt 1 [.tmp 4] v):=by
 subst hcall
 unfold m6 at hm
 replace hm:=Ad hm;obtain⟨a0,args_0,rfl,hm⟩:=hm
 replace hm:=Ad hm;obtain⟨a1,args_1,rfl,hm⟩:=hm
 replace hm:=AC hm;obtain⟨rfl,hm⟩:=hm
 replace hm:=Al hm;obtain⟨s0,rfl,hm⟩:=hm
 replace hm:=Al hm;obtain⟨s1,rfl,hm⟩:=hm
 unfold m6_ at hm
 refine⟨by simp,?_⟩
 refine .same (F':=(fr 26 [(0,Sl.v 1 s0),(1,Sl.v 1 s1)])) (H':=AO) (by kernel_rfl) (by kernel_rfl) ?_
 refine .then (.rK (.ghs (fr 26 [(0,Sl.v 1 s0),(1,Sl.v 1 s1)]) AO (.k0 [false] [] [0,1]) ?_))
 refine .then (.then (.rK (.ghs (fr 26 [(0,Sl.v 1 s0),(1,Sl.v 1 s1),(10,(zB (nt (Bd (Int.ofNat (Sl.n s0)) (Int.ofNat (Sl.n s1))))))]) AO (.k0 [false] [] [0,1,10]) ?_)))
 replace hm:=Ag hm;rcases hm with⟨h0,hm⟩ | ⟨h0,hm⟩
 ·refine DT (nt (Bd (Int.ofNat (Sl.n s0)) (Int.ofNat (Sl.n s1)))) h0 ?_
  refine .then (.rK (.ghs (fr 26 [(4,zB false)]) AO (.k0 [false] [] [4]) ?_))
  refine .ret ?_
  exact A7 (zB false) hm
 ·refine Eb (nt (Bd (Int.ofNat (Sl.n s0)) (Int.ofNat (Sl.n s1)))) h0 ?_
  refine .skip (.ghs (fr 26 [(0,Sl.v 1 s0),(1,Sl.v 1 s1)]) AO (.k0 [false] [] [0,1]) ?_)
  refine .join (v:=v) (fun y:Unit=>((fr 26 []),AO)) (fun y=>fB pu n) ?_ ?_
  ·rintro _ hm
   exact Af7 pu n hm
  ·refine .then (.rK (.ghs (fr 26 [(0,Sl.v 1 s0),(1,Sl.v 1 s1),(5,(zI (0:Int)))]) AO (.k0 [false] [] [0,1,5]) ?_))
   refine .block (.loopM (v:=v) (fun y:Sl×Sl×Int=>((fr 26 [(0,(Sl.v 1 y.1)),(1,(Sl.v 1 y.2.1)),(5,(zI y.2.2))]),AO)) (fun w y=>uK pu n w y.1 y.2.1 y.2.2) n ⟨(s0,s1,(0:Int)),hm,(.k0 [false] [] [0,1,5])⟩ (fun _=>rfl) ?_)
   rintro w0 ⟨s2,s3,z1⟩ hm
   replace hm:uJ pu n (uK pu n w0) s2 s3 z1=some v:=hm
   unfold uJ at hm
   refine .then (.then (.rK (.ghs (fr 26 [(0,Sl.v 1 s2),(1,Sl.v 1 s3),(5,zI z1),(14,(zB (AY z1 (Int.ofNat (Sl.n s2)))))]) AO (.k0 [false] [] [0,1,5,14]) ?_)))
   replace hm:=Ag hm;rcases hm with⟨h1,hm⟩ | ⟨h1,hm⟩
   ·refine DT (AY z1 (Int.ofNat (Sl.n s2))) h1 ?_
    refine .skip (.ghs (fr 26 [(0,Sl.v 1 s2),(1,Sl.v 1 s3),(5,zI z1)]) AO (.k0 [false] [] [0,1,5]) ?_)
    refine .then (.block (.then ?_))
    replace hm:=Ab hm;obtain⟨k1,h2,hm⟩:=hm
    obtain rfl:=AR h2
    replace hm:=Ae hm;obtain⟨h3,hm⟩:=hm
    replace hm:=K8 hm;obtain⟨x0,h4,hm⟩:=hm
    replace hm:=Ae hm;obtain⟨h5,hm⟩:=hm
    replace hm:=K8 hm;obtain⟨x1,h6,hm⟩:=hm
    refine .reg (eC 2 (keep AO (bb (an (Nat.blt k1 (Sl.n s2)) true) (some (Cv (k1*1) (Sl.cs s2))) none)) (AX h3) (eD (keep AO (AL (Sl.cs s2) (k1*1))) (AZ h4) (eC 2 (keep AO (bb (an (Nat.blt k1 (Sl.n s3)) true) (some (Cv (k1*1) (Sl.cs s3))) none)) (AX h5) (eD (keep AO (AL (Sl.cs s3) (k1*1))) (AZ h6) (eE))))) ?_
    refine .ghs (fr 26 [(0,Sl.v 1 s2),(1,Sl.v 1 s3),(5,(zI (Int.ofNat k1))),(25,(zB (nt (Bd x0 x1))))]) AO (.k0 [false] [] [0,1,5,25]) ?_
    replace hm:=Ag hm;rcases hm with⟨h7,hm⟩ | ⟨h7,hm⟩
    ·refine DT (nt (Bd x0 x1)) h7 ?_
     refine .then (.rK (.ghs (fr 26 [(4,zB false)]) AO (.k0 [false] [] [4]) ?_))
     refine .ret ?_
     exact A7 (zB false) hm
    ·refine Eb (nt (Bd x0 x1)) h7 ?_
     refine .skip (.ghs (fr 26 [(0,Sl.v 1 s2),(1,Sl.v 1 s3),(5,(zI (Int.ofNat k1)))]) AO (.k0 [false] [] [0,1,5]) ?_)
     refine .rK ?_
     exact⟨(s2,s3,(Aj .i64 (Int.add (Int.ofNat k1) (1:Int)))),hm,(.k0 [false] [] [0,1,5])⟩
   ·refine Eb (AY z1 (Int.ofNat (Sl.n s2))) h1 ?_
    refine .exit ?_
    exact⟨(),hm,(.k0 [false] [] [])⟩
def fC (pu:Af) (n n0 c0:Nat) (q0:LV):OV:=
 (bb (Au Ah q0) (bb (an (Nat.ble (0+n0*1) (len q0)) (Au Ah (Aq (n0*1) (Am 0 q0)))) (some (Sl.v 1 (Sl.mk n0 0 (Aq (n0*1) (Am 0 q0))))) none) none)
def uL (pu:Af) (n:Nat) (ih0:Int→Int→Nat→Nat→Int→LV→OV) (z1 z2:Int) (n0 c0:Nat) (z3:Int) (q0:LV):OV:=
 (bb (Au Ah q0) (bb (AY z3 z1) (oo (pu 13 [.int .i64 z1,.int .u32 z2,(.int .i64 (1:Int)),.int .i64 z3]) none fun v0=>(oo (Bi .u32 v0) none fun x0=>(oo (pu 28 [(.int .u32 (Np .u32 z2 x0))]) none fun v1=>(oo (Bi .i64 v1) none fun x1=>(bb (GV 1 8 n0 c0 1 q0) (bb (Au Ah (Br (Am 0 q0) [.int .i64 x1])) (ih0 z1 z2 (n0+1) (2*(n0+1)+bb false 1 0) (Aj .i64 (Int.add z3 (1:Int))) (Br (Am 0 q0) [.int .i64 x1])) none) none))))) (fC pu n n0 c0 q0)) none)
def uM (pu:Af) (n w:Nat):Int→Int→Nat→Nat→Int→LV→OV:=
 Nat.rec (motive:=fun _=>Int→Int→Nat→Nat→Int→LV→OV) (fun _ _ _ _ _ _=>none) (fun _ ih0=>uL pu n ih0) w
def m7_ (pu:Af) (n:Nat) (x0 x1:Int):OV:=
 (uM pu n n x0 x1 0 0 (1:Int) ([]:LV))
def m7 (pu:Af) (n:Nat) (args:LV):OV:=
 (ll args none fun a0 args=>(ll args none fun a1 args=>(ll args (oo (Bi .i64 a0) none fun x0=>(oo (Bi .u32 a1) none fun x1=>(m7_ pu n x0 x1))) fun _ _=>none)))
theorem Af8 (pu:Af) (n n0 c0:Nat) (q0:LV) {v:Value} (hm:fC pu n n0 c0 q0=some v):BN tt (Bb tabs isP pu (inl pu)) 1 kU (fr 23 [(5,sc 1 0 1 n0 c0)]) (hT 2 [oC q0]) (Fin tt 1 [.tmp 4] v):=by
 unfold fC at hm
 refine .then (.rK ?_)
 replace hm:=Ae hm;obtain⟨h0,hm⟩:=hm
 refine .ghs (fr 23 [(4,sc 1 0 1 n0 c0)]) (hT 2 [oC q0]) (.k [1] [false] [.tmp 4 false] [4] ⟨Cs h0,trivial⟩) ?_
 replace hm:=Ae hm;obtain⟨h1,hm⟩:=hm
 refine .ghs (Fr.puts (fr 23 [(4,sc 1 0 1 n0 c0)]) [(4,(Sl.v 1 (Sl.mk n0 0 (Aq (n0*1) (Am 0 q0)))))]) (hT 2 [.dead]) (.freezeC 1 4 1 (an (Nat.ble (0+n0*1) (len q0)) (Au Ah (Aq (n0*1) (Am 0 q0)))) (F1:=(Fr.puts (fr 23 [(4,sc 1 0 1 n0 c0)]) [(4,(Sl.v 1 (Sl.mk n0 0 (Aq (n0*1) (Am 0 q0)))))])) (H1:=(hT 2 [.dead])) (by kernel_rfl) (by kernel_rfl) h1 (E9.id _ _)) ?_
 refine .ret ?_
 exact A7 (Sl.v 1 (Sl.mk n0 0 (Aq (n0*1) (Am 0 q0)))) hm
theorem r7 {call:A8} (pu:Af) (n:Nat) (hcall:call=Bb tabs isP pu (inl pu)) {args:LV} {v:Value} (hm:m7 pu n args=some v) (_:∀ x∈args,closed2 x=true):args.length≤23∧BN tt call 1 Wm (Fr.made 23 args) (Ao tabs) (Fin tt 1 [.tmp 4] v):=by
 subst hcall
 unfold m7 at hm
 replace hm:=Ad hm;obtain⟨a0,args_0,rfl,hm⟩:=hm
 replace hm:=Ad hm;obtain⟨a1,args_1,rfl,hm⟩:=hm
 replace hm:=AC hm;obtain⟨rfl,hm⟩:=hm
 replace hm:=Ai hm;obtain⟨x0,rfl,hm⟩:=hm
 replace hm:=Ai hm;obtain⟨x1,rfl,hm⟩:=hm
 unfold m7_ at hm
 refine⟨by simp,?_⟩
 refine .same (F':=(fr 23 [(0,zI x0),(1,.int .u32 x1)])) (H':=AO) (by kernel_rfl) (by kernel_rfl) ?_
 refine .then (.rK (.ghs (fr 23 [(0,zI x0),(1,.int .u32 x1)]) AO (.k0 [false] [] [0,1]) ?_))
 refine .then (.rK (.ghs (fr 23 [(0,zI x0),(1,.int .u32 x1),(5,(.slice none 0 0))]) AO (.k0 [false] [] [0,1,5]) ?_))
 refine .join (v:=v) (fun y:Nat×Nat×LV=>((fr 23 [(5,(sc 1 0 1 y.1 y.2.1))]),(hT 2 [(oC y.2.2)]))) (fun y=>fC pu n y.1 y.2.1 y.2.2) ?_ ?_
 ·rintro⟨n0,c0,q0⟩ hm
  exact Af8 pu n n0 c0 q0 hm
 ·refine .then (.rK (.ghs (fr 23 [(0,zI x0),(1,.int .u32 x1),(5,(.slice none 0 0)),(6,(zI (1:Int)))]) AO (.k0 [false] [] [0,1,5,6]) ?_))
  refine .block (.loopM (v:=v) (fun y:Int×Int×Nat×Nat×Int×LV=>((fr 23 [(0,(zI y.1)),(1,(.int .u32 y.2.1)),(5,(sc 1 0 1 y.2.2.1 y.2.2.2.1)),(6,(zI y.2.2.2.2.1))]),(hT 2 [(oC y.2.2.2.2.2)]))) (fun w y=>uM pu n w y.1 y.2.1 y.2.2.1 y.2.2.2.1 y.2.2.2.2.1 y.2.2.2.2.2) n ⟨(x0,x1,0,0,(1:Int),([]:LV)),hm,(.thaw 5 1 (by kernel_rfl) (.k0 [false] [.tmp 5 false] [0,1,5,6]))⟩ (fun _=>rfl) ?_)
  rintro w0 ⟨z1,z2,n1,c1,z3,q1⟩ hm
  replace hm:uL pu n (uM pu n w0) z1 z2 n1 c1 z3 q1=some v:=hm
  unfold uL at hm
  refine .then (.then (.rK ?_))
  replace hm:=Ae hm;obtain⟨h0,hm⟩:=hm
  refine .ghs (fr 23 [(0,zI z1),(1,.int .u32 z2),(5,sc 1 0 1 n1 c1),(6,zI z3),(9,(zB (AY z3 z1)))]) (hT 2 [oC q1]) (.k [1] [false] [.tmp 5 false] [0,1,5,6,9] ⟨Cs h0,trivial⟩) ?_
  replace hm:=Ag hm;rcases hm with⟨h1,hm⟩ | ⟨h1,hm⟩
  ·refine DT (AY z3 z1) h1 ?_
   refine .skip (.ghs (fr 23 [(0,zI z1),(1,.int .u32 z2),(5,sc 1 0 1 n1 c1),(6,zI z3)]) (hT 2 [oC q1]) (.k [1] [false] [.tmp 5 false] [0,1,5,6] ⟨Cs h0,trivial⟩) ?_)
   refine .then (.block ?_)
   replace hm:=K8 hm;obtain⟨x2,h2,hm⟩:=hm
   replace hm:=K8 hm;obtain⟨x3,h3,hm⟩:=hm
   replace hm:=Ae hm;obtain⟨h4,hm⟩:=hm
   refine .reg (eC 5 ((oo (pu 13 [zI z1,.int .u32 z2,(zI (1:Int)),zI z3]) none fun v=>some (v,(hT 2 [oC q1])))) (AB h2) (eC 1 ((oo (pu 28 [(.int .u32 (Np .u32 z2 x2))]) none fun v=>some (v,(hT 2 [oC q1])))) (AB h3) (eC 1 (Oc 1 8 n1 c1 1 1 q1 [zI x3] [] (hT 3 [oC q1,(oC [zI x3])])) (I1 h4) (eE)))) ?_
   replace hm:=Ae hm;obtain⟨h5,hm⟩:=hm
   refine .ghs (fr 23 [(0,zI z1),(1,.int .u32 z2),(5,(sc 1 0 1 (n1+1) (d2 (n1+1)))),(6,zI z3)]) (hT 2 [(oC (Br (Am 0 q1) [zI x3]))]) (.k [3] [false] [.tmp 5 false] [0,1,5,6] ⟨Cs h5,trivial⟩) ?_
   refine .rK ?_
   exact⟨(z1,z2,(n1+1),(d2 (n1+1)),(Aj .i64 (Int.add z3 (1:Int))),(Br (Am 0 q1) [zI x3])),hm,(.k [1] [false] [.tmp 5 false] [0,1,5,6] ⟨Cs h5,trivial⟩)⟩
  ·refine Eb (AY z3 z1) h1 ?_
   refine .exit ?_
   exact⟨(n1,c1,q1),hm,(.k [1] [false] [.tmp 5 false] [5] ⟨Cs h0,trivial⟩)⟩
end
end Go.RgQM
