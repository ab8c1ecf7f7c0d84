/- Made from wip. -/
import Derived.Test.YtflonlkiajhhjaaGreatDoorTpDMod1x

set_option maxRecDepth 100000
set_option maxHeartbeats 20000000
set_option linter.unusedVariables false
namespace Go.TpDM
open Go.Sp Go.TpD
noncomputable section
def QO (pu:Af) (n n0 c0:Nat) (q0:LV):OV:=
 (bb (Au Ah q0) (bb (an (Nat.ble (0+n0*1) (len q0)) (Au Ah (Aq (n0*1) (Am 0 q0)))) (some (.tuple ⟨[(Sl.v 1 (Sl.mk n0 0 (Aq (n0*1) (Am 0 q0)))),(.int .i64 (0:Int))]⟩)) none) none)
def QR (pu:Af) (n:Nat) (ih0:Sl→Nat→Nat→Nat→Nat→Nat→Nat→Int→Int→Int→Int→LV→LV→LV→OV) (s0:Sl) (n0 c0 n1 c1 n2 c2:Nat) (z0 z1 z2 z3:Int) (q0:LV) (q1:LV) (q2:LV):OV:=
 (bb (Au Ah q0) (bb (Au Ah q1) (bb (Au Ah q2) (ih0 s0 n0 c0 n1 c1 n2 c2 z0 z1 z2 (Aj .i64 (Int.add z3 (1:Int))) q0 q1 q2) none) none) none)
def Pe (pu:Af) (n:Nat) (ih0:Sl→Nat→Nat→Nat→Nat→Nat→Nat→Int→Int→Int→Int→LV→LV→LV→OV) (s0:Sl) (n0 c0 n1 c1 n2 c2:Nat) (z0 z1 z2 z3 z4:Int) (b0:Bool) (q0:LV) (q1:LV) (q2:LV):OV:=
 (bb b0 (bb (GV 1 8 n2 c2 1 q2) (bb (Au Ah q0) (bb (Au Ah q1) (bb (Au Ah (Br (Am 0 q2) [.int .i64 z2])) (QR pu n ih0 s0 n0 c0 n1 c1 (n2+1) (2*(n2+1)+bb false 1 0) z0 z1 z3 z4 q0 q1 (Br (Am 0 q2) [.int .i64 z2])) none) none) none) none) (bb (Au Ah q0) (bb (Au Ah q1) (bb (Au Ah q2) (oo (EA z2) none fun k1=>(bb (an (Nat.blt k1 n0) true) (oo (AL q0 (0+k1*1)) none fun v0=>(oo (Bi .i64 v0) none fun x0=>(QR pu n ih0 s0 n0 c0 n1 c1 n2 c2 (Aj .i64 (Int.sub z0 (1:Int))) x0 z3 z4 q0 q1 q2))) none)) none) none) none))
def Uq (pu:Af) (n:Nat) (ih0:Sl→Nat→Nat→Nat→Nat→Nat→Nat→Int→Int→Int→Int→LV→LV→LV→OV) (s0:Sl) (n0 c0 n1 c1 n2 c2:Nat) (z0 z1 z2:Int) (b0:Bool) (z3 z4:Int) (q0:LV) (q1:LV) (q2:LV):OV:=
 (bb b0 (bb (Au Ah q0) (bb (Au Ah q1) (bb (Au Ah q2) (Pe pu n ih0 s0 n0 c0 n1 c1 n2 c2 z0 z1 z2 z3 z4 true q0 q1 q2) none) none) none) (oo (EA z2) none fun k1=>(bb (an (Nat.blt k1 n1) true) (oo (AL q1 (0+k1*1)) none fun v0=>(oo (Bi .i64 v0) none fun x0=>(bb (nt (Bd x0 z0)) (bb (Au Ah q0) (bb (Au Ah q1) (bb (Au Ah q2) (Pe pu n ih0 s0 n0 c0 n1 c1 n2 c2 z0 z1 (Int.ofNat k1) z3 z4 true q0 q1 q2) none) none) none) (bb (an (Nat.blt k1 n0) true) (oo (AL q0 (0+k1*1)) none fun v1=>(oo (Bi .i64 v1) none fun x1=>(bb (Au Ah q0) (bb (Au Ah q1) (bb (Au Ah q2) (Pe pu n ih0 s0 n0 c0 n1 c1 n2 c2 z0 z1 (Int.ofNat k1) z3 z4 (AY x1 z1) q0 q1 q2) none) none) none))) none)))) none)))
def Uw (pu:Af) (n:Nat) (ih0:Sl→Nat→Nat→Nat→Nat→Nat→Nat→Int→Int→Int→Int→LV→LV→LV→OV) (ih1:Sl→Nat→Nat→Nat→Nat→Nat→Nat→Int→Int→Int→Bool→Int→Int→Int→LV→LV→LV→OV) (s0:Sl) (n0 c0 n1 c1 n2 c2:Nat) (z0 z1 z2:Int) (b0:Bool) (z3 z4 z5:Int) (q0:LV) (q1:LV) (q2:LV):OV:=
 (bb (Au Ah q0) (bb (Au Ah q1) (bb (Au Ah q2) (bb (AY z3 (Int.ofNat (Sl.n s0))) (bb b0 (ih1 s0 n0 c0 n1 c1 n2 c2 z0 z1 z2 true (Aj .i64 (Int.add z3 (1:Int))) z4 z5 q0 q1 q2) (oo (EA z3) none fun k1=>(bb (an (Nat.blt k1 n1) true) (oo (AL q1 (0+k1*1)) none fun v0=>(oo (Bi .i64 v0) none fun x0=>(bb (Bd x0 z0) (bb (an (Nat.blt k1 n0) true) (oo (AL q0 (0+k1*1)) none fun v1=>(oo (Bi .i64 v1) none fun x1=>(ih1 s0 n0 c0 n1 c1 n2 c2 z0 z1 z2 (AY z1 x1) (Aj .i64 (Int.add (Int.ofNat k1) (1:Int))) z4 z5 q0 q1 q2))) none) (ih1 s0 n0 c0 n1 c1 n2 c2 z0 z1 z2 false (Aj .i64 (Int.add (Int.ofNat k1) (1:Int))) z4 z5 q0 q1 q2)))) none))) (Uq pu n ih0 s0 n0 c0 n1 c1 n2 c2 z0 z1 z2 b0 z4 z5 q0 q1 q2)) none) none) none)
def Ux (pu:Af) (n:Nat) (ih0:Sl→Nat→Nat→Nat→Nat→Nat→Nat→Int→Int→Int→Int→LV→LV→LV→OV) (w:Nat):Sl→Nat→Nat→Nat→Nat→Nat→Nat→Int→Int→Int→Bool→Int→Int→Int→LV→LV→LV→OV:=
 Nat.rec (motive:=fun _=>Sl→Nat→Nat→Nat→Nat→Nat→Nat→Int→Int→Int→Bool→Int→Int→Int→LV→LV→LV→OV) (fun _ _ _ _ _ _ _ _ _ _ _ _ _ _ _ _ _=>none) (fun _ ih1=>Uw pu n ih0 ih1) w
def Uy (pu:Af) (n:Nat) (ih0:Sl→Nat→Nat→Nat→Nat→Nat→Nat→Int→Int→Int→Int→LV→LV→LV→OV) (s0:Sl) (n0 c0 n1 c1 n2 c2:Nat) (z0 z1 z2 z3:Int) (q0:LV) (q1:LV) (q2:LV):OV:=
 (bb (Au Ah q0) (bb (Au Ah q1) (bb (Au Ah q2) (bb (AY z3 z2) (Ux pu n ih0 n s0 n0 c0 n1 c1 n2 c2 z0 z1 z3 (Bd z0 (0:Int)) (Aj .i64 (Int.add z3 (1:Int))) z2 z3 q0 q1 q2) (QO pu n n2 c2 q2)) none) none) none)
def Ir (pu:Af) (n w:Nat):Sl→Nat→Nat→Nat→Nat→Nat→Nat→Int→Int→Int→Int→LV→LV→LV→OV:=
 Nat.rec (motive:=fun _=>Sl→Nat→Nat→Nat→Nat→Nat→Nat→Int→Int→Int→Int→LV→LV→LV→OV) (fun _ _ _ _ _ _ _ _ _ _ _ _ _ _=>none) (fun _ ih0=>Uy pu n ih0) w
def QS (pu:Af) (n:Nat) (s0:Sl) (n0 c0 n1 c1:Nat) (q0:LV) (q1:LV):OV:=
 (bb (Au Ah q0) (bb (Au Ah q1) (bb (Dp (Nat.ble 2 c1) (MQ q1)) (bb (Au Ah q1) (oo (pu 10460 [(.slice (some ⟨2,0,some 1⟩) n1 c1),(.agg ⟨q1⟩)]) none fun v0=>(oo (CQ v0) none fun l0=>(ll l0 none fun v1 l0=>(ll l0 none fun v2 l0=>(ll l0 (oo (Bi .i64 v1) none fun x0=>(oo (Bt v2) none fun q2=>(bb (Au Ah q2) (bb (Au Ah q2) (Ir pu n n s0 n0 c0 n1 c1 0 0 x0 (-1:Int) (Int.ofNat (Sl.n s0)) (0:Int) q0 q2 ([]:LV)) none) none))) fun _ _=>none))))) none) none) none) none)
def Uz (pu:Af) (n:Nat) (ih0:Sl→Nat→Nat→Nat→Nat→Int→LV→LV→OV) (s0:Sl) (n0 c0 n1 c1:Nat) (z0:Int) (q0:LV) (q1:LV):OV:=
 (bb (Au Ah q0) (bb (Au Ah q1) (ih0 s0 n0 c0 n1 c1 (Aj .i64 (Int.sub z0 (1:Int))) q0 q1) none) none)
def OC (pu:Af) (n:Nat) (ih0:Sl→Nat→Nat→Nat→Nat→Int→LV→LV→OV) (ih1:Sl→Nat→Nat→Nat→Nat→Int→Int→LV→LV→OV) (s0:Sl) (n0 c0 n1 c1:Nat) (z0 z1:Int) (q0:LV) (q1:LV):OV:=
 (bb (Au Ah q0) (bb (Au Ah q1) (ih1 s0 n0 c0 n1 c1 z0 (Aj .i64 (Int.add z1 (1:Int))) q0 q1) none) none)
def Pt (pu:Af) (n:Nat) (ih0:Sl→Nat→Nat→Nat→Nat→Int→LV→LV→OV) (ih1:Sl→Nat→Nat→Nat→Nat→Int→Int→LV→LV→OV) (s0:Sl) (n0 c0 n1 c1:Nat) (z0 z1:Int) (q0:LV) (q1:LV):OV:=
 (bb (Au Ah q0) (bb (Au Ah q1) (bb (AY z1 (Int.ofNat (Sl.n s0))) (oo (EA z0) none fun k1=>(bb (an (Nat.blt k1 n0) true) (oo (AL q0 (0+k1*1)) none fun v0=>(oo (Bi .i64 v0) none fun x0=>(oo (EA z1) none fun k2=>(bb (an (Nat.blt k2 n0) true) (oo (AL q0 (0+k2*1)) none fun v1=>(oo (Bi .i64 v1) none fun x1=>(bb (AY x0 x1) (bb (an (Nat.blt k1 n1) true) (oo (AL q1 (0+k1*1)) none fun v2=>(oo (Bi .i64 v2) none fun x2=>(bb (an (Nat.blt k2 n1) true) (oo (AL q1 (0+k2*1)) none fun v3=>(oo (Bi .i64 v3) none fun x3=>(bb (an (Nat.blt k1 n1) true) (bb (an (Nat.ble ((0+k1*1)+1) (len q1)) true) (bb (Au Ah (BM ([(.int .i64 (bb (AY x2 (Aj .i64 (Int.add (1:Int) x3))) (Aj .i64 (Int.add (1:Int) x3)) x2))]:LV) (0+k1*1) q1)) (OC pu n ih0 ih1 s0 n0 c0 n1 c1 (Int.ofNat k1) (Int.ofNat k2) q0 (BM ([(.int .i64 (bb (AY x2 (Aj .i64 (Int.add (1:Int) x3))) (Aj .i64 (Int.add (1:Int) x3)) x2))]:LV) (0+k1*1) q1)) none) none) none))) none))) none) (OC pu n ih0 ih1 s0 n0 c0 n1 c1 (Int.ofNat k1) (Int.ofNat k2) q0 q1)))) none)))) none)) (Uz pu n ih0 s0 n0 c0 n1 c1 z0 q0 q1)) none) none)
def OD (pu:Af) (n:Nat) (ih0:Sl→Nat→Nat→Nat→Nat→Int→LV→LV→OV) (w:Nat):Sl→Nat→Nat→Nat→Nat→Int→Int→LV→LV→OV:=
 Nat.rec (motive:=fun _=>Sl→Nat→Nat→Nat→Nat→Int→Int→LV→LV→OV) (fun _ _ _ _ _ _ _ _ _=>none) (fun _ ih1=>Pt pu n ih0 ih1) w
def UA (pu:Af) (n:Nat) (ih0:Sl→Nat→Nat→Nat→Nat→Int→LV→LV→OV) (s0:Sl) (n0 c0 n1 c1:Nat) (z0:Int) (q0:LV) (q1:LV):OV:=
 (bb (Au Ah q0) (bb (Au Ah q1) (bb (nt (AY z0 (0:Int))) (oo (EA z0) none fun k1=>(bb (an (Nat.blt k1 n1) true) (bb (an (Nat.ble ((0+k1*1)+1) (len q1)) true) (bb (Au Ah (BM ([(.int .i64 (1:Int))]:LV) (0+k1*1) q1)) (OD pu n ih0 n s0 n0 c0 n1 c1 (Int.ofNat k1) (Aj .i64 (Int.add (Int.ofNat k1) (1:Int))) q0 (BM ([(.int .i64 (1:Int))]:LV) (0+k1*1) q1)) none) none) none)) (QS pu n s0 n0 c0 n1 c1 q0 q1)) none) none)
def Iy (pu:Af) (n w:Nat):Sl→Nat→Nat→Nat→Nat→Int→LV→LV→OV:=
 Nat.rec (motive:=fun _=>Sl→Nat→Nat→Nat→Nat→Int→LV→LV→OV) (fun _ _ _ _ _ _ _ _=>none) (fun _ ih0=>UA pu n ih0) w
def RO (pu:Af) (n:Nat) (s0:Sl) (n0 c0:Nat) (q0:LV):OV:=
 (bb (an (Nat.ble (Sl.n s0) (Sl.n s0)) (an (Nat.ble ((Sl.n s0)*8) 1099511627776) (an (Nat.ble (Sl.n s0) 1099511627776) true))) (bb (Au Ah q0) (bb (Au Ah (AF ([(.int .i64 (0:Int))]:LV) (Sl.n s0))) (Iy pu n n s0 n0 c0 (Sl.n s0) (2*(Sl.n s0)+bb true 1 0) (Aj .i64 (Int.sub (Int.ofNat (Sl.n s0)) (1:Int))) q0 (AF ([(.int .i64 (0:Int))]:LV) (Sl.n s0))) none) none) none)
def PI (pu:Af) (n:Nat) (ih0:Sl→Nat→Nat→Sl→Int→Int→LV→OV) (s0:Sl) (n0 c0:Nat) (s1:Sl) (z0 z1:Int) (q0:LV):OV:=
 (bb (Au Ah q0) (bb (AY z1 z0) (oo (EA z1) none fun k1=>(bb (an (Nat.blt k1 (Sl.n s1)) true) (oo (AL (Sl.cs s1) (k1*1)) none fun v0=>(oo (Bi .i64 v0) none fun x0=>(oo (EA x0) none fun k2=>(bb (an (Nat.blt k2 n0) true) (bb (an (Nat.ble ((0+k2*1)+1) (len q0)) true) (bb (Au Ah (BM ([(.int .i64 (Int.ofNat k1))]:LV) (0+k2*1) q0)) (ih0 s0 n0 c0 s1 z0 (Aj .i64 (Int.add (Int.ofNat k1) (1:Int))) (BM ([(.int .i64 (Int.ofNat k1))]:LV) (0+k2*1) q0)) none) none) none)))) none)) (RO pu n s0 n0 c0 q0)) none)
def PK (pu:Af) (n w:Nat):Sl→Nat→Nat→Sl→Int→Int→LV→OV:=
 Nat.rec (motive:=fun _=>Sl→Nat→Nat→Sl→Int→Int→LV→OV) (fun _ _ _ _ _ _ _=>none) (fun _ ih0=>PI pu n ih0) w
def Abu (pu:Af) (n:Nat) (s0:Sl):OV:=
 (oo (pu 45 [Sl.v 1 s0]) none fun v0=>(oo (Bi .i64 v0) none fun x0=>(bb (nt (Bd x0 (0:Int))) (some (.tuple ⟨[(Sl.v 1 (Sl.mk 0 2 [])),.int .i64 x0]⟩)) (bb (an (Nat.ble (Sl.n s0) (Sl.n s0)) (an (Nat.ble ((Sl.n s0)*8) 1099511627776) (an (Nat.ble (Sl.n s0) 1099511627776) true))) (bb (Au Ah (AF ([(.int .i64 (0:Int))]:LV) (Sl.n s0))) (PK pu n n s0 (Sl.n s0) (2*(Sl.n s0)+bb true 1 0) s0 (Int.ofNat (Sl.n s0)) (0:Int) (AF ([(.int .i64 (0:Int))]:LV) (Sl.n s0))) none) none))))
def m11 (pu:Af) (n:Nat) (args:LV):OV:=
 (ll args none fun a0 args=>(ll args (oo (Bj 1 a0) none fun s0=>(Abu pu n s0)) fun _ _=>none))
theorem Abv (pu:Af) (n n0 c0:Nat) (q0:LV) {v:Value} (hm:QO pu n n0 c0 q0=some v):BN tt (Bb tabs isP pu (inl pu)) 2 SB (fr 143 [(11,sc 2 0 1 n0 c0)]) (hT 3 [(.cells Ay true false []),oC q0]) (Fin tt 2 [.tmp 2,.tmp 3] v):=by
 unfold QO at hm
 refine .then (.rK ?_)
 replace hm:=Ae hm;obtain⟨h0,hm⟩:=hm
 refine .ghs (fr 143 [(2,sc 2 0 1 n0 c0),(3,(zI (0:Int)))]) (hT 3 [(.cells Ay true false []),oC q0]) (.k [2] [false,false] [.tmp 2 false] [2,3] ⟨AO h0,trivial⟩) ?_
 replace hm:=Ae hm;obtain⟨h1,hm⟩:=hm
 refine .ghs (Fr.puts (fr 143 [(2,sc 2 0 1 n0 c0),(3,(zI (0:Int)))]) [(2,(Sl.v 1 (Sl.mk n0 0 (Aq (n0*1) (Am 0 q0)))))]) (hT 3 [(.cells Ay true false []),.dead]) (.freezeC 2 2 1 (an (Nat.ble (0+n0*1) (len q0)) (Au Ah (Aq (n0*1) (Am 0 q0)))) (F1:=(Fr.puts (fr 143 [(2,sc 2 0 1 n0 c0),(3,(zI (0:Int)))]) [(2,(Sl.v 1 (Sl.mk n0 0 (Aq (n0*1) (Am 0 q0)))))])) (H1:=(hT 3 [(.cells Ay true false []),.dead])) (by kernel_rfl) (by kernel_rfl) h1 (E9.id _ _)) ?_
 refine .ret ?_
 exact BB (.tuple ⟨[(Sl.v 1 (Sl.mk n0 0 (Aq (n0*1) (Am 0 q0)))),(zI (0:Int))]⟩) hm
theorem Abw (pu:Af) (n:Nat) (s0:Sl) (n0 c0 n1 c1:Nat) (q0:LV) (q1:LV) {v:Value} (hm:QS pu n s0 n0 c0 n1 c1 q0 q1=some v):BN tt (Bb tabs isP pu (inl pu)) 2 SC (fr 143 [(0,Sl.v 1 s0),(5,sc 2 0 1 n0 c0),(8,sc 3 0 1 n1 c1)]) (hT 4 [(.cells Ay true false []),oC q0,oC q1]) (Fin tt 2 [.tmp 2,.tmp 3] v):=by
 unfold QS at hm
 refine .then (.rK ?_)
 replace hm:=Ae hm;obtain⟨h0,hm⟩:=hm
 replace hm:=Ae hm;obtain⟨h1,hm⟩:=hm
 refine .ghs (fr 143 [(0,Sl.v 1 s0),(5,sc 2 0 1 n0 c0),(8,sc 3 0 1 n1 c1),(11,(.slice none 0 0))]) (hT 4 [(.cells Ay true false []),oC q0,oC q1]) (.k [2,3] [false,false] [.tmp 5 false,.tmp 8 false] [0,5,8,11] ⟨AO h0,AO h1,trivial⟩) ?_
 refine .then ?_
 replace hm:=Ae hm;obtain⟨h2,hm⟩:=hm
 replace hm:=Ae hm;obtain⟨h3,hm⟩:=hm
 replace hm:=Ab hm;obtain⟨v0,h4,hm⟩:=hm
 replace hm:=Ch hm;obtain⟨l0,rfl,hm⟩:=hm
 replace hm:=Ad hm;obtain⟨v1,l2836_0,rfl,hm⟩:=hm
 replace hm:=Ad hm;obtain⟨v2,l2836_1,rfl,hm⟩:=hm
 replace hm:=AC hm;obtain⟨rfl,hm⟩:=hm
 replace hm:=Ai hm;obtain⟨x0,rfl,hm⟩:=hm
 replace hm:=BG hm;obtain⟨q2,rfl,hm⟩:=hm
 replace hm:=Ae hm;obtain⟨h5,hm⟩:=hm
 refine .reg (eC 1 (Gs tabs [[none]] 1 [.tmp 0 false] [false] (pu 10460) [sc 3 0 1 n1 c1] (hT 4 [(.cells Ay true false []),oC q0,oC q1])) (HV (as:=[sc 3 0 1 n1 c1]) (H1:=(hT 4 [(.cells Ay true false []),oC q0,oC q1])) (G9 (O6 Pp) KJ) (Ha (H2:=(hT 4 [(.cells Ay true false []),oC q0,oC q2])) (v:=(zI x0)) (v':=(zI x0)) [some 0,some 1,some 3] [(false,some 3)] [oC q1] [sc 2 0 1 n1 c1] [(.agg ⟨q2⟩)] [oC q2] [some 0,some 1,none,some 2] [(false,oC q2)] [oC q2] (sF (by kernel_rfl) (zU h2 rfl)) (Dn (WB (anc:=[]) h3) Eb) (Eq.trans (by kernel_rfl) h4) (Dn rfl Eb) (Dn (WC h5) Eb))) (eE)) ?_
 replace hm:=Ae hm;obtain⟨h6,hm⟩:=hm
 refine .ghs (fr 143 [(0,Sl.v 1 s0),(5,sc 2 0 1 n0 c0),(8,sc 3 0 1 n1 c1),(11,(.slice none 0 0)),(12,zI x0),(13,(zI (-1:Int)))]) (hT 4 [(.cells Ay true false []),oC q0,oC q2]) (.k [2,3] [false,false] [.tmp 5 false,.tmp 8 false] [0,5,8,11,12,13] ⟨AO h0,AO h6,trivial⟩) ?_
 refine .join (v:=v) (fun y:Nat×Nat×LV=>((fr 143 [(11,(sc 2 0 1 y.1 y.2.1))]),(hT 3 [(.cells Ay true false []),(oC y.2.2)]))) (fun y=>QO pu n y.1 y.2.1 y.2.2) ?_ ?_
 ·rintro⟨n2,c2,q3⟩ hm
  exact Abv pu n n2 c2 q3 hm
 ·refine .then (.rK (.ghs (fr 143 [(0,Sl.v 1 s0),(5,sc 2 0 1 n0 c0),(8,sc 3 0 1 n1 c1),(11,(.slice none 0 0)),(12,zI x0),(13,(zI (-1:Int))),(83,(zI (Int.ofNat (Sl.n s0)))),(84,(zI (0:Int)))]) (hT 4 [(.cells Ay true false []),oC q0,oC q2]) (.k [2,3] [false,false] [.tmp 5 false,.tmp 8 false] [0,5,8,11,12,13,83,84] ⟨AO h0,AO h6,trivial⟩) ?_))
  refine .block (.loopM (v:=v) (fun y:Sl×Nat×Nat×Nat×Nat×Nat×Nat×Int×Int×Int×Int×LV×LV×LV=>((fr 143 [(0,(Sl.v 1 y.1)),(5,(sc 2 0 1 y.2.1 y.2.2.1)),(8,(sc 3 0 1 y.2.2.2.1 y.2.2.2.2.1)),(11,(sc 4 0 1 y.2.2.2.2.2.1 y.2.2.2.2.2.2.1)),(12,(zI y.2.2.2.2.2.2.2.1)),(13,(zI y.2.2.2.2.2.2.2.2.1)),(83,(zI y.2.2.2.2.2.2.2.2.2.1)),(84,(zI y.2.2.2.2.2.2.2.2.2.2.1))]),(hT 5 [(.cells Ay true false []),(oC y.2.2.2.2.2.2.2.2.2.2.2.1),(oC y.2.2.2.2.2.2.2.2.2.2.2.2.1),(oC y.2.2.2.2.2.2.2.2.2.2.2.2.2)]))) (fun w y=>Ir pu n w y.1 y.2.1 y.2.2.1 y.2.2.2.1 y.2.2.2.2.1 y.2.2.2.2.2.1 y.2.2.2.2.2.2.1 y.2.2.2.2.2.2.2.1 y.2.2.2.2.2.2.2.2.1 y.2.2.2.2.2.2.2.2.2.1 y.2.2.2.2.2.2.2.2.2.2.1 y.2.2.2.2.2.2.2.2.2.2.2.1 y.2.2.2.2.2.2.2.2.2.2.2.2.1 y.2.2.2.2.2.2.2.2.2.2.2.2.2) n ⟨(s0,n0,c0,n1,c1,0,0,x0,(-1:Int),(Int.ofNat (Sl.n s0)),(0:Int),q0,q2,([]:LV)),hm,(.thaw 11 1 (by kernel_rfl) (.k [2,3] [false,false] [.tmp 5 false,.tmp 8 false,.tmp 11 false] [0,5,8,11,12,13,83,84] ⟨AO h0,AO h6,trivial⟩))⟩ (fun _=>rfl) ?_)
  rintro w0 ⟨s1,n3,c4,n4,c5,n5,c6,z0,z1,z2,z3,q4,q5,q6⟩ hm
  replace hm:Uy pu n (Ir pu n w0) s1 n3 c4 n4 c5 n5 c6 z0 z1 z2 z3 q4 q5 q6=some v:=hm
  unfold Uy at hm
  refine .then (.rK ?_)
  replace hm:=Ae hm;obtain⟨h7,hm⟩:=hm
  replace hm:=Ae hm;obtain⟨h8,hm⟩:=hm
  replace hm:=Ae hm;obtain⟨h9,hm⟩:=hm
  refine .ghs (fr 143 [(0,Sl.v 1 s1),(5,sc 2 0 1 n3 c4),(8,sc 3 0 1 n4 c5),(11,sc 4 0 1 n5 c6),(12,zI z0),(13,zI z1),(83,zI z2),(84,zI z3),(85,(zB (AY z3 z2)))]) (hT 5 [(.cells Ay true false []),oC q4,oC q5,oC q6]) (.k [2,3,4] [false,false] [.tmp 5 false,.tmp 8 false,.tmp 11 false] [0,5,8,11,12,13,83,84,85] ⟨AO h7,AO h8,AO h9,trivial⟩) ?_
  refine .then ?_
  replace hm:=Ag hm;rcases hm with⟨h10,hm⟩ | ⟨h10,hm⟩
  ·refine Dr (AY z3 z2) h10 ?_
   refine .skip (.ghs (fr 143 [(0,Sl.v 1 s1),(5,sc 2 0 1 n3 c4),(8,sc 3 0 1 n4 c5),(11,sc 4 0 1 n5 c6),(12,zI z0),(13,zI z1),(83,zI z2),(84,zI z3)]) (hT 5 [(.cells Ay true false []),oC q4,oC q5,oC q6]) (.k [2,3,4] [false,false] [.tmp 5 false,.tmp 8 false,.tmp 11 false] [0,5,8,11,12,13,83,84] ⟨AO h7,AO h8,AO h9,trivial⟩) ?_)
   refine .join (v:=v) (fun y:Sl×Nat×Nat×Nat×Nat×Nat×Nat×Int×Int×Int×Int×LV×LV×LV=>((fr 143 [(0,(Sl.v 1 y.1)),(5,(sc 2 0 1 y.2.1 y.2.2.1)),(8,(sc 3 0 1 y.2.2.2.1 y.2.2.2.2.1)),(11,(sc 4 0 1 y.2.2.2.2.2.1 y.2.2.2.2.2.2.1)),(12,(zI y.2.2.2.2.2.2.2.1)),(13,(zI y.2.2.2.2.2.2.2.2.1)),(83,(zI y.2.2.2.2.2.2.2.2.2.1)),(84,(zI y.2.2.2.2.2.2.2.2.2.2.1))]),(hT 5 [(.cells Ay true false []),(oC y.2.2.2.2.2.2.2.2.2.2.2.1),(oC y.2.2.2.2.2.2.2.2.2.2.2.2.1),(oC y.2.2.2.2.2.2.2.2.2.2.2.2.2)]))) (fun y=>QR pu n (Ir pu n w0) y.1 y.2.1 y.2.2.1 y.2.2.2.1 y.2.2.2.2.1 y.2.2.2.2.2.1 y.2.2.2.2.2.2.1 y.2.2.2.2.2.2.2.1 y.2.2.2.2.2.2.2.2.1 y.2.2.2.2.2.2.2.2.2.1 y.2.2.2.2.2.2.2.2.2.2.1 y.2.2.2.2.2.2.2.2.2.2.2.1 y.2.2.2.2.2.2.2.2.2.2.2.2.1 y.2.2.2.2.2.2.2.2.2.2.2.2.2) ?_ ?_
   ·rintro⟨s2,n6,c7,n7,c8,n8,c9,z4,z5,z6,z7,q7,q8,q9⟩ hm
    unfold QR at hm
    refine .rK ?_
    replace hm:=Ae hm;obtain⟨h11,hm⟩:=hm
    replace hm:=Ae hm;obtain⟨h12,hm⟩:=hm
    replace hm:=Ae hm;obtain⟨h13,hm⟩:=hm
    exact⟨(s2,n6,c7,n7,c8,n8,c9,z4,z5,z6,(Aj .i64 (Int.add z7 (1:Int))),q7,q8,q9),hm,(.k [2,3,4] [false,false] [.tmp 5 false,.tmp 8 false,.tmp 11 false] [0,5,8,11,12,13,83,84] ⟨AO h11,AO h12,AO h13,trivial⟩)⟩
   ·refine .block (.then (.rK (.ghs (fr 143 [(0,Sl.v 1 s1),(5,sc 2 0 1 n3 c4),(8,sc 3 0 1 n4 c5),(11,sc 4 0 1 n5 c6),(12,zI z0),(13,zI z1),(14,zI z3),(83,zI z2),(84,zI z3)]) (hT 5 [(.cells Ay true false []),oC q4,oC q5,oC q6]) (.k [2,3,4] [false,false] [.tmp 5 false,.tmp 8 false,.tmp 11 false] [0,5,8,11,12,13,14,83,84] ⟨AO h7,AO h8,AO h9,trivial⟩) ?_)))
    refine .then (.rK (.ghs (fr 143 [(0,Sl.v 1 s1),(5,sc 2 0 1 n3 c4),(8,sc 3 0 1 n4 c5),(11,sc 4 0 1 n5 c6),(12,zI z0),(13,zI z1),(14,zI z3),(15,(zB (Bd z0 (0:Int)))),(83,zI z2),(84,zI z3)]) (hT 5 [(.cells Ay true false []),oC q4,oC q5,oC q6]) (.k [2,3,4] [false,false] [.tmp 5 false,.tmp 8 false,.tmp 11 false] [0,5,8,11,12,13,14,15,83,84] ⟨AO h7,AO h8,AO h9,trivial⟩) ?_))
    refine .join (v:=v) (fun y:Sl×Nat×Nat×Nat×Nat×Nat×Nat×Int×Int×Int×Bool×Int×Int×LV×LV×LV=>((fr 143 [(0,(Sl.v 1 y.1)),(5,(sc 2 0 1 y.2.1 y.2.2.1)),(8,(sc 3 0 1 y.2.2.2.1 y.2.2.2.2.1)),(11,(sc 4 0 1 y.2.2.2.2.2.1 y.2.2.2.2.2.2.1)),(12,(zI y.2.2.2.2.2.2.2.1)),(13,(zI y.2.2.2.2.2.2.2.2.1)),(14,(zI y.2.2.2.2.2.2.2.2.2.1)),(15,(zB y.2.2.2.2.2.2.2.2.2.2.1)),(83,(zI y.2.2.2.2.2.2.2.2.2.2.2.1)),(84,(zI y.2.2.2.2.2.2.2.2.2.2.2.2.1))]),(hT 5 [(.cells Ay true false []),(oC y.2.2.2.2.2.2.2.2.2.2.2.2.2.1),(oC y.2.2.2.2.2.2.2.2.2.2.2.2.2.2.1),(oC y.2.2.2.2.2.2.2.2.2.2.2.2.2.2.2)]))) (fun y=>Uq pu n (Ir pu n w0) y.1 y.2.1 y.2.2.1 y.2.2.2.1 y.2.2.2.2.1 y.2.2.2.2.2.1 y.2.2.2.2.2.2.1 y.2.2.2.2.2.2.2.1 y.2.2.2.2.2.2.2.2.1 y.2.2.2.2.2.2.2.2.2.1 y.2.2.2.2.2.2.2.2.2.2.1 y.2.2.2.2.2.2.2.2.2.2.2.1 y.2.2.2.2.2.2.2.2.2.2.2.2.1 y.2.2.2.2.2.2.2.2.2.2.2.2.2.1 y.2.2.2.2.2.2.2.2.2.2.2.2.2.2.1 y.2.2.2.2.2.2.2.2.2.2.2.2.2.2.2) ?_ ?_
    ·rintro⟨s3,n9,c16,n10,c17,n11,c18,z8,z9,z10,b0,z11,z12,q10,q11,q12⟩ hm
     unfold Uq at hm
     refine .then (.join (v:=v) (fun y:Sl×Nat×Nat×Nat×Nat×Nat×Nat×Int×Int×Int×Int×Int×Bool×LV×LV×LV=>((fr 143 [(0,(Sl.v 1 y.1)),(5,(sc 2 0 1 y.2.1 y.2.2.1)),(8,(sc 3 0 1 y.2.2.2.1 y.2.2.2.2.1)),(11,(sc 4 0 1 y.2.2.2.2.2.1 y.2.2.2.2.2.2.1)),(12,(zI y.2.2.2.2.2.2.2.1)),(13,(zI y.2.2.2.2.2.2.2.2.1)),(14,(zI y.2.2.2.2.2.2.2.2.2.1)),(83,(zI y.2.2.2.2.2.2.2.2.2.2.1)),(84,(zI y.2.2.2.2.2.2.2.2.2.2.2.1)),(130,(zB y.2.2.2.2.2.2.2.2.2.2.2.2.1))]),(hT 5 [(.cells Ay true false []),(oC y.2.2.2.2.2.2.2.2.2.2.2.2.2.1),(oC y.2.2.2.2.2.2.2.2.2.2.2.2.2.2.1),(oC y.2.2.2.2.2.2.2.2.2.2.2.2.2.2.2)]))) (fun y=>Pe pu n (Ir pu n w0) y.1 y.2.1 y.2.2.1 y.2.2.2.1 y.2.2.2.2.1 y.2.2.2.2.2.1 y.2.2.2.2.2.2.1 y.2.2.2.2.2.2.2.1 y.2.2.2.2.2.2.2.2.1 y.2.2.2.2.2.2.2.2.2.1 y.2.2.2.2.2.2.2.2.2.2.1 y.2.2.2.2.2.2.2.2.2.2.2.1 y.2.2.2.2.2.2.2.2.2.2.2.2.1 y.2.2.2.2.2.2.2.2.2.2.2.2.2.1 y.2.2.2.2.2.2.2.2.2.2.2.2.2.2.1 y.2.2.2.2.2.2.2.2.2.2.2.2.2.2.2) ?_ ?_)
     ·rintro⟨s4,n12,c19,n13,c20,n14,c21,z13,z14,z15,z16,z17,b1,q13,q14,q15⟩ hm
      unfold Pe at hm
      replace hm:=Ag hm;rcases hm with⟨h14,hm⟩ | ⟨h14,hm⟩
      ·refine .ifT b1 (by kernel_rfl) h14 ?_
       refine .then ?_
       replace hm:=Ae hm;obtain⟨h15,hm⟩:=hm
       refine .reg (eC 3 (Oc 1 8 n14 c21 1 4 q15 [zI z15] [] (hT 6 [(.cells Ay true false []),oC q13,oC q14,oC q15,(oC [zI z15])])) (I1 h15) (eE)) ?_
       replace hm:=Ae hm;obtain⟨h16,hm⟩:=hm
       replace hm:=Ae hm;obtain⟨h17,hm⟩:=hm
       replace hm:=Ae hm;obtain⟨h18,hm⟩:=hm
       refine .ghs (fr 143 [(0,Sl.v 1 s4),(5,sc 2 0 1 n12 c19),(8,sc 3 0 1 n13 c20),(11,(sc 4 0 1 (n14+1) (d2 (n14+1)))),(12,zI z13),(13,zI z14),(83,zI z16),(84,zI z17)]) (hT 5 [(.cells Ay true false []),oC q13,oC q14,(oC (Br (Am 0 q15) [zI z15]))]) (.k [2,3,6] [false,false] [.tmp 5 false,.tmp 8 false,.tmp 11 false] [0,5,8,11,12,13,83,84] ⟨AO h16,AO h17,AO h18,trivial⟩) ?_
       refine .exit ?_
       exact⟨(s4,n12,c19,n13,c20,(n14+1),(d2 (n14+1)),z13,z14,z16,z17,q13,q14,(Br (Am 0 q15) [zI z15])),hm,(.k [2,3,4] [false,false] [.tmp 5 false,.tmp 8 false,.tmp 11 false] [0,5,8,11,12,13,83,84] ⟨AO h16,AO h17,AO h18,trivial⟩)⟩
      ·refine .ifF b1 (by kernel_rfl) h14 ?_
       refine .skip ?_
       replace hm:=Ae hm;obtain⟨h19,hm⟩:=hm
       replace hm:=Ae hm;obtain⟨h20,hm⟩:=hm
       replace hm:=Ae hm;obtain⟨h21,hm⟩:=hm
       refine .ghs (fr 143 [(0,Sl.v 1 s4),(5,sc 2 0 1 n12 c19),(8,sc 3 0 1 n13 c20),(11,sc 4 0 1 n14 c21),(12,zI z13),(14,zI z15),(83,zI z16),(84,zI z17)]) (hT 5 [(.cells Ay true false []),oC q13,oC q14,oC q15]) (.k [2,3,4] [false,false] [.tmp 5 false,.tmp 8 false,.tmp 11 false] [0,5,8,11,12,14,83,84] ⟨AO h19,AO h20,AO h21,trivial⟩) ?_
       replace hm:=Ab hm;obtain⟨k1,h22,hm⟩:=hm
       obtain rfl:=AR h22
       replace hm:=Ae hm;obtain⟨h23,hm⟩:=hm
       replace hm:=FK hm;obtain⟨x1,h24,hm⟩:=hm
       refine .reg (eC 4 (keep (hT 5 [(.cells Ay true false []),oC q13,oC q14,oC q15]) (bb (an (Nat.blt k1 n12) true) (some (.pointer (some ⟨2,(0+k1*1),none⟩))) none)) (AX h23) (eD (keep (hT 5 [(.cells Ay true false []),oC q13,oC q14,oC q15]) (AL q13 (0+k1*1))) (AZ h24) (eE))) ?_
       exact⟨(s4,n12,c19,n13,c20,n14,c21,(Aj .i64 (Int.sub z13 (1:Int))),x1,z16,z17,q13,q14,q15),hm,(.k [2,3,4] [false,false] [.tmp 5 false,.tmp 8 false,.tmp 11 false] [0,5,8,11,12,13,83,84] ⟨AO h19,AO h20,AO h21,trivial⟩)⟩
     ·replace hm:=Ag hm;rcases hm with⟨h25,hm⟩ | ⟨h25,hm⟩
      ·refine .reg (eD (some ((zB b0),(hT 5 [(.cells Ay true false []),oC q10,oC q11,oC q12]))) (show _=some ((zB true),_) from (by rw[show b0=true from h25])) (eE)) ?_
       replace hm:=Ae hm;obtain⟨h26,hm⟩:=hm
       replace hm:=Ae hm;obtain⟨h27,hm⟩:=hm
       replace hm:=Ae hm;obtain⟨h28,hm⟩:=hm
       exact⟨(s3,n9,c16,n10,c17,n11,c18,z8,z9,z10,z11,z12,true,q10,q11,q12),hm,(.k [2,3,4] [false,false] [.tmp 5 false,.tmp 8 false,.tmp 11 false] [0,5,8,11,12,13,14,83,84,130] ⟨AO h26,AO h27,AO h28,trivial⟩)⟩
      ·replace hm:=Ab hm;obtain⟨k2,h29,hm⟩:=hm
       obtain rfl:=AR h29
       replace hm:=Ae hm;obtain⟨h30,hm⟩:=hm
       replace hm:=FK hm;obtain⟨x2,h31,hm⟩:=hm
       replace hm:=Ag hm;rcases hm with⟨h32,hm⟩ | ⟨h32,hm⟩
       ·refine .reg (eD (some ((zB b0),(hT 5 [(.cells Ay true false []),oC q10,oC q11,oC q12]))) (show _=some ((zB false),_) from (by rw[show b0=false from h25])) (eC 3 (keep (hT 5 [(.cells Ay true false []),oC q10,oC q11,oC q12]) (bb (an (Nat.blt k2 n10) true) (some (.pointer (some ⟨3,(0+k2*1),none⟩))) none)) (AX h30) (eD (keep (hT 5 [(.cells Ay true false []),oC q10,oC q11,oC q12]) (AL q11 (0+k2*1))) (AZ h31) (eC 1 (some ((zB (nt (Bd x2 z8))),(hT 5 [(.cells Ay true false []),oC q10,oC q11,oC q12]))) (show _=some ((zB true),_) from (by rw[show (nt (Bd x2 z8))=true from h32])) (eE))))) ?_
        replace hm:=Ae hm;obtain⟨h33,hm⟩:=hm
        replace hm:=Ae hm;obtain⟨h34,hm⟩:=hm
        replace hm:=Ae hm;obtain⟨h35,hm⟩:=hm
        exact⟨(s3,n9,c16,n10,c17,n11,c18,z8,z9,(Int.ofNat k2),z11,z12,true,q10,q11,q12),hm,(.k [2,3,4] [false,false] [.tmp 5 false,.tmp 8 false,.tmp 11 false] [0,5,8,11,12,13,14,83,84,130] ⟨AO h33,AO h34,AO h35,trivial⟩)⟩
       ·replace hm:=Ae hm;obtain⟨h36,hm⟩:=hm
        replace hm:=FK hm;obtain⟨x3,h37,hm⟩:=hm
        refine .reg (eN 6 (Fr.puts (fr 143 [(0,Sl.v 1 s3),(5,sc 2 0 1 n9 c16),(8,sc 3 0 1 n10 c17),(11,sc 4 0 1 n11 c18),(12,zI z8),(13,zI z9),(14,(zI (Int.ofNat k2))),(15,zB b0),(83,zI z11),(84,zI z12)]) [(114,zB false),(115,zB false),(116,sc 3 0 1 n10 c17),(117,(zI (Int.ofNat k2))),(118,(.pointer (some ⟨3,(0+k2*1),none⟩))),(119,zI x2)]) (hT 5 [(.cells Ay true false []),oC q10,oC q11,oC q12]) (eD (some ((zB b0),(hT 5 [(.cells Ay true false []),oC q10,oC q11,oC q12]))) (show _=some ((zB false),_) from (by rw[show b0=false from h25])) (eC 3 (keep (hT 5 [(.cells Ay true false []),oC q10,oC q11,oC q12]) (bb (an (Nat.blt k2 n10) true) (some (.pointer (some ⟨3,(0+k2*1),none⟩))) none)) (AX h30) (eD (keep (hT 5 [(.cells Ay true false []),oC q10,oC q11,oC q12]) (AL q11 (0+k2*1))) (AZ h31) (by kernel_rfl)))) (eC 1 (some ((zB (nt (Bd x2 z8))),(hT 5 [(.cells Ay true false []),oC q10,oC q11,oC q12]))) (show _=some ((zB false),_) from (by rw[show (nt (Bd x2 z8))=false from h32])) (eC 4 (keep (hT 5 [(.cells Ay true false []),oC q10,oC q11,oC q12]) (bb (an (Nat.blt k2 n9) true) (some (.pointer (some ⟨2,(0+k2*1),none⟩))) none)) (AX h36) (eD (keep (hT 5 [(.cells Ay true false []),oC q10,oC q11,oC q12]) (AL q10 (0+k2*1))) (AZ h37) (eE))))) ?_
        replace hm:=Ae hm;obtain⟨h38,hm⟩:=hm
        replace hm:=Ae hm;obtain⟨h39,hm⟩:=hm
        replace hm:=Ae hm;obtain⟨h40,hm⟩:=hm
        exact⟨(s3,n9,c16,n10,c17,n11,c18,z8,z9,(Int.ofNat k2),z11,z12,(AY x3 z9),q10,q11,q12),hm,(.k [2,3,4] [false,false] [.tmp 5 false,.tmp 8 false,.tmp 11 false] [0,5,8,11,12,13,14,83,84,130] ⟨AO h38,AO h39,AO h40,trivial⟩)⟩
    ·refine .then (.rK (.ghs (fr 143 [(0,Sl.v 1 s1),(5,sc 2 0 1 n3 c4),(8,sc 3 0 1 n4 c5),(11,sc 4 0 1 n5 c6),(12,zI z0),(13,zI z1),(14,zI z3),(15,(zB (Bd z0 (0:Int)))),(16,(zI (Aj .i64 (Int.add z3 (1:Int))))),(83,zI z2),(84,zI z3)]) (hT 5 [(.cells Ay true false []),oC q4,oC q5,oC q6]) (.k [2,3,4] [false,false] [.tmp 5 false,.tmp 8 false,.tmp 11 false] [0,5,8,11,12,13,14,15,16,83,84] ⟨AO h7,AO h8,AO h9,trivial⟩) ?_))
     refine .block (.loopM (v:=v) (fun y:Sl×Nat×Nat×Nat×Nat×Nat×Nat×Int×Int×Int×Bool×Int×Int×Int×LV×LV×LV=>((fr 143 [(0,(Sl.v 1 y.1)),(5,(sc 2 0 1 y.2.1 y.2.2.1)),(8,(sc 3 0 1 y.2.2.2.1 y.2.2.2.2.1)),(11,(sc 4 0 1 y.2.2.2.2.2.1 y.2.2.2.2.2.2.1)),(12,(zI y.2.2.2.2.2.2.2.1)),(13,(zI y.2.2.2.2.2.2.2.2.1)),(14,(zI y.2.2.2.2.2.2.2.2.2.1)),(15,(zB y.2.2.2.2.2.2.2.2.2.2.1)),(16,(zI y.2.2.2.2.2.2.2.2.2.2.2.1)),(83,(zI y.2.2.2.2.2.2.2.2.2.2.2.2.1)),(84,(zI y.2.2.2.2.2.2.2.2.2.2.2.2.2.1))]),(hT 5 [(.cells Ay true false []),(oC y.2.2.2.2.2.2.2.2.2.2.2.2.2.2.1),(oC y.2.2.2.2.2.2.2.2.2.2.2.2.2.2.2.1),(oC y.2.2.2.2.2.2.2.2.2.2.2.2.2.2.2.2)]))) (fun w y=>Ux pu n (Ir pu n w0) w y.1 y.2.1 y.2.2.1 y.2.2.2.1 y.2.2.2.2.1 y.2.2.2.2.2.1 y.2.2.2.2.2.2.1 y.2.2.2.2.2.2.2.1 y.2.2.2.2.2.2.2.2.1 y.2.2.2.2.2.2.2.2.2.1 y.2.2.2.2.2.2.2.2.2.2.1 y.2.2.2.2.2.2.2.2.2.2.2.1 y.2.2.2.2.2.2.2.2.2.2.2.2.1 y.2.2.2.2.2.2.2.2.2.2.2.2.2.1 y.2.2.2.2.2.2.2.2.2.2.2.2.2.2.1 y.2.2.2.2.2.2.2.2.2.2.2.2.2.2.2.1 y.2.2.2.2.2.2.2.2.2.2.2.2.2.2.2.2) n ⟨(s1,n3,c4,n4,c5,n5,c6,z0,z1,z3,(Bd z0 (0:Int)),(Aj .i64 (Int.add z3 (1:Int))),z2,z3,q4,q5,q6),hm,(.k [2,3,4] [false,false] [.tmp 5 false,.tmp 8 false,.tmp 11 false] [0,5,8,11,12,13,14,15,16,83,84] ⟨AO h7,AO h8,AO h9,trivial⟩)⟩ (fun _=>rfl) ?_)
     rintro w1 ⟨s5,n15,c23,n16,c24,n17,c25,z18,z19,z20,b2,z21,z22,z23,q16,q17,q18⟩ hm
     replace hm:Uw pu n (Ir pu n w0) (Ux pu n (Ir pu n w0) w1) s5 n15 c23 n16 c24 n17 c25 z18 z19 z20 b2 z21 z22 z23 q16 q17 q18=some v:=hm
     unfold Uw at hm
     refine .then (.then (.rK ?_))
     replace hm:=Ae hm;obtain⟨h41,hm⟩:=hm
     replace hm:=Ae hm;obtain⟨h42,hm⟩:=hm
     replace hm:=Ae hm;obtain⟨h43,hm⟩:=hm
     refine .ghs (fr 143 [(0,Sl.v 1 s5),(5,sc 2 0 1 n15 c23),(8,sc 3 0 1 n16 c24),(11,sc 4 0 1 n17 c25),(12,zI z18),(13,zI z19),(14,zI z20),(15,zB b2),(16,zI z21),(83,zI z22),(84,zI z23),(94,(zB (AY z21 (Int.ofNat (Sl.n s5)))))]) (hT 5 [(.cells Ay true false []),oC q16,oC q17,oC q18]) (.k [2,3,4] [false,false] [.tmp 5 false,.tmp 8 false,.tmp 11 false] [0,5,8,11,12,13,14,15,16,83,84,94] ⟨AO h41,AO h42,AO h43,trivial⟩) ?_
     replace hm:=Ag hm;rcases hm with⟨h44,hm⟩ | ⟨h44,hm⟩
     ·refine Dr (AY z21 (Int.ofNat (Sl.n s5))) h44 ?_
      refine .skip (.ghs (fr 143 [(0,Sl.v 1 s5),(5,sc 2 0 1 n15 c23),(8,sc 3 0 1 n16 c24),(11,sc 4 0 1 n17 c25),(12,zI z18),(13,zI z19),(14,zI z20),(15,zB b2),(16,zI z21),(83,zI z22),(84,zI z23)]) (hT 5 [(.cells Ay true false []),oC q16,oC q17,oC q18]) (.k [2,3,4] [false,false] [.tmp 5 false,.tmp 8 false,.tmp 11 false] [0,5,8,11,12,13,14,15,16,83,84] ⟨AO h41,AO h42,AO h43,trivial⟩) ?_)
      refine .then (.block ?_)
      replace hm:=Ag hm;rcases hm with⟨h45,hm⟩ | ⟨h45,hm⟩
      ·refine .reg (eD (some ((zB b2),(hT 5 [(.cells Ay true false []),oC q16,oC q17,oC q18]))) (show _=some ((zB true),_) from (by rw[show b2=true from h45])) (eE)) ?_
       refine .ghs (fr 143 [(0,Sl.v 1 s5),(5,sc 2 0 1 n15 c23),(8,sc 3 0 1 n16 c24),(11,sc 4 0 1 n17 c25),(12,zI z18),(13,zI z19),(14,zI z20),(15,zB true),(16,zI z21),(83,zI z22),(84,zI z23)]) (hT 5 [(.cells Ay true false []),oC q16,oC q17,oC q18]) (.k [2,3,4] [false,false] [.tmp 5 false,.tmp 8 false,.tmp 11 false] [0,5,8,11,12,13,14,15,16,83,84] ⟨AO h41,AO h42,AO h43,trivial⟩) ?_
       refine .rK ?_
       exact⟨(s5,n15,c23,n16,c24,n17,c25,z18,z19,z20,true,(Aj .i64 (Int.add z21 (1:Int))),z22,z23,q16,q17,q18),hm,(.k [2,3,4] [false,false] [.tmp 5 false,.tmp 8 false,.tmp 11 false] [0,5,8,11,12,13,14,15,16,83,84] ⟨AO h41,AO h42,AO h43,trivial⟩)⟩
      ·replace hm:=Ab hm;obtain⟨k3,h46,hm⟩:=hm
       obtain rfl:=AR h46
       replace hm:=Ae hm;obtain⟨h47,hm⟩:=hm
       replace hm:=FK hm;obtain⟨x4,h48,hm⟩:=hm
       replace hm:=Ag hm;rcases hm with⟨h49,hm⟩ | ⟨h49,hm⟩
       ·replace hm:=Ae hm;obtain⟨h50,hm⟩:=hm
        replace hm:=FK hm;obtain⟨x5,h51,hm⟩:=hm
        refine .reg (eN 6 (Fr.puts (fr 143 [(0,Sl.v 1 s5),(5,sc 2 0 1 n15 c23),(8,sc 3 0 1 n16 c24),(11,sc 4 0 1 n17 c25),(12,zI z18),(13,zI z19),(14,zI z20),(15,zB b2),(16,(zI (Int.ofNat k3))),(83,zI z22),(84,zI z23)]) [(97,zB false),(98,zB false),(99,sc 3 0 1 n16 c24),(100,(zI (Int.ofNat k3))),(101,(.pointer (some ⟨3,(0+k3*1),none⟩))),(102,zI x4)]) (hT 5 [(.cells Ay true false []),oC q16,oC q17,oC q18]) (eD (some ((zB b2),(hT 5 [(.cells Ay true false []),oC q16,oC q17,oC q18]))) (show _=some ((zB false),_) from (by rw[show b2=false from h45])) (eC 3 (keep (hT 5 [(.cells Ay true false []),oC q16,oC q17,oC q18]) (bb (an (Nat.blt k3 n16) true) (some (.pointer (some ⟨3,(0+k3*1),none⟩))) none)) (AX h47) (eD (keep (hT 5 [(.cells Ay true false []),oC q16,oC q17,oC q18]) (AL q17 (0+k3*1))) (AZ h48) (by kernel_rfl)))) (eC 1 (some ((zB (Bd x4 z18)),(hT 5 [(.cells Ay true false []),oC q16,oC q17,oC q18]))) (show _=some ((zB true),_) from (by rw[show (Bd x4 z18)=true from h49])) (eC 3 (keep (hT 5 [(.cells Ay true false []),oC q16,oC q17,oC q18]) (bb (an (Nat.blt k3 n15) true) (some (.pointer (some ⟨2,(0+k3*1),none⟩))) none)) (AX h50) (eD (keep (hT 5 [(.cells Ay true false []),oC q16,oC q17,oC q18]) (AL q16 (0+k3*1))) (AZ h51) (eE))))) ?_
        refine .ghs (fr 143 [(0,Sl.v 1 s5),(5,sc 2 0 1 n15 c23),(8,sc 3 0 1 n16 c24),(11,sc 4 0 1 n17 c25),(12,zI z18),(13,zI z19),(14,zI z20),(15,(zB (AY z19 x5))),(16,(zI (Int.ofNat k3))),(83,zI z22),(84,zI z23)]) (hT 5 [(.cells Ay true false []),oC q16,oC q17,oC q18]) (.k [2,3,4] [false,false] [.tmp 5 false,.tmp 8 false,.tmp 11 false] [0,5,8,11,12,13,14,15,16,83,84] ⟨AO h41,AO h42,AO h43,trivial⟩) ?_
        refine .rK ?_
        exact⟨(s5,n15,c23,n16,c24,n17,c25,z18,z19,z20,(AY z19 x5),(Aj .i64 (Int.add (Int.ofNat k3) (1:Int))),z22,z23,q16,q17,q18),hm,(.k [2,3,4] [false,false] [.tmp 5 false,.tmp 8 false,.tmp 11 false] [0,5,8,11,12,13,14,15,16,83,84] ⟨AO h41,AO h42,AO h43,trivial⟩)⟩
       ·refine .reg (eD (some ((zB b2),(hT 5 [(.cells Ay true false []),oC q16,oC q17,oC q18]))) (show _=some ((zB false),_) from (by rw[show b2=false from h45])) (eC 3 (keep (hT 5 [(.cells Ay true false []),oC q16,oC q17,oC q18]) (bb (an (Nat.blt k3 n16) true) (some (.pointer (some ⟨3,(0+k3*1),none⟩))) none)) (AX h47) (eD (keep (hT 5 [(.cells Ay true false []),oC q16,oC q17,oC q18]) (AL q17 (0+k3*1))) (AZ h48) (eC 1 (some ((zB (Bd x4 z18)),(hT 5 [(.cells Ay true false []),oC q16,oC q17,oC q18]))) (show _=some ((zB false),_) from (by rw[show (Bd x4 z18)=false from h49])) (eE))))) ?_
        refine .ghs (fr 143 [(0,Sl.v 1 s5),(5,sc 2 0 1 n15 c23),(8,sc 3 0 1 n16 c24),(11,sc 4 0 1 n17 c25),(12,zI z18),(13,zI z19),(14,zI z20),(15,zB false),(16,(zI (Int.ofNat k3))),(83,zI z22),(84,zI z23)]) (hT 5 [(.cells Ay true false []),oC q16,oC q17,oC q18]) (.k [2,3,4] [false,false] [.tmp 5 false,.tmp 8 false,.tmp 11 false] [0,5,8,11,12,13,14,15,16,83,84] ⟨AO h41,AO h42,AO h43,trivial⟩) ?_
        refine .rK ?_
        exact⟨(s5,n15,c23,n16,c24,n17,c25,z18,z19,z20,false,(Aj .i64 (Int.add (Int.ofNat k3) (1:Int))),z22,z23,q16,q17,q18),hm,(.k [2,3,4] [false,false] [.tmp 5 false,.tmp 8 false,.tmp 11 false] [0,5,8,11,12,13,14,15,16,83,84] ⟨AO h41,AO h42,AO h43,trivial⟩)⟩
     ·refine Dy (AY z21 (Int.ofNat (Sl.n s5))) h44 ?_
      refine .exit ?_
      exact⟨(s5,n15,c23,n16,c24,n17,c25,z18,z19,z20,b2,z22,z23,q16,q17,q18),hm,(.k [2,3,4] [false,false] [.tmp 5 false,.tmp 8 false,.tmp 11 false] [0,5,8,11,12,13,14,15,83,84] ⟨AO h41,AO h42,AO h43,trivial⟩)⟩
  ·refine Dy (AY z3 z2) h10 ?_
   refine .exit ?_
   exact⟨(n5,c6,q6),hm,(.k [4] [false,false] [.tmp 11 false] [11] ⟨AO h9,trivial⟩)⟩
theorem Abx (pu:Af) (n:Nat) (s0:Sl) (n0 c0:Nat) (q0:LV) {v:Value} (hm:RO pu n s0 n0 c0 q0=some v):BN tt (Bb tabs isP pu (inl pu)) 2 SE (fr 143 [(0,Sl.v 1 s0),(5,sc 2 0 1 n0 c0)]) (hT 3 [(.cells Ay true false []),oC q0]) (Fin tt 2 [.tmp 2,.tmp 3] v):=by
 unfold RO at hm
 refine .then ?_
 replace hm:=Ae hm;obtain⟨h0,hm⟩:=hm
 refine .reg (eC 2 (bb (an (Nat.ble (Sl.n s0) (Sl.n s0)) (an (Nat.ble ((Sl.n s0)*8) 1099511627776) (an (Nat.ble (Sl.n s0) 1099511627776) true))) (some ((sc 3 0 1 (Sl.n s0) (2*(Sl.n s0)+bb true 1 0)),(hT 4 [(.cells Ay true false []),oC q0,(oC (AF ([(zI (0:Int))]:LV) (Sl.n s0)))]))) none) (kH h0) (eE)) ?_
 replace hm:=Ae hm;obtain⟨h1,hm⟩:=hm
 replace hm:=Ae hm;obtain⟨h2,hm⟩:=hm
 refine .ghs (fr 143 [(0,Sl.v 1 s0),(5,sc 2 0 1 n0 c0),(8,(sc 3 0 1 (Sl.n s0) (2*(Sl.n s0)+bb true 1 0)))]) (hT 4 [(.cells Ay true false []),oC q0,(oC (AF ([(zI (0:Int))]:LV) (Sl.n s0)))]) (.k [2,3] [false,false] [.tmp 5 false,.tmp 8 false] [0,5,8] ⟨AO h1,AO h2,trivial⟩) ?_
 refine .join (v:=v) (fun y:Sl×Nat×Nat×Nat×Nat×LV×LV=>((fr 143 [(0,(Sl.v 1 y.1)),(5,(sc 2 0 1 y.2.1 y.2.2.1)),(8,(sc 3 0 1 y.2.2.2.1 y.2.2.2.2.1))]),(hT 4 [(.cells Ay true false []),(oC y.2.2.2.2.2.1),(oC y.2.2.2.2.2.2)]))) (fun y=>QS pu n y.1 y.2.1 y.2.2.1 y.2.2.2.1 y.2.2.2.2.1 y.2.2.2.2.2.1 y.2.2.2.2.2.2) ?_ ?_
 ·rintro⟨s1,n1,c1,n2,c2,q1,q2⟩ hm
  exact Abw pu n s1 n1 c1 n2 c2 q1 q2 hm
 ·refine .then (.rK (.ghs (fr 143 [(0,Sl.v 1 s0),(5,sc 2 0 1 n0 c0),(8,(sc 3 0 1 (Sl.n s0) (2*(Sl.n s0)+bb true 1 0))),(9,(zI (Aj .i64 (Int.sub (Int.ofNat (Sl.n s0)) (1:Int)))))]) (hT 4 [(.cells Ay true false []),oC q0,(oC (AF ([(zI (0:Int))]:LV) (Sl.n s0)))]) (.k [2,3] [false,false] [.tmp 5 false,.tmp 8 false] [0,5,8,9] ⟨AO h1,AO h2,trivial⟩) ?_))
  refine .block (.loopM (v:=v) (fun y:Sl×Nat×Nat×Nat×Nat×Int×LV×LV=>((fr 143 [(0,(Sl.v 1 y.1)),(5,(sc 2 0 1 y.2.1 y.2.2.1)),(8,(sc 3 0 1 y.2.2.2.1 y.2.2.2.2.1)),(9,(zI y.2.2.2.2.2.1))]),(hT 4 [(.cells Ay true false []),(oC y.2.2.2.2.2.2.1),(oC y.2.2.2.2.2.2.2)]))) (fun w y=>Iy pu n w y.1 y.2.1 y.2.2.1 y.2.2.2.1 y.2.2.2.2.1 y.2.2.2.2.2.1 y.2.2.2.2.2.2.1 y.2.2.2.2.2.2.2) n ⟨(s0,n0,c0,(Sl.n s0),(2*(Sl.n s0)+bb true 1 0),(Aj .i64 (Int.sub (Int.ofNat (Sl.n s0)) (1:Int))),q0,(AF ([(zI (0:Int))]:LV) (Sl.n s0))),hm,(.k [2,3] [false,false] [.tmp 5 false,.tmp 8 false] [0,5,8,9] ⟨AO h1,AO h2,trivial⟩)⟩ (fun _=>rfl) ?_)
  rintro w0 ⟨s2,n3,c4,n4,c5,z0,q3,q4⟩ hm
  replace hm:UA pu n (Iy pu n w0) s2 n3 c4 n4 c5 z0 q3 q4=some v:=hm
  unfold UA at hm
  refine .then (.then (.rK ?_))
  replace hm:=Ae hm;obtain⟨h3,hm⟩:=hm
  replace hm:=Ae hm;obtain⟨h4,hm⟩:=hm
  refine .ghs (fr 143 [(0,Sl.v 1 s2),(5,sc 2 0 1 n3 c4),(8,sc 3 0 1 n4 c5),(9,zI z0),(44,(zB (nt (AY z0 (0:Int)))))]) (hT 4 [(.cells Ay true false []),oC q3,oC q4]) (.k [2,3] [false,false] [.tmp 5 false,.tmp 8 false] [0,5,8,9,44] ⟨AO h3,AO h4,trivial⟩) ?_
  replace hm:=Ag hm;rcases hm with⟨h5,hm⟩ | ⟨h5,hm⟩
  ·refine Dr (nt (AY z0 (0:Int))) h5 ?_
   refine .skip (.ghs (fr 143 [(0,Sl.v 1 s2),(5,sc 2 0 1 n3 c4),(8,sc 3 0 1 n4 c5),(9,zI z0)]) (hT 4 [(.cells Ay true false []),oC q3,oC q4]) (.k [2,3] [false,false] [.tmp 5 false,.tmp 8 false] [0,5,8,9] ⟨AO h3,AO h4,trivial⟩) ?_)
   refine .join (v:=v) (fun y:Sl×Nat×Nat×Nat×Nat×Int×LV×LV=>((fr 143 [(0,(Sl.v 1 y.1)),(5,(sc 2 0 1 y.2.1 y.2.2.1)),(8,(sc 3 0 1 y.2.2.2.1 y.2.2.2.2.1)),(9,(zI y.2.2.2.2.2.1))]),(hT 4 [(.cells Ay true false []),(oC y.2.2.2.2.2.2.1),(oC y.2.2.2.2.2.2.2)]))) (fun y=>Uz pu n (Iy pu n w0) y.1 y.2.1 y.2.2.1 y.2.2.2.1 y.2.2.2.2.1 y.2.2.2.2.2.1 y.2.2.2.2.2.2.1 y.2.2.2.2.2.2.2) ?_ ?_
   ·rintro⟨s3,n5,c6,n6,c7,z1,q5,q6⟩ hm
    unfold Uz at hm
    refine .rK ?_
    replace hm:=Ae hm;obtain⟨h6,hm⟩:=hm
    replace hm:=Ae hm;obtain⟨h7,hm⟩:=hm
    exact⟨(s3,n5,c6,n6,c7,(Aj .i64 (Int.sub z1 (1:Int))),q5,q6),hm,(.k [2,3] [false,false] [.tmp 5 false,.tmp 8 false] [0,5,8,9] ⟨AO h6,AO h7,trivial⟩)⟩
   ·refine .block (.then ?_)
    replace hm:=Ab hm;obtain⟨k1,h8,hm⟩:=hm
    obtain rfl:=AR h8
    replace hm:=Ae hm;obtain⟨h9,hm⟩:=hm
    replace hm:=Ae hm;obtain⟨h10,hm⟩:=hm
    refine .reg (eC 2 (keep (hT 4 [(.cells Ay true false []),oC q3,oC q4]) (bb (an (Nat.blt k1 n4) true) (some (.pointer (some ⟨3,(0+k1*1),none⟩))) none)) (AX h9) (eD (done (bb (an (Nat.ble ((0+k1*1)+1) (len q4)) true) (some (hT 4 [(.cells Ay true false []),oC q3,(oC (BM ([(zI (1:Int))]:LV) (0+k1*1) q4))])) none) undef) (Js h10) (eE))) ?_
    replace hm:=Ae hm;obtain⟨h11,hm⟩:=hm
    refine .ghs (fr 143 [(0,Sl.v 1 s2),(5,sc 2 0 1 n3 c4),(8,sc 3 0 1 n4 c5),(9,(zI (Int.ofNat k1)))]) (hT 4 [(.cells Ay true false []),oC q3,(oC (BM ([(zI (1:Int))]:LV) (0+k1*1) q4))]) (.k [2,3] [false,false] [.tmp 5 false,.tmp 8 false] [0,5,8,9] ⟨AO h3,AO h11,trivial⟩) ?_
    refine .then (.rK (.ghs (fr 143 [(0,Sl.v 1 s2),(5,sc 2 0 1 n3 c4),(8,sc 3 0 1 n4 c5),(9,(zI (Int.ofNat k1))),(10,(zI (Aj .i64 (Int.add (Int.ofNat k1) (1:Int)))))]) (hT 4 [(.cells Ay true false []),oC q3,(oC (BM ([(zI (1:Int))]:LV) (0+k1*1) q4))]) (.k [2,3] [false,false] [.tmp 5 false,.tmp 8 false] [0,5,8,9,10] ⟨AO h3,AO h11,trivial⟩) ?_))
    refine .block (.loopM (v:=v) (fun y:Sl×Nat×Nat×Nat×Nat×Int×Int×LV×LV=>((fr 143 [(0,(Sl.v 1 y.1)),(5,(sc 2 0 1 y.2.1 y.2.2.1)),(8,(sc 3 0 1 y.2.2.2.1 y.2.2.2.2.1)),(9,(zI y.2.2.2.2.2.1)),(10,(zI y.2.2.2.2.2.2.1))]),(hT 4 [(.cells Ay true false []),(oC y.2.2.2.2.2.2.2.1),(oC y.2.2.2.2.2.2.2.2)]))) (fun w y=>OD pu n (Iy pu n w0) w y.1 y.2.1 y.2.2.1 y.2.2.2.1 y.2.2.2.2.1 y.2.2.2.2.2.1 y.2.2.2.2.2.2.1 y.2.2.2.2.2.2.2.1 y.2.2.2.2.2.2.2.2) n ⟨(s2,n3,c4,n4,c5,(Int.ofNat k1),(Aj .i64 (Int.add (Int.ofNat k1) (1:Int))),q3,(BM ([(zI (1:Int))]:LV) (0+k1*1) q4)),hm,(.k [2,3] [false,false] [.tmp 5 false,.tmp 8 false] [0,5,8,9,10] ⟨AO h3,AO h11,trivial⟩)⟩ (fun _=>rfl) ?_)
    rintro w1 ⟨s4,n7,c8,n8,c9,z2,z3,q7,q8⟩ hm
    replace hm:Pt pu n (Iy pu n w0) (OD pu n (Iy pu n w0) w1) s4 n7 c8 n8 c9 z2 z3 q7 q8=some v:=hm
    unfold Pt at hm
    refine .then (.then (.rK ?_))
    replace hm:=Ae hm;obtain⟨h12,hm⟩:=hm
    replace hm:=Ae hm;obtain⟨h13,hm⟩:=hm
    refine .ghs (fr 143 [(0,Sl.v 1 s4),(5,sc 2 0 1 n7 c8),(8,sc 3 0 1 n8 c9),(9,zI z2),(10,zI z3),(55,(zB (AY z3 (Int.ofNat (Sl.n s4)))))]) (hT 4 [(.cells Ay true false []),oC q7,oC q8]) (.k [2,3] [false,false] [.tmp 5 false,.tmp 8 false] [0,5,8,9,10,55] ⟨AO h12,AO h13,trivial⟩) ?_
    replace hm:=Ag hm;rcases hm with⟨h14,hm⟩ | ⟨h14,hm⟩
    ·refine Dr (AY z3 (Int.ofNat (Sl.n s4))) h14 ?_
     refine .skip (.ghs (fr 143 [(0,Sl.v 1 s4),(5,sc 2 0 1 n7 c8),(8,sc 3 0 1 n8 c9),(9,zI z2),(10,zI z3)]) (hT 4 [(.cells Ay true false []),oC q7,oC q8]) (.k [2,3] [false,false] [.tmp 5 false,.tmp 8 false] [0,5,8,9,10] ⟨AO h12,AO h13,trivial⟩) ?_)
     refine .join (v:=v) (fun y:Sl×Nat×Nat×Nat×Nat×Int×Int×LV×LV=>((fr 143 [(0,(Sl.v 1 y.1)),(5,(sc 2 0 1 y.2.1 y.2.2.1)),(8,(sc 3 0 1 y.2.2.2.1 y.2.2.2.2.1)),(9,(zI y.2.2.2.2.2.1)),(10,(zI y.2.2.2.2.2.2.1))]),(hT 4 [(.cells Ay true false []),(oC y.2.2.2.2.2.2.2.1),(oC y.2.2.2.2.2.2.2.2)]))) (fun y=>OC pu n (Iy pu n w0) (OD pu n (Iy pu n w0) w1) y.1 y.2.1 y.2.2.1 y.2.2.2.1 y.2.2.2.2.1 y.2.2.2.2.2.1 y.2.2.2.2.2.2.1 y.2.2.2.2.2.2.2.1 y.2.2.2.2.2.2.2.2) ?_ ?_
     ·rintro⟨s5,n9,c16,n10,c17,z4,z5,q9,q10⟩ hm
      unfold OC at hm
      refine .rK ?_
      replace hm:=Ae hm;obtain⟨h15,hm⟩:=hm
      replace hm:=Ae hm;obtain⟨h16,hm⟩:=hm
      exact⟨(s5,n9,c16,n10,c17,z4,(Aj .i64 (Int.add z5 (1:Int))),q9,q10),hm,(.k [2,3] [false,false] [.tmp 5 false,.tmp 8 false] [0,5,8,9,10] ⟨AO h15,AO h16,trivial⟩)⟩
     ·refine .block (.then ?_)
      replace hm:=Ab hm;obtain⟨k2,h17,hm⟩:=hm
      obtain rfl:=AR h17
      replace hm:=Ae hm;obtain⟨h18,hm⟩:=hm
      replace hm:=FK hm;obtain⟨x0,h19,hm⟩:=hm
      replace hm:=Ab hm;obtain⟨k3,h20,hm⟩:=hm
      obtain rfl:=AR h20
      replace hm:=Ae hm;obtain⟨h21,hm⟩:=hm
      replace hm:=FK hm;obtain⟨x1,h22,hm⟩:=hm
      refine .reg (eC 2 (keep (hT 4 [(.cells Ay true false []),oC q7,oC q8]) (bb (an (Nat.blt k2 n7) true) (some (.pointer (some ⟨2,(0+k2*1),none⟩))) none)) (AX h18) (eD (keep (hT 4 [(.cells Ay true false []),oC q7,oC q8]) (AL q7 (0+k2*1))) (AZ h19) (eC 2 (keep (hT 4 [(.cells Ay true false []),oC q7,oC q8]) (bb (an (Nat.blt k3 n7) true) (some (.pointer (some ⟨2,(0+k3*1),none⟩))) none)) (AX h21) (eD (keep (hT 4 [(.cells Ay true false []),oC q7,oC q8]) (AL q7 (0+k3*1))) (AZ h22) (eE))))) ?_
      refine .ghs (fr 143 [(0,Sl.v 1 s4),(5,sc 2 0 1 n7 c8),(8,sc 3 0 1 n8 c9),(9,(zI (Int.ofNat k2))),(10,(zI (Int.ofNat k3))),(66,(zB (AY x0 x1)))]) (hT 4 [(.cells Ay true false []),oC q7,oC q8]) (.k [2,3] [false,false] [.tmp 5 false,.tmp 8 false] [0,5,8,9,10,66] ⟨AO h12,AO h13,trivial⟩) ?_
      replace hm:=Ag hm;rcases hm with⟨h23,hm⟩ | ⟨h23,hm⟩
      ·refine Dr (AY x0 x1) h23 ?_
       replace hm:=Ae hm;obtain⟨h24,hm⟩:=hm
       replace hm:=FK hm;obtain⟨x2,h25,hm⟩:=hm
       replace hm:=Ae hm;obtain⟨h26,hm⟩:=hm
       replace hm:=FK hm;obtain⟨x3,h27,hm⟩:=hm
       replace hm:=Ae hm;obtain⟨h28,hm⟩:=hm
       replace hm:=Ae hm;obtain⟨h29,hm⟩:=hm
       refine .reg (eN 9 (Fr.puts (fr 143 [(0,Sl.v 1 s4),(5,sc 2 0 1 n7 c8),(8,sc 3 0 1 n8 c9),(9,(zI (Int.ofNat k2))),(10,(zI (Int.ofNat k3))),(66,(zB (AY x0 x1)))]) [(67,sc 3 0 1 n8 c9),(68,(zI (Int.ofNat k2))),(69,sc 3 0 1 n8 c9),(70,(zI (Int.ofNat k2))),(71,(.pointer (some ⟨3,(0+k2*1),none⟩))),(72,zI x2),(73,sc 3 0 1 n8 c9),(74,(zI (Int.ofNat k3))),(75,(.pointer (some ⟨3,(0+k3*1),none⟩)))]) (hT 4 [(.cells Ay true false []),oC q7,oC q8]) (eC 4 (keep (hT 4 [(.cells Ay true false []),oC q7,oC q8]) (bb (an (Nat.blt k2 n8) true) (some (.pointer (some ⟨3,(0+k2*1),none⟩))) none)) (AX h24) (eD (keep (hT 4 [(.cells Ay true false []),oC q7,oC q8]) (AL q8 (0+k2*1))) (AZ h25) (eC 2 (keep (hT 4 [(.cells Ay true false []),oC q7,oC q8]) (bb (an (Nat.blt k3 n8) true) (some (.pointer (some ⟨3,(0+k3*1),none⟩))) none)) (AX h26) (by kernel_rfl)))) (eD (keep (hT 4 [(.cells Ay true false []),oC q7,oC q8]) (AL q8 (0+k3*1))) (AZ h27) (eC 2 (keep (hT 4 [(.cells Ay true false []),oC q7,oC q8]) (bb (an (Nat.blt k2 n8) true) (some (.pointer (some ⟨3,(0+k2*1),none⟩))) none)) (AX h28) (eD (done (bb (an (Nat.ble ((0+k2*1)+1) (len q8)) true) (some (hT 4 [(.cells Ay true false []),oC q7,(oC (BM ([(zI (bb (AY x2 (Aj .i64 (Int.add (1:Int) x3))) (Aj .i64 (Int.add (1:Int) x3)) x2))]:LV) (0+k2*1) q8))])) none) undef) (Js h29) (eE))))) ?_
       replace hm:=Ae hm;obtain⟨h30,hm⟩:=hm
       exact⟨(s4,n7,c8,n8,c9,(Int.ofNat k2),(Int.ofNat k3),q7,(BM ([(zI (bb (AY x2 (Aj .i64 (Int.add (1:Int) x3))) (Aj .i64 (Int.add (1:Int) x3)) x2))]:LV) (0+k2*1) q8)),hm,(.k [2,3] [false,false] [.tmp 5 false,.tmp 8 false] [0,5,8,9,10] ⟨AO h12,AO h30,trivial⟩)⟩
      ·refine Dy (AY x0 x1) h23 ?_
       refine .skip ?_
       exact⟨(s4,n7,c8,n8,c9,(Int.ofNat k2),(Int.ofNat k3),q7,q8),hm,(.k [2,3] [false,false] [.tmp 5 false,.tmp 8 false] [0,5,8,9,10] ⟨AO h12,AO h13,trivial⟩)⟩
    ·refine Dy (AY z3 (Int.ofNat (Sl.n s4))) h14 ?_
     refine .exit ?_
     exact⟨(s4,n7,c8,n8,c9,z2,q7,q8),hm,(.k [2,3] [false,false] [.tmp 5 false,.tmp 8 false] [0,5,8,9] ⟨AO h12,AO h13,trivial⟩)⟩
  ·refine Dy (nt (AY z0 (0:Int))) h5 ?_
   refine .exit ?_
   exact⟨(s2,n3,c4,n4,c5,q3,q4),hm,(.k [2,3] [false,false] [.tmp 5 false,.tmp 8 false] [0,5,8] ⟨AO h3,AO h4,trivial⟩)⟩
theorem r11 {call:A8} (pu:Af) (n:Nat) (hcall:call=Bb tabs isP pu (inl pu)) {args:LV} {v:Value} (hm:m11 pu n args=some v) (_:∀ x∈args,closed2 x=true):args.length≤143∧BN tt call 2 Ng (Fr.made 143 args) (Ao tabs) (Fin tt 2 [.tmp 2,.tmp 3] v):=by
 subst hcall
 unfold m11 at hm
 replace hm:=Ad hm;obtain⟨a0,args_0,rfl,hm⟩:=hm
 replace hm:=AC hm;obtain⟨rfl,hm⟩:=hm
 replace hm:=Al hm;obtain⟨s0,rfl,hm⟩:=hm
 unfold Abu at hm
 refine⟨by simp,?_⟩
 refine .same (F':=(fr 143 [(0,Sl.v 1 s0)])) (H':=(hT 2 [(.cells Ay true false [])])) (by kernel_rfl) (by kernel_rfl) ?_
 refine .then (.rK (.ghs (fr 143 [(0,Sl.v 1 s0)]) (hT 2 [(.cells Ay true false [])]) (.k0 [false,false] [] [0]) ?_))
 refine .then (.then ?_)
 replace hm:=FK hm;obtain⟨x0,h0,hm⟩:=hm
 refine .reg (eC 1 ((oo (pu 45 [Sl.v 1 s0]) none fun v=>some (v,(hT 2 [(.cells Ay true false [])])))) (AB h0) (eE)) ?_
 refine .ghs (fr 143 [(0,Sl.v 1 s0),(4,zI x0)]) (hT 2 [(.cells Ay true false [])]) (.k0 [false,false] [] [0,4]) ?_
 refine .then (.rK (.ghs (fr 143 [(0,Sl.v 1 s0),(4,zI x0),(20,(zB (nt (Bd x0 (0:Int)))))]) (hT 2 [(.cells Ay true false [])]) (.k0 [false,false] [] [0,4,20]) ?_))
 replace hm:=Ag hm;rcases hm with⟨h1,hm⟩ | ⟨h1,hm⟩
 ·refine Dr (nt (Bd x0 (0:Int))) h1 ?_
  refine .then (.rK (.ghs (fr 143 [(2,(.slice none 0 0)),(3,zI x0)]) (hT 2 [(.cells Ay true false [])]) (.k0 [false,false] [] [2,3]) ?_))
  refine .ghs (Fr.puts (fr 143 [(2,(.slice none 0 0)),(3,zI x0)]) [(2,(Sl.v 1 (Sl.mk 0 2 [])))]) (hT 2 [(.cells Ay true false [])]) (.freeze 2 2 1 (by kernel_rfl) (by kernel_rfl) (E9.id _ _)) ?_
  refine .ret ?_
  exact BB (.tuple ⟨[(Sl.v 1 (Sl.mk 0 2 [])),zI x0]⟩) hm
 ·refine Dy (nt (Bd x0 (0:Int))) h1 ?_
  refine .skip (.ghs (fr 143 [(0,Sl.v 1 s0)]) (hT 2 [(.cells Ay true false [])]) (.k0 [false,false] [] [0]) ?_)
  refine .then ?_
  replace hm:=Ae hm;obtain⟨h2,hm⟩:=hm
  refine .reg (eC 2 (bb (an (Nat.ble (Sl.n s0) (Sl.n s0)) (an (Nat.ble ((Sl.n s0)*8) 1099511627776) (an (Nat.ble (Sl.n s0) 1099511627776) true))) (some ((sc 2 0 1 (Sl.n s0) (2*(Sl.n s0)+bb true 1 0)),(hT 3 [(.cells Ay true false []),(oC (AF ([(zI (0:Int))]:LV) (Sl.n s0)))]))) none) (kH h2) (eE)) ?_
  replace hm:=Ae hm;obtain⟨h3,hm⟩:=hm
  refine .ghs (fr 143 [(0,Sl.v 1 s0),(5,(sc 2 0 1 (Sl.n s0) (2*(Sl.n s0)+bb true 1 0)))]) (hT 3 [(.cells Ay true false []),(oC (AF ([(zI (0:Int))]:LV) (Sl.n s0)))]) (.k [2] [false,false] [.tmp 5 false] [0,5] ⟨AO h3,trivial⟩) ?_
  refine .join (v:=v) (fun y:Sl×Nat×Nat×LV=>((fr 143 [(0,(Sl.v 1 y.1)),(5,(sc 2 0 1 y.2.1 y.2.2.1))]),(hT 3 [(.cells Ay true false []),(oC y.2.2.2)]))) (fun y=>RO pu n y.1 y.2.1 y.2.2.1 y.2.2.2) ?_ ?_
  ·rintro⟨s1,n0,c0,q0⟩ hm
   exact Abx pu n s1 n0 c0 q0 hm
  ·refine .then (.rK (.ghs (fr 143 [(0,Sl.v 1 s0),(5,(sc 2 0 1 (Sl.n s0) (2*(Sl.n s0)+bb true 1 0))),(25,Sl.v 1 s0),(26,(zI (Int.ofNat (Sl.n s0)))),(27,(zI (0:Int)))]) (hT 3 [(.cells Ay true false []),(oC (AF ([(zI (0:Int))]:LV) (Sl.n s0)))]) (.k [2] [false,false] [.tmp 5 false] [0,5,25,26,27] ⟨AO h3,trivial⟩) ?_))
   refine .block (.loopM (v:=v) (fun y:Sl×Nat×Nat×Sl×Int×Int×LV=>((fr 143 [(0,(Sl.v 1 y.1)),(5,(sc 2 0 1 y.2.1 y.2.2.1)),(25,(Sl.v 1 y.2.2.2.1)),(26,(zI y.2.2.2.2.1)),(27,(zI y.2.2.2.2.2.1))]),(hT 3 [(.cells Ay true false []),(oC y.2.2.2.2.2.2)]))) (fun w y=>PK pu n w y.1 y.2.1 y.2.2.1 y.2.2.2.1 y.2.2.2.2.1 y.2.2.2.2.2.1 y.2.2.2.2.2.2) n ⟨(s0,(Sl.n s0),(2*(Sl.n s0)+bb true 1 0),s0,(Int.ofNat (Sl.n s0)),(0:Int),(AF ([(zI (0:Int))]:LV) (Sl.n s0))),hm,(.k [2] [false,false] [.tmp 5 false] [0,5,25,26,27] ⟨AO h3,trivial⟩)⟩ (fun _=>rfl) ?_)
   rintro w0 ⟨s2,n1,c1,s3,z0,z1,q1⟩ hm
   replace hm:PI pu n (PK pu n w0) s2 n1 c1 s3 z0 z1 q1=some v:=hm
   unfold PI at hm
   refine .then (.rK ?_)
   replace hm:=Ae hm;obtain⟨h4,hm⟩:=hm
   refine .ghs (fr 143 [(0,Sl.v 1 s2),(5,sc 2 0 1 n1 c1),(25,Sl.v 1 s3),(26,zI z0),(27,zI z1),(28,(zB (AY z1 z0)))]) (hT 3 [(.cells Ay true false []),oC q1]) (.k [2] [false,false] [.tmp 5 false] [0,5,25,26,27,28] ⟨AO h4,trivial⟩) ?_
   refine .then ?_
   replace hm:=Ag hm;rcases hm with⟨h5,hm⟩ | ⟨h5,hm⟩
   ·refine Dr (AY z1 z0) h5 ?_
    refine .skip (.ghs (fr 143 [(0,Sl.v 1 s2),(5,sc 2 0 1 n1 c1),(25,Sl.v 1 s3),(26,zI z0),(27,zI z1)]) (hT 3 [(.cells Ay true false []),oC q1]) (.k [2] [false,false] [.tmp 5 false] [0,5,25,26,27] ⟨AO h4,trivial⟩) ?_)
    refine .then (.block (.then ?_))
    replace hm:=Ab hm;obtain⟨k1,h6,hm⟩:=hm
    obtain rfl:=AR h6
    replace hm:=Ae hm;obtain⟨h7,hm⟩:=hm
    replace hm:=FK hm;obtain⟨x1,h8,hm⟩:=hm
    refine .reg (eC 1 (keep (hT 3 [(.cells Ay true false []),oC q1]) (bb (an (Nat.blt k1 (Sl.n s3)) true) (some (Cv (k1*1) (Sl.cs s3))) none)) (AX h7) (eD (keep (hT 3 [(.cells Ay true false []),oC q1]) (AL (Sl.cs s3) (k1*1))) (AZ h8) (eE))) ?_
    refine .ghs (fr 143 [(0,Sl.v 1 s2),(5,sc 2 0 1 n1 c1),(6,(zI (Int.ofNat k1))),(7,zI x1),(25,Sl.v 1 s3),(26,zI z0),(27,(zI (Int.ofNat k1)))]) (hT 3 [(.cells Ay true false []),oC q1]) (.k [2] [false,false] [.tmp 5 false] [0,5,6,7,25,26,27] ⟨AO h4,trivial⟩) ?_
    replace hm:=Ab hm;obtain⟨k2,h9,hm⟩:=hm
    obtain rfl:=AR h9
    replace hm:=Ae hm;obtain⟨h10,hm⟩:=hm
    replace hm:=Ae hm;obtain⟨h11,hm⟩:=hm
    refine .reg (eC 3 (keep (hT 3 [(.cells Ay true false []),oC q1]) (bb (an (Nat.blt k2 n1) true) (some (.pointer (some ⟨2,(0+k2*1),none⟩))) none)) (AX h10) (eD (done (bb (an (Nat.ble ((0+k2*1)+1) (len q1)) true) (some (hT 3 [(.cells Ay true false []),(oC (BM ([(zI (Int.ofNat k1))]:LV) (0+k2*1) q1))])) none) undef) (Js h11) (eE))) ?_
    replace hm:=Ae hm;obtain⟨h12,hm⟩:=hm
    refine .ghs (fr 143 [(0,Sl.v 1 s2),(5,sc 2 0 1 n1 c1),(25,Sl.v 1 s3),(26,zI z0),(27,(zI (Int.ofNat k1)))]) (hT 3 [(.cells Ay true false []),(oC (BM ([(zI (Int.ofNat k1))]:LV) (0+k2*1) q1))]) (.k [2] [false,false] [.tmp 5 false] [0,5,25,26,27] ⟨AO h12,trivial⟩) ?_
    refine .rK ?_
    exact⟨(s2,n1,c1,s3,z0,(Aj .i64 (Int.add (Int.ofNat k1) (1:Int))),(BM ([(zI (Int.ofNat k1))]:LV) (0+k2*1) q1)),hm,(.k [2] [false,false] [.tmp 5 false] [0,5,25,26,27] ⟨AO h12,trivial⟩)⟩
   ·refine Dy (AY z1 z0) h5 ?_
    refine .exit ?_
    exact⟨(s2,n1,c1,q1),hm,(.k [2] [false,false] [.tmp 5 false] [0,5] ⟨AO h4,trivial⟩)⟩
end
end Go.TpDM
