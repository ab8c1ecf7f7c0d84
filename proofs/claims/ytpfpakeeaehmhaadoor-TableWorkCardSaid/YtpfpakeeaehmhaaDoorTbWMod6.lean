/- Made from wip. -/
import Derived.Test.YtpfpakeeaehmhaaDoorTbWMod0x

set_option maxRecDepth 100000
set_option maxHeartbeats 20000000
set_option linter.unusedVariables false
namespace Go.TbWM
open Go.Sp Go.TbW
noncomputable section
def Ha (pu:Af) (n:Nat) (ih0:Sl→Int→Int→Sl→Nat→Nat→Nat→Nat→LV→LV→OV) (s0:Sl) (z0 z1:Int) (s1:Sl) (n0 c0 n1 c1:Nat) (q0:LV) (q1:LV):OV:=
 (bb (Au Ah q0) (bb (Au Ah q1) (ih0 s0 (Aj .i64 (Int.add z0 (1:Int))) z1 s1 n0 c0 n1 c1 q0 q1) none) none)
def Hw (pu:Af) (n:Nat) (ih0:Sl→Int→Int→Sl→Nat→Nat→Nat→Nat→LV→LV→OV) (ih1:Sl→Int→Sl→Int→Int→Int→Sl→Nat→Nat→Nat→Nat→LV→LV→OV) (s0:Sl) (z0:Int) (s1:Sl) (z1 z2 z3:Int) (s2:Sl) (n0 c0 n1 c1:Nat) (q0:LV) (q1:LV):OV:=
 (bb (Au Ah q0) (bb (Au Ah q1) (bb (AY z2 z1) (oo (EA z2) none fun k1=>(bb (an (Nat.blt k1 (Sl.n s1)) true) (oo (AL (Sl.cs s1) (k1*1)) none fun v0=>(oo (Bf v0) none fun b0=>(bb (an (Nat.blt k1 n1) true) (oo (AL q1 (0+k1*1)) none fun v1=>(oo (Bf v1) none fun b1=>(bb b1 (bb (an (Nat.blt k1 n1) true) (bb (an (Nat.ble ((0+k1*1)+1) (len q1)) true) (bb (Au Ah (BM ([(.bool true)]:LV) (0+k1*1) q1)) (ih1 s0 z0 s1 z1 (Aj .i64 (Int.add (Int.ofNat k1) (1:Int))) z3 s2 n0 c0 n1 c1 q0 (BM ([(.bool true)]:LV) (0+k1*1) q1)) none) none) none) (bb b0 (bb (an (Nat.blt k1 n1) true) (bb (an (Nat.ble ((0+k1*1)+1) (len q1)) true) (bb (Au Ah (BM ([(.bool (AY z0 (0:Int)))]:LV) (0+k1*1) q1)) (ih1 s0 z0 s1 z1 (Aj .i64 (Int.add (Int.ofNat k1) (1:Int))) z3 s2 n0 c0 n1 c1 q0 (BM ([(.bool (AY z0 (0:Int)))]:LV) (0+k1*1) q1)) none) none) none) (bb (an (Nat.blt k1 n1) true) (bb (an (Nat.ble ((0+k1*1)+1) (len q1)) true) (bb (Au Ah (BM ([(.bool false)]:LV) (0+k1*1) q1)) (ih1 s0 z0 s1 z1 (Aj .i64 (Int.add (Int.ofNat k1) (1:Int))) z3 s2 n0 c0 n1 c1 q0 (BM ([(.bool false)]:LV) (0+k1*1) q1)) none) none) none))))) none))) none)) (Ha pu n ih0 s0 z0 z3 s2 n0 c0 n1 c1 q0 q1)) none) none)
def Hy (pu:Af) (n:Nat) (ih0:Sl→Int→Int→Sl→Nat→Nat→Nat→Nat→LV→LV→OV) (w:Nat):Sl→Int→Sl→Int→Int→Int→Sl→Nat→Nat→Nat→Nat→LV→LV→OV:=
 Nat.rec (motive:=fun _=>Sl→Int→Sl→Int→Int→Int→Sl→Nat→Nat→Nat→Nat→LV→LV→OV) (fun _ _ _ _ _ _ _ _ _ _ _ _ _=>none) (fun _ ih1=>Hw pu n ih0 ih1) w
def Gs (pu:Af) (n:Nat) (ih0:Sl→Int→Int→Sl→Nat→Nat→Nat→Nat→LV→LV→OV) (s0:Sl) (z0:Int) (s1:Sl) (z1:Int) (s2:Sl) (n0 c0 n1 c1:Nat) (q0:LV) (q1:LV):OV:=
 (bb (Au Ah q0) (bb (Au Ah q1) (Hy pu n ih0 n s0 z0 s1 (Int.ofNat (Sl.n s1)) (0:Int) z1 s2 n0 c0 n1 c1 q0 q1) none) none)
def FN (pu:Af) (n:Nat) (ih0:Sl→Int→Int→Sl→Nat→Nat→Nat→Nat→LV→LV→OV) (s77:Sl) (z78 z79:Int) (s80:Sl) (n81 Jf n83 c84:Nat) (q85:LV) (q86:LV):OV:=
 (bb (Au Ah q85) (bb (Au Ah q86) (bb (AY z78 (Int.ofNat (Sl.n s80))) (oo (pu 32 [(.agg ⟨[.int .i64 z79,(Sl.v 2 s80)]⟩),Sl.v 1 s77,.int .i64 z78]) none fun v0=>(oo (CQ v0) none fun l0=>(ll l0 none fun v1 l0=>(ll l0 none fun v2 l0=>(ll l0 (oo (Bj 1 v1) none fun s0=>(oo (Bj 1 v2) none fun s1=>(oo (EA (Aj .i64 (Int.add z78 (1:Int)))) none fun k1=>(oo (EA (Aj .i64 (Int.add z78 (1:Int)))) none fun k2=>(bb (an (Nat.blt k2 n81) true) (oo (AL q85 (0+k2*1)) none fun v3=>(oo (Bf v3) none fun b0=>(bb b0 (bb (an (Nat.blt k1 n81) true) (bb (an (Nat.ble ((0+k1*1)+1) (len q85)) true) (bb (Au Ah (BM ([(.bool true)]:LV) (0+k1*1) q85)) (Gs pu n ih0 s77 z78 s1 z79 s80 n81 Jf n83 c84 (BM ([(.bool true)]:LV) (0+k1*1) q85) q86) none) none) none) (oo (pu 33 [Sl.v 1 s0]) none fun v4=>(oo (Bf v4) none fun b1=>(bb (an (Nat.blt k1 n81) true) (bb (an (Nat.ble ((0+k1*1)+1) (len q85)) true) (bb (Au Ah (BM ([(.bool (nt b1))]:LV) (0+k1*1) q85)) (Gs pu n ih0 s77 z78 s1 z79 s80 n81 Jf n83 c84 (BM ([(.bool (nt b1))]:LV) (0+k1*1) q85) q86) none) none) none)))))) none))))) fun _ _=>none))))) (some (.tuple ⟨[(.tuple ⟨[]⟩),(.agg ⟨[.int .i64 z79,(Sl.v 2 s80)]⟩),(.agg ⟨[(.slice (some ⟨4,0,some 1⟩) n81 Jf)]⟩),(.agg ⟨[(.slice (some ⟨5,0,some 1⟩) n83 c84)]⟩),(.agg ⟨q85⟩),(.agg ⟨q86⟩)]⟩))) none) none)
def Dn (pu:Af) (n w:Nat):Sl→Int→Int→Sl→Nat→Nat→Nat→Nat→LV→LV→OV:=
 Nat.rec (motive:=fun _=>Sl→Int→Int→Sl→Nat→Nat→Nat→Nat→LV→LV→OV) (fun _ _ _ _ _ _ _ _ _ _=>none) (fun _ ih0=>FN pu n ih0) w
def Kg (pu:Af) (n:Nat) (s66:Sl) (z67:Int) (s68:Sl) (n69 c70 n71 c72:Nat) (q73:LV) (q74:LV):OV:=
 (bb (Au Ah q73) (bb (Au Ah q74) (Dn pu n n s66 (-1:Int) z67 s68 n69 c70 n71 c72 q73 q74) none) none)
def OO (pu:Af) (n:Nat) (args:LV):OV:=
 (ll args none fun a0 args=>(ll args none fun a1 args=>(ll args none fun a2 args=>(ll args none fun a3 args=>(ll args none fun o0 args=>(ll args none fun o1 args=>(ll args none fun o2 args=>(ll args none fun o3 args=>(ll args none fun o4 args=>(ll args (oo (Bj 1 a0) none fun s0=>(bb (MK a1 1 0) (bb (MK a2 2 0) (bb (MK a3 3 0) (oo (Bt o0) none fun l0=>(ll l0 none fun v0 l0=>(ll l0 none fun v1 l0=>(ll l0 (oo (Bi .i64 v0) none fun x0=>(oo (Bj 2 v1) none fun s1=>(oo (Bt o1) none fun l1=>(ll l1 none fun v2 l1=>(ll l1 (oo (KP 4 0 1 v2) none fun y0=>(oo (Bt o2) none fun l2=>(ll l2 none fun v3 l2=>(ll l2 (oo (KP 5 0 1 v3) none fun y1=>(oo (Bt o3) none fun q0=>(oo (Bt o4) none fun q1=>(Kg pu n s0 x0 s1 (NC.n y0) (NC.c y0) (NC.n y1) (NC.c y1) q0 q1)))) fun _ _=>none)))) fun _ _=>none))))) fun _ _=>none)))) none) none) none)) fun _ _=>none))))))))))
theorem lN (pu:Af) (n:Nat) (s66:Sl) (z67:Int) (s68:Sl) (n69 c70 n71 c72:Nat) (q73:LV) (q74:LV) {v:Value} (hm:Kg pu n s66 z67 s68 n69 c70 n71 c72 q73 q74=some v):BN tt (Bb tabs FM pu (inl pu)) 6 Ni (fr 60 [(0,Sl.v 1 s66),(1,pt 1 0),(2,(pt 2 0)),(3,(pt 3 0))]) (hT 6 [(oC [zI z67,(Sl.v 2 s68)]),(oC [sc 4 0 1 n69 c70]),(oC [sc 5 0 1 n71 c72]),oC q73,oC q74]) (FJ tt 1 5 [] v):=by
 unfold Kg at hm
 refine .then (.rK ?_)
 replace hm:=Ae hm;obtain⟨h75,hm⟩:=hm
 replace hm:=Ae hm;obtain⟨h76,hm⟩:=hm
 refine .ghs (fr 60 [(0,Sl.v 1 s66),(1,pt 1 0),(2,(pt 2 0)),(3,(pt 3 0)),(5,(zI (-1:Int)))]) (hT 6 [(oC [zI z67,(Sl.v 2 s68)]),(oC [sc 4 0 1 n69 c70]),(oC [sc 5 0 1 n71 c72]),oC q73,oC q74]) (.k [4,5] [false,false,true,true,false,false] [] [0,1,2,3,5] ⟨Bq h75,Bq h76,trivial⟩) ?_
 refine .block (.loopM (v:=v) (fun y:Sl×Int×Int×Sl×Nat×Nat×Nat×Nat×LV×LV=>((fr 60 [(0,(Sl.v 1 y.1)),(1,pt 1 0),(2,(pt 2 0)),(3,(pt 3 0)),(5,(zI y.2.1))]),(hT 6 [(oC [(zI y.2.2.1),(Sl.v 2 y.2.2.2.1)]),(oC [(sc 4 0 1 y.2.2.2.2.1 y.2.2.2.2.2.1)]),(oC [(sc 5 0 1 y.2.2.2.2.2.2.1 y.2.2.2.2.2.2.2.1)]),(oC y.2.2.2.2.2.2.2.2.1),(oC y.2.2.2.2.2.2.2.2.2)]))) (fun w y=>Dn pu n w y.1 y.2.1 y.2.2.1 y.2.2.2.1 y.2.2.2.2.1 y.2.2.2.2.2.1 y.2.2.2.2.2.2.1 y.2.2.2.2.2.2.2.1 y.2.2.2.2.2.2.2.2.1 y.2.2.2.2.2.2.2.2.2) n ⟨(s66,(-1:Int),z67,s68,n69,c70,n71,c72,q73,q74),hm,(.k [4,5] [false,false,true,true,false,false] [] [0,1,2,3,5] ⟨Bq h75,Bq h76,trivial⟩)⟩ (fun _=>rfl) ?_)
 rintro w0 ⟨s77,z78,z79,s80,n81,Jf,n83,c84,q85,q86⟩ hm
 replace hm:FN pu n (Dn pu n w0) s77 z78 z79 s80 n81 Jf n83 c84 q85 q86=some v:=hm
 unfold FN at hm
 refine .then (.then (.rK ?_))
 replace hm:=Ae hm;obtain⟨h87,hm⟩:=hm
 replace hm:=Ae hm;obtain⟨h88,hm⟩:=hm
 refine .ghs (fr 60 [(0,Sl.v 1 s77),(1,pt 1 0),(2,(pt 2 0)),(3,(pt 3 0)),(5,zI z78),(14,(zB (AY z78 (Int.ofNat (Sl.n s80)))))]) (hT 6 [(oC [zI z79,(Sl.v 2 s80)]),(oC [sc 4 0 1 n81 Jf]),(oC [sc 5 0 1 n83 c84]),oC q85,oC q86]) (.k [4,5] [false,false,true,true,false,false] [] [0,1,2,3,5,14] ⟨Bq h87,Bq h88,trivial⟩) ?_
 replace hm:=Ag hm;rcases hm with⟨h89,hm⟩ | ⟨h89,hm⟩
 ·refine DL (AY z78 (Int.ofNat (Sl.n s80))) h89 ?_
  refine .skip (.ghs (fr 60 [(0,Sl.v 1 s77),(1,pt 1 0),(2,(pt 2 0)),(3,(pt 3 0)),(5,zI z78)]) (hT 6 [(oC [zI z79,(Sl.v 2 s80)]),(oC [sc 4 0 1 n81 Jf]),(oC [sc 5 0 1 n83 c84]),oC q85,oC q86]) (.k [4,5] [false,false,true,true,false,false] [] [0,1,2,3,5] ⟨Bq h87,Bq h88,trivial⟩) ?_)
  refine .join (v:=v) (fun y:Sl×Int×Int×Sl×Nat×Nat×Nat×Nat×LV×LV=>((fr 60 [(0,(Sl.v 1 y.1)),(1,pt 1 0),(2,(pt 2 0)),(3,(pt 3 0)),(5,(zI y.2.1))]),(hT 6 [(oC [(zI y.2.2.1),(Sl.v 2 y.2.2.2.1)]),(oC [(sc 4 0 1 y.2.2.2.2.1 y.2.2.2.2.2.1)]),(oC [(sc 5 0 1 y.2.2.2.2.2.2.1 y.2.2.2.2.2.2.2.1)]),(oC y.2.2.2.2.2.2.2.2.1),(oC y.2.2.2.2.2.2.2.2.2)]))) (fun y=>Ha pu n (Dn pu n w0) y.1 y.2.1 y.2.2.1 y.2.2.2.1 y.2.2.2.2.1 y.2.2.2.2.2.1 y.2.2.2.2.2.2.1 y.2.2.2.2.2.2.2.1 y.2.2.2.2.2.2.2.2.1 y.2.2.2.2.2.2.2.2.2) ?_ ?_
  ·rintro⟨s0,z0,z1,s1,n0,c0,n1,c1,q0,q1⟩ hm
   unfold Ha at hm
   refine .rK ?_
   replace hm:=Ae hm;obtain⟨h0,hm⟩:=hm
   replace hm:=Ae hm;obtain⟨h1,hm⟩:=hm
   exact⟨(s0,(Aj .i64 (Int.add z0 (1:Int))),z1,s1,n0,c0,n1,c1,q0,q1),hm,(.k [4,5] [false,false,true,true,false,false] [] [0,1,2,3,5] ⟨Bq h0,Bq h1,trivial⟩)⟩
  ·refine .block (.then ?_)
   replace hm:=Ab hm;obtain⟨v0,h2,hm⟩:=hm
   replace hm:=Ch hm;obtain⟨l0,rfl,hm⟩:=hm
   replace hm:=Ad hm;obtain⟨v1,l480_0,rfl,hm⟩:=hm
   replace hm:=Ad hm;obtain⟨v2,l480_1,rfl,hm⟩:=hm
   replace hm:=AC hm;obtain⟨rfl,hm⟩:=hm
   replace hm:=Al hm;obtain⟨s2,rfl,hm⟩:=hm
   replace hm:=Al hm;obtain⟨s3,rfl,hm⟩:=hm
   refine .reg (eC 3 ((oo (pu 32 [(.agg ⟨[zI z79,(Sl.v 2 s80)]⟩),Sl.v 1 s77,zI z78]) none fun v=>some (v,(hT 6 [(oC [zI z79,(Sl.v 2 s80)]),(oC [sc 4 0 1 n81 Jf]),(oC [sc 5 0 1 n83 c84]),oC q85,oC q86])))) (AB h2) (eE)) ?_
   refine .ghs (fr 60 [(0,Sl.v 1 s77),(1,pt 1 0),(2,(pt 2 0)),(3,(pt 3 0)),(5,zI z78),(6,Sl.v 1 s2),(7,Sl.v 1 s3)]) (hT 6 [(oC [zI z79,(Sl.v 2 s80)]),(oC [sc 4 0 1 n81 Jf]),(oC [sc 5 0 1 n83 c84]),oC q85,oC q86]) (.k [4,5] [false,false,true,true,false,false] [] [0,1,2,3,5,6,7] ⟨Bq h87,Bq h88,trivial⟩) ?_
   refine .join (v:=v) (fun y:Sl×Int×Sl×Int×Sl×Nat×Nat×Nat×Nat×LV×LV=>((fr 60 [(0,(Sl.v 1 y.1)),(1,pt 1 0),(2,(pt 2 0)),(3,(pt 3 0)),(5,(zI y.2.1)),(7,(Sl.v 1 y.2.2.1))]),(hT 6 [(oC [(zI y.2.2.2.1),(Sl.v 2 y.2.2.2.2.1)]),(oC [(sc 4 0 1 y.2.2.2.2.2.1 y.2.2.2.2.2.2.1)]),(oC [(sc 5 0 1 y.2.2.2.2.2.2.2.1 y.2.2.2.2.2.2.2.2.1)]),(oC y.2.2.2.2.2.2.2.2.2.1),(oC y.2.2.2.2.2.2.2.2.2.2)]))) (fun y=>Gs pu n (Dn pu n w0) y.1 y.2.1 y.2.2.1 y.2.2.2.1 y.2.2.2.2.1 y.2.2.2.2.2.1 y.2.2.2.2.2.2.1 y.2.2.2.2.2.2.2.1 y.2.2.2.2.2.2.2.2.1 y.2.2.2.2.2.2.2.2.2.1 y.2.2.2.2.2.2.2.2.2.2) ?_ ?_
   ·rintro⟨s4,z2,s5,z3,s6,n2,c2,n3,c3,q2,q3⟩ hm
    unfold Gs at hm
    refine .then (.rK ?_)
    replace hm:=Ae hm;obtain⟨h3,hm⟩:=hm
    replace hm:=Ae hm;obtain⟨h4,hm⟩:=hm
    refine .ghs (fr 60 [(0,Sl.v 1 s4),(1,pt 1 0),(2,(pt 2 0)),(3,(pt 3 0)),(5,zI z2),(38,Sl.v 1 s5),(39,(zI (Int.ofNat (Sl.n s5)))),(40,(zI (0:Int)))]) (hT 6 [(oC [zI z3,(Sl.v 2 s6)]),(oC [sc 4 0 1 n2 c2]),(oC [sc 5 0 1 n3 c3]),oC q2,oC q3]) (.k [4,5] [false,false,true,true,false,false] [] [0,1,2,3,5,38,39,40] ⟨Bq h3,Bq h4,trivial⟩) ?_
    refine .block (.loopM (v:=v) (fun y:Sl×Int×Sl×Int×Int×Int×Sl×Nat×Nat×Nat×Nat×LV×LV=>((fr 60 [(0,(Sl.v 1 y.1)),(1,pt 1 0),(2,(pt 2 0)),(3,(pt 3 0)),(5,(zI y.2.1)),(38,(Sl.v 1 y.2.2.1)),(39,(zI y.2.2.2.1)),(40,(zI y.2.2.2.2.1))]),(hT 6 [(oC [(zI y.2.2.2.2.2.1),(Sl.v 2 y.2.2.2.2.2.2.1)]),(oC [(sc 4 0 1 y.2.2.2.2.2.2.2.1 y.2.2.2.2.2.2.2.2.1)]),(oC [(sc 5 0 1 y.2.2.2.2.2.2.2.2.2.1 y.2.2.2.2.2.2.2.2.2.2.1)]),(oC y.2.2.2.2.2.2.2.2.2.2.2.1),(oC y.2.2.2.2.2.2.2.2.2.2.2.2)]))) (fun w y=>Hy pu n (Dn pu n w0) w y.1 y.2.1 y.2.2.1 y.2.2.2.1 y.2.2.2.2.1 y.2.2.2.2.2.1 y.2.2.2.2.2.2.1 y.2.2.2.2.2.2.2.1 y.2.2.2.2.2.2.2.2.1 y.2.2.2.2.2.2.2.2.2.1 y.2.2.2.2.2.2.2.2.2.2.1 y.2.2.2.2.2.2.2.2.2.2.2.1 y.2.2.2.2.2.2.2.2.2.2.2.2) n ⟨(s4,z2,s5,(Int.ofNat (Sl.n s5)),(0:Int),z3,s6,n2,c2,n3,c3,q2,q3),hm,(.k [4,5] [false,false,true,true,false,false] [] [0,1,2,3,5,38,39,40] ⟨Bq h3,Bq h4,trivial⟩)⟩ (fun _=>rfl) ?_)
    rintro w1 ⟨s7,z4,s8,z5,z6,z7,s9,n4,c4,n5,c5,q4,q5⟩ hm
    replace hm:Hw pu n (Dn pu n w0) (Hy pu n (Dn pu n w0) w1) s7 z4 s8 z5 z6 z7 s9 n4 c4 n5 c5 q4 q5=some v:=hm
    unfold Hw at hm
    refine .then (.rK ?_)
    replace hm:=Ae hm;obtain⟨h5,hm⟩:=hm
    replace hm:=Ae hm;obtain⟨h6,hm⟩:=hm
    refine .ghs (fr 60 [(0,Sl.v 1 s7),(1,pt 1 0),(2,(pt 2 0)),(3,(pt 3 0)),(5,zI z4),(38,Sl.v 1 s8),(39,zI z5),(40,zI z6),(41,(zB (AY z6 z5)))]) (hT 6 [(oC [zI z7,(Sl.v 2 s9)]),(oC [sc 4 0 1 n4 c4]),(oC [sc 5 0 1 n5 c5]),oC q4,oC q5]) (.k [4,5] [false,false,true,true,false,false] [] [0,1,2,3,5,38,39,40,41] ⟨Bq h5,Bq h6,trivial⟩) ?_
    refine .then ?_
    replace hm:=Ag hm;rcases hm with⟨h7,hm⟩ | ⟨h7,hm⟩
    ·refine DL (AY z6 z5) h7 ?_
     refine .skip (.ghs (fr 60 [(0,Sl.v 1 s7),(1,pt 1 0),(2,(pt 2 0)),(3,(pt 3 0)),(5,zI z4),(38,Sl.v 1 s8),(39,zI z5),(40,zI z6)]) (hT 6 [(oC [zI z7,(Sl.v 2 s9)]),(oC [sc 4 0 1 n4 c4]),(oC [sc 5 0 1 n5 c5]),oC q4,oC q5]) (.k [4,5] [false,false,true,true,false,false] [] [0,1,2,3,5,38,39,40] ⟨Bq h5,Bq h6,trivial⟩) ?_)
     refine .then (.block (.then ?_))
     replace hm:=Ab hm;obtain⟨k1,h8,hm⟩:=hm
     obtain rfl:=AR h8
     replace hm:=Ae hm;obtain⟨h9,hm⟩:=hm
     replace hm:=Sm hm;obtain⟨b0,h10,hm⟩:=hm
     refine .reg (eC 1 (keep (hT 6 [(oC [zI z7,(Sl.v 2 s9)]),(oC [sc 4 0 1 n4 c4]),(oC [sc 5 0 1 n5 c5]),oC q4,oC q5]) (bb (an (Nat.blt k1 (Sl.n s8)) true) (some (Cv (k1*1) (Sl.cs s8))) none)) (AX h9) (eD (keep (hT 6 [(oC [zI z7,(Sl.v 2 s9)]),(oC [sc 4 0 1 n4 c4]),(oC [sc 5 0 1 n5 c5]),oC q4,oC q5]) (AL (Sl.cs s8) (k1*1))) (AZ h10) (eE))) ?_
     refine .ghs (fr 60 [(0,Sl.v 1 s7),(1,pt 1 0),(2,(pt 2 0)),(3,(pt 3 0)),(5,zI z4),(8,(zI (Int.ofNat k1))),(9,zB b0),(38,Sl.v 1 s8),(39,zI z5),(40,(zI (Int.ofNat k1)))]) (hT 6 [(oC [zI z7,(Sl.v 2 s9)]),(oC [sc 4 0 1 n4 c4]),(oC [sc 5 0 1 n5 c5]),oC q4,oC q5]) (.k [4,5] [false,false,true,true,false,false] [] [0,1,2,3,5,8,9,38,39,40] ⟨Bq h5,Bq h6,trivial⟩) ?_
     replace hm:=Ae hm;obtain⟨h11,hm⟩:=hm
     replace hm:=Sm hm;obtain⟨b1,h12,hm⟩:=hm
     replace hm:=Ag hm;rcases hm with⟨h13,hm⟩ | ⟨h13,hm⟩
     ·replace hm:=Ae hm;obtain⟨h14,hm⟩:=hm
      replace hm:=Ae hm;obtain⟨h15,hm⟩:=hm
      refine .reg (eC 4 (keep (hT 6 [(oC [zI z7,(Sl.v 2 s9)]),(oC [sc 4 0 1 n4 c4]),(oC [sc 5 0 1 n5 c5]),oC q4,oC q5]) (bb (an (Nat.blt k1 n5) true) (some (.pointer (some ⟨5,(0+k1*1),none⟩))) none)) (AX h11) (eD (keep (hT 6 [(oC [zI z7,(Sl.v 2 s9)]),(oC [sc 4 0 1 n4 c4]),(oC [sc 5 0 1 n5 c5]),oC q4,oC q5]) (AL q5 (0+k1*1))) (show _=some ((zB true),_) from (by have hz:keep (hT 6 [(oC [zI z7,(Sl.v 2 s9)]),(oC [sc 4 0 1 n4 c4]),(oC [sc 5 0 1 n5 c5]),oC q4,oC q5]) (AL q5 (0+k1*1))=some ((zB b1),(hT 6 [(oC [zI z7,(Sl.v 2 s9)]),(oC [sc 4 0 1 n4 c4]),(oC [sc 5 0 1 n5 c5]),oC q4,oC q5])):=(AZ h12);rw[h13] at hz;exact hz)) (eC 7 (keep (hT 6 [(oC [zI z7,(Sl.v 2 s9)]),(oC [sc 4 0 1 n4 c4]),(oC [sc 5 0 1 n5 c5]),oC q4,oC q5]) (bb (an (Nat.blt k1 n5) true) (some (.pointer (some ⟨5,(0+k1*1),none⟩))) none)) (AX h14) (eD (done (bb (an (Nat.ble ((0+k1*1)+1) (len q5)) true) (some (hT 6 [(oC [zI z7,(Sl.v 2 s9)]),(oC [sc 4 0 1 n4 c4]),(oC [sc 5 0 1 n5 c5]),oC q4,(oC (BM ([zB true]:LV) (0+k1*1) q5))])) none) undef) (Js h15) (eE))))) ?_
      replace hm:=Ae hm;obtain⟨h16,hm⟩:=hm
      refine .ghs (fr 60 [(0,Sl.v 1 s7),(1,pt 1 0),(2,(pt 2 0)),(3,(pt 3 0)),(5,zI z4),(38,Sl.v 1 s8),(39,zI z5),(40,(zI (Int.ofNat k1)))]) (hT 6 [(oC [zI z7,(Sl.v 2 s9)]),(oC [sc 4 0 1 n4 c4]),(oC [sc 5 0 1 n5 c5]),oC q4,(oC (BM ([zB true]:LV) (0+k1*1) q5))]) (.k [4,5] [false,false,true,true,false,false] [] [0,1,2,3,5,38,39,40] ⟨Bq h5,Bq h16,trivial⟩) ?_
      refine .rK ?_
      exact⟨(s7,z4,s8,z5,(Aj .i64 (Int.add (Int.ofNat k1) (1:Int))),z7,s9,n4,c4,n5,c5,q4,(BM ([zB true]:LV) (0+k1*1) q5)),hm,(.k [4,5] [false,false,true,true,false,false] [] [0,1,2,3,5,38,39,40] ⟨Bq h5,Bq h16,trivial⟩)⟩
     ·replace hm:=Ag hm;rcases hm with⟨h14,hm⟩ | ⟨h14,hm⟩
      ·replace hm:=Ae hm;obtain⟨h15,hm⟩:=hm
       replace hm:=Ae hm;obtain⟨h17,hm⟩:=hm
       refine .reg (eC 4 (keep (hT 6 [(oC [zI z7,(Sl.v 2 s9)]),(oC [sc 4 0 1 n4 c4]),(oC [sc 5 0 1 n5 c5]),oC q4,oC q5]) (bb (an (Nat.blt k1 n5) true) (some (.pointer (some ⟨5,(0+k1*1),none⟩))) none)) (AX h11) (eD (keep (hT 6 [(oC [zI z7,(Sl.v 2 s9)]),(oC [sc 4 0 1 n4 c4]),(oC [sc 5 0 1 n5 c5]),oC q4,oC q5]) (AL q5 (0+k1*1))) (show _=some ((zB false),_) from (by have hz:keep (hT 6 [(oC [zI z7,(Sl.v 2 s9)]),(oC [sc 4 0 1 n4 c4]),(oC [sc 5 0 1 n5 c5]),oC q4,oC q5]) (AL q5 (0+k1*1))=some ((zB b1),(hT 6 [(oC [zI z7,(Sl.v 2 s9)]),(oC [sc 4 0 1 n4 c4]),(oC [sc 5 0 1 n5 c5]),oC q4,oC q5])):=(AZ h12);rw[h13] at hz;exact hz)) (eC 1 (some ((zB b0),(hT 6 [(oC [zI z7,(Sl.v 2 s9)]),(oC [sc 4 0 1 n4 c4]),(oC [sc 5 0 1 n5 c5]),oC q4,oC q5]))) (show _=some ((zB true),_) from (by rw[show b0=true from h14])) (eC 5 (keep (hT 6 [(oC [zI z7,(Sl.v 2 s9)]),(oC [sc 4 0 1 n4 c4]),(oC [sc 5 0 1 n5 c5]),oC q4,oC q5]) (bb (an (Nat.blt k1 n5) true) (some (.pointer (some ⟨5,(0+k1*1),none⟩))) none)) (AX h15) (eD (done (bb (an (Nat.ble ((0+k1*1)+1) (len q5)) true) (some (hT 6 [(oC [zI z7,(Sl.v 2 s9)]),(oC [sc 4 0 1 n4 c4]),(oC [sc 5 0 1 n5 c5]),oC q4,(oC (BM ([(zB (AY z4 (0:Int)))]:LV) (0+k1*1) q5))])) none) undef) (Js h17) (eE)))))) ?_
       replace hm:=Ae hm;obtain⟨h18,hm⟩:=hm
       refine .ghs (fr 60 [(0,Sl.v 1 s7),(1,pt 1 0),(2,(pt 2 0)),(3,(pt 3 0)),(5,zI z4),(38,Sl.v 1 s8),(39,zI z5),(40,(zI (Int.ofNat k1)))]) (hT 6 [(oC [zI z7,(Sl.v 2 s9)]),(oC [sc 4 0 1 n4 c4]),(oC [sc 5 0 1 n5 c5]),oC q4,(oC (BM ([(zB (AY z4 (0:Int)))]:LV) (0+k1*1) q5))]) (.k [4,5] [false,false,true,true,false,false] [] [0,1,2,3,5,38,39,40] ⟨Bq h5,Bq h18,trivial⟩) ?_
       refine .rK ?_
       exact⟨(s7,z4,s8,z5,(Aj .i64 (Int.add (Int.ofNat k1) (1:Int))),z7,s9,n4,c4,n5,c5,q4,(BM ([(zB (AY z4 (0:Int)))]:LV) (0+k1*1) q5)),hm,(.k [4,5] [false,false,true,true,false,false] [] [0,1,2,3,5,38,39,40] ⟨Bq h5,Bq h18,trivial⟩)⟩
      ·replace hm:=Ae hm;obtain⟨h15,hm⟩:=hm
       replace hm:=Ae hm;obtain⟨h17,hm⟩:=hm
       refine .reg (eC 4 (keep (hT 6 [(oC [zI z7,(Sl.v 2 s9)]),(oC [sc 4 0 1 n4 c4]),(oC [sc 5 0 1 n5 c5]),oC q4,oC q5]) (bb (an (Nat.blt k1 n5) true) (some (.pointer (some ⟨5,(0+k1*1),none⟩))) none)) (AX h11) (eD (keep (hT 6 [(oC [zI z7,(Sl.v 2 s9)]),(oC [sc 4 0 1 n4 c4]),(oC [sc 5 0 1 n5 c5]),oC q4,oC q5]) (AL q5 (0+k1*1))) (show _=some ((zB false),_) from (by have hz:keep (hT 6 [(oC [zI z7,(Sl.v 2 s9)]),(oC [sc 4 0 1 n4 c4]),(oC [sc 5 0 1 n5 c5]),oC q4,oC q5]) (AL q5 (0+k1*1))=some ((zB b1),(hT 6 [(oC [zI z7,(Sl.v 2 s9)]),(oC [sc 4 0 1 n4 c4]),(oC [sc 5 0 1 n5 c5]),oC q4,oC q5])):=(AZ h12);rw[h13] at hz;exact hz)) (eC 1 (some ((zB b0),(hT 6 [(oC [zI z7,(Sl.v 2 s9)]),(oC [sc 4 0 1 n4 c4]),(oC [sc 5 0 1 n5 c5]),oC q4,oC q5]))) (show _=some ((zB false),_) from (by rw[show b0=false from h14])) (eC 5 (keep (hT 6 [(oC [zI z7,(Sl.v 2 s9)]),(oC [sc 4 0 1 n4 c4]),(oC [sc 5 0 1 n5 c5]),oC q4,oC q5]) (bb (an (Nat.blt k1 n5) true) (some (.pointer (some ⟨5,(0+k1*1),none⟩))) none)) (AX h15) (eD (done (bb (an (Nat.ble ((0+k1*1)+1) (len q5)) true) (some (hT 6 [(oC [zI z7,(Sl.v 2 s9)]),(oC [sc 4 0 1 n4 c4]),(oC [sc 5 0 1 n5 c5]),oC q4,(oC (BM ([zB false]:LV) (0+k1*1) q5))])) none) undef) (Js h17) (eE)))))) ?_
       replace hm:=Ae hm;obtain⟨h19,hm⟩:=hm
       refine .ghs (fr 60 [(0,Sl.v 1 s7),(1,pt 1 0),(2,(pt 2 0)),(3,(pt 3 0)),(5,zI z4),(38,Sl.v 1 s8),(39,zI z5),(40,(zI (Int.ofNat k1)))]) (hT 6 [(oC [zI z7,(Sl.v 2 s9)]),(oC [sc 4 0 1 n4 c4]),(oC [sc 5 0 1 n5 c5]),oC q4,(oC (BM ([zB false]:LV) (0+k1*1) q5))]) (.k [4,5] [false,false,true,true,false,false] [] [0,1,2,3,5,38,39,40] ⟨Bq h5,Bq h19,trivial⟩) ?_
       refine .rK ?_
       exact⟨(s7,z4,s8,z5,(Aj .i64 (Int.add (Int.ofNat k1) (1:Int))),z7,s9,n4,c4,n5,c5,q4,(BM ([zB false]:LV) (0+k1*1) q5)),hm,(.k [4,5] [false,false,true,true,false,false] [] [0,1,2,3,5,38,39,40] ⟨Bq h5,Bq h19,trivial⟩)⟩
    ·refine DT (AY z6 z5) h7 ?_
     refine .exit ?_
     exact⟨(s7,z4,z7,s9,n4,c4,n5,c5,q4,q5),hm,(.k [4,5] [false,false,true,true,false,false] [] [0,1,2,3,5] ⟨Bq h5,Bq h6,trivial⟩)⟩
   ·replace hm:=Ab hm;obtain⟨k2,h20,hm⟩:=hm
    replace hm:=Ab hm;obtain⟨k3,h21,hm⟩:=hm
    replace hm:=Ae hm;obtain⟨h22,hm⟩:=hm
    replace hm:=Sm hm;obtain⟨b2,h23,hm⟩:=hm
    replace hm:=Ag hm;rcases hm with⟨h24,hm⟩ | ⟨h24,hm⟩
    ·replace hm:=Ae hm;obtain⟨h25,hm⟩:=hm
     replace hm:=Ae hm;obtain⟨h26,hm⟩:=hm
     refine .reg (eN 7 (Fr.puts (fr 60 [(0,Sl.v 1 s77),(1,pt 1 0),(2,(pt 2 0)),(3,(pt 3 0)),(5,zI z78),(6,Sl.v 1 s2),(7,Sl.v 1 s3)]) [(24,sc 4 0 1 n81 Jf),(25,zI z78),(26,(zI (Int.ofNat k2))),(27,sc 4 0 1 n81 Jf),(28,zI z78),(29,(zI (Int.ofNat k3))),(30,(.pointer (some ⟨4,(0+k3*1),none⟩)))]) (hT 6 [(oC [zI z79,(Sl.v 2 s80)]),(oC [sc 4 0 1 n81 Jf]),(oC [sc 5 0 1 n83 c84]),oC q85,oC q86]) (eC 2 (some ((zI (Aj .i64 (Int.add z78 (1:Int)))),(hT 6 [(oC [zI z79,(Sl.v 2 s80)]),(oC [sc 4 0 1 n81 Jf]),(oC [sc 5 0 1 n83 c84]),oC q85,oC q86]))) (show _=some ((zI (Int.ofNat k2)),_) from (by rw[AR h20])) (eC 2 (some ((zI (Aj .i64 (Int.add z78 (1:Int)))),(hT 6 [(oC [zI z79,(Sl.v 2 s80)]),(oC [sc 4 0 1 n81 Jf]),(oC [sc 5 0 1 n83 c84]),oC q85,oC q86]))) (show _=some ((zI (Int.ofNat k3)),_) from (by rw[AR h21])) (eD (keep (hT 6 [(oC [zI z79,(Sl.v 2 s80)]),(oC [sc 4 0 1 n81 Jf]),(oC [sc 5 0 1 n83 c84]),oC q85,oC q86]) (bb (an (Nat.blt k3 n81) true) (some (.pointer (some ⟨4,(0+k3*1),none⟩))) none)) (AX h22) (by kernel_rfl)))) (eD (keep (hT 6 [(oC [zI z79,(Sl.v 2 s80)]),(oC [sc 4 0 1 n81 Jf]),(oC [sc 5 0 1 n83 c84]),oC q85,oC q86]) (AL q85 (0+k3*1))) (show _=some ((zB true),_) from (by have hz:keep (hT 6 [(oC [zI z79,(Sl.v 2 s80)]),(oC [sc 4 0 1 n81 Jf]),(oC [sc 5 0 1 n83 c84]),oC q85,oC q86]) (AL q85 (0+k3*1))=some ((zB b2),(hT 6 [(oC [zI z79,(Sl.v 2 s80)]),(oC [sc 4 0 1 n81 Jf]),(oC [sc 5 0 1 n83 c84]),oC q85,oC q86])):=(AZ h23);rw[h24] at hz;exact hz)) (eC 5 (keep (hT 6 [(oC [zI z79,(Sl.v 2 s80)]),(oC [sc 4 0 1 n81 Jf]),(oC [sc 5 0 1 n83 c84]),oC q85,oC q86]) (bb (an (Nat.blt k2 n81) true) (some (.pointer (some ⟨4,(0+k2*1),none⟩))) none)) (AX h25) (eD (done (bb (an (Nat.ble ((0+k2*1)+1) (len q85)) true) (some (hT 6 [(oC [zI z79,(Sl.v 2 s80)]),(oC [sc 4 0 1 n81 Jf]),(oC [sc 5 0 1 n83 c84]),(oC (BM ([zB true]:LV) (0+k2*1) q85)),oC q86])) none) undef) (Js h26) (eE))))) ?_
     replace hm:=Ae hm;obtain⟨h27,hm⟩:=hm
     exact⟨(s77,z78,s3,z79,s80,n81,Jf,n83,c84,(BM ([zB true]:LV) (0+k2*1) q85),q86),hm,(.k [4,5] [false,false,true,true,false,false] [] [0,1,2,3,5,7] ⟨Bq h27,Bq h88,trivial⟩)⟩
    ·replace hm:=Sm hm;obtain⟨b3,h26,hm⟩:=hm
     replace hm:=Ae hm;obtain⟨h28,hm⟩:=hm
     replace hm:=Ae hm;obtain⟨h29,hm⟩:=hm
     refine .reg (eN 7 (Fr.puts (fr 60 [(0,Sl.v 1 s77),(1,pt 1 0),(2,(pt 2 0)),(3,(pt 3 0)),(5,zI z78),(6,Sl.v 1 s2),(7,Sl.v 1 s3)]) [(24,sc 4 0 1 n81 Jf),(25,zI z78),(26,(zI (Int.ofNat k2))),(27,sc 4 0 1 n81 Jf),(28,zI z78),(29,(zI (Int.ofNat k3))),(30,(.pointer (some ⟨4,(0+k3*1),none⟩)))]) (hT 6 [(oC [zI z79,(Sl.v 2 s80)]),(oC [sc 4 0 1 n81 Jf]),(oC [sc 5 0 1 n83 c84]),oC q85,oC q86]) (eC 2 (some ((zI (Aj .i64 (Int.add z78 (1:Int)))),(hT 6 [(oC [zI z79,(Sl.v 2 s80)]),(oC [sc 4 0 1 n81 Jf]),(oC [sc 5 0 1 n83 c84]),oC q85,oC q86]))) (show _=some ((zI (Int.ofNat k2)),_) from (by rw[AR h20])) (eC 2 (some ((zI (Aj .i64 (Int.add z78 (1:Int)))),(hT 6 [(oC [zI z79,(Sl.v 2 s80)]),(oC [sc 4 0 1 n81 Jf]),(oC [sc 5 0 1 n83 c84]),oC q85,oC q86]))) (show _=some ((zI (Int.ofNat k3)),_) from (by rw[AR h21])) (eD (keep (hT 6 [(oC [zI z79,(Sl.v 2 s80)]),(oC [sc 4 0 1 n81 Jf]),(oC [sc 5 0 1 n83 c84]),oC q85,oC q86]) (bb (an (Nat.blt k3 n81) true) (some (.pointer (some ⟨4,(0+k3*1),none⟩))) none)) (AX h22) (by kernel_rfl)))) (eD (keep (hT 6 [(oC [zI z79,(Sl.v 2 s80)]),(oC [sc 4 0 1 n81 Jf]),(oC [sc 5 0 1 n83 c84]),oC q85,oC q86]) (AL q85 (0+k3*1))) (show _=some ((zB false),_) from (by have hz:keep (hT 6 [(oC [zI z79,(Sl.v 2 s80)]),(oC [sc 4 0 1 n81 Jf]),(oC [sc 5 0 1 n83 c84]),oC q85,oC q86]) (AL q85 (0+k3*1))=some ((zB b2),(hT 6 [(oC [zI z79,(Sl.v 2 s80)]),(oC [sc 4 0 1 n81 Jf]),(oC [sc 5 0 1 n83 c84]),oC q85,oC q86])):=(AZ h23);rw[h24] at hz;exact hz)) (eC 2 ((oo (pu 33 [Sl.v 1 s2]) none fun v=>some (v,(hT 6 [(oC [zI z79,(Sl.v 2 s80)]),(oC [sc 4 0 1 n81 Jf]),(oC [sc 5 0 1 n83 c84]),oC q85,oC q86])))) (AB h26) (eC 2 (keep (hT 6 [(oC [zI z79,(Sl.v 2 s80)]),(oC [sc 4 0 1 n81 Jf]),(oC [sc 5 0 1 n83 c84]),oC q85,oC q86]) (bb (an (Nat.blt k2 n81) true) (some (.pointer (some ⟨4,(0+k2*1),none⟩))) none)) (AX h28) (eD (done (bb (an (Nat.ble ((0+k2*1)+1) (len q85)) true) (some (hT 6 [(oC [zI z79,(Sl.v 2 s80)]),(oC [sc 4 0 1 n81 Jf]),(oC [sc 5 0 1 n83 c84]),(oC (BM ([(zB (nt b3))]:LV) (0+k2*1) q85)),oC q86])) none) undef) (Js h29) (eE)))))) ?_
     replace hm:=Ae hm;obtain⟨h30,hm⟩:=hm
     exact⟨(s77,z78,s3,z79,s80,n81,Jf,n83,c84,(BM ([(zB (nt b3))]:LV) (0+k2*1) q85),q86),hm,(.k [4,5] [false,false,true,true,false,false] [] [0,1,2,3,5,7] ⟨Bq h30,Bq h88,trivial⟩)⟩
 ·refine DT (AY z78 (Int.ofNat (Sl.n s80))) h89 ?_
  refine .exit ?_
  refine .ghs (fr 60 []) (hT 6 [(oC [zI z79,(Sl.v 2 s80)]),(oC [sc 4 0 1 n81 Jf]),(oC [sc 5 0 1 n83 c84]),oC q85,oC q86]) (.k [4,5] [false,false,true,true,false,false] [] [] ⟨Bq h87,Bq h88,trivial⟩) ?_
  exact TU (.tuple ⟨[]⟩) [(oC [zI z79,(Sl.v 2 s80)]),(oC [sc 4 0 1 n81 Jf]),(oC [sc 5 0 1 n83 c84]),oC q85,oC q86] (by kernel_rfl) hm (Nat.le_of_ble_eq_true rfl) (Fa (VT _) (Fa (VT _) (Fa (VT _) (Fa (VT _) (Fa (VT _) EJ)))))
theorem lQ {call:A8} (pu:Af) (n:Nat) (hcall:call=Bb tabs FM pu (inl pu)) {args:LV} {os:List AJ} {z:Value} (ha:args.length=4) (hk:os.length=5) (hpl:∀ o∈os,plainO o) (hm:OO pu n (args++os.map Ef)=some z):args.length≤60∧BN tt call (tabs.length+5) Ni (Fr.made 60 args) (BK tabs os) (FJ tt tabs.length 5 [] z):=by
 subst hcall
 have hq:=BC ha;clear ha;obtain⟨a0,args,rfl,ha⟩:=hq
 have hq:=BC ha;clear ha;obtain⟨a1,args,rfl,ha⟩:=hq
 have hq:=BC ha;clear ha;obtain⟨a2,args,rfl,ha⟩:=hq
 have hq:=BC ha;clear ha;obtain⟨a3,args,rfl,ha⟩:=hq
 obtain rfl:=len_nil ha
 have hq:=BC hk;clear hk;obtain⟨b0,os,rfl,hk⟩:=hq
 have hp0:plainO b0:=hpl b0 (by simp)
 have hq:=BC hk;clear hk;obtain⟨b1,os,rfl,hk⟩:=hq
 have hp1:plainO b1:=hpl b1 (by simp)
 have hq:=BC hk;clear hk;obtain⟨b2,os,rfl,hk⟩:=hq
 have hp2:plainO b2:=hpl b2 (by simp)
 have hq:=BC hk;clear hk;obtain⟨b3,os,rfl,hk⟩:=hq
 have hp3:plainO b3:=hpl b3 (by simp)
 have hq:=BC hk;clear hk;obtain⟨b4,os,rfl,hk⟩:=hq
 have hp4:plainO b4:=hpl b4 (by simp)
 obtain rfl:=len_nil hk
 replace hm:OO pu n [a0,a1,a2,a3,Ef b0,Ef b1,Ef b2,Ef b3,Ef b4]=some z:=hm
 unfold OO at hm
 replace hm:(oo (Bj 1 a0) none fun s0=>(bb (MK a1 1 0) (bb (MK a2 2 0) (bb (MK a3 3 0) (oo (Bt (Ef b0)) none fun l0=>(ll l0 none fun v0 l0=>(ll l0 none fun v1 l0=>(ll l0 (oo (Bi .i64 v0) none fun x0=>(oo (Bj 2 v1) none fun s1=>(oo (Bt (Ef b1)) none fun l1=>(ll l1 none fun v2 l1=>(ll l1 (oo (KP 4 0 1 v2) none fun y0=>(oo (Bt (Ef b2)) none fun l2=>(ll l2 none fun v3 l2=>(ll l2 (oo (KP 5 0 1 v3) none fun y1=>(oo (Bt (Ef b3)) none fun q0=>(oo (Bt (Ef b4)) none fun q1=>(Kg pu n s0 x0 s1 (NC.n y0) (NC.c y0) (NC.n y1) (NC.c y1) q0 q1)))) fun _ _=>none)))) fun _ _=>none))))) fun _ _=>none)))) none) none) none))=some z:=hm
 replace hm:=Al hm;obtain⟨s0,rfl,hm⟩:=hm
 replace hm:=Ae hm;obtain⟨h0,hm⟩:=hm
 obtain rfl:=KR h0
 replace hm:=Ae hm;obtain⟨h1,hm⟩:=hm
 obtain rfl:=KR h1
 replace hm:=Ae hm;obtain⟨h2,hm⟩:=hm
 obtain rfl:=KR h2
 replace hm:=Ab hm;obtain⟨l0,h3,hm⟩:=hm
 obtain rfl:=I7 hp0 h3
 replace hm:=Ad hm;obtain⟨v0,l664_0,rfl,hm⟩:=hm
 replace hm:=Ad hm;obtain⟨v1,l664_1,rfl,hm⟩:=hm
 replace hm:=AC hm;obtain⟨rfl,hm⟩:=hm
 replace hm:=Ai hm;obtain⟨x0,rfl,hm⟩:=hm
 replace hm:=Al hm;obtain⟨s1,rfl,hm⟩:=hm
 replace hm:=Ab hm;obtain⟨l1,h4,hm⟩:=hm
 obtain rfl:=I7 hp1 h4
 replace hm:=Ad hm;obtain⟨v2,l672_0,rfl,hm⟩:=hm
 replace hm:=AC hm;obtain⟨rfl,hm⟩:=hm
 replace hm:=Ab hm;obtain⟨y0,h5,hm⟩:=hm
 obtain rfl:=F5 h5
 replace hm:=Ab hm;obtain⟨l2,h6,hm⟩:=hm
 obtain rfl:=I7 hp2 h6
 replace hm:=Ad hm;obtain⟨v3,l677_0,rfl,hm⟩:=hm
 replace hm:=AC hm;obtain⟨rfl,hm⟩:=hm
 replace hm:=Ab hm;obtain⟨y1,h7,hm⟩:=hm
 obtain rfl:=F5 h7
 replace hm:=Ab hm;obtain⟨q0,h8,hm⟩:=hm
 obtain rfl:=I7 hp3 h8
 replace hm:=Ab hm;obtain⟨q1,h9,hm⟩:=hm
 obtain rfl:=I7 hp4 h9
 refine⟨by simp,?_⟩
 exact .same (F':=(fr 60 [(0,Sl.v 1 s0),(1,pt 1 0),(2,(pt 2 0)),(3,(pt 3 0))])) (H':=(hT 6 [(oC [zI x0,(Sl.v 2 s1)]),(oC [(sc 4 0 1 (NC.n y0) (NC.c y0))]),(oC [(sc 5 0 1 (NC.n y1) (NC.c y1))]),oC q0,oC q1])) (by kernel_rfl) (by kernel_rfl) (lN pu n s0 x0 s1 (NC.n y0) (NC.c y0) (NC.n y1) (NC.c y1) q0 q1 hm)
def K7 (pu:Af) (n:Nat):OV:=
 (some (.tuple ⟨[(.bool true)]⟩))
def Hz (pu:Af) (n:Nat) (ih0:Sl→Sl→Int→OV) (s0 s1:Sl) (z0:Int):OV:=
 (bb (AY z0 (Int.ofNat (Sl.n s0))) (oo (EA z0) none fun k1=>(bb (an (Nat.blt k1 (Sl.n s0)) true) (oo (AL (Sl.cs s0) (k1*1)) none fun v0=>(oo (Bi .i64 v0) none fun x0=>(bb (an (Nat.blt k1 (Sl.n s1)) true) (oo (AL (Sl.cs s1) (k1*1)) none fun v1=>(oo (Bi .i64 v1) none fun x1=>(bb (nt (Bd x0 x1)) (some (.tuple ⟨[(.bool false)]⟩)) (ih0 s0 s1 (Aj .i64 (Int.add (Int.ofNat k1) (1:Int))))))) none))) none)) (K7 pu n))
def Jb (pu:Af) (n w:Nat):Sl→Sl→Int→OV:=
 Nat.rec (motive:=fun _=>Sl→Sl→Int→OV) (fun _ _ _=>none) (fun _ ih0=>Hz pu n ih0) w
def Kh (pu:Af) (n:Nat) (s0 s1:Sl):OV:=
 (bb (nt (Bd (Int.ofNat (Sl.n s0)) (Int.ofNat (Sl.n s1)))) (some (.tuple ⟨[(.bool false)]⟩)) (Jb pu n n s0 s1 (0:Int)))
def OP (pu:Af) (n:Nat) (args:LV):OV:=
 (ll args none fun a0 args=>(ll args none fun a1 args=>(ll args (oo (Bj 1 a0) none fun s0=>(oo (Bj 1 a1) none fun s1=>(Kh pu n s0 s1))) fun _ _=>none)))
theorem Wm (pu:Af) (n:Nat) {v:Value} (hm:K7 pu n=some v):BN tt (Bb tabs FM pu (inl pu)) 1 VY (fr 26 []) Co (FJ tt 1 0 [.tmp 4] v):=by
 unfold K7 at hm
 refine .then (.rK (.ghs (fr 26 [(4,zB true)]) Co (.k0 [false] [] [4]) ?_))
 refine .ghs (fr 26 [(4,zB true)]) Co (.k0 [false] [] [4]) ?_
 refine .ret ?_
 exact Gi (zB true) [] (by kernel_rfl) hm (Nat.le_of_ble_eq_true rfl) EJ
theorem lS (pu:Af) (n:Nat) (s0 s1:Sl) {v:Value} (hm:Kh pu n s0 s1=some v):BN tt (Bb tabs FM pu (inl pu)) 1 Oi (fr 26 [(0,Sl.v 1 s0),(1,Sl.v 1 s1)]) Co (FJ tt 1 0 [.tmp 4] v):=by
 unfold Kh at hm
 refine .then (.rK (.ghs (fr 26 [(0,Sl.v 1 s0),(1,Sl.v 1 s1)]) Co (.k0 [false] [] [0,1]) ?_))
 refine .then (.then (.rK (.ghs (fr 26 [(0,Sl.v 1 s0),(1,Sl.v 1 s1),(10,(zB (nt (Bd (Int.ofNat (Sl.n s0)) (Int.ofNat (Sl.n s1))))))]) Co (.k0 [false] [] [0,1,10]) ?_)))
 replace hm:=Ag hm;rcases hm with⟨h0,hm⟩ | ⟨h0,hm⟩
 ·refine DL (nt (Bd (Int.ofNat (Sl.n s0)) (Int.ofNat (Sl.n s1)))) h0 ?_
  refine .then (.rK (.ghs (fr 26 [(4,zB false)]) Co (.k0 [false] [] [4]) ?_))
  refine .ghs (fr 26 [(4,zB false)]) Co (.k0 [false] [] [4]) ?_
  refine .ret ?_
  exact Gi (zB false) [] (by kernel_rfl) hm (Nat.le_of_ble_eq_true rfl) EJ
 ·refine DT (nt (Bd (Int.ofNat (Sl.n s0)) (Int.ofNat (Sl.n s1)))) h0 ?_
  refine .skip (.ghs (fr 26 [(0,Sl.v 1 s0),(1,Sl.v 1 s1)]) Co (.k0 [false] [] [0,1]) ?_)
  refine .join (v:=v) (fun y:Unit=>((fr 26 []),Co)) (fun y=>K7 pu n) ?_ ?_
  ·rintro _ hm
   exact Wm pu n hm
  ·refine .then (.rK (.ghs (fr 26 [(0,Sl.v 1 s0),(1,Sl.v 1 s1),(5,(zI (0:Int)))]) Co (.k0 [false] [] [0,1,5]) ?_))
   refine .block (.loopM (v:=v) (fun y:Sl×Sl×Int=>((fr 26 [(0,(Sl.v 1 y.1)),(1,(Sl.v 1 y.2.1)),(5,(zI y.2.2))]),Co)) (fun w y=>Jb pu n w y.1 y.2.1 y.2.2) n ⟨(s0,s1,(0:Int)),hm,(.k0 [false] [] [0,1,5])⟩ (fun _=>rfl) ?_)
   rintro w0 ⟨s2,s3,z0⟩ hm
   replace hm:Hz pu n (Jb pu n w0) s2 s3 z0=some v:=hm
   unfold Hz at hm
   refine .then (.then (.rK (.ghs (fr 26 [(0,Sl.v 1 s2),(1,Sl.v 1 s3),(5,zI z0),(14,(zB (AY z0 (Int.ofNat (Sl.n s2)))))]) Co (.k0 [false] [] [0,1,5,14]) ?_)))
   replace hm:=Ag hm;rcases hm with⟨h1,hm⟩ | ⟨h1,hm⟩
   ·refine DL (AY z0 (Int.ofNat (Sl.n s2))) h1 ?_
    refine .skip (.ghs (fr 26 [(0,Sl.v 1 s2),(1,Sl.v 1 s3),(5,zI z0)]) Co (.k0 [false] [] [0,1,5]) ?_)
    refine .then (.block (.then ?_))
    replace hm:=Ab hm;obtain⟨k1,h2,hm⟩:=hm
    obtain rfl:=AR h2
    replace hm:=Ae hm;obtain⟨h3,hm⟩:=hm
    replace hm:=I9 hm;obtain⟨x0,h4,hm⟩:=hm
    replace hm:=Ae hm;obtain⟨h5,hm⟩:=hm
    replace hm:=I9 hm;obtain⟨x1,h6,hm⟩:=hm
    refine .reg (eC 2 (keep Co (bb (an (Nat.blt k1 (Sl.n s2)) true) (some (Cv (k1*1) (Sl.cs s2))) none)) (AX h3) (eD (keep Co (AL (Sl.cs s2) (k1*1))) (AZ h4) (eC 2 (keep Co (bb (an (Nat.blt k1 (Sl.n s3)) true) (some (Cv (k1*1) (Sl.cs s3))) none)) (AX h5) (eD (keep Co (AL (Sl.cs s3) (k1*1))) (AZ h6) (eE))))) ?_
    refine .ghs (fr 26 [(0,Sl.v 1 s2),(1,Sl.v 1 s3),(5,(zI (Int.ofNat k1))),(25,(zB (nt (Bd x0 x1))))]) Co (.k0 [false] [] [0,1,5,25]) ?_
    replace hm:=Ag hm;rcases hm with⟨h7,hm⟩ | ⟨h7,hm⟩
    ·refine DL (nt (Bd x0 x1)) h7 ?_
     refine .then (.rK (.ghs (fr 26 [(4,zB false)]) Co (.k0 [false] [] [4]) ?_))
     refine .ghs (fr 26 [(4,zB false)]) Co (.k0 [false] [] [4]) ?_
     refine .ret ?_
     exact Gi (zB false) [] (by kernel_rfl) hm (Nat.le_of_ble_eq_true rfl) EJ
    ·refine DT (nt (Bd x0 x1)) h7 ?_
     refine .skip (.ghs (fr 26 [(0,Sl.v 1 s2),(1,Sl.v 1 s3),(5,(zI (Int.ofNat k1)))]) Co (.k0 [false] [] [0,1,5]) ?_)
     refine .rK ?_
     exact⟨(s2,s3,(Aj .i64 (Int.add (Int.ofNat k1) (1:Int)))),hm,(.k0 [false] [] [0,1,5])⟩
   ·refine DT (AY z0 (Int.ofNat (Sl.n s2))) h1 ?_
    refine .exit ?_
    exact⟨(),hm,(.k0 [false] [] [])⟩
theorem lT {call:A8} (pu:Af) (n:Nat) (hcall:call=Bb tabs FM pu (inl pu)) {args:LV} {os:List AJ} {z:Value} (ha:args.length=2) (hk:os.length=0) (hpl:∀ o∈os,plainO o) (hm:OP pu n (args++os.map Ef)=some z):args.length≤26∧BN tt call (tabs.length+0) Oi (Fr.made 26 args) (BK tabs os) (FJ tt tabs.length 0 [.tmp 4] z):=by
 subst hcall
 have hq:=BC ha;clear ha;obtain⟨a0,args,rfl,ha⟩:=hq
 have hq:=BC ha;clear ha;obtain⟨a1,args,rfl,ha⟩:=hq
 obtain rfl:=len_nil ha
 obtain rfl:=len_nil hk
 replace hm:OP pu n [a0,a1]=some z:=hm
 unfold OP at hm
 replace hm:(oo (Bj 1 a0) none fun s0=>(oo (Bj 1 a1) none fun s1=>(Kh pu n s0 s1)))=some z:=hm
 replace hm:=Al hm;obtain⟨s0,rfl,hm⟩:=hm
 replace hm:=Al hm;obtain⟨s1,rfl,hm⟩:=hm
 refine⟨by simp,?_⟩
 exact .same (F':=(fr 26 [(0,Sl.v 1 s0),(1,Sl.v 1 s1)])) (H':=Co) (by kernel_rfl) (by kernel_rfl) (lS pu n s0 s1 hm)

def Ki (pu:Af) (n:Nat) (z0 z1:Int) (s0:Sl) (z2:Int) (s1:Sl) (b0:Bool):OV:=
 (oo (pu 10751 [(Sl.v 1 (Sl.mk 0 2 [])),(.pointer (some ⟨1,0,none⟩)),(.pointer (some ⟨2,0,none⟩)),(.pointer (some ⟨3,0,none⟩)),(.agg ⟨[.int .i64 z0]⟩),(.agg ⟨[(.func (.func 39) ⟨[]⟩ ⟨[(.pointer (some ⟨4,0,none⟩)),(.pointer (some ⟨5,0,none⟩)),(.pointer (some ⟨6,0,none⟩))]⟩)]⟩),(.agg ⟨[(.func (.func 75) ⟨[]⟩ ⟨[(.pointer (some ⟨1,0,none⟩)),(.pointer (some ⟨2,0,none⟩)),(.pointer (some ⟨3,0,none⟩))]⟩)]⟩),(.agg ⟨[.int .i64 z1,(Sl.v 2 s0)]⟩),(.agg ⟨[.int .i64 z2,(Sl.v 2 s1)]⟩),(.agg ⟨[(.bool b0)]⟩)]) none fun v0=>(oo (CQ v0) none fun l0=>(ll l0 none fun v1 l0=>(ll l0 none fun v2 l0=>(ll l0 none fun v3 l0=>(ll l0 none fun v4 l0=>(ll l0 none fun v5 l0=>(ll l0 none fun v6 l0=>(ll l0 none fun v7 l0=>(ll l0 (bb (MC v1) (oo (Bt v2) none fun l1=>(ll l1 none fun v8 l1=>(ll l1 (oo (Bi .i64 v8) none fun x0=>(oo (Bt v3) none fun l2=>(ll l2 none fun v9 l2=>(ll l2 (oo (Om 39 0 v9) none fun l3=>(ll l3 none fun v10 l3=>(ll l3 none fun v11 l3=>(ll l3 none fun v12 l3=>(ll l3 (bb (MK v10 4 0) (bb (MK v11 5 0) (bb (MK v12 6 0) (oo (Bt v4) none fun l4=>(ll l4 none fun v13 l4=>(ll l4 (oo (Om 75 0 v13) none fun l5=>(ll l5 none fun v14 l5=>(ll l5 none fun v15 l5=>(ll l5 none fun v16 l5=>(ll l5 (bb (MK v14 1 0) (bb (MK v15 2 0) (bb (MK v16 3 0) (oo (Bt v5) none fun l6=>(ll l6 none fun v17 l6=>(ll l6 none fun v18 l6=>(ll l6 (oo (Bi .i64 v17) none fun x1=>(oo (Bj 2 v18) none fun s2=>(oo (Bt v6) none fun l7=>(ll l7 none fun v19 l7=>(ll l7 none fun v20 l7=>(ll l7 (oo (Bi .i64 v19) none fun x2=>(oo (Bj 2 v20) none fun s3=>(oo (Bt v7) none fun l8=>(ll l8 none fun v21 l8=>(ll l8 (oo (Bf v21) none fun b1=>(some (.tuple ⟨[(.tuple ⟨[]⟩),(.agg ⟨[.int .i64 x1,(Sl.v 2 s2)]⟩),(.agg ⟨[.int .i64 x2,(Sl.v 2 s3)]⟩),(.agg ⟨[(.bool b1)]⟩)]⟩))) fun _ _=>none))))) fun _ _=>none)))))) fun _ _=>none)))) none) none) none) fun _ _=>none))))) fun _ _=>none))) none) none) none) fun _ _=>none))))) fun _ _=>none)))) fun _ _=>none))) none) fun _ _=>none))))))))))
def OQ (pu:Af) (n:Nat) (args:LV):OV:=
 (ll args none fun a0 args=>(ll args none fun a1 args=>(ll args none fun o0 args=>(ll args none fun o1 args=>(ll args none fun o2 args=>(ll args (oo (Bi .i64 a0) none fun x0=>(oo (Om 39 0 a1) none fun l0=>(ll l0 none fun v0 l0=>(ll l0 none fun v1 l0=>(ll l0 none fun v2 l0=>(ll l0 (bb (MK v0 1 0) (bb (MK v1 2 0) (bb (MK v2 3 0) (oo (Bt o0) none fun l1=>(ll l1 none fun v3 l1=>(ll l1 none fun v4 l1=>(ll l1 (oo (Bi .i64 v3) none fun x1=>(oo (Bj 2 v4) none fun s0=>(oo (Bt o1) none fun l2=>(ll l2 none fun v5 l2=>(ll l2 none fun v6 l2=>(ll l2 (oo (Bi .i64 v5) none fun x2=>(oo (Bj 2 v6) none fun s1=>(oo (Bt o2) none fun l3=>(ll l3 none fun v7 l3=>(ll l3 (oo (Bf v7) none fun b0=>(Ki pu n x0 x1 s0 x2 s1 b0)) fun _ _=>none))))) fun _ _=>none)))))) fun _ _=>none)))) none) none) none) fun _ _=>none)))))) fun _ _=>none))))))
theorem lU (pu:Af) (n:Nat) (z0 z1:Int) (s0:Sl) (z2:Int) (s1:Sl) (b0:Bool) {v:Value} (hm:Ki pu n z0 z1 s0 z2 s1 b0=some v):BN tt (Bb tabs FM pu (inl pu)) 4 Nh (fr 8 [(0,zI z0),(1,(.func (.func 39) ⟨[]⟩ ⟨[pt 1 0,(pt 2 0),(pt 3 0)]⟩))]) (hT 4 [(oC [zI z1,(Sl.v 2 s0)]),(oC [zI z2,(Sl.v 2 s1)]),(oC [zB b0])]) (FJ tt 1 3 [] v):=by
 unfold Ki at hm
 refine .then (.rK (.ghs (fr 8 [(2,(pt 4 0)),(3,(pt 5 0))]) (hT 6 [(oC [zI z1,(Sl.v 2 s0)]),(oC [zI z2,(Sl.v 2 s1)]),(oC [zB b0]),(oC [zI z0]),(oC [(.func (.func 39) ⟨[]⟩ ⟨[pt 1 0,(pt 2 0),(pt 3 0)]⟩)])]) (.k0 [false,false,false,false] [.tmp 2 false,.tmp 3 true] [2,3]) ?_))
 refine .then (.rK (.ghs (fr 8 [(2,(pt 4 0)),(3,(pt 5 0)),(4,(pt 6 0))]) (hT 7 [(oC [zI z1,(Sl.v 2 s0)]),(oC [zI z2,(Sl.v 2 s1)]),(oC [zB b0]),(oC [zI z0]),(oC [(.func (.func 39) ⟨[]⟩ ⟨[pt 1 0,(pt 2 0),(pt 3 0)]⟩)]),(oC [.nilFunc])]) (.k0 [false,false,false,false] [.tmp 2 false,.tmp 3 true,.tmp 4 false] [2,3,4]) ?_))
 refine .then (.rK (.ghs (fr 8 [(4,(pt 4 0))]) (hT 7 [(oC [zI z1,(Sl.v 2 s0)]),(oC [zI z2,(Sl.v 2 s1)]),(oC [zB b0]),(oC [(.func (.func 75) ⟨[]⟩ ⟨[(pt 5 0),(pt 6 0),(pt 4 0)]⟩)]),(oC [zI z0]),(oC [(.func (.func 39) ⟨[]⟩ ⟨[pt 1 0,(pt 2 0),(pt 3 0)]⟩)])]) (.k0 [false,false,false,false] [.tmp 4 true,.ccap 4 0 0 false,.ccap 4 0 1 true] [4]) ?_))
 replace hm:=Ab hm;obtain⟨v0,h0,hm⟩:=hm
 replace hm:=Ch hm;obtain⟨l0,rfl,hm⟩:=hm
 replace hm:=Ad hm;obtain⟨v1,l3777_0,rfl,hm⟩:=hm
 replace hm:=Ad hm;obtain⟨v2,l3777_1,rfl,hm⟩:=hm
 replace hm:=Ad hm;obtain⟨v3,l3777_2,rfl,hm⟩:=hm
 replace hm:=Ad hm;obtain⟨v4,l3777_3,rfl,hm⟩:=hm
 replace hm:=Ad hm;obtain⟨v5,l3777_4,rfl,hm⟩:=hm
 replace hm:=Ad hm;obtain⟨v6,l3777_5,rfl,hm⟩:=hm
 replace hm:=Ad hm;obtain⟨v7,l3777_6,rfl,hm⟩:=hm
 replace hm:=AC hm;obtain⟨rfl,hm⟩:=hm
 replace hm:=Ae hm;obtain⟨h1,hm⟩:=hm
 obtain rfl:=Oo h1
 replace hm:=BG hm;obtain⟨l1,rfl,hm⟩:=hm
 replace hm:=Ad hm;obtain⟨v8,l3787_0,rfl,hm⟩:=hm
 replace hm:=AC hm;obtain⟨rfl,hm⟩:=hm
 replace hm:=Ai hm;obtain⟨x0,rfl,hm⟩:=hm
 replace hm:=BG hm;obtain⟨l2,rfl,hm⟩:=hm
 replace hm:=Ad hm;obtain⟨v9,l3792_0,rfl,hm⟩:=hm
 replace hm:=AC hm;obtain⟨rfl,hm⟩:=hm
 replace hm:=Ab hm;obtain⟨l3,h2,hm⟩:=hm
 obtain rfl:=Hu h2
 replace hm:=Ad hm;obtain⟨v10,l3795_0,rfl,hm⟩:=hm
 replace hm:=Ad hm;obtain⟨v11,l3795_1,rfl,hm⟩:=hm
 replace hm:=Ad hm;obtain⟨v12,l3795_2,rfl,hm⟩:=hm
 replace hm:=AC hm;obtain⟨rfl,hm⟩:=hm
 replace hm:=Ae hm;obtain⟨h3,hm⟩:=hm
 obtain rfl:=KR h3
 replace hm:=Ae hm;obtain⟨h4,hm⟩:=hm
 obtain rfl:=KR h4
 replace hm:=Ae hm;obtain⟨h5,hm⟩:=hm
 obtain rfl:=KR h5
 replace hm:=BG hm;obtain⟨l4,rfl,hm⟩:=hm
 replace hm:=Ad hm;obtain⟨v13,l3803_0,rfl,hm⟩:=hm
 replace hm:=AC hm;obtain⟨rfl,hm⟩:=hm
 replace hm:=Ab hm;obtain⟨l5,h6,hm⟩:=hm
 obtain rfl:=Hu h6
 replace hm:=Ad hm;obtain⟨v14,l3806_0,rfl,hm⟩:=hm
 replace hm:=Ad hm;obtain⟨v15,l3806_1,rfl,hm⟩:=hm
 replace hm:=Ad hm;obtain⟨v16,l3806_2,rfl,hm⟩:=hm
 replace hm:=AC hm;obtain⟨rfl,hm⟩:=hm
 replace hm:=Ae hm;obtain⟨h7,hm⟩:=hm
 obtain rfl:=KR h7
 replace hm:=Ae hm;obtain⟨h8,hm⟩:=hm
 obtain rfl:=KR h8
 replace hm:=Ae hm;obtain⟨h9,hm⟩:=hm
 obtain rfl:=KR h9
 replace hm:=BG hm;obtain⟨l6,rfl,hm⟩:=hm
 replace hm:=Ad hm;obtain⟨v17,l3814_0,rfl,hm⟩:=hm
 replace hm:=Ad hm;obtain⟨v18,l3814_1,rfl,hm⟩:=hm
 replace hm:=AC hm;obtain⟨rfl,hm⟩:=hm
 replace hm:=Ai hm;obtain⟨x1,rfl,hm⟩:=hm
 replace hm:=Al hm;obtain⟨s2,rfl,hm⟩:=hm
 replace hm:=BG hm;obtain⟨l7,rfl,hm⟩:=hm
 replace hm:=Ad hm;obtain⟨v19,l3822_0,rfl,hm⟩:=hm
 replace hm:=Ad hm;obtain⟨v20,l3822_1,rfl,hm⟩:=hm
 replace hm:=AC hm;obtain⟨rfl,hm⟩:=hm
 replace hm:=Ai hm;obtain⟨x2,rfl,hm⟩:=hm
 replace hm:=Al hm;obtain⟨s3,rfl,hm⟩:=hm
 replace hm:=BG hm;obtain⟨l8,rfl,hm⟩:=hm
 replace hm:=Ad hm;obtain⟨v21,l3830_0,rfl,hm⟩:=hm
 replace hm:=AC hm;obtain⟨rfl,hm⟩:=hm
 replace hm:=Be hm;obtain⟨b1,rfl,hm⟩:=hm
 refine .reg (eC 1 (EK tabs [[some 1],[none],[none],[none]] 4 [.tmp 1 false,.tmp 2 true,.tmp 3 true,.ccap 2 0 0 false,.ccap 2 0 1 false,.ccap 2 0 2 false] [false,true,true,false,false,false] (pu 10751) [(.slice none 0 0),(pt 5 0),(pt 6 0),(pt 4 0)] (hT 7 [(oC [zI z1,(Sl.v 2 s0)]),(oC [zI z2,(Sl.v 2 s1)]),(oC [zB b0]),(oC [(.func (.func 75) ⟨[]⟩ ⟨[(pt 5 0),(pt 6 0),(pt 4 0)]⟩)]),(oC [zI z0]),(oC [(.func (.func 39) ⟨[]⟩ ⟨[pt 1 0,(pt 2 0),(pt 3 0)]⟩)])])) (EL (as:=[(Sl.v 1 (Sl.mk 0 2 [])),(pt 5 0),(pt 6 0),(pt 4 0)]) (H1:=(hT 7 [(oC [zI z1,(Sl.v 2 s0)]),(oC [zI z2,(Sl.v 2 s1)]),(oC [zB b0]),(oC [(.func (.func 75) ⟨[]⟩ ⟨[(pt 5 0),(pt 6 0),(pt 4 0)]⟩)]),(oC [zI z0]),(oC [(.func (.func 39) ⟨[]⟩ ⟨[pt 1 0,(pt 2 0),(pt 3 0)]⟩)])])) (BS (Dm (KQ (Ju (z:=1) (H:=(hT 7 [(oC [zI z1,(Sl.v 2 s0)]),(oC [zI z2,(Sl.v 2 s1)]),(oC [zB b0]),(oC [(.func (.func 75) ⟨[]⟩ ⟨[(pt 5 0),(pt 6 0),(pt 4 0)]⟩)]),(oC [zI z0]),(oC [(.func (.func 39) ⟨[]⟩ ⟨[pt 1 0,(pt 2 0),(pt 3 0)]⟩)])]))))) (BS (Dm Dk) (BS (Dm Dk) (BS (Dm Dk) Gj)))) (EI (H2:=(hT 7 [(oC [zI x1,(Sl.v 2 s2)]),(oC [zI x2,(Sl.v 2 s3)]),(oC [zB b1]),(oC [(.func (.func 75) ⟨[]⟩ ⟨[(pt 5 0),(pt 6 0),(pt 4 0)]⟩)]),(oC [zI x0]),(oC [(.func (.func 39) ⟨[]⟩ ⟨[pt 1 0,(pt 2 0),(pt 3 0)]⟩)])])) (v:=(.tuple ⟨[]⟩)) (v':=(.tuple ⟨[]⟩)) [some 0,some 5,some 6,some 4,some 1,some 2,some 3] [(false,some 5),(true,some 6),(true,some 4),(false,some 1),(false,some 2),(false,some 3)] [(oC [zI z0]),(oC [(.func (.func 39) ⟨[]⟩ ⟨[(pt 4 0),(pt 5 0),(pt 6 0)]⟩)]),(oC [(.func (.func 75) ⟨[]⟩ ⟨[pt 1 0,(pt 2 0),(pt 3 0)]⟩)]),(oC [zI z1,(Sl.v 2 s0)]),(oC [zI z2,(Sl.v 2 s1)]),(oC [zB b0])] [(Sl.v 1 (Sl.mk 0 2 [])),pt 1 0,(pt 2 0),(pt 3 0)] [(.agg ⟨[zI x0]⟩),(.agg ⟨[(.func (.func 39) ⟨[]⟩ ⟨[(pt 4 0),(pt 5 0),(pt 6 0)]⟩)]⟩),(.agg ⟨[(.func (.func 75) ⟨[]⟩ ⟨[pt 1 0,(pt 2 0),(pt 3 0)]⟩)]⟩),(.agg ⟨[zI x1,(Sl.v 2 s2)]⟩),(.agg ⟨[zI x2,(Sl.v 2 s3)]⟩),(.agg ⟨[zB b1]⟩)] [(oC [zI x0]),(oC [(.func (.func 39) ⟨[]⟩ ⟨[(pt 4 0),(pt 5 0),(pt 6 0)]⟩)]),(oC [(.func (.func 75) ⟨[]⟩ ⟨[pt 1 0,(pt 2 0),(pt 3 0)]⟩)]),(oC [zI x1,(Sl.v 2 s2)]),(oC [zI x2,(Sl.v 2 s3)]),(oC [zB b1])] [some 0,some 4,some 5,some 6,some 3,some 1,some 2] [(false,(oC [zI x0])),(true,(oC [(.func (.func 39) ⟨[]⟩ ⟨[(pt 4 0),(pt 5 0),(pt 6 0)]⟩)])),(true,(oC [(.func (.func 75) ⟨[]⟩ ⟨[pt 1 0,(pt 2 0),(pt 3 0)]⟩)])),(false,(oC [zI x1,(Sl.v 2 s2)])),(false,(oC [zI x2,(Sl.v 2 s3)])),(false,(oC [zB b1]))] [(oC [zI x0]),(oC [(.func (.func 39) ⟨[]⟩ ⟨[pt 1 0,(pt 2 0),(pt 3 0)]⟩)]),(oC [(.func (.func 75) ⟨[]⟩ ⟨[(pt 5 0),(pt 6 0),(pt 4 0)]⟩)]),(oC [zI x1,(Sl.v 2 s2)]),(oC [zI x2,(Sl.v 2 s3)]),(oC [zB b1])] (by kernel_rfl) (En (by kernel_rfl) (En (by kernel_rfl) (En (by kernel_rfl) (En (by kernel_rfl) (En (by kernel_rfl) (En (by kernel_rfl) BX)))))) (Eq.trans (by kernel_rfl) h0) (En rfl (En rfl (En rfl (En rfl (En rfl (En rfl BX)))))) (En (by kernel_rfl) (En (by kernel_rfl) (En (by kernel_rfl) (En (by kernel_rfl) (En (by kernel_rfl) (En (by kernel_rfl) BX)))))))) (eE)) ?_
 refine .ghs (fr 8 []) (hT 4 [(oC [zI x1,(Sl.v 2 s2)]),(oC [zI x2,(Sl.v 2 s3)]),(oC [zB b1])]) (.k0 [false,false,false,false] [] []) ?_
 exact TU (.tuple ⟨[]⟩) [(oC [zI x1,(Sl.v 2 s2)]),(oC [zI x2,(Sl.v 2 s3)]),(oC [zB b1])] (by kernel_rfl) hm (Nat.le_of_ble_eq_true rfl) (Fa (VT _) (Fa (VT _) (Fa (VT _) EJ)))
theorem lV {call:A8} (pu:Af) (n:Nat) (hcall:call=Bb tabs FM pu (inl pu)) {args:LV} {os:List AJ} {z:Value} (ha:args.length=2) (hk:os.length=3) (hpl:∀ o∈os,plainO o) (hm:OQ pu n (args++os.map Ef)=some z):args.length≤8∧BN tt call (tabs.length+3) Nh (Fr.made 8 args) (BK tabs os) (FJ tt tabs.length 3 [] z):=by
 subst hcall
 have hq:=BC ha;clear ha;obtain⟨a0,args,rfl,ha⟩:=hq
 have hq:=BC ha;clear ha;obtain⟨a1,args,rfl,ha⟩:=hq
 obtain rfl:=len_nil ha
 have hq:=BC hk;clear hk;obtain⟨b0,os,rfl,hk⟩:=hq
 have hp0:plainO b0:=hpl b0 (by simp)
 have hq:=BC hk;clear hk;obtain⟨b1,os,rfl,hk⟩:=hq
 have hp1:plainO b1:=hpl b1 (by simp)
 have hq:=BC hk;clear hk;obtain⟨b2,os,rfl,hk⟩:=hq
 have hp2:plainO b2:=hpl b2 (by simp)
 obtain rfl:=len_nil hk
 replace hm:OQ pu n [a0,a1,Ef b0,Ef b1,Ef b2]=some z:=hm
 unfold OQ at hm
 replace hm:(oo (Bi .i64 a0) none fun x0=>(oo (Om 39 0 a1) none fun l0=>(ll l0 none fun v0 l0=>(ll l0 none fun v1 l0=>(ll l0 none fun v2 l0=>(ll l0 (bb (MK v0 1 0) (bb (MK v1 2 0) (bb (MK v2 3 0) (oo (Bt (Ef b0)) none fun l1=>(ll l1 none fun v3 l1=>(ll l1 none fun v4 l1=>(ll l1 (oo (Bi .i64 v3) none fun x1=>(oo (Bj 2 v4) none fun s0=>(oo (Bt (Ef b1)) none fun l2=>(ll l2 none fun v5 l2=>(ll l2 none fun v6 l2=>(ll l2 (oo (Bi .i64 v5) none fun x2=>(oo (Bj 2 v6) none fun s1=>(oo (Bt (Ef b2)) none fun l3=>(ll l3 none fun v7 l3=>(ll l3 (oo (Bf v7) none fun b3=>(Ki pu n x0 x1 s0 x2 s1 b3)) fun _ _=>none))))) fun _ _=>none)))))) fun _ _=>none)))) none) none) none) fun _ _=>none))))))=some z:=hm
 replace hm:=Ai hm;obtain⟨x0,rfl,hm⟩:=hm
 replace hm:=Ab hm;obtain⟨l0,h0,hm⟩:=hm
 obtain rfl:=Hu h0
 replace hm:=Ad hm;obtain⟨v0,l3842_0,rfl,hm⟩:=hm
 replace hm:=Ad hm;obtain⟨v1,l3842_1,rfl,hm⟩:=hm
 replace hm:=Ad hm;obtain⟨v2,l3842_2,rfl,hm⟩:=hm
 replace hm:=AC hm;obtain⟨rfl,hm⟩:=hm
 replace hm:=Ae hm;obtain⟨h1,hm⟩:=hm
 obtain rfl:=KR h1
 replace hm:=Ae hm;obtain⟨h2,hm⟩:=hm
 obtain rfl:=KR h2
 replace hm:=Ae hm;obtain⟨h3,hm⟩:=hm
 obtain rfl:=KR h3
 replace hm:=Ab hm;obtain⟨l1,h4,hm⟩:=hm
 obtain rfl:=I7 hp0 h4
 replace hm:=Ad hm;obtain⟨v3,l3850_0,rfl,hm⟩:=hm
 replace hm:=Ad hm;obtain⟨v4,l3850_1,rfl,hm⟩:=hm
 replace hm:=AC hm;obtain⟨rfl,hm⟩:=hm
 replace hm:=Ai hm;obtain⟨x1,rfl,hm⟩:=hm
 replace hm:=Al hm;obtain⟨s0,rfl,hm⟩:=hm
 replace hm:=Ab hm;obtain⟨l2,h5,hm⟩:=hm
 obtain rfl:=I7 hp1 h5
 replace hm:=Ad hm;obtain⟨v5,l3858_0,rfl,hm⟩:=hm
 replace hm:=Ad hm;obtain⟨v6,l3858_1,rfl,hm⟩:=hm
 replace hm:=AC hm;obtain⟨rfl,hm⟩:=hm
 replace hm:=Ai hm;obtain⟨x2,rfl,hm⟩:=hm
 replace hm:=Al hm;obtain⟨s1,rfl,hm⟩:=hm
 replace hm:=Ab hm;obtain⟨l3,h6,hm⟩:=hm
 obtain rfl:=I7 hp2 h6
 replace hm:=Ad hm;obtain⟨v7,l3866_0,rfl,hm⟩:=hm
 replace hm:=AC hm;obtain⟨rfl,hm⟩:=hm
 replace hm:=Be hm;obtain⟨b3,rfl,hm⟩:=hm
 refine⟨by simp,?_⟩
 exact .same (F':=(fr 8 [(0,zI x0),(1,(.func (.func 39) ⟨[]⟩ ⟨[pt 1 0,(pt 2 0),(pt 3 0)]⟩))])) (H':=(hT 4 [(oC [zI x1,(Sl.v 2 s0)]),(oC [zI x2,(Sl.v 2 s1)]),(oC [zB b3])])) (by kernel_rfl) (by kernel_rfl) (lU pu n x0 x1 s0 x2 s1 b3 hm)
end
end Go.TbWM
