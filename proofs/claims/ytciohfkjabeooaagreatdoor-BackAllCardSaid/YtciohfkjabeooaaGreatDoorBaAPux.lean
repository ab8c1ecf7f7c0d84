/- Made from wip. -/
import Derived.Test.YtciohfkjabeooaaGreatDoorBaAMod1x
import Derived.Test.YtciohfkjabeooaaGreatDoorBaAMod2
import Derived.Test.YtciohfkjabeooaaGreatDoorBaAMod3
import Derived.Test.YtciohfkjabeooaaGreatDoorBaAMod4
import Derived.Test.YtciohfkjabeooaaGreatDoorBaAMod5

set_option maxRecDepth 100000
set_option maxHeartbeats 20000000
set_option linter.unusedVariables false
namespace Go.BaAM
open Go.Sp Go.BaA
noncomputable section
def Je (pu:Af) (n:Nat) (ih0:Nat→Nat→Int→Int→LV→Nat→LV→Nat→Nat→LV→OV) (n0 c0:Nat) (z0 z1:Int) (q0:LV) (n1:Nat) (q1:LV) (n2 c1:Nat) (q2:LV):OV:=
 (bb (Au Ah q0) (bb (Au Ah q2) (bb (AY z1 z0) (bb (Nat.ble (n0*1) (len q0)) (bb (Uz 8 n0 q0 [.int .i64 z1]) (bb (Dp (Nat.ble 2 (2*(n0+1)+bb false 1 0)) (MQ (Br (Aq (n0*1) q0) [.int .i64 z1]))) (bb (Dp (Nat.ble 2 c1) (MQ q2)) (bb (Au Ah (Br (Aq (n0*1) q0) [.int .i64 z1])) (bb (Au Ah q2) (oo (pu 10261 [(.slice (some ⟨1,0,some 1⟩) (n0+1) (2*(n0+1)+bb false 1 0)),(.pointer (some ⟨2,0,none⟩)),(.pointer (some ⟨3,0,none⟩)),(.pointer (some ⟨4,0,none⟩)),(.agg ⟨(Br (Aq (n0*1) q0) [.int .i64 z1])⟩),(.agg ⟨[(Cv n1 q1)]⟩),(.agg ⟨[(.slice (some ⟨5,0,some 1⟩) n2 c1)]⟩),(.agg ⟨[(.func (.func 26) ⟨[]⟩ ⟨[(.pointer (some ⟨2,0,none⟩)),(.pointer (some ⟨3,0,none⟩)),(.pointer (some ⟨4,0,none⟩))]⟩)]⟩),(.agg ⟨q2⟩)]) none fun v0=>(oo (CQ v0) none fun l0=>(ll l0 none fun v1 l0=>(ll l0 none fun v2 l0=>(ll l0 none fun v3 l0=>(ll l0 none fun v4 l0=>(ll l0 none fun v5 l0=>(ll l0 none fun v6 l0=>(ll l0 none fun v7 l0=>(ll l0 (bb (QM v1) (oo (Bt v2) none fun q3=>(oo (Bt v3) none fun l1=>(ll l1 none fun v8 l1=>(ll l1 (oo (Pv v8) none fun p0=>(oo (Bt v4) none fun l2=>(ll l2 none fun v9 l2=>(ll l2 (oo (OJ 6 0 1 v9) none fun y0=>(oo (Bt v5) none fun l3=>(ll l3 none fun v10 l3=>(ll l3 (oo (O6 26 0 v10) none fun l4=>(ll l4 none fun v11 l4=>(ll l4 none fun v12 l4=>(ll l4 none fun v13 l4=>(ll l4 (bb (FD v11 2 0) (bb (FD v12 3 0) (bb (FD v13 4 0) (bb (Nq v6) (oo (Bt v7) none fun q4=>(bb (Au Ah q3) (bb (Au Ah q4) (bb (FE (Aq (n0*1) q3) (Aq (n0*1) q0)) (bb (Au Ah (Aq (n0*1) q0)) (bb (Au Ah q4) (ih0 n0 (2*n0) z0 (Aj .i64 (Int.add z1 (1:Int))) (Aq (n0*1) q0) (Db.off p0) (Db.cs p0) (NC.n y0) (NC.c y0) q4) none) none) none) none) none)) none) none) none) none) fun _ _=>none))))) fun _ _=>none)))) fun _ _=>none)))) fun _ _=>none)))) none) fun _ _=>none)))))))))) none) none) none) none) none) none) (some (.tuple ⟨[(.tuple ⟨[]⟩),(.agg ⟨q0⟩),(.agg ⟨[(Cv n1 q1)]⟩),(.agg ⟨[(.slice (some ⟨6,0,some 1⟩) n2 c1)]⟩),(.agg ⟨[(.func (.func 26) ⟨[]⟩ ⟨[(.pointer (some ⟨2,0,none⟩)),(.pointer (some ⟨3,0,none⟩)),(.pointer (some ⟨4,0,none⟩))]⟩)]⟩),EP,(.agg ⟨q2⟩)]⟩))) none) none)
def Ki (pu:Af) (n w:Nat):Nat→Nat→Int→Int→LV→Nat→LV→Nat→Nat→LV→OV:=
 Nat.rec (motive:=fun _=>Nat→Nat→Int→Int→LV→Nat→LV→Nat→Nat→LV→OV) (fun _ _ _ _ _ _ _ _ _ _=>none) (fun _ ih0=>Je pu n ih0) w
def LJ (pu:Af) (n n0 c0:Nat) (q0:LV) (n1:Nat) (q1:LV) (n2 c1:Nat) (q2:LV):OV:=
 (oo (AL q1 ((n1+0)+2)) none fun v0=>(oo (Bi .i64 v0) none fun x0=>(bb (Au Ah q0) (bb (Au Ah q2) (Ki pu n n n0 c0 x0 (0:Int) q0 n1 q1 n2 c1 q2) none) none)))
def LK (pu:Af) (n n0 c0:Nat) (q0:LV) (n1:Nat) (q1:LV) (n2 c1:Nat) (q2:LV):OV:=
 (bb (an (Nat.ble (0+n0*1) (len q0)) (Au Ah (Aq (n0*1) (Am 0 q0)))) (oo (pu 29 [(Sl.v 1 (Sl.mk n0 0 (Aq (n0*1) (Am 0 q0))))]) none fun v0=>(oo (Bj 1 v0) none fun s0=>(bb (Au RH (Sl.cs s0)) (bb (an (Nat.ble (0+(Sl.n s0)*1) (len (Sl.cs s0))) (Au Ah (Aq ((Sl.n s0)*1) (Am 0 (Sl.cs s0))))) (bb (GV 1 24 n2 c1 1 q2) (bb (Au Ah q0) (bb (Au Ah (Br (Am 0 q2) [(Sl.v 1 (Sl.mk (Sl.n s0) 0 (Aq ((Sl.n s0)*1) (Am 0 (Sl.cs s0)))))])) (some (.tuple ⟨[(.tuple ⟨[]⟩),(.agg ⟨q0⟩),(.agg ⟨[(Cv n1 q1)]⟩),(.agg ⟨[(.slice (some ⟨6,0,some 1⟩) (n2+1) (2*(n2+1)+bb false 1 0))]⟩),(.agg ⟨[(.func (.func 26) ⟨[]⟩ ⟨[(.pointer (some ⟨2,0,none⟩)),(.pointer (some ⟨3,0,none⟩)),(.pointer (some ⟨4,0,none⟩))]⟩)]⟩),EP,(.agg ⟨(Br (Am 0 q2) [(Sl.v 1 (Sl.mk (Sl.n s0) 0 (Aq ((Sl.n s0)*1) (Am 0 (Sl.cs s0)))))])⟩)]⟩)) none) none) none) none) none))) none)
def Jf (pu:Af) (n:Nat) (ih0:Nat→Nat→Int→Int→LV→Nat→LV→Nat→Nat→LV→OV) (n0 c0:Nat) (z0 z1:Int) (q0:LV) (n1:Nat) (q1:LV) (n2 c1:Nat) (q2:LV):OV:=
 (bb (Au Ah q0) (bb (Au Ah q2) (bb (AY z1 z0) (bb (an (Nat.ble (0+n0*1) (len q0)) (Au Ah (Aq (n0*1) (Am 0 q0)))) (oo (pu 28 [(Cv n1 q1),(Sl.v 1 (Sl.mk n0 0 (Aq (n0*1) (Am 0 q0)))),.int .i64 z1]) none fun v0=>(oo (Bj 1 v0) none fun s0=>(bb (Au RH (Sl.cs s0)) (bb (an (Nat.ble (0+(Sl.n s0)*1) (len (Sl.cs s0))) (Au Ah (Aq ((Sl.n s0)*1) (Am 0 (Sl.cs s0))))) (bb (an (Nat.ble (0+n0*1) (len q0)) (Au Ah (Aq (n0*1) (Am 0 q0)))) (oo (pu 27 [(Sl.v 1 (Sl.mk (Sl.n s0) 0 (Aq ((Sl.n s0)*1) (Am 0 (Sl.cs s0))))),(Sl.v 1 (Sl.mk n0 0 (Aq (n0*1) (Am 0 q0))))]) none fun v1=>(oo (Bi .i64 v1) none fun x0=>(bb (AY x0 (0:Int)) (some (.tuple ⟨[(.tuple ⟨[]⟩),(.agg ⟨q0⟩),(.agg ⟨[(Cv n1 q1)]⟩),(.agg ⟨[(.slice (some ⟨6,0,some 1⟩) n2 c1)]⟩),(.agg ⟨[(.func (.func 26) ⟨[]⟩ ⟨[(.pointer (some ⟨2,0,none⟩)),(.pointer (some ⟨3,0,none⟩)),(.pointer (some ⟨4,0,none⟩))]⟩)]⟩),EP,(.agg ⟨q2⟩)]⟩)) (ih0 n0 c0 z0 (Aj .i64 (Int.add z1 (1:Int))) q0 n1 q1 n2 c1 q2)))) none) none) none))) none) (LK pu n n0 c0 q0 n1 q1 n2 c1 q2)) none) none)
def KJ (pu:Af) (n w:Nat):Nat→Nat→Int→Int→LV→Nat→LV→Nat→Nat→LV→OV:=
 Nat.rec (motive:=fun _=>Nat→Nat→Int→Int→LV→Nat→LV→Nat→Nat→LV→OV) (fun _ _ _ _ _ _ _ _ _ _=>none) (fun _ ih0=>Jf pu n ih0) w
def Jv (pu:Af) (n n0 c0:Nat) (q0:LV) (n1:Nat) (q1:LV) (n2 c1:Nat) (q2:LV):OV:=
 (oo (AL q1 ((n1+0)+0)) none fun v0=>(oo (Bi .i64 v0) none fun x0=>(oo (AL q1 ((n1+0)+1)) none fun v1=>(oo (Bi .i64 v1) none fun x1=>(bb (Au Ah q0) (bb (Au Ah q2) (bb (Bd (Int.ofNat n0) (Aj .i64 (Int.mul x0 x1))) (oo (AL q1 ((n1+0)+3)) none fun v2=>(oo (Bj 1 v2) none fun s0=>(KJ pu n n n0 c0 (Int.ofNat (Sl.n s0)) (0:Int) q0 n1 q1 n2 c1 q2))) (LJ pu n n0 c0 q0 n1 q1 n2 c1 q2)) none) none)))))
def OO (pu:Af) (n:Nat) (args:LV):OV:=
 (ll args none fun a0 args=>(ll args none fun a1 args=>(ll args none fun a2 args=>(ll args none fun a3 args=>(ll args none fun o0 args=>(ll args none fun o1 args=>(ll args none fun o2 args=>(ll args none fun o3 args=>(ll args none fun o4 args=>(ll args (oo (OJ 1 0 1 a0) none fun y0=>(bb (FD a1 2 0) (bb (FD a2 3 0) (bb (FD a3 4 0) (oo (Bt o0) none fun q0=>(oo (Bt o1) none fun l0=>(ll l0 none fun v0 l0=>(ll l0 (oo (Pv v0) none fun p0=>(oo (Bt o2) none fun l1=>(ll l1 none fun v1 l1=>(ll l1 (oo (OJ 5 0 1 v1) none fun y1=>(oo (Bt o3) none fun l2=>(ll l2 none fun v2 l2=>(ll l2 (oo (O6 26 0 v2) none fun l3=>(ll l3 none fun v3 l3=>(ll l3 none fun v4 l3=>(ll l3 none fun v5 l3=>(ll l3 (bb (FD v3 2 0) (bb (FD v4 3 0) (bb (FD v5 4 0) (oo (Bt o4) none fun q1=>(Jv pu n (NC.n y0) (NC.c y0) q0 (Db.off p0) (Db.cs p0) (NC.n y1) (NC.c y1) q1)) none) none) none) fun _ _=>none))))) fun _ _=>none)))) fun _ _=>none)))) fun _ _=>none)))) none) none) none)) fun _ _=>none))))))))))
theorem dV (pu:Af) (n n0 c0:Nat) (q0:LV) (n1:Nat) (q1:LV) (n2 c1:Nat) (q2:LV) {v:Value} (hm:LJ pu n n0 c0 q0 n1 q1 n2 c1 q2=some v):BN tt (Bb tabs isP pu (inl pu)) 6 Wl (fr 58 [(0,sc 1 0 1 n0 c0),(1,(pt 2 0)),(3,(pt 4 0))]) (hT 7 [oC q0,(oC [(Cv n1 q1)]),(oC [sc 6 0 1 n2 c1]),(oC [(.func (.func 26) ⟨[]⟩ ⟨[(pt 2 0),(pt 3 0),(pt 4 0)]⟩)]),.dead,oC q2]) (FJ tt 1 5 [] v):=by
 unfold LJ at hm
 refine .then ?_
 replace hm:=Kc hm;obtain⟨x0,h0,hm⟩:=hm
 refine .reg (eC 4 (keep (hT 7 [oC q0,(oC [(Cv n1 q1)]),(oC [sc 6 0 1 n2 c1]),(oC [(.func (.func 26) ⟨[]⟩ ⟨[(pt 2 0),(pt 3 0),(pt 4 0)]⟩)]),.dead,oC q2]) (AL q1 ((n1+0)+2))) (AZ h0) (eE)) ?_
 replace hm:=Ae hm;obtain⟨h1,hm⟩:=hm
 replace hm:=Ae hm;obtain⟨h2,hm⟩:=hm
 refine .ghs (fr 58 [(0,sc 1 0 1 n0 c0),(3,(pt 4 0)),(47,zI x0),(48,(zI (0:Int)))]) (hT 7 [oC q0,(oC [(Cv n1 q1)]),(oC [sc 6 0 1 n2 c1]),(oC [(.func (.func 26) ⟨[]⟩ ⟨[(pt 2 0),(pt 3 0),(pt 4 0)]⟩)]),.dead,oC q2]) (.k [1,6] [false,false,false,true,true,false] [.cell 3 0 false] [0,3,47,48] ⟨BO h1,BO h2,trivial⟩) ?_
 refine .block (.loopM (v:=v) (fun y:Nat×Nat×Int×Int×LV×Nat×LV×Nat×Nat×LV=>((fr 58 [(0,(sc 1 0 1 y.1 y.2.1)),(3,(pt 4 0)),(47,(zI y.2.2.1)),(48,(zI y.2.2.2.1))]),(hT 7 [(oC y.2.2.2.2.1),(oC [(Cv y.2.2.2.2.2.1 y.2.2.2.2.2.2.1)]),(oC [(sc 6 0 1 y.2.2.2.2.2.2.2.1 y.2.2.2.2.2.2.2.2.1)]),(oC [(.func (.func 26) ⟨[]⟩ ⟨[(pt 2 0),(pt 3 0),(pt 4 0)]⟩)]),.dead,(oC y.2.2.2.2.2.2.2.2.2)]))) (fun w y=>Ki pu n w y.1 y.2.1 y.2.2.1 y.2.2.2.1 y.2.2.2.2.1 y.2.2.2.2.2.1 y.2.2.2.2.2.2.1 y.2.2.2.2.2.2.2.1 y.2.2.2.2.2.2.2.2.1 y.2.2.2.2.2.2.2.2.2) n ⟨(n0,c0,x0,(0:Int),q0,n1,q1,n2,c1,q2),hm,(.k [1,6] [false,false,false,true,true,false] [.cell 3 0 false] [0,3,47,48] ⟨BO h1,BO h2,trivial⟩)⟩ (fun _=>rfl) ?_)
 rintro w0 ⟨n3,c2,z0,z1,q3,n4,q4,n5,c70,q5⟩ hm
 replace hm:Je pu n (Ki pu n w0) n3 c2 z0 z1 q3 n4 q4 n5 c70 q5=some v:=hm
 unfold Je at hm
 refine .then (.rK ?_)
 replace hm:=Ae hm;obtain⟨h3,hm⟩:=hm
 replace hm:=Ae hm;obtain⟨h4,hm⟩:=hm
 refine .ghs (fr 58 [(0,sc 1 0 1 n3 c2),(3,(pt 4 0)),(47,zI z0),(48,zI z1),(49,(zB (AY z1 z0)))]) (hT 7 [oC q3,(oC [(Cv n4 q4)]),(oC [sc 6 0 1 n5 c70]),(oC [(.func (.func 26) ⟨[]⟩ ⟨[(pt 2 0),(pt 3 0),(pt 4 0)]⟩)]),.dead,oC q5]) (.k [1,6] [false,false,false,true,true,false] [.cell 3 0 false] [0,3,47,48,49] ⟨BO h3,BO h4,trivial⟩) ?_
 refine .then ?_
 replace hm:=Ag hm;rcases hm with⟨h5,hm⟩ | ⟨h5,hm⟩
 ·refine C8 (AY z1 z0) h5 ?_
  refine .skip (.ghs (fr 58 [(0,sc 1 0 1 n3 c2),(3,(pt 4 0)),(47,zI z0),(48,zI z1)]) (hT 7 [oC q3,(oC [(Cv n4 q4)]),(oC [sc 6 0 1 n5 c70]),(oC [(.func (.func 26) ⟨[]⟩ ⟨[(pt 2 0),(pt 3 0),(pt 4 0)]⟩)]),.dead,oC q5]) (.k [1,6] [false,false,false,true,true,false] [.cell 3 0 false] [0,3,47,48] ⟨BO h3,BO h4,trivial⟩) ?_)
  refine .then (.block (.then (.rK (.ghs (fr 58 [(0,sc 1 0 1 n3 c2),(3,(pt 4 0)),(6,zI z1),(47,zI z0),(48,zI z1)]) (hT 7 [oC q3,(oC [(Cv n4 q4)]),(oC [sc 6 0 1 n5 c70]),(oC [(.func (.func 26) ⟨[]⟩ ⟨[(pt 2 0),(pt 3 0),(pt 4 0)]⟩)]),.dead,oC q5]) (.k [1,6] [false,false,false,true,true,false] [.cell 3 0 false] [0,3,6,47,48] ⟨BO h3,BO h4,trivial⟩) ?_))))
  replace hm:=Ae hm;obtain⟨h6,hm⟩:=hm
  replace hm:=Ae hm;obtain⟨h7,hm⟩:=hm
  replace hm:=Ae hm;obtain⟨h8,hm⟩:=hm
  replace hm:=Ae hm;obtain⟨h9,hm⟩:=hm
  replace hm:=Ae hm;obtain⟨h10,hm⟩:=hm
  replace hm:=Ae hm;obtain⟨h11,hm⟩:=hm
  replace hm:=Ab hm;obtain⟨v0,h12,hm⟩:=hm
  replace hm:=Ch hm;obtain⟨l0,rfl,hm⟩:=hm
  replace hm:=Ad hm;obtain⟨v1,l1049_0,rfl,hm⟩:=hm
  replace hm:=Ad hm;obtain⟨v2,l1049_1,rfl,hm⟩:=hm
  replace hm:=Ad hm;obtain⟨v3,l1049_2,rfl,hm⟩:=hm
  replace hm:=Ad hm;obtain⟨v4,l1049_3,rfl,hm⟩:=hm
  replace hm:=Ad hm;obtain⟨v5,l1049_4,rfl,hm⟩:=hm
  replace hm:=Ad hm;obtain⟨v6,l1049_5,rfl,hm⟩:=hm
  replace hm:=Ad hm;obtain⟨v7,l1049_6,rfl,hm⟩:=hm
  replace hm:=AC hm;obtain⟨rfl,hm⟩:=hm
  replace hm:=Ae hm;obtain⟨h13,hm⟩:=hm
  obtain rfl:=Pj h13
  replace hm:=BG hm;obtain⟨q6,rfl,hm⟩:=hm
  replace hm:=BG hm;obtain⟨l1,rfl,hm⟩:=hm
  replace hm:=Ad hm;obtain⟨v8,l1061_0,rfl,hm⟩:=hm
  replace hm:=AC hm;obtain⟨rfl,hm⟩:=hm
  replace hm:=Ab hm;obtain⟨p0,h14,hm⟩:=hm
  obtain rfl:=F7 h14
  replace hm:=BG hm;obtain⟨l2,rfl,hm⟩:=hm
  replace hm:=Ad hm;obtain⟨v9,l1066_0,rfl,hm⟩:=hm
  replace hm:=AC hm;obtain⟨rfl,hm⟩:=hm
  replace hm:=Ab hm;obtain⟨y0,h15,hm⟩:=hm
  obtain rfl:=I9 h15
  replace hm:=BG hm;obtain⟨l3,rfl,hm⟩:=hm
  replace hm:=Ad hm;obtain⟨v10,l1071_0,rfl,hm⟩:=hm
  replace hm:=AC hm;obtain⟨rfl,hm⟩:=hm
  replace hm:=Ab hm;obtain⟨l4,h16,hm⟩:=hm
  obtain rfl:=Jb h16
  replace hm:=Ad hm;obtain⟨v11,l1074_0,rfl,hm⟩:=hm
  replace hm:=Ad hm;obtain⟨v12,l1074_1,rfl,hm⟩:=hm
  replace hm:=Ad hm;obtain⟨v13,l1074_2,rfl,hm⟩:=hm
  replace hm:=AC hm;obtain⟨rfl,hm⟩:=hm
  replace hm:=Ae hm;obtain⟨h17,hm⟩:=hm
  obtain rfl:=DT h17
  replace hm:=Ae hm;obtain⟨h18,hm⟩:=hm
  obtain rfl:=DT h18
  replace hm:=Ae hm;obtain⟨h19,hm⟩:=hm
  obtain rfl:=DT h19
  replace hm:=Ae hm;obtain⟨h20,hm⟩:=hm
  replace hm:=BG hm;obtain⟨q7,rfl,hm⟩:=hm
  replace hm:=Ae hm;obtain⟨h21,hm⟩:=hm
  replace hm:=Ae hm;obtain⟨h22,hm⟩:=hm
  replace hm:=Ae hm;obtain⟨h23,hm⟩:=hm
  replace hm:=Ae hm;obtain⟨h24,hm⟩:=hm
  replace hm:=Ae hm;obtain⟨h25,hm⟩:=hm
  refine .room 0 1 n3 c2 q3 h6 _ _ _ _ (fr 58 [(0,(sc 1 0 1 n3 (2*n3))),(3,(pt 4 0)),(47,zI z0),(48,zI z1)]) (hT 7 [(oC (Aq (n3*1) q3)),(oC [(Cv (Db.off p0) (Db.cs p0))]),(oC [(sc 6 0 1 (NC.n y0) (NC.c y0))]),(oC [(.func (.func 26) ⟨[]⟩ ⟨[(pt 2 0),(pt 3 0),(pt 4 0)]⟩)]),.dead,oC q7]) (eC 4 (Oc 1 8 n3 (2*n3+1) 1 1 q3 [zI z1] [] (hT 8 [oC q3,(oC [(Cv n4 q4)]),(oC [sc 6 0 1 n5 c70]),(oC [(.func (.func 26) ⟨[]⟩ ⟨[(pt 2 0),(pt 3 0),(pt 4 0)]⟩)]),.dead,oC q5,(oC [zI z1])])) (jC h7) (eD (Jg tabs [[none],[none],[none],[none]] 4 [.tmp 0 false,.tmp 1 false,.tmp 2 true,.tmp 3 true,.cell 3 0 false] [false,false,true,true,false,false] (pu 10261) [(sc 8 0 1 (n3+1) (d2 (n3+1))),(pt 2 0),(pt 3 0),(pt 4 0)] (hT 9 [oC q3,(oC [(Cv n4 q4)]),(oC [sc 6 0 1 n5 c70]),(oC [(.func (.func 26) ⟨[]⟩ ⟨[(pt 2 0),(pt 3 0),(pt 4 0)]⟩)]),.dead,oC q5,(oC [zI z1]),(oC (Br (Aq (n3*1) q3) [zI z1]))])) (Hy (as:=[(sc 8 0 1 (n3+1) (d2 (n3+1))),(pt 2 0),(pt 3 0),(pt 4 0)]) (H1:=(hT 9 [oC q3,(oC [(Cv n4 q4)]),(oC [sc 6 0 1 n5 c70]),(oC [(.func (.func 26) ⟨[]⟩ ⟨[(pt 2 0),(pt 3 0),(pt 4 0)]⟩)]),.dead,oC q5,(oC [zI z1]),(oC (Br (Aq (n3*1) q3) [zI z1]))])) (Cs (Fp FL) (Cs (Fp FL) (Cs (Fp FL) (Cs (Fp FL) JN)))) (Hw (H2:=(hT 10 [oC q3,(oC [(Cv (Db.off p0) (Db.cs p0))]),(oC [(sc 9 0 1 (NC.n y0) (NC.c y0))]),(oC [(.func (.func 26) ⟨[]⟩ ⟨[(pt 2 0),(pt 3 0),(pt 4 0)]⟩)]),.dead,.dead,(oC [zI z1]),oC q6,oC q7])) (v:=(.tuple ⟨[]⟩)) (v':=(.tuple ⟨[]⟩)) [some 0,some 8,some 2,some 3,some 4,some 6] [(false,some 8),(false,some 2),(true,some 3),(true,some 4),(false,some 6)] [(oC (Br (Aq (n3*1) q3) [zI z1])),(oC [(Cv n4 q4)]),(oC [sc 5 0 1 n5 c70]),(oC [(.func (.func 26) ⟨[]⟩ ⟨[(pt 2 0),(pt 3 0),(pt 4 0)]⟩)]),oC q5] [(sc 1 0 1 (n3+1) (d2 (n3+1))),(pt 2 0),(pt 3 0),(pt 4 0)] [(.agg ⟨q6⟩),(.agg ⟨[(Cv (Db.off p0) (Db.cs p0))]⟩),(.agg ⟨[(sc 6 0 1 (NC.n y0) (NC.c y0))]⟩),(.agg ⟨[(.func (.func 26) ⟨[]⟩ ⟨[(pt 2 0),(pt 3 0),(pt 4 0)]⟩)]⟩),v6,(.agg ⟨q7⟩)] [oC q6,(oC [(Cv (Db.off p0) (Db.cs p0))]),(oC [(sc 6 0 1 (NC.n y0) (NC.c y0))]),(oC [(.func (.func 26) ⟨[]⟩ ⟨[(pt 2 0),(pt 3 0),(pt 4 0)]⟩)]),.dead,oC q7] [some 0,none,some 2,some 3,some 4,none,some 5,none,some 1,some 6] [(false,oC q6),(false,(oC [(Cv (Db.off p0) (Db.cs p0))])),(true,(oC [(sc 6 0 1 (NC.n y0) (NC.c y0))])),(true,(oC [(.func (.func 26) ⟨[]⟩ ⟨[(pt 2 0),(pt 3 0),(pt 4 0)]⟩)])),(false,.dead),(false,oC q7)] [oC q6,(oC [(Cv (Db.off p0) (Db.cs p0))]),(oC [(sc 9 0 1 (NC.n y0) (NC.c y0))]),(oC [(.func (.func 26) ⟨[]⟩ ⟨[(pt 2 0),(pt 3 0),(pt 4 0)]⟩)]),.dead,oC q7] (sF (by kernel_rfl) (Pi h8 (Pi h9 rfl))) (A7 (KU (anc:=[]) h10) (A7 (by kernel_rfl) (A7 (by kernel_rfl) (A7 (by kernel_rfl) (A7 (KU (anc:=[]) h11) Dy))))) (Eq.trans (by kernel_rfl) h12) (A7 rfl (A7 rfl (A7 rfl (A7 rfl (A7 (Nh h20) (A7 rfl Dy)))))) (A7 (KW h21) (A7 (by kernel_rfl) (A7 (by kernel_rfl) (A7 (by kernel_rfl) (A7 (by kernel_rfl) (A7 (KW h22) Dy)))))))) (eE))) (.room 0 1 1 n3 (2*n3+1) (.cut 1 (n3*1) q3 (Aq (n3*1) q3) rfl (.k [1,9] [false,false,false,true,true,false] [.cell 3 0 false] [0,3,47,48] ⟨BO h24,BO h25,trivial⟩))) (eC 4 (Oc 1 8 n3 (2*(n3+1)) 1 1 (Br (Aq (n3*1) q3) [EP]) [zI z1] [] (hT 8 [(oC (Br (Aq (n3*1) q3) [EP])),(oC [(Cv n4 q4)]),(oC [sc 6 0 1 n5 c70]),(oC [(.func (.func 26) ⟨[]⟩ ⟨[(pt 2 0),(pt 3 0),(pt 4 0)]⟩)]),.dead,oC q5,(oC [zI z1])])) (jD h7) (eD (Jg tabs [[none],[none],[none],[none]] 4 [.tmp 0 false,.tmp 1 false,.tmp 2 true,.tmp 3 true,.cell 3 0 false] [false,false,true,true,false,false] (pu 10261) [(sc 1 0 1 (n3+1) (d2 (n3+1))),(pt 2 0),(pt 3 0),(pt 4 0)] (hT 8 [(oC (Br (Aq (n3*1) q3) [zI z1])),(oC [(Cv n4 q4)]),(oC [sc 6 0 1 n5 c70]),(oC [(.func (.func 26) ⟨[]⟩ ⟨[(pt 2 0),(pt 3 0),(pt 4 0)]⟩)]),.dead,oC q5,(oC [zI z1])])) (Hy (as:=[(sc 1 0 1 (n3+1) (d2 (n3+1))),(pt 2 0),(pt 3 0),(pt 4 0)]) (H1:=(hT 8 [(oC (Br (Aq (n3*1) q3) [zI z1])),(oC [(Cv n4 q4)]),(oC [sc 6 0 1 n5 c70]),(oC [(.func (.func 26) ⟨[]⟩ ⟨[(pt 2 0),(pt 3 0),(pt 4 0)]⟩)]),.dead,oC q5,(oC [zI z1])])) (Cs (Fp FL) (Cs (Fp FL) (Cs (Fp FL) (Cs (Fp FL) JN)))) (Hw (H2:=(hT 9 [oC q6,(oC [(Cv (Db.off p0) (Db.cs p0))]),(oC [(sc 8 0 1 (NC.n y0) (NC.c y0))]),(oC [(.func (.func 26) ⟨[]⟩ ⟨[(pt 2 0),(pt 3 0),(pt 4 0)]⟩)]),.dead,.dead,(oC [zI z1]),oC q7])) (v:=(.tuple ⟨[]⟩)) (v':=(.tuple ⟨[]⟩)) [some 0,some 1,some 2,some 3,some 4,some 6] [(false,some 1),(false,some 2),(true,some 3),(true,some 4),(false,some 6)] [(oC (Br (Aq (n3*1) q3) [zI z1])),(oC [(Cv n4 q4)]),(oC [sc 5 0 1 n5 c70]),(oC [(.func (.func 26) ⟨[]⟩ ⟨[(pt 2 0),(pt 3 0),(pt 4 0)]⟩)]),oC q5] [(sc 1 0 1 (n3+1) (d2 (n3+1))),(pt 2 0),(pt 3 0),(pt 4 0)] [(.agg ⟨q6⟩),(.agg ⟨[(Cv (Db.off p0) (Db.cs p0))]⟩),(.agg ⟨[(sc 6 0 1 (NC.n y0) (NC.c y0))]⟩),(.agg ⟨[(.func (.func 26) ⟨[]⟩ ⟨[(pt 2 0),(pt 3 0),(pt 4 0)]⟩)]⟩),v6,(.agg ⟨q7⟩)] [oC q6,(oC [(Cv (Db.off p0) (Db.cs p0))]),(oC [(sc 6 0 1 (NC.n y0) (NC.c y0))]),(oC [(.func (.func 26) ⟨[]⟩ ⟨[(pt 2 0),(pt 3 0),(pt 4 0)]⟩)]),.dead,oC q7] [some 0,some 1,some 2,some 3,some 4,none,some 5,none,some 6] [(false,oC q6),(false,(oC [(Cv (Db.off p0) (Db.cs p0))])),(true,(oC [(sc 6 0 1 (NC.n y0) (NC.c y0))])),(true,(oC [(.func (.func 26) ⟨[]⟩ ⟨[(pt 2 0),(pt 3 0),(pt 4 0)]⟩)])),(false,.dead),(false,oC q7)] [oC q6,(oC [(Cv (Db.off p0) (Db.cs p0))]),(oC [(sc 8 0 1 (NC.n y0) (NC.c y0))]),(oC [(.func (.func 26) ⟨[]⟩ ⟨[(pt 2 0),(pt 3 0),(pt 4 0)]⟩)]),.dead,oC q7] (sF (by kernel_rfl) (Pi h8 (Pi h9 rfl))) (A7 (KU (anc:=[]) h10) (A7 (by kernel_rfl) (A7 (by kernel_rfl) (A7 (by kernel_rfl) (A7 (KU (anc:=[]) h11) Dy))))) (Eq.trans (by kernel_rfl) h12) (A7 rfl (A7 rfl (A7 rfl (A7 rfl (A7 (Nh h20) (A7 rfl Dy)))))) (A7 (KW h21) (A7 (by kernel_rfl) (A7 (by kernel_rfl) (A7 (by kernel_rfl) (A7 (by kernel_rfl) (A7 (KW h22) Dy)))))))) (eE))) (.room 0 1 1 n3 (2*(n3+1)) (.cut 1 (n3*1) q6 (Aq (n3*1) q3) (LB h23) (.k [1,8] [false,false,false,true,true,false] [.cell 3 0 false] [0,3,47,48] ⟨BO h24,BO h25,trivial⟩))) ?_
  refine .ghs (fr 58 [(0,(sc 1 0 1 n3 (2*n3))),(3,(pt 4 0)),(47,zI z0),(48,zI z1)]) (hT 7 [(oC (Aq (n3*1) q3)),(oC [(Cv (Db.off p0) (Db.cs p0))]),(oC [(sc 6 0 1 (NC.n y0) (NC.c y0))]),(oC [(.func (.func 26) ⟨[]⟩ ⟨[(pt 2 0),(pt 3 0),(pt 4 0)]⟩)]),.dead,oC q7]) (.k [1,6] [false,false,false,true,true,false] [.cell 3 0 false] [0,3,47,48] ⟨BO h24,BO h25,trivial⟩) ?_
  refine .rK ?_
  exact⟨(n3,(2*n3),z0,(Aj .i64 (Int.add z1 (1:Int))),(Aq (n3*1) q3),(Db.off p0),(Db.cs p0),(NC.n y0),(NC.c y0),q7),hm,(.k [1,6] [false,false,false,true,true,false] [.cell 3 0 false] [0,3,47,48] ⟨BO h24,BO h25,trivial⟩)⟩
 ·refine Dn (AY z1 z0) h5 ?_
  refine .exit ?_
  refine .ghs (fr 58 []) (hT 7 [oC q3,(oC [(Cv n4 q4)]),(oC [sc 6 0 1 n5 c70]),(oC [(.func (.func 26) ⟨[]⟩ ⟨[(pt 2 0),(pt 3 0),(pt 4 0)]⟩)]),.dead,oC q5]) (.k [1,6] [false,false,false,true,true,false] [.cell 3 0 false] [] ⟨BO h3,BO h4,trivial⟩) ?_
  exact Uw (.tuple ⟨[]⟩) [oC q3,(oC [(Cv n4 q4)]),(oC [sc 6 0 1 n5 c70]),(oC [(.func (.func 26) ⟨[]⟩ ⟨[(pt 2 0),(pt 3 0),(pt 4 0)]⟩)]),.dead,oC q5] (by kernel_rfl) hm (Nat.le_of_ble_eq_true rfl) (Bq (G9 _) (Bq (G9 _) (Bq (G9 _) (Bq (G9 _) (Bq Yd (Bq (G9 _) Hz))))))
theorem Ue (pu:Af) (n n0 c0:Nat) (q0:LV) (n1:Nat) (q1:LV) (n2 c1:Nat) (q2:LV) {v:Value} (hm:Jv pu n n0 c0 q0 n1 q1 n2 c1 q2=some v):BN tt (Bb tabs isP pu (inl pu)) 6 MR (fr 58 [(0,sc 1 0 1 n0 c0),(1,(pt 2 0)),(2,(pt 3 0)),(3,(pt 4 0))]) (hT 6 [oC q0,(oC [(Cv n1 q1)]),(oC [sc 5 0 1 n2 c1]),(oC [(.func (.func 26) ⟨[]⟩ ⟨[(pt 2 0),(pt 3 0),(pt 4 0)]⟩)]),oC q2]) (FJ tt 1 5 [] v):=by
 unfold Jv at hm
 refine .ghs (fr 58 [(0,sc 1 0 1 n0 c0),(1,(pt 2 0)),(2,(pt 3 0)),(3,(pt 4 0))]) (hT 7 [oC q0,(oC [(Cv n1 q1)]),(oC [sc 6 0 1 n2 c1]),(oC [(.func (.func 26) ⟨[]⟩ ⟨[(pt 2 0),(pt 3 0),(pt 4 0)]⟩)]),.dead,oC q2]) (.mv 2 3 0 5 0 1 n2 c1 [sc 5 0 1 n2 c1] q2 (spA:=false) (ancA:=[]) (ancB:=[]) (v:=(pt 3 0)) (by kernel_rfl) (QR (off:=0)) (E9.id _ _)) ?_
 refine .join (v:=v) (fun y:Nat×Nat×LV×Nat×LV×Nat×Nat×LV=>((fr 58 [(0,(sc 1 0 1 y.1 y.2.1)),(1,(pt 2 0)),(3,(pt 4 0))]),(hT 7 [(oC y.2.2.1),(oC [(Cv y.2.2.2.1 y.2.2.2.2.1)]),(oC [(sc 6 0 1 y.2.2.2.2.2.1 y.2.2.2.2.2.2.1)]),(oC [(.func (.func 26) ⟨[]⟩ ⟨[(pt 2 0),(pt 3 0),(pt 4 0)]⟩)]),.dead,(oC y.2.2.2.2.2.2.2)]))) (fun y=>LJ pu n y.1 y.2.1 y.2.2.1 y.2.2.2.1 y.2.2.2.2.1 y.2.2.2.2.2.1 y.2.2.2.2.2.2.1 y.2.2.2.2.2.2.2) ?_ ?_
 ·rintro⟨n3,c2,q3,n4,q4,n5,c70,q5⟩ hm
  exact dV pu n n3 c2 q3 n4 q4 n5 c70 q5 hm
 ·refine .then ?_
  replace hm:=Kc hm;obtain⟨x0,h0,hm⟩:=hm
  replace hm:=Kc hm;obtain⟨x1,h1,hm⟩:=hm
  refine .reg (eC 6 (keep (hT 7 [oC q0,(oC [(Cv n1 q1)]),(oC [sc 6 0 1 n2 c1]),(oC [(.func (.func 26) ⟨[]⟩ ⟨[(pt 2 0),(pt 3 0),(pt 4 0)]⟩)]),.dead,oC q2]) (AL q1 ((n1+0)+0))) (AZ h0) (eC 4 (keep (hT 7 [oC q0,(oC [(Cv n1 q1)]),(oC [sc 6 0 1 n2 c1]),(oC [(.func (.func 26) ⟨[]⟩ ⟨[(pt 2 0),(pt 3 0),(pt 4 0)]⟩)]),.dead,oC q2]) (AL q1 ((n1+0)+1))) (AZ h1) (eE))) ?_
  replace hm:=Ae hm;obtain⟨h2,hm⟩:=hm
  replace hm:=Ae hm;obtain⟨h3,hm⟩:=hm
  refine .ghs (fr 58 [(0,sc 1 0 1 n0 c0),(1,(pt 2 0)),(2,(pt 3 0)),(3,(pt 4 0)),(20,(zB (Bd (Int.ofNat n0) (Aj .i64 (Int.mul x0 x1)))))]) (hT 7 [oC q0,(oC [(Cv n1 q1)]),(oC [sc 6 0 1 n2 c1]),(oC [(.func (.func 26) ⟨[]⟩ ⟨[(pt 2 0),(pt 3 0),(pt 4 0)]⟩)]),.dead,oC q2]) (.k [1,6] [false,false,false,true,true,false] [.cell 3 0 false] [0,1,2,3,20] ⟨BO h2,BO h3,trivial⟩) ?_
  replace hm:=Ag hm;rcases hm with⟨h4,hm⟩ | ⟨h4,hm⟩
  ·refine C8 (Bd (Int.ofNat n0) (Aj .i64 (Int.mul x0 x1))) h4 ?_
   refine .join (v:=v) (fun y:Nat×Nat×LV×Nat×LV×Nat×Nat×LV=>((fr 58 [(0,(sc 1 0 1 y.1 y.2.1)),(2,(pt 3 0))]),(hT 7 [(oC y.2.2.1),(oC [(Cv y.2.2.2.1 y.2.2.2.2.1)]),(oC [(sc 6 0 1 y.2.2.2.2.2.1 y.2.2.2.2.2.2.1)]),(oC [(.func (.func 26) ⟨[]⟩ ⟨[(pt 2 0),(pt 3 0),(pt 4 0)]⟩)]),.dead,(oC y.2.2.2.2.2.2.2)]))) (fun y=>LK pu n y.1 y.2.1 y.2.2.1 y.2.2.2.1 y.2.2.2.2.1 y.2.2.2.2.2.1 y.2.2.2.2.2.2.1 y.2.2.2.2.2.2.2) ?_ ?_
   ·rintro⟨n6,c77,q6,n7,q7,n8,c79,q8⟩ hm
    unfold LK at hm
    refine .then ?_
    replace hm:=Ae hm;obtain⟨h5,hm⟩:=hm
    replace hm:=ZC hm;obtain⟨s0,h6,hm⟩:=hm
    replace hm:=Ae hm;obtain⟨h7,hm⟩:=hm
    replace hm:=Ae hm;obtain⟨h8,hm⟩:=hm
    replace hm:=Ae hm;obtain⟨h9,hm⟩:=hm
    refine .reg (eC 2 (frzP tabs 1 (pu 29) [sc 1 0 1 n6 c77] (hT 7 [oC q6,(oC [(Cv n7 q7)]),(oC [sc 6 0 1 n8 c79]),(oC [(.func (.func 26) ⟨[]⟩ ⟨[(pt 2 0),(pt 3 0),(pt 4 0)]⟩)]),.dead,oC q8])) (Ov (s:=s0) (H2:=(hT 8 [oC q6,(oC [(Cv n7 q7)]),(oC [sc 6 0 1 n8 c79]),(oC [(.func (.func 26) ⟨[]⟩ ⟨[(pt 2 0),(pt 3 0),(pt 4 0)]⟩)]),.dead,oC q8,.dead])) (v:=(Sl.v 1 (Sl.mk (Sl.n s0) 0 (Aq ((Sl.n s0)*1) (Am 0 (Sl.cs s0)))))) (DL (FY (by kernel_rfl) (Oi 1 0 1 n6 c77 q6 false false [] (by kernel_rfl) (by kernel_rfl) h5)) Jj) h6 h7 h8) (eC 1 (Oc 1 24 n8 c79 1 6 q8 [(Sl.v 1 (Sl.mk (Sl.n s0) 0 (Aq ((Sl.n s0)*1) (Am 0 (Sl.cs s0)))))] [] (hT 9 [oC q6,(oC [(Cv n7 q7)]),(oC [sc 6 0 1 n8 c79]),(oC [(.func (.func 26) ⟨[]⟩ ⟨[(pt 2 0),(pt 3 0),(pt 4 0)]⟩)]),.dead,oC q8,.dead,(oC [(Sl.v 1 (Sl.mk (Sl.n s0) 0 (Aq ((Sl.n s0)*1) (Am 0 (Sl.cs s0)))))])])) (I1 h9) (eE))) ?_
    replace hm:=Ae hm;obtain⟨h10,hm⟩:=hm
    replace hm:=Ae hm;obtain⟨h11,hm⟩:=hm
    refine .ghs (fr 58 []) (hT 7 [oC q6,(oC [(Cv n7 q7)]),(oC [(sc 6 0 1 (n8+1) (d2 (n8+1)))]),(oC [(.func (.func 26) ⟨[]⟩ ⟨[(pt 2 0),(pt 3 0),(pt 4 0)]⟩)]),.dead,(oC (Br (Am 0 q8) [(Sl.v 1 (Sl.mk (Sl.n s0) 0 (Aq ((Sl.n s0)*1) (Am 0 (Sl.cs s0)))))]))]) (.k [1,9] [false,false,false,true,true,false] [.cell 3 0 false] [] ⟨BO h10,BO h11,trivial⟩) ?_
    refine .ghs (fr 58 []) (hT 7 [oC q6,(oC [(Cv n7 q7)]),(oC [(sc 6 0 1 (n8+1) (d2 (n8+1)))]),(oC [(.func (.func 26) ⟨[]⟩ ⟨[(pt 2 0),(pt 3 0),(pt 4 0)]⟩)]),.dead,(oC (Br (Am 0 q8) [(Sl.v 1 (Sl.mk (Sl.n s0) 0 (Aq ((Sl.n s0)*1) (Am 0 (Sl.cs s0)))))]))]) (.k [1,6] [false,false,false,true,true,false] [.cell 3 0 false] [] ⟨BO h10,BO h11,trivial⟩) ?_
    refine .ret ?_
    exact Kb (.tuple ⟨[]⟩) [oC q6,(oC [(Cv n7 q7)]),(oC [(sc 6 0 1 (n8+1) (d2 (n8+1)))]),(oC [(.func (.func 26) ⟨[]⟩ ⟨[(pt 2 0),(pt 3 0),(pt 4 0)]⟩)]),.dead,(oC (Br (Am 0 q8) [(Sl.v 1 (Sl.mk (Sl.n s0) 0 (Aq ((Sl.n s0)*1) (Am 0 (Sl.cs s0)))))]))] (by kernel_rfl) hm (Nat.le_of_ble_eq_true rfl) (Bq (G9 _) (Bq (G9 _) (Bq (G9 _) (Bq (G9 _) (Bq Yd (Bq (G9 _) Hz))))))
   ·refine .then ?_
    replace hm:=ZC hm;obtain⟨s1,h12,hm⟩:=hm
    refine .reg (eC 4 (keep (hT 7 [oC q0,(oC [(Cv n1 q1)]),(oC [sc 6 0 1 n2 c1]),(oC [(.func (.func 26) ⟨[]⟩ ⟨[(pt 2 0),(pt 3 0),(pt 4 0)]⟩)]),.dead,oC q2]) (AL q1 ((n1+0)+3))) (AZ h12) (eE)) ?_
    refine .ghs (fr 58 [(0,sc 1 0 1 n0 c0),(1,(pt 2 0)),(2,(pt 3 0)),(26,(zI (Int.ofNat (Sl.n s1)))),(27,(zI (0:Int)))]) (hT 7 [oC q0,(oC [(Cv n1 q1)]),(oC [sc 6 0 1 n2 c1]),(oC [(.func (.func 26) ⟨[]⟩ ⟨[(pt 2 0),(pt 3 0),(pt 4 0)]⟩)]),.dead,oC q2]) (.k [1,6] [false,false,false,true,true,false] [.cell 3 0 false] [0,1,2,26,27] ⟨BO h2,BO h3,trivial⟩) ?_
    refine .block (.loopM (v:=v) (fun y:Nat×Nat×Int×Int×LV×Nat×LV×Nat×Nat×LV=>((fr 58 [(0,(sc 1 0 1 y.1 y.2.1)),(1,(pt 2 0)),(2,(pt 3 0)),(26,(zI y.2.2.1)),(27,(zI y.2.2.2.1))]),(hT 7 [(oC y.2.2.2.2.1),(oC [(Cv y.2.2.2.2.2.1 y.2.2.2.2.2.2.1)]),(oC [(sc 6 0 1 y.2.2.2.2.2.2.2.1 y.2.2.2.2.2.2.2.2.1)]),(oC [(.func (.func 26) ⟨[]⟩ ⟨[(pt 2 0),(pt 3 0),(pt 4 0)]⟩)]),.dead,(oC y.2.2.2.2.2.2.2.2.2)]))) (fun w y=>KJ pu n w y.1 y.2.1 y.2.2.1 y.2.2.2.1 y.2.2.2.2.1 y.2.2.2.2.2.1 y.2.2.2.2.2.2.1 y.2.2.2.2.2.2.2.1 y.2.2.2.2.2.2.2.2.1 y.2.2.2.2.2.2.2.2.2) n ⟨(n0,c0,(Int.ofNat (Sl.n s1)),(0:Int),q0,n1,q1,n2,c1,q2),hm,(.k [1,6] [false,false,false,true,true,false] [.cell 3 0 false] [0,1,2,26,27] ⟨BO h2,BO h3,trivial⟩)⟩ (fun _=>rfl) ?_)
    rintro w0 ⟨n9,c100,z0,z1,q9,n10,q10,n11,c111,q11⟩ hm
    replace hm:Jf pu n (KJ pu n w0) n9 c100 z0 z1 q9 n10 q10 n11 c111 q11=some v:=hm
    unfold Jf at hm
    refine .then (.rK ?_)
    replace hm:=Ae hm;obtain⟨h13,hm⟩:=hm
    replace hm:=Ae hm;obtain⟨h14,hm⟩:=hm
    refine .ghs (fr 58 [(0,sc 1 0 1 n9 c100),(1,(pt 2 0)),(2,(pt 3 0)),(26,zI z0),(27,zI z1),(28,(zB (AY z1 z0)))]) (hT 7 [oC q9,(oC [(Cv n10 q10)]),(oC [sc 6 0 1 n11 c111]),(oC [(.func (.func 26) ⟨[]⟩ ⟨[(pt 2 0),(pt 3 0),(pt 4 0)]⟩)]),.dead,oC q11]) (.k [1,6] [false,false,false,true,true,false] [.cell 3 0 false] [0,1,2,26,27,28] ⟨BO h13,BO h14,trivial⟩) ?_
    refine .then ?_
    replace hm:=Ag hm;rcases hm with⟨h15,hm⟩ | ⟨h15,hm⟩
    ·refine C8 (AY z1 z0) h15 ?_
     refine .skip (.ghs (fr 58 [(0,sc 1 0 1 n9 c100),(1,(pt 2 0)),(2,(pt 3 0)),(26,zI z0),(27,zI z1)]) (hT 7 [oC q9,(oC [(Cv n10 q10)]),(oC [sc 6 0 1 n11 c111]),(oC [(.func (.func 26) ⟨[]⟩ ⟨[(pt 2 0),(pt 3 0),(pt 4 0)]⟩)]),.dead,oC q11]) (.k [1,6] [false,false,false,true,true,false] [.cell 3 0 false] [0,1,2,26,27] ⟨BO h13,BO h14,trivial⟩) ?_)
     refine .then (.block (.then (.rK (.ghs (fr 58 [(0,sc 1 0 1 n9 c100),(1,(pt 2 0)),(2,(pt 3 0)),(5,zI z1),(26,zI z0),(27,zI z1)]) (hT 7 [oC q9,(oC [(Cv n10 q10)]),(oC [sc 6 0 1 n11 c111]),(oC [(.func (.func 26) ⟨[]⟩ ⟨[(pt 2 0),(pt 3 0),(pt 4 0)]⟩)]),.dead,oC q11]) (.k [1,6] [false,false,false,true,true,false] [.cell 3 0 false] [0,1,2,5,26,27] ⟨BO h13,BO h14,trivial⟩) ?_))))
     refine .then ?_
     replace hm:=Ae hm;obtain⟨h16,hm⟩:=hm
     replace hm:=ZC hm;obtain⟨s2,h17,hm⟩:=hm
     replace hm:=Ae hm;obtain⟨h18,hm⟩:=hm
     replace hm:=Ae hm;obtain⟨h19,hm⟩:=hm
     replace hm:=Ae hm;obtain⟨h20,hm⟩:=hm
     replace hm:=Kc hm;obtain⟨x2,h21,hm⟩:=hm
     refine .reg (eC 3 (frzP tabs 1 (pu 28) [(Cv n10 q10),sc 1 0 1 n9 c100,zI z1] (hT 7 [oC q9,(oC [(Cv n10 q10)]),(oC [sc 6 0 1 n11 c111]),(oC [(.func (.func 26) ⟨[]⟩ ⟨[(pt 2 0),(pt 3 0),(pt 4 0)]⟩)]),.dead,oC q11])) (Ov (s:=s2) (H2:=(hT 8 [oC q9,(oC [(Cv n10 q10)]),(oC [sc 6 0 1 n11 c111]),(oC [(.func (.func 26) ⟨[]⟩ ⟨[(pt 2 0),(pt 3 0),(pt 4 0)]⟩)]),.dead,oC q11,.dead])) (v:=(Sl.v 1 (Sl.mk (Sl.n s2) 0 (Aq ((Sl.n s2)*1) (Am 0 (Sl.cs s2)))))) (DL (FY (by kernel_rfl) (Gp (by kernel_rfl) (by kernel_rfl))) (DL (FY (by kernel_rfl) (Oi 1 0 1 n9 c100 q9 false false [] (by kernel_rfl) (by kernel_rfl) h16)) (DL (FY (by kernel_rfl) (Gp (by kernel_rfl) (by kernel_rfl))) Jj))) h17 h18 h19) (eC 1 (oo (CG (RG (hT 8 [oC q9,(oC [(Cv n10 q10)]),(oC [sc 6 0 1 n11 c111]),(oC [(.func (.func 26) ⟨[]⟩ ⟨[(pt 2 0),(pt 3 0),(pt 4 0)]⟩)]),.dead,oC q11,.dead])) [(Sl.v 1 (Sl.mk (Sl.n s2) 0 (Aq ((Sl.n s2)*1) (Am 0 (Sl.cs s2))))),sc 1 0 1 n9 c100]) none (fun l1=>oo (pu 27 l1) none fun v=>bb (RH v) (some (v,(hT 8 [oC q9,(oC [(Cv n10 q10)]),(oC [sc 6 0 1 n11 c111]),(oC [(.func (.func 26) ⟨[]⟩ ⟨[(pt 2 0),(pt 3 0),(pt 4 0)]⟩)]),.dead,oC q11,.dead]))) none)) (Uy (f:=pu 27) (DL (FY (by kernel_rfl) (Gp (by kernel_rfl) (by kernel_rfl))) (DL (FY (by kernel_rfl) (Oi 1 0 1 n9 c100 q9 false false [] (by kernel_rfl) (by kernel_rfl) h20)) Jj)) h21 (by kernel_rfl)) (eE))) ?_
     refine .ghs (fr 58 [(0,sc 1 0 1 n9 c100),(1,(pt 2 0)),(2,(pt 3 0)),(26,zI z0),(27,zI z1),(36,(zB (AY x2 (0:Int))))]) (hT 7 [oC q9,(oC [(Cv n10 q10)]),(oC [sc 6 0 1 n11 c111]),(oC [(.func (.func 26) ⟨[]⟩ ⟨[(pt 2 0),(pt 3 0),(pt 4 0)]⟩)]),.dead,oC q11]) (.k [1,6] [false,false,false,true,true,false] [.cell 3 0 false] [0,1,2,26,27,36] ⟨BO h13,BO h14,trivial⟩) ?_
     replace hm:=Ag hm;rcases hm with⟨h22,hm⟩ | ⟨h22,hm⟩
     ·refine C8 (AY x2 (0:Int)) h22 ?_
      refine .ghs (fr 58 []) (hT 7 [oC q9,(oC [(Cv n10 q10)]),(oC [sc 6 0 1 n11 c111]),(oC [(.func (.func 26) ⟨[]⟩ ⟨[(pt 2 0),(pt 3 0),(pt 4 0)]⟩)]),.dead,oC q11]) (.k [1,6] [false,false,false,true,true,false] [.cell 3 0 false] [] ⟨BO h13,BO h14,trivial⟩) ?_
      refine .ret ?_
      exact Kb (.tuple ⟨[]⟩) [oC q9,(oC [(Cv n10 q10)]),(oC [sc 6 0 1 n11 c111]),(oC [(.func (.func 26) ⟨[]⟩ ⟨[(pt 2 0),(pt 3 0),(pt 4 0)]⟩)]),.dead,oC q11] (by kernel_rfl) hm (Nat.le_of_ble_eq_true rfl) (Bq (G9 _) (Bq (G9 _) (Bq (G9 _) (Bq (G9 _) (Bq Yd (Bq (G9 _) Hz))))))
     ·refine Dn (AY x2 (0:Int)) h22 ?_
      refine .skip (.ghs (fr 58 [(0,sc 1 0 1 n9 c100),(1,(pt 2 0)),(2,(pt 3 0)),(26,zI z0),(27,zI z1)]) (hT 7 [oC q9,(oC [(Cv n10 q10)]),(oC [sc 6 0 1 n11 c111]),(oC [(.func (.func 26) ⟨[]⟩ ⟨[(pt 2 0),(pt 3 0),(pt 4 0)]⟩)]),.dead,oC q11]) (.k [1,6] [false,false,false,true,true,false] [.cell 3 0 false] [0,1,2,26,27] ⟨BO h13,BO h14,trivial⟩) ?_)
      refine .rK ?_
      exact⟨(n9,c100,z0,(Aj .i64 (Int.add z1 (1:Int))),q9,n10,q10,n11,c111,q11),hm,(.k [1,6] [false,false,false,true,true,false] [.cell 3 0 false] [0,1,2,26,27] ⟨BO h13,BO h14,trivial⟩)⟩
    ·refine Dn (AY z1 z0) h15 ?_
     refine .exit ?_
     exact⟨(n9,c100,q9,n10,q10,n11,c111,q11),hm,(.k [1,6] [false,false,false,true,true,false] [.cell 3 0 false] [0,2] ⟨BO h13,BO h14,trivial⟩)⟩
  ·refine Dn (Bd (Int.ofNat n0) (Aj .i64 (Int.mul x0 x1))) h4 ?_
   refine .skip ?_
   exact⟨(n0,c0,q0,n1,q1,n2,c1,q2),hm,(.k [1,6] [false,false,false,true,true,false] [.cell 3 0 false] [0,1,3] ⟨BO h2,BO h3,trivial⟩)⟩
theorem xD {call:A8} (pu:Af) (n:Nat) (hcall:call=Bb tabs isP pu (inl pu)) {args:LV} {os:List AJ} {z:Value} (ha:args.length=4) (hk:os.length=5) (hpl:∀ o∈os,plainO o) (hm:OO pu n (args++os.map Ef)=some z):args.length≤58∧BN tt call (tabs.length+5) MR (Fr.made 58 args) (BK tabs os) (FJ tt tabs.length 5 [] z):=by
 subst hcall
 have hq:=Co ha;clear ha;obtain⟨a0,args,rfl,ha⟩:=hq
 have hq:=Co ha;clear ha;obtain⟨a1,args,rfl,ha⟩:=hq
 have hq:=Co ha;clear ha;obtain⟨a2,args,rfl,ha⟩:=hq
 have hq:=Co ha;clear ha;obtain⟨a3,args,rfl,ha⟩:=hq
 obtain rfl:=len_nil ha
 have hq:=Co hk;clear hk;obtain⟨b0,os,rfl,hk⟩:=hq
 have hp0:plainO b0:=hpl b0 (by simp)
 have hq:=Co hk;clear hk;obtain⟨b1,os,rfl,hk⟩:=hq
 have hp1:plainO b1:=hpl b1 (by simp)
 have hq:=Co hk;clear hk;obtain⟨b2,os,rfl,hk⟩:=hq
 have hp2:plainO b2:=hpl b2 (by simp)
 have hq:=Co hk;clear hk;obtain⟨b3,os,rfl,hk⟩:=hq
 have hp3:plainO b3:=hpl b3 (by simp)
 have hq:=Co hk;clear hk;obtain⟨b4,os,rfl,hk⟩:=hq
 have hp4:plainO b4:=hpl b4 (by simp)
 obtain rfl:=len_nil hk
 replace hm:OO pu n [a0,a1,a2,a3,Ef b0,Ef b1,Ef b2,Ef b3,Ef b4]=some z:=hm
 unfold OO at hm
 replace hm:(oo (OJ 1 0 1 a0) none fun y0=>(bb (FD a1 2 0) (bb (FD a2 3 0) (bb (FD a3 4 0) (oo (Bt (Ef b0)) none fun q0=>(oo (Bt (Ef b1)) none fun l0=>(ll l0 none fun v0 l0=>(ll l0 (oo (Pv v0) none fun p0=>(oo (Bt (Ef b2)) none fun l1=>(ll l1 none fun v1 l1=>(ll l1 (oo (OJ 5 0 1 v1) none fun y1=>(oo (Bt (Ef b3)) none fun l2=>(ll l2 none fun v2 l2=>(ll l2 (oo (O6 26 0 v2) none fun l3=>(ll l3 none fun v3 l3=>(ll l3 none fun v4 l3=>(ll l3 none fun v5 l3=>(ll l3 (bb (FD v3 2 0) (bb (FD v4 3 0) (bb (FD v5 4 0) (oo (Bt (Ef b4)) none fun q1=>(Jv pu n (NC.n y0) (NC.c y0) q0 (Db.off p0) (Db.cs p0) (NC.n y1) (NC.c y1) q1)) none) none) none) fun _ _=>none))))) fun _ _=>none)))) fun _ _=>none)))) fun _ _=>none)))) none) none) none))=some z:=hm
 replace hm:=Ab hm;obtain⟨y0,h0,hm⟩:=hm
 obtain rfl:=I9 h0
 replace hm:=Ae hm;obtain⟨h1,hm⟩:=hm
 obtain rfl:=DT h1
 replace hm:=Ae hm;obtain⟨h2,hm⟩:=hm
 obtain rfl:=DT h2
 replace hm:=Ae hm;obtain⟨h3,hm⟩:=hm
 obtain rfl:=DT h3
 replace hm:=Ab hm;obtain⟨q0,h4,hm⟩:=hm
 obtain rfl:=Gw hp0 h4
 replace hm:=Ab hm;obtain⟨l0,h5,hm⟩:=hm
 obtain rfl:=Gw hp1 h5
 replace hm:=Ad hm;obtain⟨v0,l1298_0,rfl,hm⟩:=hm
 replace hm:=AC hm;obtain⟨rfl,hm⟩:=hm
 replace hm:=Ab hm;obtain⟨p0,h6,hm⟩:=hm
 obtain rfl:=F7 h6
 replace hm:=Ab hm;obtain⟨l1,h7,hm⟩:=hm
 obtain rfl:=Gw hp2 h7
 replace hm:=Ad hm;obtain⟨v1,l1303_0,rfl,hm⟩:=hm
 replace hm:=AC hm;obtain⟨rfl,hm⟩:=hm
 replace hm:=Ab hm;obtain⟨y1,h8,hm⟩:=hm
 obtain rfl:=I9 h8
 replace hm:=Ab hm;obtain⟨l2,h9,hm⟩:=hm
 obtain rfl:=Gw hp3 h9
 replace hm:=Ad hm;obtain⟨v2,l1308_0,rfl,hm⟩:=hm
 replace hm:=AC hm;obtain⟨rfl,hm⟩:=hm
 replace hm:=Ab hm;obtain⟨l3,h10,hm⟩:=hm
 obtain rfl:=Jb h10
 replace hm:=Ad hm;obtain⟨v3,l1311_0,rfl,hm⟩:=hm
 replace hm:=Ad hm;obtain⟨v4,l1311_1,rfl,hm⟩:=hm
 replace hm:=Ad hm;obtain⟨v5,l1311_2,rfl,hm⟩:=hm
 replace hm:=AC hm;obtain⟨rfl,hm⟩:=hm
 replace hm:=Ae hm;obtain⟨h11,hm⟩:=hm
 obtain rfl:=DT h11
 replace hm:=Ae hm;obtain⟨h12,hm⟩:=hm
 obtain rfl:=DT h12
 replace hm:=Ae hm;obtain⟨h13,hm⟩:=hm
 obtain rfl:=DT h13
 replace hm:=Ab hm;obtain⟨q1,h14,hm⟩:=hm
 obtain rfl:=Gw hp4 h14
 refine⟨by simp,?_⟩
 exact .same (F':=(fr 58 [(0,(sc 1 0 1 (NC.n y0) (NC.c y0))),(1,(pt 2 0)),(2,(pt 3 0)),(3,(pt 4 0))])) (H':=(hT 6 [oC q0,(oC [(Cv (Db.off p0) (Db.cs p0))]),(oC [(sc 5 0 1 (NC.n y1) (NC.c y1))]),(oC [(.func (.func 26) ⟨[]⟩ ⟨[(pt 2 0),(pt 3 0),(pt 4 0)]⟩)]),oC q1])) (by kernel_rfl) (by kernel_rfl) (Ue pu n (NC.n y0) (NC.c y0) q0 (Db.off p0) (Db.cs p0) (NC.n y1) (NC.c y1) q1 hm)
def Oy (pu:Af) (n n0 c0:Nat) (q0:LV):OV:=
 (bb (Au Ah q0) (bb (an (Nat.ble (0+n0*1) (len q0)) (Au Ah (Aq (n0*1) (Am 0 q0)))) (some (.tuple ⟨[(Sl.v 1 (Sl.mk n0 0 (Aq (n0*1) (Am 0 q0))))]⟩)) none) none)
def LM (pu:Af) (n:Nat) (ih0:Sl→Int→Nat→Nat→Int→Int→Int→Int→Sl→LV→OV) (s0:Sl) (z0:Int) (n0 c0:Nat) (z1 z2 z3 z4:Int) (s1:Sl) (q0:LV):OV:=
 (bb (Au Ah q0) (bb (AY z1 (Int.ofNat (Sl.n s0))) (oo (pu 72 [(.agg ⟨[.int .i64 z2,.int .i64 z3,.int .i64 z4,Sl.v 1 s1]⟩),.int .i64 z0,.int .i64 z1]) none fun v0=>(oo (Bi .i64 v0) none fun x0=>(oo (EA x0) none fun k1=>(bb (an (Nat.blt k1 (Sl.n s0)) true) (oo (AL (Sl.cs s0) (k1*1)) none fun v1=>(oo (Bi .i64 v1) none fun x1=>(bb (GV 1 8 n0 c0 1 q0) (bb (Au Ah (Br (Am 0 q0) [.int .i64 x1])) (ih0 s0 z0 (n0+1) (2*(n0+1)+bb false 1 0) (Aj .i64 (Int.add z1 (1:Int))) z2 z3 z4 s1 (Br (Am 0 q0) [.int .i64 x1])) none) none))) none)))) (Oy pu n n0 c0 q0)) none)
def LQ (pu:Af) (n w:Nat):Sl→Int→Nat→Nat→Int→Int→Int→Int→Sl→LV→OV:=
 Nat.rec (motive:=fun _=>Sl→Int→Nat→Nat→Int→Int→Int→Int→Sl→LV→OV) (fun _ _ _ _ _ _ _ _ _ _=>none) (fun _ ih0=>LM pu n ih0) w
def Pf (pu:Af) (n:Nat) (z0 z1 z2:Int) (s0 s1:Sl) (z3:Int):OV:=
 (LQ pu n n s1 z3 0 0 (0:Int) z0 z1 z2 s0 ([]:LV))
def OP (pu:Af) (n:Nat) (args:LV):OV:=
 (ll args none fun a0 args=>(ll args none fun a1 args=>(ll args none fun a2 args=>(ll args (oo (Bt a0) none fun l0=>(ll l0 none fun v0 l0=>(ll l0 none fun v1 l0=>(ll l0 none fun v2 l0=>(ll l0 none fun v3 l0=>(ll l0 (oo (Bi .i64 v0) none fun x0=>(oo (Bi .i64 v1) none fun x1=>(oo (Bi .i64 v2) none fun x2=>(oo (Bj 1 v3) none fun s0=>(oo (Bj 1 a1) none fun s1=>(oo (Bi .i64 a2) none fun x3=>(Pf pu n x0 x1 x2 s0 s1 x3))))))) fun _ _=>none)))))) fun _ _=>none))))
theorem dX (pu:Af) (n n0 c0:Nat) (q0:LV) {v:Value} (hm:Oy pu n n0 c0 q0=some v):BN tt (Bb tabs isP pu (inl pu)) 1 ZT (fr 26 [(7,sc 1 0 1 n0 c0)]) (hT 2 [oC q0]) (FJ tt 1 0 [.tmp 6] v):=by
 unfold Oy at hm
 refine .then (.rK ?_)
 replace hm:=Ae hm;obtain⟨h0,hm⟩:=hm
 refine .ghs (fr 26 [(6,sc 1 0 1 n0 c0)]) (hT 2 [oC q0]) (.k [1] [false] [.tmp 6 false] [6] ⟨BO h0,trivial⟩) ?_
 replace hm:=Ae hm;obtain⟨h1,hm⟩:=hm
 refine .ghs (fr 26 [(6,(Sl.v 1 (Sl.mk n0 0 (Aq (n0*1) (Am 0 q0)))))]) AO (.freezeC 1 6 1 (an (Nat.ble (0+n0*1) (len q0)) (Au Ah (Aq (n0*1) (Am 0 q0)))) (F1:=(Fr.puts (fr 26 [(6,sc 1 0 1 n0 c0)]) [(6,(Sl.v 1 (Sl.mk n0 0 (Aq (n0*1) (Am 0 q0)))))])) (H1:=(hT 2 [.dead])) (by kernel_rfl) (by kernel_rfl) h1 (.k0 [false] [] [6])) ?_
 refine .ret ?_
 exact Kb (Sl.v 1 (Sl.mk n0 0 (Aq (n0*1) (Am 0 q0)))) [] (by kernel_rfl) hm (Nat.le_of_ble_eq_true rfl) Hz
theorem xE (pu:Af) (n:Nat) (z0 z1 z2:Int) (s0 s1:Sl) (z3:Int) {v:Value} (hm:Pf pu n z0 z1 z2 s0 s1 z3=some v):BN tt (Bb tabs isP pu (inl pu)) 1 Ph (fr 26 [(0,(.agg ⟨[zI z0,zI z1,zI z2,Sl.v 1 s0]⟩)),(1,Sl.v 1 s1),(2,zI z3)]) AO (FJ tt 1 0 [.tmp 6] v):=by
 unfold Pf at hm
 refine .then (.rK (.ghs (fr 26 [(1,Sl.v 1 s1),(2,zI z3),(3,pt 1 0)]) (hT 2 [(oC [zI z0,zI z1,zI z2,Sl.v 1 s0])]) (.k0 [false] [.tmp 3 false] [1,2,3]) ?_))
 refine .then (.rK (.ghs (fr 26 [(1,Sl.v 1 s1),(2,zI z3),(3,pt 1 0),(7,(.slice none 0 0))]) (hT 2 [(oC [zI z0,zI z1,zI z2,Sl.v 1 s0])]) (.k0 [false] [.tmp 3 false] [1,2,3,7]) ?_))
 refine .join (v:=v) (fun y:Nat×Nat×LV=>((fr 26 [(7,(sc 1 0 1 y.1 y.2.1))]),(hT 2 [(oC y.2.2)]))) (fun y=>Oy pu n y.1 y.2.1 y.2.2) ?_ ?_
 ·rintro⟨n0,c0,q0⟩ hm
  exact dX pu n n0 c0 q0 hm
 ·refine .then (.rK (.ghs (fr 26 [(1,Sl.v 1 s1),(2,zI z3),(3,pt 1 0),(7,(.slice none 0 0)),(8,(zI (0:Int)))]) (hT 2 [(oC [zI z0,zI z1,zI z2,Sl.v 1 s0])]) (.k0 [false] [.tmp 3 false] [1,2,3,7,8]) ?_))
  refine .block (.loopM (v:=v) (fun y:Sl×Int×Nat×Nat×Int×Int×Int×Int×Sl×LV=>((fr 26 [(1,(Sl.v 1 y.1)),(2,(zI y.2.1)),(3,pt 1 0),(7,(sc 2 0 1 y.2.2.1 y.2.2.2.1)),(8,(zI y.2.2.2.2.1))]),(hT 3 [(oC [(zI y.2.2.2.2.2.1),(zI y.2.2.2.2.2.2.1),(zI y.2.2.2.2.2.2.2.1),(Sl.v 1 y.2.2.2.2.2.2.2.2.1)]),(oC y.2.2.2.2.2.2.2.2.2)]))) (fun w y=>LQ pu n w y.1 y.2.1 y.2.2.1 y.2.2.2.1 y.2.2.2.2.1 y.2.2.2.2.2.1 y.2.2.2.2.2.2.1 y.2.2.2.2.2.2.2.1 y.2.2.2.2.2.2.2.2.1 y.2.2.2.2.2.2.2.2.2) n ⟨(s1,z3,0,0,(0:Int),z0,z1,z2,s0,([]:LV)),hm,(.thaw 7 1 (by kernel_rfl) (.k0 [false] [.tmp 3 false,.tmp 7 false] [1,2,3,7,8]))⟩ (fun _=>rfl) ?_)
  rintro w0 ⟨s2,z4,n1,c1,z5,z6,z7,z8,s3,q1⟩ hm
  replace hm:LM pu n (LQ pu n w0) s2 z4 n1 c1 z5 z6 z7 z8 s3 q1=some v:=hm
  unfold LM at hm
  refine .then (.then (.rK ?_))
  replace hm:=Ae hm;obtain⟨h0,hm⟩:=hm
  refine .ghs (fr 26 [(1,Sl.v 1 s2),(2,zI z4),(3,pt 1 0),(7,sc 2 0 1 n1 c1),(8,zI z5),(12,(zB (AY z5 (Int.ofNat (Sl.n s2)))))]) (hT 3 [(oC [zI z6,zI z7,zI z8,Sl.v 1 s3]),oC q1]) (.k [2] [false] [.tmp 3 false,.tmp 7 false] [1,2,3,7,8,12] ⟨BO h0,trivial⟩) ?_
  replace hm:=Ag hm;rcases hm with⟨h1,hm⟩ | ⟨h1,hm⟩
  ·refine C8 (AY z5 (Int.ofNat (Sl.n s2))) h1 ?_
   refine .skip (.ghs (fr 26 [(1,Sl.v 1 s2),(2,zI z4),(3,pt 1 0),(7,sc 2 0 1 n1 c1),(8,zI z5)]) (hT 3 [(oC [zI z6,zI z7,zI z8,Sl.v 1 s3]),oC q1]) (.k [2] [false] [.tmp 3 false,.tmp 7 false] [1,2,3,7,8] ⟨BO h0,trivial⟩) ?_)
   refine .then (.block ?_)
   replace hm:=Kc hm;obtain⟨x0,h2,hm⟩:=hm
   replace hm:=Ab hm;obtain⟨k1,h3,hm⟩:=hm
   obtain rfl:=AR h3
   replace hm:=Ae hm;obtain⟨h4,hm⟩:=hm
   replace hm:=Kc hm;obtain⟨x1,h5,hm⟩:=hm
   replace hm:=Ae hm;obtain⟨h6,hm⟩:=hm
   refine .reg (eC 5 ((oo (pu 72 [(.agg ⟨[zI z6,zI z7,zI z8,Sl.v 1 s3]⟩),zI z4,zI z5]) none fun v=>some (v,(hT 3 [(oC [zI z6,zI z7,zI z8,Sl.v 1 s3]),oC q1])))) (AB h2) (eD (keep (hT 3 [(oC [zI z6,zI z7,zI z8,Sl.v 1 s3]),oC q1]) (bb (an (Nat.blt k1 (Sl.n s2)) true) (some (Cv (k1*1) (Sl.cs s2))) none)) (AX h4) (eD (keep (hT 3 [(oC [zI z6,zI z7,zI z8,Sl.v 1 s3]),oC q1]) (AL (Sl.cs s2) (k1*1))) (AZ h5) (eC 1 (Oc 1 8 n1 c1 1 2 q1 [zI x1] [] (hT 4 [(oC [zI z6,zI z7,zI z8,Sl.v 1 s3]),oC q1,(oC [zI x1])])) (I1 h6) (eE))))) ?_
   replace hm:=Ae hm;obtain⟨h7,hm⟩:=hm
   refine .ghs (fr 26 [(1,Sl.v 1 s2),(2,zI z4),(3,pt 1 0),(7,(sc 2 0 1 (n1+1) (d2 (n1+1)))),(8,zI z5)]) (hT 3 [(oC [zI z6,zI z7,zI z8,Sl.v 1 s3]),(oC (Br (Am 0 q1) [zI x1]))]) (.k [4] [false] [.tmp 3 false,.tmp 7 false] [1,2,3,7,8] ⟨BO h7,trivial⟩) ?_
   refine .rK ?_
   exact⟨(s2,z4,(n1+1),(d2 (n1+1)),(Aj .i64 (Int.add z5 (1:Int))),z6,z7,z8,s3,(Br (Am 0 q1) [zI x1])),hm,(.k [2] [false] [.tmp 3 false,.tmp 7 false] [1,2,3,7,8] ⟨BO h7,trivial⟩)⟩
  ·refine Dn (AY z5 (Int.ofNat (Sl.n s2))) h1 ?_
   refine .exit ?_
   exact⟨(n1,c1,q1),hm,(.k [2] [false] [.tmp 7 false] [7] ⟨BO h0,trivial⟩)⟩
theorem xG {call:A8} (pu:Af) (n:Nat) (hcall:call=Bb tabs isP pu (inl pu)) {args:LV} {os:List AJ} {z:Value} (ha:args.length=3) (hk:os.length=0) (hpl:∀ o∈os,plainO o) (hm:OP pu n (args++os.map Ef)=some z):args.length≤26∧BN tt call (tabs.length+0) Ph (Fr.made 26 args) (BK tabs os) (FJ tt tabs.length 0 [.tmp 6] z):=by
 subst hcall
 have hq:=Co ha;clear ha;obtain⟨a0,args,rfl,ha⟩:=hq
 have hq:=Co ha;clear ha;obtain⟨a1,args,rfl,ha⟩:=hq
 have hq:=Co ha;clear ha;obtain⟨a2,args,rfl,ha⟩:=hq
 obtain rfl:=len_nil ha
 obtain rfl:=len_nil hk
 replace hm:OP pu n [a0,a1,a2]=some z:=hm
 unfold OP at hm
 replace hm:(oo (Bt a0) none fun l0=>(ll l0 none fun v0 l0=>(ll l0 none fun v1 l0=>(ll l0 none fun v2 l0=>(ll l0 none fun v3 l0=>(ll l0 (oo (Bi .i64 v0) none fun x0=>(oo (Bi .i64 v1) none fun x1=>(oo (Bi .i64 v2) none fun x2=>(oo (Bj 1 v3) none fun s0=>(oo (Bj 1 a1) none fun s1=>(oo (Bi .i64 a2) none fun x3=>(Pf pu n x0 x1 x2 s0 s1 x3))))))) fun _ _=>none))))))=some z:=hm
 replace hm:=BG hm;obtain⟨l0,rfl,hm⟩:=hm
 replace hm:=Ad hm;obtain⟨v0,l6276_0,rfl,hm⟩:=hm
 replace hm:=Ad hm;obtain⟨v1,l6276_1,rfl,hm⟩:=hm
 replace hm:=Ad hm;obtain⟨v2,l6276_2,rfl,hm⟩:=hm
 replace hm:=Ad hm;obtain⟨v3,l6276_3,rfl,hm⟩:=hm
 replace hm:=AC hm;obtain⟨rfl,hm⟩:=hm
 replace hm:=Ai hm;obtain⟨x0,rfl,hm⟩:=hm
 replace hm:=Ai hm;obtain⟨x1,rfl,hm⟩:=hm
 replace hm:=Ai hm;obtain⟨x2,rfl,hm⟩:=hm
 replace hm:=Al hm;obtain⟨s0,rfl,hm⟩:=hm
 replace hm:=Al hm;obtain⟨s1,rfl,hm⟩:=hm
 replace hm:=Ai hm;obtain⟨x3,rfl,hm⟩:=hm
 refine⟨by simp,?_⟩
 exact .same (F':=(fr 26 [(0,(.agg ⟨[zI x0,zI x1,zI x2,Sl.v 1 s0]⟩)),(1,Sl.v 1 s1),(2,zI x3)])) (H':=AO) (by kernel_rfl) (by kernel_rfl) (xE pu n x0 x1 x2 s0 s1 x3 hm)
end
end Go.BaAM
set_option maxRecDepth 100000
namespace Go.BaAM
open Go.Sp Go.BaA
noncomputable section
def L:Nat:=1000000
def Oz (pu:Af):Af:=fun g args=>
 bb (Nat.beq g 3) (m3 pu L args) (bb (Nat.beq g 6) (m6 pu L args) (bb (Nat.beq g 7) (m7 pu L args) (bb (Nat.beq g 8) (m8 pu L args) (bb (Nat.beq g 22) (zG pu L args) (bb (Nat.beq g 25) (m25 pu L args) (bb (Nat.beq g 27) (m27 pu L args) (bb (Nat.beq g 28) (m28 pu L args) (bb (Nat.beq g 29) (m29 pu L args) (bb (Nat.beq g 30) (m30 pu L args) (bb (Nat.beq g 31) (m31 pu L args) (bb (Nat.beq g 32) (m32 pu L args) (bb (Nat.beq g 33) (m33 pu L args) (bb (Nat.beq g 34) (m34 pu L args) (bb (Nat.beq g 35) (m35 pu L args) (bb (Nat.beq g 36) (m36 pu L args) (bb (Nat.beq g 37) (m37 pu L args) (bb (Nat.beq g 54) (zH pu L args) (bb (Nat.beq g 55) (wZ pu L args) (bb (Nat.beq g 56) (m56 pu L args) (bb (Nat.beq g 57) (m57 pu L args) (bb (Nat.beq g 58) (m58 pu L args) (bb (Nat.beq g 71) (m71 pu L args) (bb (Nat.beq g 72) (m72 pu L args) (bb (Nat.beq g 80) (m80 pu L args) (bb (Nat.beq g 10040) (OL pu L args) (bb (Nat.beq g 10260) (OM pu L args) (bb (Nat.beq g 10261) (OO pu L args) (bb (Nat.beq g 10590) (OP pu L args) (bb (Nat.beq g 5) (bU args) (bb (Nat.beq g 53) (UB args) (bb (Nat.beq g 70) (UC args) (none))))))))))))))))))))))))))))))))
def QE:Nat→Af:=fun n=>Nat.rec (motive:=fun _=>Af) (fun _ _=>none) (fun _ ih=>Oz ih) n
end
end Go.BaAM
