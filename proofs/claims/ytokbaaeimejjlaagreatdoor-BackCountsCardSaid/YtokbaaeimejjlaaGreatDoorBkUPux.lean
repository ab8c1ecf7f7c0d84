/- Made from wip. -/
import Derived.Test.YtokbaaeimejjlaaGreatDoorBkUMod1x
import Derived.Test.YtokbaaeimejjlaaGreatDoorBkUMod2
import Derived.Test.YtokbaaeimejjlaaGreatDoorBkUMod3
import Derived.Test.YtokbaaeimejjlaaGreatDoorBkUMod4
import Derived.Test.YtokbaaeimejjlaaGreatDoorBkUMod5
import Derived.Test.YtokbaaeimejjlaaGreatDoorBkUMod6

set_option maxRecDepth 100000
set_option maxHeartbeats 20000000
set_option linter.unusedVariables false
namespace Go.BkUM
open Go.Sp Go.BkU
noncomputable section
def HV (pu:Af) (n:Nat) (lT:Bool):OV:=
 (some (.tuple ⟨[(.bool lT)]⟩))
def MU (pu:Af) (n:Nat) (z19 z20 z21:Int) (s22 s23 s24:Sl):OV:=
 (bb (AY (30:Int) (Int.ofNat (Sl.n s22))) (HV pu n true) (bb (AY (60:Int) (Int.ofNat (Sl.n s23))) (HV pu n true) (HV pu n (AY (60:Int) (Int.ofNat (Sl.n s24))))))
def K8 (pu:Af) (n:Nat) (args:LV):OV:=
 (ll args none fun a0 args=>(ll args none fun a1 args=>(ll args none fun a2 args=>(ll args (oo (Bt a0) none fun l39=>(ll l39 none fun v41 l39=>(ll l39 none fun v42 l39=>(ll l39 none fun v43 l39=>(ll l39 none fun v44 l39=>(ll l39 (oo (Bi .i64 v41) none fun x45=>(oo (Bi .i64 v42) none fun x47=>(oo (Bi .i64 v43) none fun x49=>(oo (Bj 1 v44) none fun s51=>(oo (Bj 1 a1) none fun s53=>(oo (Bj 1 a2) none fun s55=>(MU pu n x45 x47 x49 s51 s53 s55))))))) fun _ _=>none)))))) fun _ _=>none))))
theorem gQ (pu:Af) (n:Nat) (lT:Bool) {v:Value} (hm:HV pu n lT=some v):BN tt (Bb tabs isP pu (inl pu)) 1 .ret (fr 21 [(6,zB lT)]) Ap (FJ tt 1 0 [.tmp 6] v):=by
 unfold HV at hm
 refine .ghs (fr 21 [(6,zB lT)]) Ap (.k0 [false] [] [6]) ?_
 refine .ret ?_
 exact FB (zB lT) [] (by kernel_rfl) hm (Nat.le_of_ble_eq_true rfl) FC
theorem VW (pu:Af) (n:Nat) (z19 z20 z21:Int) (s22 s23 s24:Sl) {v:Value} (hm:MU pu n z19 z20 z21 s22 s23 s24=some v):BN tt (Bb tabs isP pu (inl pu)) 1 dS (fr 21 [(0,(.agg ⟨[zI z19,zI z20,zI z21,Sl.v 1 s22]⟩)),(1,Sl.v 1 s23),(2,Sl.v 1 s24)]) Ap (FJ tt 1 0 [.tmp 6] v):=by
 unfold MU at hm
 refine .then (.rK (.ghs (fr 21 [(1,Sl.v 1 s23),(2,Sl.v 1 s24),(3,pt 1 0)]) (hT 2 [(oC [zI z19,zI z20,zI z21,Sl.v 1 s22])]) (.k0 [false] [.tmp 3 false] [1,2,3]) ?_))
 refine .join (v:=v) (fun y:Bool=>((fr 21 [(6,zB y)]),Ap)) (fun y=>HV pu n y) ?_ ?_
 ·rintro lT hm
  exact gQ pu n lT hm
 ·replace hm := Ag hm; rcases hm with ⟨h37, hm⟩ | ⟨h37, hm⟩
  ·refine .reg (eC 3 (some ((zB (AY (30 : Int) (Int.ofNat (Sl.n s22)))), (hT 2 [(oC [zI z19, zI z20, zI z21, Sl.v 1 s22])]))) (show _ = some ((zB true), _) from (by rw [show (AY (30 : Int) (Int.ofNat (Sl.n s22))) = true from h37])) (eE)) ?_
   exact⟨true,hm,(.k0 [false] [] [6])⟩
  ·replace hm := Ag hm; rcases hm with ⟨h38, hm⟩ | ⟨h38, hm⟩
   ·refine .reg (eC 3 (some ((zB (AY (30 : Int) (Int.ofNat (Sl.n s22)))), (hT 2 [(oC [zI z19, zI z20, zI z21, Sl.v 1 s22])]))) (show _ = some ((zB false), _) from (by rw [show (AY (30 : Int) (Int.ofNat (Sl.n s22))) = false from h37])) (eC 3 (some ((zB (AY (60 : Int) (Int.ofNat (Sl.n s23)))), (hT 2 [(oC [zI z19, zI z20, zI z21, Sl.v 1 s22])]))) (show _ = some ((zB true), _) from (by rw [show (AY (60 : Int) (Int.ofNat (Sl.n s23))) = true from h38])) (eE))) ?_
    exact⟨true,hm,(.k0 [false] [] [6])⟩
   ·refine .reg (eC 3 (some ((zB (AY (30 : Int) (Int.ofNat (Sl.n s22)))), (hT 2 [(oC [zI z19, zI z20, zI z21, Sl.v 1 s22])]))) (show _ = some ((zB false), _) from (by rw [show (AY (30 : Int) (Int.ofNat (Sl.n s22))) = false from h37])) (eC 3 (some ((zB (AY (60 : Int) (Int.ofNat (Sl.n s23)))), (hT 2 [(oC [zI z19, zI z20, zI z21, Sl.v 1 s22])]))) (show _ = some ((zB false), _) from (by rw [show (AY (60 : Int) (Int.ofNat (Sl.n s23))) = false from h38])) (eE))) ?_
    exact⟨(AY (60:Int) (Int.ofNat (Sl.n s24))),hm,(.k0 [false] [] [6])⟩
theorem Aa3 {call:A8} (pu:Af) (n:Nat) (hcall:call=Bb tabs isP pu (inl pu)) {args:LV} {os:List AJ} {z:Value} (ha:args.length=3) (hk:os.length=0) (hpl:∀ o∈os,plainO o) (hm:K8 pu n (args++os.map Ef)=some z):args.length≤21∧BN tt call (tabs.length+0) dS (Fr.made 21 args) (BK tabs os) (FJ tt tabs.length 0 [.tmp 6] z):=by
 subst hcall
 have hq:=Co ha;clear ha;obtain⟨a0,args,rfl,ha⟩:=hq
 have hq:=Co ha;clear ha;obtain⟨a1,args,rfl,ha⟩:=hq
 have hq:=Co ha;clear ha;obtain⟨a2,args,rfl,ha⟩:=hq
 obtain rfl:=len_nil ha
 obtain rfl:=len_nil hk
 replace hm:K8 pu n [a0,a1,a2]=some z:=hm
 unfold K8 at hm
 replace hm:(oo (Bt a0) none fun l39=>(ll l39 none fun v41 l39=>(ll l39 none fun v42 l39=>(ll l39 none fun v43 l39=>(ll l39 none fun v44 l39=>(ll l39 (oo (Bi .i64 v41) none fun x45=>(oo (Bi .i64 v42) none fun x47=>(oo (Bi .i64 v43) none fun x49=>(oo (Bj 1 v44) none fun s51=>(oo (Bj 1 a1) none fun s53=>(oo (Bj 1 a2) none fun s55=>(MU pu n x45 x47 x49 s51 s53 s55))))))) fun _ _=>none))))))=some z:=hm
 replace hm:=BG hm;obtain⟨l39,rfl,hm⟩:=hm
 replace hm:=Ad hm;obtain⟨v41,l39_0,rfl,hm⟩:=hm
 replace hm:=Ad hm;obtain⟨v42,l39_1,rfl,hm⟩:=hm
 replace hm:=Ad hm;obtain⟨v43,l39_2,rfl,hm⟩:=hm
 replace hm:=Ad hm;obtain⟨v44,l39_3,rfl,hm⟩:=hm
 replace hm:=AC hm;obtain⟨rfl,hm⟩:=hm
 replace hm:=Ai hm;obtain⟨x45,rfl,hm⟩:=hm
 replace hm:=Ai hm;obtain⟨x47,rfl,hm⟩:=hm
 replace hm:=Ai hm;obtain⟨x49,rfl,hm⟩:=hm
 replace hm:=Al hm;obtain⟨s51,rfl,hm⟩:=hm
 replace hm:=Al hm;obtain⟨s53,rfl,hm⟩:=hm
 replace hm:=Al hm;obtain⟨s55,rfl,hm⟩:=hm
 refine⟨by simp,?_⟩
 exact .same (F':=(fr 21 [(0,(.agg ⟨[zI x45,zI x47,zI x49,Sl.v 1 s51]⟩)),(1,Sl.v 1 s53),(2,Sl.v 1 s55)])) (H':=Ap) (by kernel_rfl) (by kernel_rfl) (VW pu n x45 x47 x49 s51 s53 s55 hm)
def Jg (pu:Af) (n:Nat) (z0:Int) (q0:LV):OV:=
 (bb (Au Ah q0) (some (.tuple ⟨[.int .i64 z0,(.agg ⟨q0⟩)]⟩)) none)
def Jh (pu:Af) (n:Nat) (ih0:Sl→Nat→Nat→Int→Int→LV→OV) (s0:Sl) (n0 c0:Nat) (z0 z1:Int) (q0:LV):OV:=
 (bb (Au Ah q0) (ih0 s0 n0 c0 z0 (Aj .i64 (Int.add z1 (1:Int))) q0) none)
def Gp (pu:Af) (n:Nat) (ih0:Sl→Nat→Nat→Int→Int→LV→OV) (s0:Sl) (n0 c0:Nat) (z0 z1:Int) (q0:LV):OV:=
 (bb (Au Ah q0) (bb (AY z1 (Int.ofNat n0)) (oo (EA z1) none fun k1=>(bb (an (Nat.blt k1 n0) true) (oo (AL q0 (0+k1*1)) none fun v0=>(oo (Bi .i64 v0) none fun x0=>(bb (an (Nat.blt 0 (Sl.n s0)) true) (oo (AL (Sl.cs s0) (0*1)) none fun v1=>(oo (Bi .i64 v1) none fun x1=>(bb (nt (AY x0 x1)) (bb (an (Nat.blt k1 n0) true) (oo (AL q0 (0+k1*1)) none fun v2=>(oo (Bi .i64 v2) none fun x2=>(bb (an (Nat.blt 0 (Sl.n s0)) true) (oo (AL (Sl.cs s0) (0*1)) none fun v3=>(oo (Bi .i64 v3) none fun x3=>(bb (an (Nat.blt k1 n0) true) (bb (an (Nat.ble ((0+k1*1)+1) (len q0)) true) (bb (Au Ah (BM ([(.int .i64 (Aj .i64 (Int.sub x2 x3)))]:LV) (0+k1*1) q0)) (bb (nt (Nat.beq (Sl.fl s0) 2)) (bb (Nat.ble 1 (Sl.n s0)) (bb (Dp (Nat.ble 2 c0) (MQ (BM ([(.int .i64 (Aj .i64 (Int.sub x2 x3)))]:LV) (0+k1*1) q0))) (bb (Au Ah (BM ([(.int .i64 (Aj .i64 (Int.sub x2 x3)))]:LV) (0+k1*1) q0)) (oo (pu 10640 [(Sl.v 1 (Sl.mk ((Sl.n s0) - 1) (bb (an (Nat.beq (Sl.n s0) (Sl.n s0)) (Dp false (Nat.beq (Sl.fl s0) 1))) 1 0) (Aq (((Sl.n s0) - 1)*1) (Am (1*1) (Sl.cs s0))))),(.slice (some ⟨1,0,some 1⟩) n0 c0),(.agg ⟨(BM ([(.int .i64 (Aj .i64 (Int.sub x2 x3)))]:LV) (0+k1*1) q0)⟩)]) none fun v4=>(oo (CQ v4) none fun l0=>(ll l0 none fun v5 l0=>(ll l0 none fun v6 l0=>(ll l0 (oo (Bi .i64 v5) none fun x4=>(oo (Bt v6) none fun q1=>(bb (Au Ah q1) (bb (Au Ah q1) (bb (an (Nat.blt k1 n0) true) (oo (AL q1 (0+k1*1)) none fun v7=>(oo (Bi .i64 v7) none fun x5=>(bb (an (Nat.blt 0 (Sl.n s0)) true) (oo (AL (Sl.cs s0) (0*1)) none fun v8=>(oo (Bi .i64 v8) none fun x6=>(bb (an (Nat.blt k1 n0) true) (bb (an (Nat.ble ((0+k1*1)+1) (len q1)) true) (bb (Au Ah (BM ([(.int .i64 (Aj .i64 (Int.add x5 x6)))]:LV) (0+k1*1) q1)) (Jh pu n ih0 s0 n0 c0 (Aj .i64 (Int.add z0 x4)) (Int.ofNat k1) (BM ([(.int .i64 (Aj .i64 (Int.add x5 x6)))]:LV) (0+k1*1) q1)) none) none) none))) none))) none) none) none))) fun _ _=>none))))) none) none) none) none) none) none) none))) none))) none) (Jh pu n ih0 s0 n0 c0 z0 (Int.ofNat k1) q0)))) none))) none)) (Jg pu n z0 q0)) none)
def Fh (pu:Af) (n w:Nat):Sl→Nat→Nat→Int→Int→LV→OV:=
 Nat.rec (motive:=fun _=>Sl→Nat→Nat→Int→Int→LV→OV) (fun _ _ _ _ _ _=>none) (fun _ ih0=>Gp pu n ih0) w
def M8 (pu:Af) (n:Nat) (s0:Sl) (n0 c0:Nat) (q0:LV):OV:=
 (bb (Au Ah q0) (bb (Bd (Int.ofNat (Sl.n s0)) (0:Int)) (some (.tuple ⟨[(.int .i64 (1:Int)),(.agg ⟨q0⟩)]⟩)) (Fh pu n n s0 n0 c0 (0:Int) (0:Int) q0)) none)
def K9 (pu:Af) (n:Nat) (args:LV):OV:=
 (ll args none fun a0 args=>(ll args none fun a1 args=>(ll args none fun o0 args=>(ll args (oo (Bj 1 a0) none fun s0=>(oo (Yv 1 0 1 a1) none fun y0=>(oo (Bt o0) none fun q0=>(M8 pu n s0 (NC.n y0) (NC.c y0) q0)))) fun _ _=>none))))
theorem gT (pu:Af) (n:Nat) (z0:Int) (q0:LV) {v:Value} (hm:Jg pu n z0 q0=some v):BN tt (Bb tabs isP pu (inl pu)) 2 dU (fr 49 [(5,zI z0)]) (hT 2 [oC q0]) (FJ tt 1 1 [.tmp 4] v):=by
 unfold Jg at hm
 refine .then (.rK ?_)
 replace hm:=Ae hm;obtain⟨h0,hm⟩:=hm
 refine .ghs (fr 49 [(4,zI z0)]) (hT 2 [oC q0]) (.k [1] [false,false] [] [4] ⟨BI h0,trivial⟩) ?_
 refine .ghs (fr 49 [(4,zI z0)]) (hT 2 [oC q0]) (.k [1] [false,false] [] [4] ⟨BI h0,trivial⟩) ?_
 refine .ret ?_
 exact FB (zI z0) [oC q0] (by kernel_rfl) hm (Nat.le_of_ble_eq_true rfl) (Dr (MM _) FC)
theorem Si (pu:Af) (n:Nat) (s0:Sl) (n0 c0:Nat) (q0:LV) {v:Value} (hm:M8 pu n s0 n0 c0 q0=some v):BN tt (Bb tabs isP pu (inl pu)) 2 Nh (fr 49 [(0,Sl.v 1 s0),(1,sc 1 0 1 n0 c0)]) (hT 2 [oC q0]) (FJ tt 1 1 [.tmp 4] v):=by
 unfold M8 at hm
 refine .then (.rK ?_)
 replace hm:=Ae hm;obtain⟨h0,hm⟩:=hm
 refine .ghs (fr 49 [(0,Sl.v 1 s0),(1,sc 1 0 1 n0 c0)]) (hT 2 [oC q0]) (.k [1] [false,false] [] [0,1] ⟨BI h0,trivial⟩) ?_
 refine .then (.then (.rK (.ghs (fr 49 [(0,Sl.v 1 s0),(1,sc 1 0 1 n0 c0),(9,(zB (Bd (Int.ofNat (Sl.n s0)) (0:Int))))]) (hT 2 [oC q0]) (.k [1] [false,false] [] [0,1,9] ⟨BI h0,trivial⟩) ?_)))
 replace hm:=Ag hm;rcases hm with⟨h1,hm⟩ | ⟨h1,hm⟩
 ·refine Bq (Bd (Int.ofNat (Sl.n s0)) (0 : Int)) h1 ?_
  refine .then (.rK (.ghs (fr 49 [(4,(zI (1:Int)))]) (hT 2 [oC q0]) (.k [1] [false,false] [] [4] ⟨BI h0,trivial⟩) ?_))
  refine .ghs (fr 49 [(4,(zI (1:Int)))]) (hT 2 [oC q0]) (.k [1] [false,false] [] [4] ⟨BI h0,trivial⟩) ?_
  refine .ret ?_
  exact FB (zI (1:Int)) [oC q0] (by kernel_rfl) hm (Nat.le_of_ble_eq_true rfl) (Dr (MM _) FC)
 ·refine BB (Bd (Int.ofNat (Sl.n s0)) (0 : Int)) h1 ?_
  refine .skip (.ghs (fr 49 [(0,Sl.v 1 s0),(1,sc 1 0 1 n0 c0)]) (hT 2 [oC q0]) (.k [1] [false,false] [] [0,1] ⟨BI h0,trivial⟩) ?_)
  refine .then (.rK (.ghs (fr 49 [(0,Sl.v 1 s0),(1,sc 1 0 1 n0 c0),(5,(zI (0:Int)))]) (hT 2 [oC q0]) (.k [1] [false,false] [] [0,1,5] ⟨BI h0,trivial⟩) ?_))
  refine .join (v:=v) (fun y:Int×LV=>((fr 49 [(5,(zI y.1))]),(hT 2 [(oC y.2)]))) (fun y=>Jg pu n y.1 y.2) ?_ ?_
  ·rintro ⟨z0, q1⟩ hm
   exact gT pu n z0 q1 hm
  ·refine .then (.rK (.ghs (fr 49 [(0, Sl.v 1 s0), (1, sc 1 0 1 n0 c0), (5, (zI (0 : Int))), (6, (zI (0 : Int)))]) (hT 2 [oC q0]) (.k [1] [false, false] [] [0, 1, 5, 6] ⟨BI h0, trivial⟩) ?_))
   refine .block (.loopM (v:=v) (fun y:Sl×Nat×Nat×Int×Int×LV=>((fr 49 [(0,(Sl.v 1 y.1)),(1,(sc 1 0 1 y.2.1 y.2.2.1)),(5,(zI y.2.2.2.1)),(6,(zI y.2.2.2.2.1))]),(hT 2 [(oC y.2.2.2.2.2)]))) (fun w y=>Fh pu n w y.1 y.2.1 y.2.2.1 y.2.2.2.1 y.2.2.2.2.1 y.2.2.2.2.2) n ⟨(s0,n0,c0,(0:Int),(0:Int),q0),hm,(.k [1] [false,false] [] [0,1,5,6] ⟨BI h0,trivial⟩)⟩ (fun _=>rfl) ?_)
   rintro w0 ⟨s1,n1,c3,z1,z2,q2⟩ hm
   replace hm:Gp pu n (Fh pu n w0) s1 n1 c3 z1 z2 q2=some v:=hm
   unfold Gp at hm
   refine .then (.then (.rK ?_))
   replace hm:=Ae hm;obtain⟨h2,hm⟩:=hm
   refine .ghs (fr 49 [(0,Sl.v 1 s1),(1,sc 1 0 1 n1 c3),(5,zI z1),(6,zI z2),(13,(zB (AY z2 (Int.ofNat n1))))]) (hT 2 [oC q2]) (.k [1] [false,false] [] [0,1,5,6,13] ⟨BI h2,trivial⟩) ?_
   replace hm:=Ag hm;rcases hm with⟨h3,hm⟩ | ⟨h3,hm⟩
   ·refine Bq (AY z2 (Int.ofNat n1)) h3 ?_
    refine .skip (.ghs (fr 49 [(0,Sl.v 1 s1),(1,sc 1 0 1 n1 c3),(5,zI z1),(6,zI z2)]) (hT 2 [oC q2]) (.k [1] [false,false] [] [0,1,5,6] ⟨BI h2,trivial⟩) ?_)
    refine .join (v:=v) (fun y:Sl×Nat×Nat×Int×Int×LV=>((fr 49 [(0,(Sl.v 1 y.1)),(1,(sc 1 0 1 y.2.1 y.2.2.1)),(5,(zI y.2.2.2.1)),(6,(zI y.2.2.2.2.1))]),(hT 2 [(oC y.2.2.2.2.2)]))) (fun y=>Jh pu n (Fh pu n w0) y.1 y.2.1 y.2.2.1 y.2.2.2.1 y.2.2.2.2.1 y.2.2.2.2.2) ?_ ?_
    ·rintro ⟨s2, n2, c4, z3, z4, q3⟩ hm
     unfold Jh at hm
     refine .rK ?_
     replace hm:=Ae hm;obtain⟨h4,hm⟩:=hm
     exact⟨(s2,n2,c4,z3,(Aj .i64 (Int.add z4 (1:Int))),q3),hm,(.k [1] [false,false] [] [0,1,5,6] ⟨BI h4,trivial⟩)⟩
    ·refine .block (.then ?_)
     replace hm:=Ab hm;obtain⟨k1,h5,hm⟩:=hm
     obtain rfl:=AR h5
     replace hm:=Ae hm;obtain⟨h6,hm⟩:=hm
     replace hm:=oI hm;obtain⟨x0,h7,hm⟩:=hm
     replace hm:=Ae hm;obtain⟨h8,hm⟩:=hm
     replace hm:=oI hm;obtain⟨x1,h9,hm⟩:=hm
     refine .reg (eC 2 (keep (hT 2 [oC q2]) (bb (an (Nat.blt k1 n1) true) (some (.pointer (some ⟨1,(0+k1*1),none⟩))) none)) (AX h6) (eD (keep (hT 2 [oC q2]) (AL q2 (0+k1*1))) (AZ h7) (eC 1 (keep (hT 2 [oC q2]) (bb (an (Nat.blt 0 (Sl.n s1)) true) (some (Cv (0*1) (Sl.cs s1))) none)) (AX h8) (eD (keep (hT 2 [oC q2]) (AL (Sl.cs s1) (0*1))) (AZ h9) (eE))))) ?_
     refine .ghs (fr 49 [(0,Sl.v 1 s1),(1,sc 1 0 1 n1 c3),(5,zI z1),(6,(zI (Int.ofNat k1))),(23,(zB (nt (AY x0 x1))))]) (hT 2 [oC q2]) (.k [1] [false,false] [] [0,1,5,6,23] ⟨BI h2,trivial⟩) ?_
     replace hm:=Ag hm;rcases hm with⟨h10,hm⟩ | ⟨h10,hm⟩
     ·refine Bq (nt (AY x0 x1)) h10 ?_
      refine .then ?_
      replace hm:=Ae hm;obtain⟨h11,hm⟩:=hm
      replace hm:=oI hm;obtain⟨x2,h12,hm⟩:=hm
      replace hm:=Ae hm;obtain⟨h13,hm⟩:=hm
      replace hm:=oI hm;obtain⟨x3,h14,hm⟩:=hm
      replace hm:=Ae hm;obtain⟨h15,hm⟩:=hm
      replace hm:=Ae hm;obtain⟨h16,hm⟩:=hm
      refine .reg (eN 6 (Fr.puts (fr 49 [(0,Sl.v 1 s1),(1,sc 1 0 1 n1 c3),(5,zI z1),(6,(zI (Int.ofNat k1))),(23,(zB (nt (AY x0 x1))))]) [(24,sc 1 0 1 n1 c3),(25,(zI (Int.ofNat k1))),(26,(.pointer (some ⟨1,(0+k1*1),none⟩))),(27,zI x2),(28,Sl.v 1 s1),(29,(Cv (0*1) (Sl.cs s1)))]) (hT 2 [oC q2]) (eC 2 (keep (hT 2 [oC q2]) (bb (an (Nat.blt k1 n1) true) (some (.pointer (some ⟨1,(0+k1*1),none⟩))) none)) (AX h11) (eD (keep (hT 2 [oC q2]) (AL q2 (0+k1*1))) (AZ h12) (eC 1 (keep (hT 2 [oC q2]) (bb (an (Nat.blt 0 (Sl.n s1)) true) (some (Cv (0*1) (Sl.cs s1))) none)) (AX h13) (by kernel_rfl)))) (eD (keep (hT 2 [oC q2]) (AL (Sl.cs s1) (0*1))) (AZ h14) (eC 1 (keep (hT 2 [oC q2]) (bb (an (Nat.blt k1 n1) true) (some (.pointer (some ⟨1,(0+k1*1),none⟩))) none)) (AX h15) (eD (done (bb (an (Nat.ble ((0+k1*1)+1) (len q2)) true) (some (hT 2 [(oC (BM ([(zI (Aj .i64 (Int.sub x2 x3)))]:LV) (0+k1*1) q2))])) none) undef) (Js h16) (eE))))) ?_
      replace hm:=Ae hm;obtain⟨h17,hm⟩:=hm
      refine .ghs (fr 49 [(0,Sl.v 1 s1),(1,sc 1 0 1 n1 c3),(5,zI z1),(6,(zI (Int.ofNat k1)))]) (hT 2 [(oC (BM ([(zI (Aj .i64 (Int.sub x2 x3)))]:LV) (0+k1*1) q2))]) (.k [1] [false,false] [] [0,1,5,6] ⟨BI h17,trivial⟩) ?_
      refine .then ?_
      replace hm:=Ae hm;obtain⟨h18,hm⟩:=hm
      replace hm:=Ae hm;obtain⟨h19,hm⟩:=hm
      replace hm:=Ae hm;obtain⟨h20,hm⟩:=hm
      replace hm:=Ae hm;obtain⟨h21,hm⟩:=hm
      replace hm:=Ab hm;obtain⟨v0,h22,hm⟩:=hm
      replace hm:=Ch hm;obtain⟨l0,rfl,hm⟩:=hm
      replace hm:=Ad hm;obtain⟨v1,l2587_0,rfl,hm⟩:=hm
      replace hm:=Ad hm;obtain⟨v2,l2587_1,rfl,hm⟩:=hm
      replace hm:=AC hm;obtain⟨rfl,hm⟩:=hm
      replace hm:=Ai hm;obtain⟨x4,rfl,hm⟩:=hm
      replace hm:=BG hm;obtain⟨q4,rfl,hm⟩:=hm
      replace hm:=Ae hm;obtain⟨h23,hm⟩:=hm
      refine .reg (eC 2 (keep (hT 2 [(oC (BM ([(zI (Aj .i64 (Int.sub x2 x3)))]:LV) (0+k1*1) q2))]) (Ns ti3 ⟨1,(Sl.n s1),(Sl.fl s1),(Sl.cs s1)⟩ (some (zI (1:Int))) none none)) (ME (c1:=true) (c2:=(Nat.ble 1 (Sl.n s1))) (l:=1) (h:=(Sl.n s1)) h18 (by kernel_rfl) (by kernel_rfl) rfl (by kernel_rfl) h19) (eC 1 (Gn tabs [[some 1],[none]] 2 [.tmp 1 false] [false] (pu 10640) [(Sl.v 1 (Sl.mk ((Sl.n s1) - 1) (bb (an (Nat.beq (Sl.n s1) (Sl.n s1)) (Dp false (Nat.beq (Sl.fl s1) 1))) 1 0) (Aq (((Sl.n s1) - 1)*1) (Am (1*1) (Sl.cs s1))))),sc 1 0 1 n1 c3] (hT 2 [(oC (BM ([(zI (Aj .i64 (Int.sub x2 x3)))]:LV) (0+k1*1) q2))])) (FY (as:=[(Sl.v 1 (Sl.mk ((Sl.n s1) - 1) (bb (an (Nat.beq (Sl.n s1) (Sl.n s1)) (Dp false (Nat.beq (Sl.fl s1) 1))) 1 0) (Aq (((Sl.n s1) - 1)*1) (Am (1*1) (Sl.cs s1))))),sc 1 0 1 n1 c3]) (H1:=(hT 2 [(oC (BM ([(zI (Aj .i64 (Int.sub x2 x3)))]:LV) (0+k1*1) q2))])) (CK (DR (Oi (CV (z:=1) (v:=(Sl.v 1 (Sl.mk ((Sl.n s1) - 1) (bb (an (Nat.beq (Sl.n s1) (Sl.n s1)) (Dp false (Nat.beq (Sl.fl s1) 1))) 1 0) (Aq (((Sl.n s1) - 1)*1) (Am (1*1) (Sl.cs s1)))))) (H:=(hT 2 [(oC (BM ([(zI (Aj .i64 (Int.sub x2 x3)))]:LV) (0+k1*1) q2))])) (by kernel_rfl) (by kernel_rfl) (by kernel_rfl)))) (CK (DR Ey) Iz)) (FX (H2:=(hT 2 [oC q4])) (v:=(zI x4)) (v':=(zI x4)) [some 0,some 1] [(false,some 1)] [(oC (BM ([(zI (Aj .i64 (Int.sub x2 x3)))]:LV) (0+k1*1) q2))] [(Sl.v 1 (Sl.mk ((Sl.n s1) - 1) (bb (an (Nat.beq (Sl.n s1) (Sl.n s1)) (Dp false (Nat.beq (Sl.fl s1) 1))) 1 0) (Aq (((Sl.n s1) - 1)*1) (Am (1*1) (Sl.cs s1))))),sc 1 0 1 n1 c3] [(.agg ⟨q4⟩)] [oC q4] [some 0,some 1] [(false,oC q4)] [oC q4] (trE (by kernel_rfl) (dX h20 rfl)) (Cz (KT (anc:=[]) h21) C8) (Eq.trans (by kernel_rfl) h22) (Cz rfl C8) (Cz (JN h23) C8))) (eE))) ?_
      replace hm:=Ae hm;obtain⟨h24,hm⟩:=hm
      refine .ghs (fr 49 [(0,Sl.v 1 s1),(1,sc 1 0 1 n1 c3),(5,(zI (Aj .i64 (Int.add z1 x4)))),(6,(zI (Int.ofNat k1)))]) (hT 2 [oC q4]) (.k [1] [false,false] [] [0,1,5,6] ⟨BI h24,trivial⟩) ?_
      replace hm:=Ae hm;obtain⟨h25,hm⟩:=hm
      replace hm:=oI hm;obtain⟨x5,h26,hm⟩:=hm
      replace hm:=Ae hm;obtain⟨h27,hm⟩:=hm
      replace hm:=oI hm;obtain⟨x6,h28,hm⟩:=hm
      replace hm:=Ae hm;obtain⟨h29,hm⟩:=hm
      replace hm:=Ae hm;obtain⟨h30,hm⟩:=hm
      refine .reg (eN 6 (Fr.puts (fr 49 [(0,Sl.v 1 s1),(1,sc 1 0 1 n1 c3),(5,(zI (Aj .i64 (Int.add z1 x4)))),(6,(zI (Int.ofNat k1)))]) [(39,sc 1 0 1 n1 c3),(40,(zI (Int.ofNat k1))),(41,(.pointer (some ⟨1,(0+k1*1),none⟩))),(42,zI x5),(43,Sl.v 1 s1),(44,(Cv (0*1) (Sl.cs s1)))]) (hT 2 [oC q4]) (eC 2 (keep (hT 2 [oC q4]) (bb (an (Nat.blt k1 n1) true) (some (.pointer (some ⟨1,(0+k1*1),none⟩))) none)) (AX h25) (eD (keep (hT 2 [oC q4]) (AL q4 (0+k1*1))) (AZ h26) (eC 1 (keep (hT 2 [oC q4]) (bb (an (Nat.blt 0 (Sl.n s1)) true) (some (Cv (0*1) (Sl.cs s1))) none)) (AX h27) (by kernel_rfl)))) (eD (keep (hT 2 [oC q4]) (AL (Sl.cs s1) (0*1))) (AZ h28) (eC 1 (keep (hT 2 [oC q4]) (bb (an (Nat.blt k1 n1) true) (some (.pointer (some ⟨1,(0+k1*1),none⟩))) none)) (AX h29) (eD (done (bb (an (Nat.ble ((0+k1*1)+1) (len q4)) true) (some (hT 2 [(oC (BM ([(zI (Aj .i64 (Int.add x5 x6)))]:LV) (0+k1*1) q4))])) none) undef) (Js h30) (eE))))) ?_
      replace hm:=Ae hm;obtain⟨h31,hm⟩:=hm
      exact⟨(s1,n1,c3,(Aj .i64 (Int.add z1 x4)),(Int.ofNat k1),(BM ([(zI (Aj .i64 (Int.add x5 x6)))]:LV) (0+k1*1) q4)),hm,(.k [1] [false,false] [] [0,1,5,6] ⟨BI h31,trivial⟩)⟩
     ·refine BB (nt (AY x0 x1)) h10 ?_
      refine .skip ?_
      exact⟨(s1,n1,c3,z1,(Int.ofNat k1),q2),hm,(.k [1] [false,false] [] [0,1,5,6] ⟨BI h2,trivial⟩)⟩
   ·refine BB (AY z2 (Int.ofNat n1)) h3 ?_
    refine .exit ?_
    exact⟨(z1,q2),hm,(.k [1] [false,false] [] [5] ⟨BI h2,trivial⟩)⟩
theorem Aa4 {call:A8} (pu:Af) (n:Nat) (hcall:call=Bb tabs isP pu (inl pu)) {args:LV} {os:List AJ} {z:Value} (ha:args.length=2) (hk:os.length=1) (hpl:∀ o∈os,plainO o) (hm:K9 pu n (args++os.map Ef)=some z):args.length≤49∧BN tt call (tabs.length+1) Nh (Fr.made 49 args) (BK tabs os) (FJ tt tabs.length 1 [.tmp 4] z):=by
 subst hcall
 have hq:=Co ha;clear ha;obtain⟨a0,args,rfl,ha⟩:=hq
 have hq:=Co ha;clear ha;obtain⟨a1,args,rfl,ha⟩:=hq
 obtain rfl:=len_nil ha
 have hq:=Co hk;clear hk;obtain⟨b0,os,rfl,hk⟩:=hq
 have hp0:plainO b0:=hpl b0 (by simp)
 obtain rfl:=len_nil hk
 replace hm:K9 pu n [a0,a1,Ef b0]=some z:=hm
 unfold K9 at hm
 replace hm:(oo (Bj 1 a0) none fun s0=>(oo (Yv 1 0 1 a1) none fun y0=>(oo (Bt (Ef b0)) none fun q0=>(M8 pu n s0 (NC.n y0) (NC.c y0) q0))))=some z:=hm
 replace hm:=Al hm;obtain⟨s0,rfl,hm⟩:=hm
 replace hm:=Ab hm;obtain⟨y0,h0,hm⟩:=hm
 obtain rfl:=PM h0
 replace hm:=Ab hm;obtain⟨q0,h1,hm⟩:=hm
 obtain rfl:=Jb hp0 h1
 refine⟨by simp,?_⟩
 exact .same (F':=(fr 49 [(0,Sl.v 1 s0),(1,(sc 1 0 1 (NC.n y0) (NC.c y0)))])) (H':=(hT 2 [oC q0])) (by kernel_rfl) (by kernel_rfl) (Si pu n s0 (NC.n y0) (NC.c y0) q0 hm)
def KX (pu:Af) (n n0 c0:Nat) (q0:LV) (q1:LV):OV:=
 (bb (Au Ah q0) (bb (Au Ah q1) (bb (an (Nat.ble (0+n0*1) (len q1)) (Au Ah (Aq (n0*1) (Am 0 q1)))) (some (.tuple ⟨[(Sl.v 1 (Sl.mk n0 0 (Aq (n0*1) (Am 0 q1)))),(.agg ⟨q0⟩)]⟩)) none) none) none)
def OT (pu:Af) (n:Nat) (ih0:Nat→Nat→Int→Nat→Nat→Int→LV→Int→Int→Int→Sl→LV→OV) (n0 c0:Nat) (z0:Int) (n1 c1:Nat) (z1:Int) (q0:LV) (z2 z3 z4:Int) (s0:Sl) (q1:LV):OV:=
 (bb (Au Ah q0) (bb (Au Ah q1) (bb (AY z1 (Int.ofNat n0)) (oo (pu 81 [(.agg ⟨[.int .i64 z2,.int .i64 z3,.int .i64 z4,Sl.v 1 s0]⟩),.int .i64 z0,.int .i64 z1]) none fun v0=>(oo (Bi .i64 v0) none fun x0=>(oo (EA x0) none fun k1=>(bb (an (Nat.blt k1 n0) true) (oo (AL q0 (0+k1*1)) none fun v1=>(oo (Bi .i64 v1) none fun x1=>(bb (GV 1 8 n1 c1 1 q1) (bb (Au Ah (Br (Am 0 q1) [.int .i64 x1])) (ih0 n0 c0 z0 (n1+1) (2*(n1+1)+bb false 1 0) (Aj .i64 (Int.add z1 (1:Int))) q0 z2 z3 z4 s0 (Br (Am 0 q1) [.int .i64 x1])) none) none))) none)))) (KX pu n n1 c1 q0 q1)) none) none)
def OU (pu:Af) (n w:Nat):Nat→Nat→Int→Nat→Nat→Int→LV→Int→Int→Int→Sl→LV→OV:=
 Nat.rec (motive:=fun _=>Nat→Nat→Int→Nat→Nat→Int→LV→Int→Int→Int→Sl→LV→OV) (fun _ _ _ _ _ _ _ _ _ _ _ _=>none) (fun _ ih0=>OT pu n ih0) w
def M9 (pu:Af) (n:Nat) (z0 z1 z2:Int) (s0:Sl) (n0 c0:Nat) (z3 z4 z5 z6 z7:Int):OV:=
 (OU pu n n n0 c0 z3 0 0 (0:Int) ([.int .i64 z4,.int .i64 z5,.int .i64 z6,.int .i64 z7]:LV) z0 z1 z2 s0 ([]:LV))
def OW (pu:Af) (n:Nat) (args:LV):OV:=
 (ll args none fun a0 args=>(ll args none fun a1 args=>(ll args none fun a2 args=>(ll args none fun o0 args=>(ll args (oo (Bt a0) none fun l0=>(ll l0 none fun v0 l0=>(ll l0 none fun v1 l0=>(ll l0 none fun v2 l0=>(ll l0 none fun v3 l0=>(ll l0 (oo (Bi .i64 v0) none fun x0=>(oo (Bi .i64 v1) none fun x1=>(oo (Bi .i64 v2) none fun x2=>(oo (Bj 1 v3) none fun s0=>(oo (Yv 1 0 1 a1) none fun y0=>(oo (Bi .i64 a2) none fun x3=>(oo (Bt o0) none fun l1=>(ll l1 none fun v4 l1=>(ll l1 none fun v5 l1=>(ll l1 none fun v6 l1=>(ll l1 none fun v7 l1=>(ll l1 (oo (Bi .i64 v4) none fun x4=>(oo (Bi .i64 v5) none fun x5=>(oo (Bi .i64 v6) none fun x6=>(oo (Bi .i64 v7) none fun x7=>(M9 pu n x0 x1 x2 s0 (NC.n y0) (NC.c y0) x3 x4 x5 x6 x7))))) fun _ _=>none)))))))))))) fun _ _=>none)))))) fun _ _=>none)))))
theorem gU (pu:Af) (n n0 c0:Nat) (q0:LV) (q1:LV) {v:Value} (hm:KX pu n n0 c0 q0 q1=some v):BN tt (Bb tabs isP pu (inl pu)) 2 UZ (fr 26 [(7,sc 2 0 1 n0 c0)]) (hT 3 [oC q0,oC q1]) (FJ tt 1 1 [.tmp 6] v):=by
 unfold KX at hm
 refine .then (.rK ?_)
 replace hm:=Ae hm;obtain⟨h0,hm⟩:=hm
 replace hm:=Ae hm;obtain⟨h1,hm⟩:=hm
 refine .ghs (fr 26 [(6,sc 2 0 1 n0 c0)]) (hT 3 [oC q0,oC q1]) (.k [1,2] [false,false] [.tmp 6 false] [6] ⟨BI h0,BI h1,trivial⟩) ?_
 replace hm:=Ae hm;obtain⟨h2,hm⟩:=hm
 refine .ghs (fr 26 [(6,(Sl.v 1 (Sl.mk n0 0 (Aq (n0*1) (Am 0 q1)))))]) (hT 2 [oC q0]) (.freezeC 2 6 1 (an (Nat.ble (0+n0*1) (len q1)) (Au Ah (Aq (n0*1) (Am 0 q1)))) (F1:=(Fr.puts (fr 26 [(6,sc 2 0 1 n0 c0)]) [(6,(Sl.v 1 (Sl.mk n0 0 (Aq (n0*1) (Am 0 q1)))))])) (H1:=(hT 3 [oC q0,.dead])) (by kernel_rfl) (by kernel_rfl) h2 (.k [1] [false,false] [] [6] ⟨BI h0,trivial⟩)) ?_
 refine .ret ?_
 exact FB (Sl.v 1 (Sl.mk n0 0 (Aq (n0*1) (Am 0 q1)))) [oC q0] (by kernel_rfl) hm (Nat.le_of_ble_eq_true rfl) (Dr (MM _) FC)
theorem Aa5 (pu:Af) (n:Nat) (z0 z1 z2:Int) (s0:Sl) (n0 c0:Nat) (z3 z4 z5 z6 z7:Int) {v:Value} (hm:M9 pu n z0 z1 z2 s0 n0 c0 z3 z4 z5 z6 z7=some v):BN tt (Bb tabs isP pu (inl pu)) 2 Kh (fr 26 [(0,(.agg ⟨[zI z0,zI z1,zI z2,Sl.v 1 s0]⟩)),(1,sc 1 0 1 n0 c0),(2,zI z3)]) (hT 2 [(oC [zI z4,zI z5,zI z6,zI z7])]) (FJ tt 1 1 [.tmp 6] v):=by
 unfold M9 at hm
 refine .then (.rK (.ghs (fr 26 [(1,sc 1 0 1 n0 c0),(2,zI z3),(3,(pt 2 0))]) (hT 3 [(oC [zI z4,zI z5,zI z6,zI z7]),(oC [zI z0,zI z1,zI z2,Sl.v 1 s0])]) (.k0 [false,false] [.tmp 3 false] [1,2,3]) ?_))
 refine .then (.rK (.ghs (fr 26 [(1,sc 1 0 1 n0 c0),(2,zI z3),(3,(pt 2 0)),(7,(.slice none 0 0))]) (hT 3 [(oC [zI z4,zI z5,zI z6,zI z7]),(oC [zI z0,zI z1,zI z2,Sl.v 1 s0])]) (.k0 [false,false] [.tmp 3 false] [1,2,3,7]) ?_))
 refine .join (v:=v) (fun y:Nat×Nat×LV×LV=>((fr 26 [(7,(sc 2 0 1 y.1 y.2.1))]),(hT 3 [(oC y.2.2.1),(oC y.2.2.2)]))) (fun y=>KX pu n y.1 y.2.1 y.2.2.1 y.2.2.2) ?_ ?_
 ·rintro ⟨n1, c1, q0, q1⟩ hm
  exact gU pu n n1 c1 q0 q1 hm
 ·refine .then (.rK (.ghs (fr 26 [(1, sc 1 0 1 n0 c0), (2, zI z3), (3, (pt 2 0)), (7, (.slice none 0 0)), (8, (zI (0 : Int)))]) (hT 3 [(oC [zI z4, zI z5, zI z6, zI z7]), (oC [zI z0, zI z1, zI z2, Sl.v 1 s0])]) (.k0 [false, false] [.tmp 3 false] [1, 2, 3, 7, 8]) ?_))
  refine .block (.loopM (v:=v) (fun y:Nat×Nat×Int×Nat×Nat×Int×LV×Int×Int×Int×Sl×LV=>((fr 26 [(1,(sc 1 0 1 y.1 y.2.1)),(2,(zI y.2.2.1)),(3,(pt 2 0)),(7,(sc 3 0 1 y.2.2.2.1 y.2.2.2.2.1)),(8,(zI y.2.2.2.2.2.1))]),(hT 4 [(oC y.2.2.2.2.2.2.1),(oC [(zI y.2.2.2.2.2.2.2.1),(zI y.2.2.2.2.2.2.2.2.1),(zI y.2.2.2.2.2.2.2.2.2.1),(Sl.v 1 y.2.2.2.2.2.2.2.2.2.2.1)]),(oC y.2.2.2.2.2.2.2.2.2.2.2)]))) (fun w y=>OU pu n w y.1 y.2.1 y.2.2.1 y.2.2.2.1 y.2.2.2.2.1 y.2.2.2.2.2.1 y.2.2.2.2.2.2.1 y.2.2.2.2.2.2.2.1 y.2.2.2.2.2.2.2.2.1 y.2.2.2.2.2.2.2.2.2.1 y.2.2.2.2.2.2.2.2.2.2.1 y.2.2.2.2.2.2.2.2.2.2.2) n ⟨(n0,c0,z3,0,0,(0:Int),([zI z4,zI z5,zI z6,zI z7]:LV),z0,z1,z2,s0,([]:LV)),hm,(.thaw 7 1 (by kernel_rfl) (.k0 [false,false] [.tmp 3 false,.tmp 7 false] [1,2,3,7,8]))⟩ (fun _=>rfl) ?_)
  rintro w0 ⟨n2,c2,z8,n3,c3,z9,q2,z10,z11,z12,s1,q3⟩ hm
  replace hm:OT pu n (OU pu n w0) n2 c2 z8 n3 c3 z9 q2 z10 z11 z12 s1 q3=some v:=hm
  unfold OT at hm
  refine .then (.then (.rK ?_))
  replace hm:=Ae hm;obtain⟨h0,hm⟩:=hm
  replace hm:=Ae hm;obtain⟨h1,hm⟩:=hm
  refine .ghs (fr 26 [(1,sc 1 0 1 n2 c2),(2,zI z8),(3,(pt 2 0)),(7,sc 3 0 1 n3 c3),(8,zI z9),(12,(zB (AY z9 (Int.ofNat n2))))]) (hT 4 [oC q2,(oC [zI z10,zI z11,zI z12,Sl.v 1 s1]),oC q3]) (.k [1,3] [false,false] [.tmp 3 false,.tmp 7 false] [1,2,3,7,8,12] ⟨BI h0,BI h1,trivial⟩) ?_
  replace hm:=Ag hm;rcases hm with⟨h2,hm⟩ | ⟨h2,hm⟩
  ·refine Bq (AY z9 (Int.ofNat n2)) h2 ?_
   refine .skip (.ghs (fr 26 [(1,sc 1 0 1 n2 c2),(2,zI z8),(3,(pt 2 0)),(7,sc 3 0 1 n3 c3),(8,zI z9)]) (hT 4 [oC q2,(oC [zI z10,zI z11,zI z12,Sl.v 1 s1]),oC q3]) (.k [1,3] [false,false] [.tmp 3 false,.tmp 7 false] [1,2,3,7,8] ⟨BI h0,BI h1,trivial⟩) ?_)
   refine .then (.block ?_)
   replace hm:=oI hm;obtain⟨x0,h3,hm⟩:=hm
   replace hm:=Ab hm;obtain⟨k1,h4,hm⟩:=hm
   obtain rfl:=AR h4
   replace hm:=Ae hm;obtain⟨h5,hm⟩:=hm
   replace hm:=oI hm;obtain⟨x1,h6,hm⟩:=hm
   replace hm:=Ae hm;obtain⟨h7,hm⟩:=hm
   refine .reg (eC 5 ((oo (pu 81 [(.agg ⟨[zI z10,zI z11,zI z12,Sl.v 1 s1]⟩),zI z8,zI z9]) none fun v=>some (v,(hT 4 [oC q2,(oC [zI z10,zI z11,zI z12,Sl.v 1 s1]),oC q3])))) (AB h3) (eD (keep (hT 4 [oC q2,(oC [zI z10,zI z11,zI z12,Sl.v 1 s1]),oC q3]) (bb (an (Nat.blt k1 n2) true) (some (.pointer (some ⟨1,(0+k1*1),none⟩))) none)) (AX h5) (eD (keep (hT 4 [oC q2,(oC [zI z10,zI z11,zI z12,Sl.v 1 s1]),oC q3]) (AL q2 (0+k1*1))) (AZ h6) (eC 1 (Oc 1 8 n3 c3 1 3 q3 [zI x1] [] (hT 5 [oC q2,(oC [zI z10,zI z11,zI z12,Sl.v 1 s1]),oC q3,(oC [zI x1])])) (I1 h7) (eE))))) ?_
   replace hm:=Ae hm;obtain⟨h8,hm⟩:=hm
   refine .ghs (fr 26 [(1,sc 1 0 1 n2 c2),(2,zI z8),(3,(pt 2 0)),(7,(sc 3 0 1 (n3+1) (d2 (n3+1)))),(8,zI z9)]) (hT 4 [oC q2,(oC [zI z10,zI z11,zI z12,Sl.v 1 s1]),(oC (Br (Am 0 q3) [zI x1]))]) (.k [1,5] [false,false] [.tmp 3 false,.tmp 7 false] [1,2,3,7,8] ⟨BI h0,BI h8,trivial⟩) ?_
   refine .rK ?_
   exact⟨(n2,c2,z8,(n3+1),(d2 (n3+1)),(Aj .i64 (Int.add z9 (1:Int))),q2,z10,z11,z12,s1,(Br (Am 0 q3) [zI x1])),hm,(.k [1,3] [false,false] [.tmp 3 false,.tmp 7 false] [1,2,3,7,8] ⟨BI h0,BI h8,trivial⟩)⟩
  ·refine BB (AY z9 (Int.ofNat n2)) h2 ?_
   refine .exit ?_
   exact⟨(n3,c3,q2,q3),hm,(.k [1,3] [false,false] [.tmp 7 false] [7] ⟨BI h0,BI h1,trivial⟩)⟩
theorem Aa6 {call:A8} (pu:Af) (n:Nat) (hcall:call=Bb tabs isP pu (inl pu)) {args:LV} {os:List AJ} {z:Value} (ha:args.length=3) (hk:os.length=1) (hpl:∀ o∈os,plainO o) (hm:OW pu n (args++os.map Ef)=some z):args.length≤26∧BN tt call (tabs.length+1) Kh (Fr.made 26 args) (BK tabs os) (FJ tt tabs.length 1 [.tmp 6] z):=by
 subst hcall
 have hq:=Co ha;clear ha;obtain⟨a0,args,rfl,ha⟩:=hq
 have hq:=Co ha;clear ha;obtain⟨a1,args,rfl,ha⟩:=hq
 have hq:=Co ha;clear ha;obtain⟨a2,args,rfl,ha⟩:=hq
 obtain rfl:=len_nil ha
 have hq:=Co hk;clear hk;obtain⟨b0,os,rfl,hk⟩:=hq
 have hp0:plainO b0:=hpl b0 (by simp)
 obtain rfl:=len_nil hk
 replace hm:OW pu n [a0,a1,a2,Ef b0]=some z:=hm
 unfold OW at hm
 replace hm:(oo (Bt a0) none fun l0=>(ll l0 none fun v0 l0=>(ll l0 none fun v1 l0=>(ll l0 none fun v2 l0=>(ll l0 none fun v3 l0=>(ll l0 (oo (Bi .i64 v0) none fun x0=>(oo (Bi .i64 v1) none fun x1=>(oo (Bi .i64 v2) none fun x2=>(oo (Bj 1 v3) none fun s0=>(oo (Yv 1 0 1 a1) none fun y0=>(oo (Bi .i64 a2) none fun x3=>(oo (Bt (Ef b0)) none fun l1=>(ll l1 none fun v4 l1=>(ll l1 none fun v5 l1=>(ll l1 none fun v6 l1=>(ll l1 none fun v7 l1=>(ll l1 (oo (Bi .i64 v4) none fun x4=>(oo (Bi .i64 v5) none fun x5=>(oo (Bi .i64 v6) none fun x6=>(oo (Bi .i64 v7) none fun x7=>(M9 pu n x0 x1 x2 s0 (NC.n y0) (NC.c y0) x3 x4 x5 x6 x7))))) fun _ _=>none)))))))))))) fun _ _=>none))))))=some z:=hm
 replace hm:=BG hm;obtain⟨l0,rfl,hm⟩:=hm
 replace hm:=Ad hm;obtain⟨v0,l3653_0,rfl,hm⟩:=hm
 replace hm:=Ad hm;obtain⟨v1,l3653_1,rfl,hm⟩:=hm
 replace hm:=Ad hm;obtain⟨v2,l3653_2,rfl,hm⟩:=hm
 replace hm:=Ad hm;obtain⟨v3,l3653_3,rfl,hm⟩:=hm
 replace hm:=AC hm;obtain⟨rfl,hm⟩:=hm
 replace hm:=Ai hm;obtain⟨x0,rfl,hm⟩:=hm
 replace hm:=Ai hm;obtain⟨x1,rfl,hm⟩:=hm
 replace hm:=Ai hm;obtain⟨x2,rfl,hm⟩:=hm
 replace hm:=Al hm;obtain⟨s0,rfl,hm⟩:=hm
 replace hm:=Ab hm;obtain⟨y0,h0,hm⟩:=hm
 obtain rfl:=PM h0
 replace hm:=Ai hm;obtain⟨x3,rfl,hm⟩:=hm
 replace hm:=Ab hm;obtain⟨l1,h1,hm⟩:=hm
 obtain rfl:=Jb hp0 h1
 replace hm:=Ad hm;obtain⟨v4,l3671_0,rfl,hm⟩:=hm
 replace hm:=Ad hm;obtain⟨v5,l3671_1,rfl,hm⟩:=hm
 replace hm:=Ad hm;obtain⟨v6,l3671_2,rfl,hm⟩:=hm
 replace hm:=Ad hm;obtain⟨v7,l3671_3,rfl,hm⟩:=hm
 replace hm:=AC hm;obtain⟨rfl,hm⟩:=hm
 replace hm:=Ai hm;obtain⟨x4,rfl,hm⟩:=hm
 replace hm:=Ai hm;obtain⟨x5,rfl,hm⟩:=hm
 replace hm:=Ai hm;obtain⟨x6,rfl,hm⟩:=hm
 replace hm:=Ai hm;obtain⟨x7,rfl,hm⟩:=hm
 refine⟨by simp,?_⟩
 exact .same (F':=(fr 26 [(0,(.agg ⟨[zI x0,zI x1,zI x2,Sl.v 1 s0]⟩)),(1,(sc 1 0 1 (NC.n y0) (NC.c y0))),(2,zI x3)])) (H':=(hT 2 [(oC [zI x4,zI x5,zI x6,zI x7])])) (by kernel_rfl) (by kernel_rfl) (Aa5 pu n x0 x1 x2 s0 (NC.n y0) (NC.c y0) x3 x4 x5 x6 x7 hm)
def KY (pu:Af) (n n0 c0:Nat) (q0:LV):OV:=
 (bb (Au Ah q0) (bb (an (Nat.ble (0+n0*1) (len q0)) (Au Ah (Aq (n0*1) (Am 0 q0)))) (some (.tuple ⟨[(Sl.v 1 (Sl.mk n0 0 (Aq (n0*1) (Am 0 q0))))]⟩)) none) none)
def OX (pu:Af) (n:Nat) (ih0:Sl→Int→Nat→Nat→Int→Int→Int→Int→Sl→LV→OV) (s0:Sl) (z0:Int) (n0 c0:Nat) (z1 z2 z3 z4:Int) (s1:Sl) (q0:LV):OV:=
 (bb (Au Ah q0) (bb (AY z1 (Int.ofNat (Sl.n s0))) (oo (pu 81 [(.agg ⟨[.int .i64 z2,.int .i64 z3,.int .i64 z4,Sl.v 1 s1]⟩),.int .i64 z0,.int .i64 z1]) none fun v0=>(oo (Bi .i64 v0) none fun x0=>(oo (EA x0) none fun k1=>(bb (an (Nat.blt k1 (Sl.n s0)) true) (oo (AL (Sl.cs s0) (k1*1)) none fun v1=>(oo (Bi .i64 v1) none fun x1=>(bb (GV 1 8 n0 c0 1 q0) (bb (Au Ah (Br (Am 0 q0) [.int .i64 x1])) (ih0 s0 z0 (n0+1) (2*(n0+1)+bb false 1 0) (Aj .i64 (Int.add z1 (1:Int))) z2 z3 z4 s1 (Br (Am 0 q0) [.int .i64 x1])) none) none))) none)))) (KY pu n n0 c0 q0)) none)
def OY (pu:Af) (n w:Nat):Sl→Int→Nat→Nat→Int→Int→Int→Int→Sl→LV→OV:=
 Nat.rec (motive:=fun _=>Sl→Int→Nat→Nat→Int→Int→Int→Int→Sl→LV→OV) (fun _ _ _ _ _ _ _ _ _ _=>none) (fun _ ih0=>OX pu n ih0) w
def Nc (pu:Af) (n:Nat) (z0 z1 z2:Int) (s0 s1:Sl) (z3:Int):OV:=
 (OY pu n n s1 z3 0 0 (0:Int) z0 z1 z2 s0 ([]:LV))
def OZ (pu:Af) (n:Nat) (args:LV):OV:=
 (ll args none fun a0 args=>(ll args none fun a1 args=>(ll args none fun a2 args=>(ll args (oo (Bt a0) none fun l0=>(ll l0 none fun v0 l0=>(ll l0 none fun v1 l0=>(ll l0 none fun v2 l0=>(ll l0 none fun v3 l0=>(ll l0 (oo (Bi .i64 v0) none fun x0=>(oo (Bi .i64 v1) none fun x1=>(oo (Bi .i64 v2) none fun x2=>(oo (Bj 1 v3) none fun s0=>(oo (Bj 1 a1) none fun s1=>(oo (Bi .i64 a2) none fun x3=>(Nc pu n x0 x1 x2 s0 s1 x3))))))) fun _ _=>none)))))) fun _ _=>none))))
theorem gV (pu:Af) (n n0 c0:Nat) (q0:LV) {v:Value} (hm:KY pu n n0 c0 q0=some v):BN tt (Bb tabs isP pu (inl pu)) 1 UZ (fr 26 [(7,sc 1 0 1 n0 c0)]) (hT 2 [oC q0]) (FJ tt 1 0 [.tmp 6] v):=by
 unfold KY at hm
 refine .then (.rK ?_)
 replace hm:=Ae hm;obtain⟨h0,hm⟩:=hm
 refine .ghs (fr 26 [(6,sc 1 0 1 n0 c0)]) (hT 2 [oC q0]) (.k [1] [false] [.tmp 6 false] [6] ⟨BI h0,trivial⟩) ?_
 replace hm:=Ae hm;obtain⟨h1,hm⟩:=hm
 refine .ghs (fr 26 [(6,(Sl.v 1 (Sl.mk n0 0 (Aq (n0*1) (Am 0 q0)))))]) Ap (.freezeC 1 6 1 (an (Nat.ble (0+n0*1) (len q0)) (Au Ah (Aq (n0*1) (Am 0 q0)))) (F1:=(Fr.puts (fr 26 [(6,sc 1 0 1 n0 c0)]) [(6,(Sl.v 1 (Sl.mk n0 0 (Aq (n0*1) (Am 0 q0)))))])) (H1:=(hT 2 [.dead])) (by kernel_rfl) (by kernel_rfl) h1 (.k0 [false] [] [6])) ?_
 refine .ret ?_
 exact FB (Sl.v 1 (Sl.mk n0 0 (Aq (n0*1) (Am 0 q0)))) [] (by kernel_rfl) hm (Nat.le_of_ble_eq_true rfl) FC
theorem Aa7 (pu:Af) (n:Nat) (z0 z1 z2:Int) (s0 s1:Sl) (z3:Int) {v:Value} (hm:Nc pu n z0 z1 z2 s0 s1 z3=some v):BN tt (Bb tabs isP pu (inl pu)) 1 Kh (fr 26 [(0,(.agg ⟨[zI z0,zI z1,zI z2,Sl.v 1 s0]⟩)),(1,Sl.v 1 s1),(2,zI z3)]) Ap (FJ tt 1 0 [.tmp 6] v):=by
 unfold Nc at hm
 refine .then (.rK (.ghs (fr 26 [(1,Sl.v 1 s1),(2,zI z3),(3,pt 1 0)]) (hT 2 [(oC [zI z0,zI z1,zI z2,Sl.v 1 s0])]) (.k0 [false] [.tmp 3 false] [1,2,3]) ?_))
 refine .then (.rK (.ghs (fr 26 [(1,Sl.v 1 s1),(2,zI z3),(3,pt 1 0),(7,(.slice none 0 0))]) (hT 2 [(oC [zI z0,zI z1,zI z2,Sl.v 1 s0])]) (.k0 [false] [.tmp 3 false] [1,2,3,7]) ?_))
 refine .join (v:=v) (fun y:Nat×Nat×LV=>((fr 26 [(7,(sc 1 0 1 y.1 y.2.1))]),(hT 2 [(oC y.2.2)]))) (fun y=>KY pu n y.1 y.2.1 y.2.2) ?_ ?_
 ·rintro ⟨n0, c0, q0⟩ hm
  exact gV pu n n0 c0 q0 hm
 ·refine .then (.rK (.ghs (fr 26 [(1, Sl.v 1 s1), (2, zI z3), (3, pt 1 0), (7, (.slice none 0 0)), (8, (zI (0 : Int)))]) (hT 2 [(oC [zI z0, zI z1, zI z2, Sl.v 1 s0])]) (.k0 [false] [.tmp 3 false] [1, 2, 3, 7, 8]) ?_))
  refine .block (.loopM (v:=v) (fun y:Sl×Int×Nat×Nat×Int×Int×Int×Int×Sl×LV=>((fr 26 [(1,(Sl.v 1 y.1)),(2,(zI y.2.1)),(3,pt 1 0),(7,(sc 2 0 1 y.2.2.1 y.2.2.2.1)),(8,(zI y.2.2.2.2.1))]),(hT 3 [(oC [(zI y.2.2.2.2.2.1),(zI y.2.2.2.2.2.2.1),(zI y.2.2.2.2.2.2.2.1),(Sl.v 1 y.2.2.2.2.2.2.2.2.1)]),(oC y.2.2.2.2.2.2.2.2.2)]))) (fun w y=>OY pu n w y.1 y.2.1 y.2.2.1 y.2.2.2.1 y.2.2.2.2.1 y.2.2.2.2.2.1 y.2.2.2.2.2.2.1 y.2.2.2.2.2.2.2.1 y.2.2.2.2.2.2.2.2.1 y.2.2.2.2.2.2.2.2.2) n ⟨(s1,z3,0,0,(0:Int),z0,z1,z2,s0,([]:LV)),hm,(.thaw 7 1 (by kernel_rfl) (.k0 [false] [.tmp 3 false,.tmp 7 false] [1,2,3,7,8]))⟩ (fun _=>rfl) ?_)
  rintro w0 ⟨s2,z4,n1,c1,z5,z6,z7,z8,s3,q1⟩ hm
  replace hm:OX pu n (OY pu n w0) s2 z4 n1 c1 z5 z6 z7 z8 s3 q1=some v:=hm
  unfold OX at hm
  refine .then (.then (.rK ?_))
  replace hm:=Ae hm;obtain⟨h0,hm⟩:=hm
  refine .ghs (fr 26 [(1,Sl.v 1 s2),(2,zI z4),(3,pt 1 0),(7,sc 2 0 1 n1 c1),(8,zI z5),(12,(zB (AY z5 (Int.ofNat (Sl.n s2)))))]) (hT 3 [(oC [zI z6,zI z7,zI z8,Sl.v 1 s3]),oC q1]) (.k [2] [false] [.tmp 3 false,.tmp 7 false] [1,2,3,7,8,12] ⟨BI h0,trivial⟩) ?_
  replace hm:=Ag hm;rcases hm with⟨h1,hm⟩ | ⟨h1,hm⟩
  ·refine Bq (AY z5 (Int.ofNat (Sl.n s2))) h1 ?_
   refine .skip (.ghs (fr 26 [(1,Sl.v 1 s2),(2,zI z4),(3,pt 1 0),(7,sc 2 0 1 n1 c1),(8,zI z5)]) (hT 3 [(oC [zI z6,zI z7,zI z8,Sl.v 1 s3]),oC q1]) (.k [2] [false] [.tmp 3 false,.tmp 7 false] [1,2,3,7,8] ⟨BI h0,trivial⟩) ?_)
   refine .then (.block ?_)
   replace hm:=oI hm;obtain⟨x0,h2,hm⟩:=hm
   replace hm:=Ab hm;obtain⟨k1,h3,hm⟩:=hm
   obtain rfl:=AR h3
   replace hm:=Ae hm;obtain⟨h4,hm⟩:=hm
   replace hm:=oI hm;obtain⟨x1,h5,hm⟩:=hm
   replace hm:=Ae hm;obtain⟨h6,hm⟩:=hm
   refine .reg (eC 5 ((oo (pu 81 [(.agg ⟨[zI z6,zI z7,zI z8,Sl.v 1 s3]⟩),zI z4,zI z5]) none fun v=>some (v,(hT 3 [(oC [zI z6,zI z7,zI z8,Sl.v 1 s3]),oC q1])))) (AB h2) (eD (keep (hT 3 [(oC [zI z6,zI z7,zI z8,Sl.v 1 s3]),oC q1]) (bb (an (Nat.blt k1 (Sl.n s2)) true) (some (Cv (k1*1) (Sl.cs s2))) none)) (AX h4) (eD (keep (hT 3 [(oC [zI z6,zI z7,zI z8,Sl.v 1 s3]),oC q1]) (AL (Sl.cs s2) (k1*1))) (AZ h5) (eC 1 (Oc 1 8 n1 c1 1 2 q1 [zI x1] [] (hT 4 [(oC [zI z6,zI z7,zI z8,Sl.v 1 s3]),oC q1,(oC [zI x1])])) (I1 h6) (eE))))) ?_
   replace hm:=Ae hm;obtain⟨h7,hm⟩:=hm
   refine .ghs (fr 26 [(1,Sl.v 1 s2),(2,zI z4),(3,pt 1 0),(7,(sc 2 0 1 (n1+1) (d2 (n1+1)))),(8,zI z5)]) (hT 3 [(oC [zI z6,zI z7,zI z8,Sl.v 1 s3]),(oC (Br (Am 0 q1) [zI x1]))]) (.k [4] [false] [.tmp 3 false,.tmp 7 false] [1,2,3,7,8] ⟨BI h7,trivial⟩) ?_
   refine .rK ?_
   exact⟨(s2,z4,(n1+1),(d2 (n1+1)),(Aj .i64 (Int.add z5 (1:Int))),z6,z7,z8,s3,(Br (Am 0 q1) [zI x1])),hm,(.k [2] [false] [.tmp 3 false,.tmp 7 false] [1,2,3,7,8] ⟨BI h7,trivial⟩)⟩
  ·refine BB (AY z5 (Int.ofNat (Sl.n s2))) h1 ?_
   refine .exit ?_
   exact⟨(n1,c1,q1),hm,(.k [2] [false] [.tmp 7 false] [7] ⟨BI h0,trivial⟩)⟩
theorem Aa8 {call:A8} (pu:Af) (n:Nat) (hcall:call=Bb tabs isP pu (inl pu)) {args:LV} {os:List AJ} {z:Value} (ha:args.length=3) (hk:os.length=0) (hpl:∀ o∈os,plainO o) (hm:OZ pu n (args++os.map Ef)=some z):args.length≤26∧BN tt call (tabs.length+0) Kh (Fr.made 26 args) (BK tabs os) (FJ tt tabs.length 0 [.tmp 6] z):=by
 subst hcall
 have hq:=Co ha;clear ha;obtain⟨a0,args,rfl,ha⟩:=hq
 have hq:=Co ha;clear ha;obtain⟨a1,args,rfl,ha⟩:=hq
 have hq:=Co ha;clear ha;obtain⟨a2,args,rfl,ha⟩:=hq
 obtain rfl:=len_nil ha
 obtain rfl:=len_nil hk
 replace hm:OZ pu n [a0,a1,a2]=some z:=hm
 unfold OZ at hm
 replace hm:(oo (Bt a0) none fun l0=>(ll l0 none fun v0 l0=>(ll l0 none fun v1 l0=>(ll l0 none fun v2 l0=>(ll l0 none fun v3 l0=>(ll l0 (oo (Bi .i64 v0) none fun x0=>(oo (Bi .i64 v1) none fun x1=>(oo (Bi .i64 v2) none fun x2=>(oo (Bj 1 v3) none fun s0=>(oo (Bj 1 a1) none fun s1=>(oo (Bi .i64 a2) none fun x3=>(Nc pu n x0 x1 x2 s0 s1 x3))))))) fun _ _=>none))))))=some z:=hm
 replace hm:=BG hm;obtain⟨l0,rfl,hm⟩:=hm
 replace hm:=Ad hm;obtain⟨v0,l3819_0,rfl,hm⟩:=hm
 replace hm:=Ad hm;obtain⟨v1,l3819_1,rfl,hm⟩:=hm
 replace hm:=Ad hm;obtain⟨v2,l3819_2,rfl,hm⟩:=hm
 replace hm:=Ad hm;obtain⟨v3,l3819_3,rfl,hm⟩:=hm
 replace hm:=AC hm;obtain⟨rfl,hm⟩:=hm
 replace hm:=Ai hm;obtain⟨x0,rfl,hm⟩:=hm
 replace hm:=Ai hm;obtain⟨x1,rfl,hm⟩:=hm
 replace hm:=Ai hm;obtain⟨x2,rfl,hm⟩:=hm
 replace hm:=Al hm;obtain⟨s0,rfl,hm⟩:=hm
 replace hm:=Al hm;obtain⟨s1,rfl,hm⟩:=hm
 replace hm:=Ai hm;obtain⟨x3,rfl,hm⟩:=hm
 refine⟨by simp,?_⟩
 exact .same (F':=(fr 26 [(0,(.agg ⟨[zI x0,zI x1,zI x2,Sl.v 1 s0]⟩)),(1,Sl.v 1 s1),(2,zI x3)])) (H':=Ap) (by kernel_rfl) (by kernel_rfl) (Aa7 pu n x0 x1 x2 s0 s1 x3 hm)
def HY (pu:Af) (n:Nat) (z0 z1 z2:Int) (q0:LV) (s0:Sl):OV:=
 (oo (EA z0) none fun k1=>(bb (Nat.blt k1 17) (bb (an (Nat.ble ((0+k1*1)+1) (len q0)) true) (bb (Au Ah (BM ([.int .i64 z2]:LV) (0+k1*1) q0)) (some (.tuple ⟨[.int .i64 z1,(.agg ⟨(BM ([.int .i64 z2]:LV) (0+k1*1) q0)⟩),(.agg ⟨[Sl.v 1 s0]⟩),(.agg ⟨[(.func (.func 85) ⟨[]⟩ ⟨[(.pointer (some ⟨1,0,none⟩)),(.pointer (some ⟨2,0,none⟩)),(.pointer (some ⟨3,0,none⟩))]⟩)]⟩)]⟩)) none) none) none))
def Ji (pu:Af) (n:Nat) (ih0:Int→Int→Int→Int→Int→Int→Int→LV→Sl→OV) (z0 z1 z2 z3 z4 z5 z6:Int) (b0:Bool) (q0:LV) (s0:Sl):OV:=
 (bb b0 (bb (Au Ah q0) (oo (EA z0) none fun k1=>(bb (Nat.blt k1 17) (bb (an (Nat.ble ((0+k1*1)+1) (len q0)) true) (bb (Au Ah (BM ([(.int .i64 (Aj .i64 (Int.sub z4 z5)))]:LV) (0+k1*1) q0)) (bb (Au Ah (BM ([(.int .i64 (Aj .i64 (Int.sub z4 z5)))]:LV) (0+k1*1) q0)) (oo (pu 10850 [(.int .i64 (Aj .i64 (Int.add (Int.ofNat k1) (1:Int)))),(.int .i64 (Aj .i64 (Int.sub z1 (Aj .i64 (Int.mul z5 (Int.ofNat k1)))))),(.int .i64 (Aj .i64 (Int.mul z2 z6))),(.pointer (some ⟨1,0,none⟩)),(.pointer (some ⟨2,0,none⟩)),(.pointer (some ⟨3,0,none⟩)),(.agg ⟨(BM ([(.int .i64 (Aj .i64 (Int.sub z4 z5)))]:LV) (0+k1*1) q0)⟩),(.agg ⟨[Sl.v 1 s0]⟩),(.agg ⟨[(.func (.func 85) ⟨[]⟩ ⟨[(.pointer (some ⟨1,0,none⟩)),(.pointer (some ⟨2,0,none⟩)),(.pointer (some ⟨3,0,none⟩))]⟩)]⟩)]) none fun v0=>(oo (CQ v0) none fun l0=>(ll l0 none fun v1 l0=>(ll l0 none fun v2 l0=>(ll l0 none fun v3 l0=>(ll l0 none fun v4 l0=>(ll l0 (oo (Bi .i64 v1) none fun x0=>(oo (Bt v2) none fun q1=>(oo (Bt v3) none fun l1=>(ll l1 none fun v5 l1=>(ll l1 (oo (Bj 1 v5) none fun s1=>(oo (Bt v4) none fun l2=>(ll l2 none fun v6 l2=>(ll l2 (oo (SQ 85 0 v6) none fun l3=>(ll l3 none fun v7 l3=>(ll l3 none fun v8 l3=>(ll l3 none fun v9 l3=>(ll l3 (bb (Gm v7 1 0) (bb (Gm v8 2 0) (bb (Gm v9 3 0) (bb (Au Ah q1) (bb (Au Ah q1) (bb (nt (Bd (Aj .i64 (Int.add z5 (1:Int))) (0:Int))) (ih0 (Int.ofNat k1) z1 z2 (Aj .i64 (Int.add z3 x0)) z4 (Aj .i64 (Int.add z5 (1:Int))) (Aj .i64 (Int.tdiv (Aj .i64 (Int.mul z6 (Aj .i64 (Int.sub z4 z5)))) (Aj .i64 (Int.add z5 (1:Int))))) q1 s1) none) none) none) none) none) none) fun _ _=>none))))) fun _ _=>none)))) fun _ _=>none))))) fun _ _=>none))))))) none) none) none) none)) none) (bb (Au Ah q0) (HY pu n z0 z3 z4 q0 s0) none))
def Jj (pu:Af) (n:Nat) (ih0:Int→Int→Int→Int→Int→Int→Int→LV→Sl→OV) (z0 z1 z2 z3 z4 z5 z6:Int) (q0:LV) (s0:Sl):OV:=
 (bb (nt (AY z4 z5)) (bb (Au Ah q0) (Ji pu n ih0 z0 z1 z2 z3 z4 z5 z6 (nt (AY z1 (Aj .i64 (Int.mul z5 z0)))) q0 s0) none) (bb (Au Ah q0) (Ji pu n ih0 z0 z1 z2 z3 z4 z5 z6 false q0 s0) none))
def Gq (pu:Af) (n w:Nat):Int→Int→Int→Int→Int→Int→Int→LV→Sl→OV:=
 Nat.rec (motive:=fun _=>Int→Int→Int→Int→Int→Int→Int→LV→Sl→OV) (fun _ _ _ _ _ _ _ _ _=>none) (fun _ ih0=>Jj pu n ih0) w
def Nf (pu:Af) (n:Nat) (z0 z1 z2:Int) (q0:LV) (s0:Sl):OV:=
 (bb (Au Ah q0) (bb (Bd z0 (17:Int)) (bb (AY (0:Int) z1) (some (.tuple ⟨[(.int .i64 (0:Int)),(.agg ⟨q0⟩),(.agg ⟨[Sl.v 1 s0]⟩),(.agg ⟨[(.func (.func 85) ⟨[]⟩ ⟨[(.pointer (some ⟨1,0,none⟩)),(.pointer (some ⟨2,0,none⟩)),(.pointer (some ⟨3,0,none⟩))]⟩)]⟩)]⟩)) (bb (Nat.ble (0+17) (len q0)) (bb (nt (Nat.beq (Sl.fl s0) 2)) (bb (Nat.ble 1 (Sl.n s0)) (oo (pu 60 [(.agg ⟨(Aq 17 (Am 0 q0))⟩),(Sl.v 1 (Sl.mk ((Sl.n s0) - 1) (bb (an (Nat.beq (Sl.n s0) (Sl.n s0)) (Dp false (Nat.beq (Sl.fl s0) 1))) 1 0) (Aq (((Sl.n s0) - 1)*1) (Am (1*1) (Sl.cs s0)))))]) none fun v0=>(oo (Bi .i64 v0) none fun x0=>(bb (Au closed2 [(.agg ⟨(Aq 17 (Am 0 q0))⟩),(Sl.v 1 (Sl.mk ((Sl.n s0) - 1) (bb (an (Nat.beq (Sl.n s0) (Sl.n s0)) (Dp false (Nat.beq (Sl.fl s0) 1))) 1 0) (Aq (((Sl.n s0) - 1)*1) (Am (1*1) (Sl.cs s0)))))]) (some (.tuple ⟨[(.int .i64 (Aj .i64 (Int.mul z2 x0))),(.agg ⟨q0⟩),(.agg ⟨[Sl.v 1 s0]⟩),(.agg ⟨[(.func (.func 85) ⟨[]⟩ ⟨[(.pointer (some ⟨1,0,none⟩)),(.pointer (some ⟨2,0,none⟩)),(.pointer (some ⟨3,0,none⟩))]⟩)]⟩)]⟩)) none))) none) none) none)) (oo (EA z0) none fun k1=>(bb (Nat.blt k1 17) (oo (AL q0 (0+k1*1)) none fun v1=>(oo (Bi .i64 v1) none fun x1=>(Gq pu n n (Int.ofNat k1) z1 z2 (0:Int) x1 (0:Int) (1:Int) q0 s0))) none))) none)
def LJ (pu:Af) (n:Nat) (args:LV):OV:=
 (ll args none fun a0 args=>(ll args none fun a1 args=>(ll args none fun a2 args=>(ll args none fun a3 args=>(ll args none fun a4 args=>(ll args none fun a5 args=>(ll args none fun o0 args=>(ll args none fun o1 args=>(ll args none fun o2 args=>(ll args (oo (Bi .i64 a0) none fun x0=>(oo (Bi .i64 a1) none fun x1=>(oo (Bi .i64 a2) none fun x2=>(bb (Gm a3 1 0) (bb (Gm a4 2 0) (bb (Gm a5 3 0) (oo (Bt o0) none fun q0=>(oo (Bt o1) none fun l0=>(ll l0 none fun v0 l0=>(ll l0 (oo (Bj 1 v0) none fun s0=>(oo (Bt o2) none fun l1=>(ll l1 none fun v1 l1=>(ll l1 (oo (SQ 85 0 v1) none fun l2=>(ll l2 none fun v2 l2=>(ll l2 none fun v3 l2=>(ll l2 none fun v4 l2=>(ll l2 (bb (Gm v2 1 0) (bb (Gm v3 2 0) (bb (Gm v4 3 0) (Nf pu n x0 x1 x2 q0 s0) none) none) none) fun _ _=>none))))) fun _ _=>none)))) fun _ _=>none)))) none) none) none)))) fun _ _=>none))))))))))
theorem gW (pu:Af) (n:Nat) (z0 z1 z2:Int) (q0:LV) (s0:Sl) {v:Value} (hm:HY pu n z0 z1 z2 q0 s0=some v):BN tt (Bb tabs isP pu (inl pu)) 4 dV (fr 70 [(0,zI z0),(3,pt 1 0),(10,zI z1),(11,zI z2)]) (hT 4 [oC q0,(oC [Sl.v 1 s0]),(oC [(.func (.func 85) ⟨[]⟩ ⟨[pt 1 0,(pt 2 0),(pt 3 0)]⟩)])]) (FJ tt 1 3 [.tmp 9] v):=by
 unfold HY at hm
 refine .then ?_
 replace hm:=Ab hm;obtain⟨k1,h0,hm⟩:=hm
 obtain rfl:=AR h0
 replace hm:=Ae hm;obtain⟨h1,hm⟩:=hm
 replace hm:=Ae hm;obtain⟨h2,hm⟩:=hm
 refine .reg (eC 2 (keep (hT 4 [oC q0,(oC [Sl.v 1 s0]),(oC [(.func (.func 85) ⟨[]⟩ ⟨[pt 1 0,(pt 2 0),(pt 3 0)]⟩)])]) (bb (Nat.blt k1 17) (some (.pointer (some ⟨1,(0+k1*1),none⟩))) none)) (AX h1) (eD (done (bb (an (Nat.ble ((0+k1*1)+1) (len q0)) true) (some (hT 4 [(oC (BM ([zI z2]:LV) (0+k1*1) q0)),(oC [Sl.v 1 s0]),(oC [(.func (.func 85) ⟨[]⟩ ⟨[pt 1 0,(pt 2 0),(pt 3 0)]⟩)])])) none) undef) (Js h2) (eE))) ?_
 replace hm:=Ae hm;obtain⟨h3,hm⟩:=hm
 refine .ghs (fr 70 [(10,zI z1)]) (hT 4 [(oC (BM ([zI z2]:LV) (0+k1*1) q0)),(oC [Sl.v 1 s0]),(oC [(.func (.func 85) ⟨[]⟩ ⟨[pt 1 0,(pt 2 0),(pt 3 0)]⟩)])]) (.k [1] [false,false,false,true] [] [10] ⟨BI h3,trivial⟩) ?_
 refine .then (.rK (.ghs (fr 70 [(9,zI z1)]) (hT 4 [(oC (BM ([zI z2]:LV) (0+k1*1) q0)),(oC [Sl.v 1 s0]),(oC [(.func (.func 85) ⟨[]⟩ ⟨[pt 1 0,(pt 2 0),(pt 3 0)]⟩)])]) (.k [1] [false,false,false,true] [] [9] ⟨BI h3,trivial⟩) ?_))
 refine .ghs (fr 70 [(9,zI z1)]) (hT 4 [(oC (BM ([zI z2]:LV) (0+k1*1) q0)),(oC [Sl.v 1 s0]),(oC [(.func (.func 85) ⟨[]⟩ ⟨[pt 1 0,(pt 2 0),(pt 3 0)]⟩)])]) (.k [1] [false,false,false,true] [] [9] ⟨BI h3,trivial⟩) ?_
 refine .ret ?_
 exact FB (zI z1) [(oC (BM ([zI z2]:LV) (0+k1*1) q0)),(oC [Sl.v 1 s0]),(oC [(.func (.func 85) ⟨[]⟩ ⟨[pt 1 0,(pt 2 0),(pt 3 0)]⟩)])] (by kernel_rfl) hm (Nat.le_of_ble_eq_true rfl) (Dr (MM _) (Dr (MM _) (Dr (MM _) FC)))
theorem Sj (pu:Af) (n:Nat) (z0 z1 z2:Int) (q0:LV) (s0:Sl) {v:Value} (hm:Nf pu n z0 z1 z2 q0 s0=some v):BN tt (Bb tabs isP pu (inl pu)) 4 Ni (fr 70 [(0,zI z0),(1,zI z1),(2,zI z2),(3,pt 1 0),(4,(pt 2 0)),(5,(pt 3 0))]) (hT 4 [oC q0,(oC [Sl.v 1 s0]),(oC [(.func (.func 85) ⟨[]⟩ ⟨[pt 1 0,(pt 2 0),(pt 3 0)]⟩)])]) (FJ tt 1 3 [.tmp 9] v):=by
 unfold Nf at hm
 refine .then (.rK ?_)
 replace hm:=Ae hm;obtain⟨h0,hm⟩:=hm
 refine .ghs (fr 70 [(0,zI z0),(1,zI z1),(2,zI z2),(3,pt 1 0),(4,(pt 2 0)),(5,(pt 3 0))]) (hT 4 [oC q0,(oC [Sl.v 1 s0]),(oC [(.func (.func 85) ⟨[]⟩ ⟨[pt 1 0,(pt 2 0),(pt 3 0)]⟩)])]) (.k [1] [false,false,false,true] [] [0,1,2,3,4,5] ⟨BI h0,trivial⟩) ?_
 refine .then (.then (.rK (.ghs (fr 70 [(0,zI z0),(1,zI z1),(2,zI z2),(3,pt 1 0),(4,(pt 2 0)),(5,(pt 3 0)),(15,(zB (Bd z0 (17:Int))))]) (hT 4 [oC q0,(oC [Sl.v 1 s0]),(oC [(.func (.func 85) ⟨[]⟩ ⟨[pt 1 0,(pt 2 0),(pt 3 0)]⟩)])]) (.k [1] [false,false,false,true] [] [0,1,2,3,4,5,15] ⟨BI h0,trivial⟩) ?_)))
 replace hm:=Ag hm;rcases hm with⟨h1,hm⟩ | ⟨h1,hm⟩
 ·refine Bq (Bd z0 (17 : Int)) h1 ?_
  refine .then (.then (.rK (.ghs (fr 70 [(2,zI z2),(3,pt 1 0),(4,(pt 2 0)),(17,(zB (AY (0:Int) z1)))]) (hT 4 [oC q0,(oC [Sl.v 1 s0]),(oC [(.func (.func 85) ⟨[]⟩ ⟨[pt 1 0,(pt 2 0),(pt 3 0)]⟩)])]) (.k [1] [false,false,false,true] [] [2,3,4,17] ⟨BI h0,trivial⟩) ?_)))
  replace hm:=Ag hm;rcases hm with⟨h2,hm⟩ | ⟨h2,hm⟩
  ·refine Bq (AY (0 : Int) z1) h2 ?_
   refine .then (.rK (.ghs (fr 70 [(9,(zI (0:Int)))]) (hT 4 [oC q0,(oC [Sl.v 1 s0]),(oC [(.func (.func 85) ⟨[]⟩ ⟨[pt 1 0,(pt 2 0),(pt 3 0)]⟩)])]) (.k [1] [false,false,false,true] [] [9] ⟨BI h0,trivial⟩) ?_))
   refine .ghs (fr 70 [(9,(zI (0:Int)))]) (hT 4 [oC q0,(oC [Sl.v 1 s0]),(oC [(.func (.func 85) ⟨[]⟩ ⟨[pt 1 0,(pt 2 0),(pt 3 0)]⟩)])]) (.k [1] [false,false,false,true] [] [9] ⟨BI h0,trivial⟩) ?_
   refine .ret ?_
   exact FB (zI (0:Int)) [oC q0,(oC [Sl.v 1 s0]),(oC [(.func (.func 85) ⟨[]⟩ ⟨[pt 1 0,(pt 2 0),(pt 3 0)]⟩)])] (by kernel_rfl) hm (Nat.le_of_ble_eq_true rfl) (Dr (MM _) (Dr (MM _) (Dr (MM _) FC)))
  ·refine BB (AY (0 : Int) z1) h2 ?_
   refine .skip (.ghs (fr 70 [(2,zI z2),(3,pt 1 0),(4,(pt 2 0))]) (hT 4 [oC q0,(oC [Sl.v 1 s0]),(oC [(.func (.func 85) ⟨[]⟩ ⟨[pt 1 0,(pt 2 0),(pt 3 0)]⟩)])]) (.k [1] [false,false,false,true] [] [2,3,4] ⟨BI h0,trivial⟩) ?_)
   refine .then ?_
   replace hm:=Ae hm;obtain⟨h3,hm⟩:=hm
   replace hm:=Ae hm;obtain⟨h4,hm⟩:=hm
   replace hm:=Ae hm;obtain⟨h5,hm⟩:=hm
   replace hm:=oI hm;obtain⟨x0,h6,hm⟩:=hm
   replace hm:=Ae hm;obtain⟨h7,hm⟩:=hm
   refine .reg (eC 1 (keep (hT 4 [oC q0,(oC [Sl.v 1 s0]),(oC [(.func (.func 85) ⟨[]⟩ ⟨[pt 1 0,(pt 2 0),(pt 3 0)]⟩)])]) (bb (Nat.ble (0+17) (len q0)) (some (.agg ⟨(Aq 17 (Am 0 q0))⟩)) none)) (AX h3) (eC 1 (keep (hT 4 [oC q0,(oC [Sl.v 1 s0]),(oC [(.func (.func 85) ⟨[]⟩ ⟨[pt 1 0,(pt 2 0),(pt 3 0)]⟩)])]) (Ns ti3 ⟨1,(Sl.n s0),(Sl.fl s0),(Sl.cs s0)⟩ (some (zI (1:Int))) none none)) (ME (c1:=true) (c2:=(Nat.ble 1 (Sl.n s0))) (l:=1) (h:=(Sl.n s0)) h4 (by kernel_rfl) (by kernel_rfl) rfl (by kernel_rfl) h5) (eD (bb (Au closed2 [(.agg ⟨(Aq 17 (Am 0 q0))⟩),(Sl.v 1 (Sl.mk ((Sl.n s0) - 1) (bb (an (Nat.beq (Sl.n s0) (Sl.n s0)) (Dp false (Nat.beq (Sl.fl s0) 1))) 1 0) (Aq (((Sl.n s0) - 1)*1) (Am (1*1) (Sl.cs s0)))))]) (oo (pu 60 [(.agg ⟨(Aq 17 (Am 0 q0))⟩),(Sl.v 1 (Sl.mk ((Sl.n s0) - 1) (bb (an (Nat.beq (Sl.n s0) (Sl.n s0)) (Dp false (Nat.beq (Sl.fl s0) 1))) 1 0) (Aq (((Sl.n s0) - 1)*1) (Am (1*1) (Sl.cs s0)))))]) none fun v=>some (v,(hT 4 [oC q0,(oC [Sl.v 1 s0]),(oC [(.func (.func 85) ⟨[]⟩ ⟨[pt 1 0,(pt 2 0),(pt 3 0)]⟩)])]))) (oo (CG (RG (hT 4 [oC q0,(oC [Sl.v 1 s0]),(oC [(.func (.func 85) ⟨[]⟩ ⟨[pt 1 0,(pt 2 0),(pt 3 0)]⟩)])])) [(.agg ⟨(Aq 17 (Am 0 q0))⟩),(Sl.v 1 (Sl.mk ((Sl.n s0) - 1) (bb (an (Nat.beq (Sl.n s0) (Sl.n s0)) (Dp false (Nat.beq (Sl.fl s0) 1))) 1 0) (Aq (((Sl.n s0) - 1)*1) (Am (1*1) (Sl.cs s0)))))]) none fun l1=>oo (pu 60 l1) none fun v=>bb (RH v) (some (v,(hT 4 [oC q0,(oC [Sl.v 1 s0]),(oC [(.func (.func 85) ⟨[]⟩ ⟨[pt 1 0,(pt 2 0),(pt 3 0)]⟩)])]))) none)) (SL h7 h6) (eE)))) ?_
   refine .ghs (fr 70 [(9,(zI (Aj .i64 (Int.mul z2 x0))))]) (hT 4 [oC q0,(oC [Sl.v 1 s0]),(oC [(.func (.func 85) ⟨[]⟩ ⟨[pt 1 0,(pt 2 0),(pt 3 0)]⟩)])]) (.k [1] [false,false,false,true] [] [9] ⟨BI h0,trivial⟩) ?_
   refine .ghs (fr 70 [(9,(zI (Aj .i64 (Int.mul z2 x0))))]) (hT 4 [oC q0,(oC [Sl.v 1 s0]),(oC [(.func (.func 85) ⟨[]⟩ ⟨[pt 1 0,(pt 2 0),(pt 3 0)]⟩)])]) (.k [1] [false,false,false,true] [] [9] ⟨BI h0,trivial⟩) ?_
   refine .ret ?_
   exact FB (zI (Aj .i64 (Int.mul z2 x0))) [oC q0,(oC [Sl.v 1 s0]),(oC [(.func (.func 85) ⟨[]⟩ ⟨[pt 1 0,(pt 2 0),(pt 3 0)]⟩)])] (by kernel_rfl) hm (Nat.le_of_ble_eq_true rfl) (Dr (MM _) (Dr (MM _) (Dr (MM _) FC)))
 ·refine BB (Bd z0 (17 : Int)) h1 ?_
  refine .skip (.ghs (fr 70 [(0,zI z0),(1,zI z1),(2,zI z2),(3,pt 1 0),(5,(pt 3 0))]) (hT 4 [oC q0,(oC [Sl.v 1 s0]),(oC [(.func (.func 85) ⟨[]⟩ ⟨[pt 1 0,(pt 2 0),(pt 3 0)]⟩)])]) (.k [1] [false,false,false,true] [] [0,1,2,3,5] ⟨BI h0,trivial⟩) ?_)
  refine .then ?_
  replace hm:=Ab hm;obtain⟨k1,h8,hm⟩:=hm
  obtain rfl:=AR h8
  replace hm:=Ae hm;obtain⟨h9,hm⟩:=hm
  replace hm:=oI hm;obtain⟨x1,h10,hm⟩:=hm
  refine .reg (eC 1 (keep (hT 4 [oC q0,(oC [Sl.v 1 s0]),(oC [(.func (.func 85) ⟨[]⟩ ⟨[pt 1 0,(pt 2 0),(pt 3 0)]⟩)])]) (bb (Nat.blt k1 17) (some (.pointer (some ⟨1,(0+k1*1),none⟩))) none)) (AX h9) (eD (keep (hT 4 [oC q0,(oC [Sl.v 1 s0]),(oC [(.func (.func 85) ⟨[]⟩ ⟨[pt 1 0,(pt 2 0),(pt 3 0)]⟩)])]) (AL q0 (0+k1*1))) (AZ h10) (eE))) ?_
  refine .ghs (fr 70 [(0,(zI (Int.ofNat k1))),(1,zI z1),(2,zI z2),(3,pt 1 0),(5,(pt 3 0)),(10,(zI (0:Int))),(11,zI x1)]) (hT 4 [oC q0,(oC [Sl.v 1 s0]),(oC [(.func (.func 85) ⟨[]⟩ ⟨[pt 1 0,(pt 2 0),(pt 3 0)]⟩)])]) (.k [1] [false,false,false,true] [] [0,1,2,3,5,10,11] ⟨BI h0,trivial⟩) ?_
  refine .join (v:=v) (fun y:Int×Int×Int×LV×Sl=>((fr 70 [(0,(zI y.1)),(3,pt 1 0),(10,(zI y.2.1)),(11,(zI y.2.2.1))]),(hT 4 [(oC y.2.2.2.1),(oC [(Sl.v 1 y.2.2.2.2)]),(oC [(.func (.func 85) ⟨[]⟩ ⟨[pt 1 0,(pt 2 0),(pt 3 0)]⟩)])]))) (fun y=>HY pu n y.1 y.2.1 y.2.2.1 y.2.2.2.1 y.2.2.2.2) ?_ ?_
  ·rintro ⟨z3, z4, z5, q1, s1⟩ hm
   exact gW pu n z3 z4 z5 q1 s1 hm
  ·refine .then (.rK (.ghs (fr 70 [(0, (zI (Int.ofNat k1))), (1, zI z1), (2, zI z2), (3, pt 1 0), (5, (pt 3 0)), (10, (zI (0 : Int))), (11, zI x1), (12, (zI (0 : Int))), (13, (zI (1 : Int)))]) (hT 4 [oC q0, (oC [Sl.v 1 s0]), (oC [(.func (.func 85) ⟨[]⟩ ⟨[pt 1 0, (pt 2 0), (pt 3 0)]⟩)])]) (.k [1] [false, false, false, true] [] [0, 1, 2, 3, 5, 10, 11, 12, 13] ⟨BI h0, trivial⟩) ?_))
   refine .block (.loopM (v:=v) (fun y:Int×Int×Int×Int×Int×Int×Int×LV×Sl=>((fr 70 [(0,(zI y.1)),(1,(zI y.2.1)),(2,(zI y.2.2.1)),(3,pt 1 0),(5,(pt 3 0)),(10,(zI y.2.2.2.1)),(11,(zI y.2.2.2.2.1)),(12,(zI y.2.2.2.2.2.1)),(13,(zI y.2.2.2.2.2.2.1))]),(hT 4 [(oC y.2.2.2.2.2.2.2.1),(oC [(Sl.v 1 y.2.2.2.2.2.2.2.2)]),(oC [(.func (.func 85) ⟨[]⟩ ⟨[pt 1 0,(pt 2 0),(pt 3 0)]⟩)])]))) (fun w y=>Gq pu n w y.1 y.2.1 y.2.2.1 y.2.2.2.1 y.2.2.2.2.1 y.2.2.2.2.2.1 y.2.2.2.2.2.2.1 y.2.2.2.2.2.2.2.1 y.2.2.2.2.2.2.2.2) n ⟨((Int.ofNat k1),z1,z2,(0:Int),x1,(0:Int),(1:Int),q0,s0),hm,(.k [1] [false,false,false,true] [] [0,1,2,3,5,10,11,12,13] ⟨BI h0,trivial⟩)⟩ (fun _=>rfl) ?_)
   rintro w0 ⟨z6,z7,z8,z9,z10,z11,z12,q2,s2⟩ hm
   replace hm:Jj pu n (Gq pu n w0) z6 z7 z8 z9 z10 z11 z12 q2 s2=some v:=hm
   unfold Jj at hm
   refine .then (.join (v:=v) (fun y:Int×Int×Int×Int×Int×Int×Int×Bool×LV×Sl=>((fr 70 [(0,(zI y.1)),(1,(zI y.2.1)),(2,(zI y.2.2.1)),(3,pt 1 0),(5,(pt 3 0)),(10,(zI y.2.2.2.1)),(11,(zI y.2.2.2.2.1)),(12,(zI y.2.2.2.2.2.1)),(13,(zI y.2.2.2.2.2.2.1)),(36,(zB y.2.2.2.2.2.2.2.1))]),(hT 4 [(oC y.2.2.2.2.2.2.2.2.1),(oC [(Sl.v 1 y.2.2.2.2.2.2.2.2.2)]),(oC [(.func (.func 85) ⟨[]⟩ ⟨[pt 1 0,(pt 2 0),(pt 3 0)]⟩)])]))) (fun y=>Ji pu n (Gq pu n w0) y.1 y.2.1 y.2.2.1 y.2.2.2.1 y.2.2.2.2.1 y.2.2.2.2.2.1 y.2.2.2.2.2.2.1 y.2.2.2.2.2.2.2.1 y.2.2.2.2.2.2.2.2.1 y.2.2.2.2.2.2.2.2.2) ?_ ?_)
   ·rintro ⟨z13, z14, z15, z16, z17, z18, z19, b0, q3, s3⟩ hm
    unfold Ji at hm
    replace hm:=Ag hm;rcases hm with⟨h11,hm⟩ | ⟨h11,hm⟩
    ·refine .ifT b0 (by kernel_rfl) h11 ?_
     refine .skip ?_
     replace hm:=Ae hm;obtain⟨h12,hm⟩:=hm
     refine .ghs (fr 70 [(0,zI z13),(1,zI z14),(2,zI z15),(3,pt 1 0),(5,(pt 3 0)),(10,zI z16),(11,zI z17),(12,zI z18),(13,zI z19)]) (hT 4 [oC q3,(oC [Sl.v 1 s3]),(oC [(.func (.func 85) ⟨[]⟩ ⟨[pt 1 0,(pt 2 0),(pt 3 0)]⟩)])]) (.k [1] [false,false,false,true] [] [0,1,2,3,5,10,11,12,13] ⟨BI h12,trivial⟩) ?_
     refine .then (.block (.then ?_))
     replace hm:=Ab hm;obtain⟨k2,h13,hm⟩:=hm
     obtain rfl:=AR h13
     replace hm:=Ae hm;obtain⟨h14,hm⟩:=hm
     replace hm:=Ae hm;obtain⟨h15,hm⟩:=hm
     refine .reg (eC 4 (keep (hT 4 [oC q3,(oC [Sl.v 1 s3]),(oC [(.func (.func 85) ⟨[]⟩ ⟨[pt 1 0,(pt 2 0),(pt 3 0)]⟩)])]) (bb (Nat.blt k2 17) (some (.pointer (some ⟨1,(0+k2*1),none⟩))) none)) (AX h14) (eD (done (bb (an (Nat.ble ((0+k2*1)+1) (len q3)) true) (some (hT 4 [(oC (BM ([(zI (Aj .i64 (Int.sub z17 z18)))]:LV) (0+k2*1) q3)),(oC [Sl.v 1 s3]),(oC [(.func (.func 85) ⟨[]⟩ ⟨[pt 1 0,(pt 2 0),(pt 3 0)]⟩)])])) none) undef) (Js h15) (eE))) ?_
     replace hm:=Ae hm;obtain⟨h16,hm⟩:=hm
     refine .ghs (fr 70 [(0,(zI (Int.ofNat k2))),(1,zI z14),(2,zI z15),(3,pt 1 0),(5,(pt 3 0)),(10,zI z16),(11,zI z17),(12,zI z18),(13,zI z19)]) (hT 4 [(oC (BM ([(zI (Aj .i64 (Int.sub z17 z18)))]:LV) (0+k2*1) q3)),(oC [Sl.v 1 s3]),(oC [(.func (.func 85) ⟨[]⟩ ⟨[pt 1 0,(pt 2 0),(pt 3 0)]⟩)])]) (.k [1] [false,false,false,true] [] [0,1,2,3,5,10,11,12,13] ⟨BI h16,trivial⟩) ?_
     refine .then ?_
     replace hm:=Ae hm;obtain⟨h17,hm⟩:=hm
     replace hm:=Ab hm;obtain⟨v0,h18,hm⟩:=hm
     replace hm:=Ch hm;obtain⟨l0,rfl,hm⟩:=hm
     replace hm:=Ad hm;obtain⟨v1,l10139_0,rfl,hm⟩:=hm
     replace hm:=Ad hm;obtain⟨v2,l10139_1,rfl,hm⟩:=hm
     replace hm:=Ad hm;obtain⟨v3,l10139_2,rfl,hm⟩:=hm
     replace hm:=Ad hm;obtain⟨v4,l10139_3,rfl,hm⟩:=hm
     replace hm:=AC hm;obtain⟨rfl,hm⟩:=hm
     replace hm:=Ai hm;obtain⟨x2,rfl,hm⟩:=hm
     replace hm:=BG hm;obtain⟨q4,rfl,hm⟩:=hm
     replace hm:=BG hm;obtain⟨l2,rfl,hm⟩:=hm
     replace hm:=Ad hm;obtain⟨v5,l10149_0,rfl,hm⟩:=hm
     replace hm:=AC hm;obtain⟨rfl,hm⟩:=hm
     replace hm:=Al hm;obtain⟨s4,rfl,hm⟩:=hm
     replace hm:=BG hm;obtain⟨l3,rfl,hm⟩:=hm
     replace hm:=Ad hm;obtain⟨v6,l10154_0,rfl,hm⟩:=hm
     replace hm:=AC hm;obtain⟨rfl,hm⟩:=hm
     replace hm:=Ab hm;obtain⟨l4,h19,hm⟩:=hm
     obtain rfl:=JO h19
     replace hm:=Ad hm;obtain⟨v7,l10157_0,rfl,hm⟩:=hm
     replace hm:=Ad hm;obtain⟨v8,l10157_1,rfl,hm⟩:=hm
     replace hm:=Ad hm;obtain⟨v9,l10157_2,rfl,hm⟩:=hm
     replace hm:=AC hm;obtain⟨rfl,hm⟩:=hm
     replace hm:=Ae hm;obtain⟨h20,hm⟩:=hm
     obtain rfl:=Eo h20
     replace hm:=Ae hm;obtain⟨h21,hm⟩:=hm
     obtain rfl:=Eo h21
     replace hm:=Ae hm;obtain⟨h22,hm⟩:=hm
     obtain rfl:=Eo h22
     replace hm:=Ae hm;obtain⟨h23,hm⟩:=hm
     refine .reg (eC 12 (Gn tabs [[none],[none],[none],[none],[none],[none]] 6 [.tmp 3 false,.tmp 4 false,.tmp 5 true] [false,false,true] (pu 10850) [(zI (Aj .i64 (Int.add (Int.ofNat k2) (1:Int)))),(zI (Aj .i64 (Int.sub z14 (Aj .i64 (Int.mul z18 (Int.ofNat k2)))))),(zI (Aj .i64 (Int.mul z15 z19))),pt 1 0,(pt 2 0),(pt 3 0)] (hT 4 [(oC (BM ([(zI (Aj .i64 (Int.sub z17 z18)))]:LV) (0+k2*1) q3)),(oC [Sl.v 1 s3]),(oC [(.func (.func 85) ⟨[]⟩ ⟨[pt 1 0,(pt 2 0),(pt 3 0)]⟩)])])) (FY (as:=[(zI (Aj .i64 (Int.add (Int.ofNat k2) (1:Int)))),(zI (Aj .i64 (Int.sub z14 (Aj .i64 (Int.mul z18 (Int.ofNat k2)))))),(zI (Aj .i64 (Int.mul z15 z19))),pt 1 0,(pt 2 0),(pt 3 0)]) (H1:=(hT 4 [(oC (BM ([(zI (Aj .i64 (Int.sub z17 z18)))]:LV) (0+k2*1) q3)),(oC [Sl.v 1 s3]),(oC [(.func (.func 85) ⟨[]⟩ ⟨[pt 1 0,(pt 2 0),(pt 3 0)]⟩)])])) (CK (DR Ey) (CK (DR Ey) (CK (DR Ey) (CK (DR Ey) (CK (DR Ey) (CK (DR Ey) Iz)))))) (FX (H2:=(hT 4 [oC q4,(oC [Sl.v 1 s4]),(oC [(.func (.func 85) ⟨[]⟩ ⟨[pt 1 0,(pt 2 0),(pt 3 0)]⟩)])])) (v:=(zI x2)) (v':=(zI x2)) [some 0,some 1,some 2,some 3] [(false,some 1),(false,some 2),(true,some 3)] [(oC (BM ([(zI (Aj .i64 (Int.sub z17 z18)))]:LV) (0+k2*1) q3)),(oC [Sl.v 1 s3]),(oC [(.func (.func 85) ⟨[]⟩ ⟨[pt 1 0,(pt 2 0),(pt 3 0)]⟩)])] [(zI (Aj .i64 (Int.add (Int.ofNat k2) (1:Int)))),(zI (Aj .i64 (Int.sub z14 (Aj .i64 (Int.mul z18 (Int.ofNat k2)))))),(zI (Aj .i64 (Int.mul z15 z19))),pt 1 0,(pt 2 0),(pt 3 0)] [(.agg ⟨q4⟩),(.agg ⟨[Sl.v 1 s4]⟩),(.agg ⟨[(.func (.func 85) ⟨[]⟩ ⟨[pt 1 0,(pt 2 0),(pt 3 0)]⟩)]⟩)] [oC q4,(oC [Sl.v 1 s4]),(oC [(.func (.func 85) ⟨[]⟩ ⟨[pt 1 0,(pt 2 0),(pt 3 0)]⟩)])] [some 0,some 1,some 2,some 3] [(false,oC q4),(false,(oC [Sl.v 1 s4])),(true,(oC [(.func (.func 85) ⟨[]⟩ ⟨[pt 1 0,(pt 2 0),(pt 3 0)]⟩)]))] [oC q4,(oC [Sl.v 1 s4]),(oC [(.func (.func 85) ⟨[]⟩ ⟨[pt 1 0,(pt 2 0),(pt 3 0)]⟩)])] (by kernel_rfl) (Cz (KT (anc:=[]) h17) (Cz (by kernel_rfl) (Cz (by kernel_rfl) C8))) (Eq.trans (by kernel_rfl) h18) (Cz rfl (Cz rfl (Cz rfl C8))) (Cz (JN h23) (Cz (by kernel_rfl) (Cz (by kernel_rfl) C8))))) (eE)) ?_
     replace hm:=Ae hm;obtain⟨h24,hm⟩:=hm
     refine .ghs (fr 70 [(0,(zI (Int.ofNat k2))),(1,zI z14),(2,zI z15),(3,pt 1 0),(5,(pt 3 0)),(10,(zI (Aj .i64 (Int.add z16 x2)))),(11,zI z17),(12,zI z18),(13,zI z19)]) (hT 4 [oC q4,(oC [Sl.v 1 s4]),(oC [(.func (.func 85) ⟨[]⟩ ⟨[pt 1 0,(pt 2 0),(pt 3 0)]⟩)])]) (.k [1] [false,false,false,true] [] [0,1,2,3,5,10,11,12,13] ⟨BI h24,trivial⟩) ?_
     replace hm:=Ae hm;obtain⟨h25,hm⟩:=hm
     refine .reg (eC 7 (keep (hT 4 [oC q4,(oC [Sl.v 1 s4]),(oC [(.func (.func 85) ⟨[]⟩ ⟨[pt 1 0,(pt 2 0),(pt 3 0)]⟩)])]) (bb (Bd (Aj .i64 (Int.add z18 (1:Int))) (0:Int)) none (some (zI (Aj .i64 (Int.tdiv (Aj .i64 (Int.mul z19 (Aj .i64 (Int.sub z17 z18)))) (Aj .i64 (Int.add z18 (1:Int))))))))) (XH h25) (eE)) ?_
     refine .ghs (fr 70 [(0,(zI (Int.ofNat k2))),(1,zI z14),(2,zI z15),(3,pt 1 0),(5,(pt 3 0)),(10,(zI (Aj .i64 (Int.add z16 x2)))),(11,zI z17),(12,zI z18),(13,(zI (Aj .i64 (Int.tdiv (Aj .i64 (Int.mul z19 (Aj .i64 (Int.sub z17 z18)))) (Aj .i64 (Int.add z18 (1:Int)))))))]) (hT 4 [oC q4,(oC [Sl.v 1 s4]),(oC [(.func (.func 85) ⟨[]⟩ ⟨[pt 1 0,(pt 2 0),(pt 3 0)]⟩)])]) (.k [1] [false,false,false,true] [] [0,1,2,3,5,10,11,12,13] ⟨BI h24,trivial⟩) ?_
     refine .rK ?_
     exact⟨((Int.ofNat k2),z14,z15,(Aj .i64 (Int.add z16 x2)),z17,(Aj .i64 (Int.add z18 (1:Int))),(Aj .i64 (Int.tdiv (Aj .i64 (Int.mul z19 (Aj .i64 (Int.sub z17 z18)))) (Aj .i64 (Int.add z18 (1:Int))))),q4,s4),hm,(.k [1] [false,false,false,true] [] [0,1,2,3,5,10,11,12,13] ⟨BI h24,trivial⟩)⟩
    ·refine .ifF b0 (by kernel_rfl) h11 ?_
     refine .exit ?_
     replace hm:=Ae hm;obtain⟨h26,hm⟩:=hm
     exact⟨(z13,z16,z17,q3,s3),hm,(.k [1] [false,false,false,true] [] [0,3,10,11] ⟨BI h26,trivial⟩)⟩
   ·replace hm := Ag hm; rcases hm with ⟨h27, hm⟩ | ⟨h27, hm⟩
    ·refine .reg (eC 2 (some ((zB (nt (AY z10 z11))), (hT 4 [oC q2, (oC [Sl.v 1 s2]), (oC [(.func (.func 85) ⟨[]⟩ ⟨[pt 1 0, (pt 2 0), (pt 3 0)]⟩)])]))) (show _ = some ((zB true), _) from (by rw [show (nt (AY z10 z11)) = true from h27])) (eE)) ?_
     replace hm:=Ae hm;obtain⟨h28,hm⟩:=hm
     exact⟨(z6,z7,z8,z9,z10,z11,z12,(nt (AY z7 (Aj .i64 (Int.mul z11 z6)))),q2,s2),hm,(.k [1] [false,false,false,true] [] [0,1,2,3,5,10,11,12,13,36] ⟨BI h28,trivial⟩)⟩
    ·refine .reg (eC 2 (some ((zB (nt (AY z10 z11))), (hT 4 [oC q2, (oC [Sl.v 1 s2]), (oC [(.func (.func 85) ⟨[]⟩ ⟨[pt 1 0, (pt 2 0), (pt 3 0)]⟩)])]))) (show _ = some ((zB false), _) from (by rw [show (nt (AY z10 z11)) = false from h27])) (eE)) ?_
     replace hm:=Ae hm;obtain⟨h29,hm⟩:=hm
     exact⟨(z6,z7,z8,z9,z10,z11,z12,false,q2,s2),hm,(.k [1] [false,false,false,true] [] [0,1,2,3,5,10,11,12,13,36] ⟨BI h29,trivial⟩)⟩
theorem Aa9 {call:A8} (pu:Af) (n:Nat) (hcall:call=Bb tabs isP pu (inl pu)) {args:LV} {os:List AJ} {z:Value} (ha:args.length=6) (hk:os.length=3) (hpl:∀ o∈os,plainO o) (hm:LJ pu n (args++os.map Ef)=some z):args.length≤70∧BN tt call (tabs.length+3) Ni (Fr.made 70 args) (BK tabs os) (FJ tt tabs.length 3 [.tmp 9] z):=by
 subst hcall
 have hq:=Co ha;clear ha;obtain⟨a0,args,rfl,ha⟩:=hq
 have hq:=Co ha;clear ha;obtain⟨a1,args,rfl,ha⟩:=hq
 have hq:=Co ha;clear ha;obtain⟨a2,args,rfl,ha⟩:=hq
 have hq:=Co ha;clear ha;obtain⟨a3,args,rfl,ha⟩:=hq
 have hq:=Co ha;clear ha;obtain⟨a4,args,rfl,ha⟩:=hq
 have hq:=Co ha;clear ha;obtain⟨a5,args,rfl,ha⟩:=hq
 obtain rfl:=len_nil ha
 have hq:=Co hk;clear hk;obtain⟨b0,os,rfl,hk⟩:=hq
 have hp0:plainO b0:=hpl b0 (by simp)
 have hq:=Co hk;clear hk;obtain⟨b1,os,rfl,hk⟩:=hq
 have hp1:plainO b1:=hpl b1 (by simp)
 have hq:=Co hk;clear hk;obtain⟨b2,os,rfl,hk⟩:=hq
 have hp2:plainO b2:=hpl b2 (by simp)
 obtain rfl:=len_nil hk
 replace hm:LJ pu n [a0,a1,a2,a3,a4,a5,Ef b0,Ef b1,Ef b2]=some z:=hm
 unfold LJ at hm
 replace hm:(oo (Bi .i64 a0) none fun x0=>(oo (Bi .i64 a1) none fun x1=>(oo (Bi .i64 a2) none fun x2=>(bb (Gm a3 1 0) (bb (Gm a4 2 0) (bb (Gm a5 3 0) (oo (Bt (Ef b0)) none fun q0=>(oo (Bt (Ef b1)) none fun l0=>(ll l0 none fun v0 l0=>(ll l0 (oo (Bj 1 v0) none fun s0=>(oo (Bt (Ef b2)) none fun l1=>(ll l1 none fun v1 l1=>(ll l1 (oo (SQ 85 0 v1) none fun l2=>(ll l2 none fun v2 l2=>(ll l2 none fun v3 l2=>(ll l2 none fun v4 l2=>(ll l2 (bb (Gm v2 1 0) (bb (Gm v3 2 0) (bb (Gm v4 3 0) (Nf pu n x0 x1 x2 q0 s0) none) none) none) fun _ _=>none))))) fun _ _=>none)))) fun _ _=>none)))) none) none) none))))=some z:=hm
 replace hm:=Ai hm;obtain⟨x0,rfl,hm⟩:=hm
 replace hm:=Ai hm;obtain⟨x1,rfl,hm⟩:=hm
 replace hm:=Ai hm;obtain⟨x2,rfl,hm⟩:=hm
 replace hm:=Ae hm;obtain⟨h0,hm⟩:=hm
 obtain rfl:=Eo h0
 replace hm:=Ae hm;obtain⟨h1,hm⟩:=hm
 obtain rfl:=Eo h1
 replace hm:=Ae hm;obtain⟨h2,hm⟩:=hm
 obtain rfl:=Eo h2
 replace hm:=Ab hm;obtain⟨q0,h3,hm⟩:=hm
 obtain rfl:=Jb hp0 h3
 replace hm:=Ab hm;obtain⟨l0,h4,hm⟩:=hm
 obtain rfl:=Jb hp1 h4
 replace hm:=Ad hm;obtain⟨v0,l10185_0,rfl,hm⟩:=hm
 replace hm:=AC hm;obtain⟨rfl,hm⟩:=hm
 replace hm:=Al hm;obtain⟨s0,rfl,hm⟩:=hm
 replace hm:=Ab hm;obtain⟨l1,h5,hm⟩:=hm
 obtain rfl:=Jb hp2 h5
 replace hm:=Ad hm;obtain⟨v1,l10190_0,rfl,hm⟩:=hm
 replace hm:=AC hm;obtain⟨rfl,hm⟩:=hm
 replace hm:=Ab hm;obtain⟨l2,h6,hm⟩:=hm
 obtain rfl:=JO h6
 replace hm:=Ad hm;obtain⟨v2,l10193_0,rfl,hm⟩:=hm
 replace hm:=Ad hm;obtain⟨v3,l10193_1,rfl,hm⟩:=hm
 replace hm:=Ad hm;obtain⟨v4,l10193_2,rfl,hm⟩:=hm
 replace hm:=AC hm;obtain⟨rfl,hm⟩:=hm
 replace hm:=Ae hm;obtain⟨h7,hm⟩:=hm
 obtain rfl:=Eo h7
 replace hm:=Ae hm;obtain⟨h8,hm⟩:=hm
 obtain rfl:=Eo h8
 replace hm:=Ae hm;obtain⟨h9,hm⟩:=hm
 obtain rfl:=Eo h9
 refine⟨by simp,?_⟩
 exact .same (F':=(fr 70 [(0,zI x0),(1,zI x1),(2,zI x2),(3,pt 1 0),(4,(pt 2 0)),(5,(pt 3 0))])) (H':=(hT 4 [oC q0,(oC [Sl.v 1 s0]),(oC [(.func (.func 85) ⟨[]⟩ ⟨[pt 1 0,(pt 2 0),(pt 3 0)]⟩)])])) (by kernel_rfl) (by kernel_rfl) (Sj pu n x0 x1 x2 q0 s0 hm)
end
end Go.BkUM
set_option maxRecDepth 100000
namespace Go.BkUM
open Go.Sp Go.BkU
noncomputable section
def L:Nat:=1000000
def LK (pu:Af):Af:=fun g args=>
 bb (Nat.beq g 5) (m5 pu L args) (bb (Nat.beq g 23) (m23 pu L args) (bb (Nat.beq g 24) (m24 pu L args) (bb (Nat.beq g 25) (m25 pu L args) (bb (Nat.beq g 26) (m26 pu L args) (bb (Nat.beq g 27) (m27 pu L args) (bb (Nat.beq g 28) (m28 pu L args) (bb (Nat.beq g 34) (m34 pu L args) (bb (Nat.beq g 36) (m36 pu L args) (bb (Nat.beq g 43) (m43 pu L args) (bb (Nat.beq g 44) (m44 pu L args) (bb (Nat.beq g 45) (m45 pu L args) (bb (Nat.beq g 47) (m47 pu L args) (bb (Nat.beq g 49) (m49 pu L args) (bb (Nat.beq g 50) (m50 pu L args) (bb (Nat.beq g 55) (m55 pu L args) (bb (Nat.beq g 56) (m56 pu L args) (bb (Nat.beq g 57) (m57 pu L args) (bb (Nat.beq g 58) (m58 pu L args) (bb (Nat.beq g 59) (m59 pu L args) (bb (Nat.beq g 60) (m60 pu L args) (bb (Nat.beq g 61) (m61 pu L args) (bb (Nat.beq g 62) (m62 pu L args) (bb (Nat.beq g 63) (m63 pu L args) (bb (Nat.beq g 75) (m75 pu L args) (bb (Nat.beq g 76) (m76 pu L args) (bb (Nat.beq g 77) (m77 pu L args) (bb (Nat.beq g 80) (m80 pu L args) (bb (Nat.beq g 81) (m81 pu L args) (bb (Nat.beq g 91) (m91 pu L args) (bb (Nat.beq g 92) (m92 pu L args) (bb (Nat.beq g 93) (m93 pu L args) (bb (Nat.beq g 10090) (K8 pu L args) (bb (Nat.beq g 10640) (K9 pu L args) (bb (Nat.beq g 10480) (OW pu L args) (bb (Nat.beq g 10481) (OZ pu L args) (bb (Nat.beq g 10850) (LJ pu L args) (bb (Nat.beq g 10) (TN args) (bb (Nat.beq g 84) (TV args) (bb (Nat.beq g 98) (TW args) (none))))))))))))))))))))))))))))))))))))))))
def Ps:Nat→Af:=fun n=>Nat.rec (motive:=fun _=>Af) (fun _ _=>none) (fun _ ih=>LK ih) n
end
end Go.BkUM
