/- Made from wip. -/
import Derived.Test.YtlgmapibifphaaaDoorMnOMod1x

set_option maxRecDepth 100000
set_option maxHeartbeats 20000000
set_option linter.unusedVariables false
namespace Go.MnOM
open Go.Sp Go.MnO
noncomputable section
def WB (pu:Af) (n:Nat) (z0:Int):OV:=
 (some (.int .i64 z0))
def Pi (pu:Af) (n:Nat) (ih0:Int→Sl→Int→Int→OV) (z0:Int) (s0:Sl) (z1 z2:Int):OV:=
 (bb (AY z2 z1) (oo (EA z2) none fun k1=>(bb (an (Nat.blt k1 (Sl.n s0)) true) (oo (AL (Sl.cs s0) (k1*1)) none fun v0=>(oo (Bi .i64 v0) none fun x0=>(ih0 (Aj .i64 (Int.add (Aj .i64 (Int.mul (8:Int) z0)) x0)) s0 z1 (Aj .i64 (Int.add (Int.ofNat k1) (1:Int)))))) none)) (WB pu n z0))
def Pj (pu:Af) (n w:Nat):Int→Sl→Int→Int→OV:=
 Nat.rec (motive:=fun _=>Int→Sl→Int→Int→OV) (fun _ _ _ _=>none) (fun _ ih0=>Pi pu n ih0) w
def AaR (pu:Af) (n:Nat) (s0:Sl):OV:=
 (Pj pu n n (0:Int) s0 (Int.ofNat (Sl.n s0)) (0:Int))
def m23 (pu:Af) (n:Nat) (args:LV):OV:=
 (ll args none fun a0 args=>(ll args (oo (Bj 1 a0) none fun s0=>(AaR pu n s0)) fun _ _=>none))
theorem AaT (pu:Af) (n:Nat) (z0:Int) {v:Value} (hm:WB pu n z0=some v):BN tt (Bb tabs HV pu (inl pu)) 1 XU (fr 18 [(3,zI z0)]) DT (Fin tt 1 [.tmp 2] v):=by
 unfold WB at hm
 refine .then (.rK (.ghs (fr 18 [(2,zI z0)]) DT (.k0 [false] [] [2]) ?_))
 refine .ret ?_
 exact Fp (zI z0) hm
theorem r23 {call:A8} (pu:Af) (n:Nat) (hcall:call=Bb tabs HV pu (inl pu)) {args:LV} {v:Value} (hm:m23 pu n args=some v) (_:∀ x∈args,closed2 x=true):args.length≤18∧BN tt call 1 R7 (Fr.made 18 args) (Ao tabs) (Fin tt 1 [.tmp 2] v):=by
 subst hcall
 unfold m23 at hm
 replace hm:=Ad hm;obtain⟨a0,args_0,rfl,hm⟩:=hm
 replace hm:=AC hm;obtain⟨rfl,hm⟩:=hm
 replace hm:=Al hm;obtain⟨s0,rfl,hm⟩:=hm
 unfold AaR at hm
 refine⟨by simp,?_⟩
 refine .same (F':=(fr 18 [(0,Sl.v 1 s0)])) (H':=DT) (by kernel_rfl) (by kernel_rfl) ?_
 refine .then (.rK (.ghs (fr 18 [(0,Sl.v 1 s0)]) DT (.k0 [false] [] [0]) ?_))
 refine .then (.rK (.ghs (fr 18 [(0,Sl.v 1 s0),(3,(zI (0:Int)))]) DT (.k0 [false] [] [0,3]) ?_))
 refine .join (v:=v) (fun y:Int=>((fr 18 [(3,zI y)]),DT)) (fun y=>WB pu n y) ?_ ?_
 ·rintro z0 hm
  exact AaT pu n z0 hm
 ·refine .then (.rK (.ghs (fr 18 [(3,(zI (0:Int))),(6,Sl.v 1 s0),(7,(zI (Int.ofNat (Sl.n s0)))),(8,(zI (0:Int)))]) DT (.k0 [false] [] [3,6,7,8]) ?_))
  refine .block (.loopM (v:=v) (fun y:Int×Sl×Int×Int=>((fr 18 [(3,(zI y.1)),(6,(Sl.v 1 y.2.1)),(7,(zI y.2.2.1)),(8,(zI y.2.2.2))]),DT)) (fun w y=>Pj pu n w y.1 y.2.1 y.2.2.1 y.2.2.2) n ⟨((0:Int),s0,(Int.ofNat (Sl.n s0)),(0:Int)),hm,(.k0 [false] [] [3,6,7,8])⟩ (fun _=>rfl) ?_)
  rintro w0 ⟨z1,s1,z2,z3⟩ hm
  replace hm:Pi pu n (Pj pu n w0) z1 s1 z2 z3=some v:=hm
  unfold Pi at hm
  refine .then (.rK (.ghs (fr 18 [(3,zI z1),(6,Sl.v 1 s1),(7,zI z2),(8,zI z3),(9,(zB (AY z3 z2)))]) DT (.k0 [false] [] [3,6,7,8,9]) ?_))
  refine .then ?_
  replace hm:=Ag hm;rcases hm with⟨h0,hm⟩ | ⟨h0,hm⟩
  ·refine FX (AY z3 z2) h0 ?_
   refine .skip (.ghs (fr 18 [(3,zI z1),(6,Sl.v 1 s1),(7,zI z2),(8,zI z3)]) DT (.k0 [false] [] [3,6,7,8]) ?_)
   refine .then (.block (.then ?_))
   replace hm:=Ab hm;obtain⟨k1,h1,hm⟩:=hm
   obtain rfl:=AR h1
   replace hm:=Ae hm;obtain⟨h2,hm⟩:=hm
   replace hm:=Hy hm;obtain⟨x0,h3,hm⟩:=hm
   refine .reg (eD (keep DT (bb (an (Nat.blt k1 (Sl.n s1)) true) (some (Cv (k1*1) (Sl.cs s1))) none)) (AX h2) (eD (keep DT (AL (Sl.cs s1) (k1*1))) (AZ h3) (eE))) ?_
   refine .ghs (fr 18 [(3,zI z1),(5,zI x0),(6,Sl.v 1 s1),(7,zI z2),(8,(zI (Int.ofNat k1)))]) DT (.k0 [false] [] [3,5,6,7,8]) ?_
   refine .rK (.ghs (fr 18 [(3,(zI (Aj .i64 (Int.add (Aj .i64 (Int.mul (8:Int) z1)) x0)))),(6,Sl.v 1 s1),(7,zI z2),(8,(zI (Int.ofNat k1)))]) DT (.k0 [false] [] [3,6,7,8]) ?_)
   refine .rK ?_
   exact⟨((Aj .i64 (Int.add (Aj .i64 (Int.mul (8:Int) z1)) x0)),s1,z2,(Aj .i64 (Int.add (Int.ofNat k1) (1:Int)))),hm,(.k0 [false] [] [3,6,7,8])⟩
  ·refine FY (AY z3 z2) h0 ?_
   refine .exit ?_
   exact⟨z1,hm,(.k0 [false] [] [3])⟩

def bK (pu:Af) (n:Nat) (s0:Sl) (x0 x1:Int):OV:=
 (bb (Nat.beq (Sl.n s0) 0) (oo (EA x1) none fun k1=>(bb (an (Nat.blt k1 0) true) (oo (AL ([]:LV) (0+k1*1)) none fun v0=>(oo (Bi .i64 v0) none fun x2=>(oo (EA x0) none fun k2=>(bb (an (Nat.blt k2 0) true) (oo (AL ([]:LV) (0+k2*1)) none fun v1=>(oo (Bi .i64 v1) none fun x3=>(bb (an (Nat.blt k2 0) true) (bb (an (Nat.ble ((0+k2*1)+1) (len ([]:LV))) true) (bb (an (Nat.blt k1 0) true) (bb (an (Nat.ble ((0+k1*1)+1) (len (BM ([.int .i64 x2]:LV) (0+k2*1) ([]:LV)))) true) (bb (Au Ah (BM ([.int .i64 x3]:LV) (0+k1*1) (BM ([.int .i64 x2]:LV) (0+k2*1) ([]:LV)))) (bb (an (Nat.ble (0+0*1) (len (BM ([.int .i64 x3]:LV) (0+k1*1) (BM ([.int .i64 x2]:LV) (0+k2*1) ([]:LV))))) (Au Ah (Aq (0*1) (Am 0 (BM ([.int .i64 x3]:LV) (0+k1*1) (BM ([.int .i64 x2]:LV) (0+k2*1) ([]:LV))))))) (some (Sl.v 1 (Sl.mk 0 0 (Aq (0*1) (Am 0 (BM ([.int .i64 x3]:LV) (0+k1*1) (BM ([.int .i64 x2]:LV) (0+k2*1) ([]:LV)))))))) none) none) none) none) none) none))) none)))) none)) (bb (EQ (0+(Sl.n s0)) 8) (bb (Au Ah (Aq ((Sl.n s0)*1) (Sl.cs s0))) (oo (EA x1) none fun k3=>(bb (an (Nat.blt k3 (0+(Sl.n s0))) true) (oo (AL (Aq ((Sl.n s0)*1) (Sl.cs s0)) (0+k3*1)) none fun v2=>(oo (Bi .i64 v2) none fun x4=>(oo (EA x0) none fun k4=>(bb (an (Nat.blt k4 (0+(Sl.n s0))) true) (oo (AL (Aq ((Sl.n s0)*1) (Sl.cs s0)) (0+k4*1)) none fun v3=>(oo (Bi .i64 v3) none fun x5=>(bb (an (Nat.blt k4 (0+(Sl.n s0))) true) (bb (an (Nat.ble ((0+k4*1)+1) (len (Aq ((Sl.n s0)*1) (Sl.cs s0)))) true) (bb (an (Nat.blt k3 (0+(Sl.n s0))) true) (bb (an (Nat.ble ((0+k3*1)+1) (len (BM ([.int .i64 x4]:LV) (0+k4*1) (Aq ((Sl.n s0)*1) (Sl.cs s0))))) true) (bb (Au Ah (BM ([.int .i64 x5]:LV) (0+k3*1) (BM ([.int .i64 x4]:LV) (0+k4*1) (Aq ((Sl.n s0)*1) (Sl.cs s0))))) (bb (an (Nat.ble (0+(0+(Sl.n s0))*1) (len (BM ([.int .i64 x5]:LV) (0+k3*1) (BM ([.int .i64 x4]:LV) (0+k4*1) (Aq ((Sl.n s0)*1) (Sl.cs s0)))))) (Au Ah (Aq ((0+(Sl.n s0))*1) (Am 0 (BM ([.int .i64 x5]:LV) (0+k3*1) (BM ([.int .i64 x4]:LV) (0+k4*1) (Aq ((Sl.n s0)*1) (Sl.cs s0)))))))) (some (Sl.v 1 (Sl.mk (0+(Sl.n s0)) 0 (Aq ((0+(Sl.n s0))*1) (Am 0 (BM ([.int .i64 x5]:LV) (0+k3*1) (BM ([.int .i64 x4]:LV) (0+k4*1) (Aq ((Sl.n s0)*1) (Sl.cs s0))))))))) none) none) none) none) none) none))) none)))) none)) none) none))
def uY (pu:Af) (n:Nat) (args:LV):OV:=
 (ll args none fun a0 args=>(ll args none fun a1 args=>(ll args none fun a2 args=>(ll args (oo (Bj 1 a0) none fun s0=>(oo (Bi .i64 a1) none fun x0=>(oo (Bi .i64 a2) none fun x1=>(bK pu n s0 x0 x1)))) fun _ _=>none))))
theorem r24 {call:A8} (pu:Af) (n:Nat) (hcall:call=Bb tabs HV pu (inl pu)) {args:LV} {v:Value} (hm:uY pu n args=some v) (_:∀ x∈args,closed2 x=true):args.length≤26∧BN tt call 1 Wq (Fr.made 26 args) (Ao tabs) (Fin tt 1 [.tmp 6] v):=by
 subst hcall
 unfold uY at hm
 replace hm:=Ad hm;obtain⟨a0,args_0,rfl,hm⟩:=hm
 replace hm:=Ad hm;obtain⟨a1,args_1,rfl,hm⟩:=hm
 replace hm:=Ad hm;obtain⟨a2,args_2,rfl,hm⟩:=hm
 replace hm:=AC hm;obtain⟨rfl,hm⟩:=hm
 replace hm:=Al hm;obtain⟨s0,rfl,hm⟩:=hm
 replace hm:=Ai hm;obtain⟨x0,rfl,hm⟩:=hm
 replace hm:=Ai hm;obtain⟨x1,rfl,hm⟩:=hm
 unfold bK at hm
 refine⟨by simp,?_⟩
 refine .same (F':=(fr 26 [(0,Sl.v 1 s0),(1,zI x0),(2,zI x1)])) (H':=DT) (by kernel_rfl) (by kernel_rfl) ?_
 refine .then (.rK (.ghs (fr 26 [(0,Sl.v 1 s0),(1,zI x0),(2,zI x1)]) DT (.k0 [false] [] [0,1,2]) ?_))
 refine .then ?_
 replace hm:=Ag hm;rcases hm with⟨h0,hm⟩ | ⟨h0,hm⟩
 ·refine .reg (eC 2 (Ql (hT 2 [(oC [])]) 1 8 (sc 1 0 1 0 1) s0) (Ze h0) (eE)) ?_
  refine .ghs (fr 26 [(1,zI x0),(2,zI x1),(7,sc 1 0 1 0 1)]) (hT 2 [(oC [])]) (.k0 [false] [.tmp 7 false] [1,2,7]) ?_
  refine .then ?_
  replace hm:=Ab hm;obtain⟨k1,h1,hm⟩:=hm
  obtain rfl:=AR h1
  replace hm:=Ae hm;obtain⟨h2,hm⟩:=hm
  replace hm:=Hy hm;obtain⟨x2,h3,hm⟩:=hm
  replace hm:=Ab hm;obtain⟨k2,h4,hm⟩:=hm
  obtain rfl:=AR h4
  replace hm:=Ae hm;obtain⟨h5,hm⟩:=hm
  replace hm:=Hy hm;obtain⟨x3,h6,hm⟩:=hm
  replace hm:=Ae hm;obtain⟨h7,hm⟩:=hm
  replace hm:=Ae hm;obtain⟨h8,hm⟩:=hm
  replace hm:=Ae hm;obtain⟨h9,hm⟩:=hm
  replace hm:=Ae hm;obtain⟨h10,hm⟩:=hm
  refine .reg (eN 11 (Fr.puts (fr 26 [(1,(zI (Int.ofNat k2))),(2,(zI (Int.ofNat k1))),(7,sc 1 0 1 0 1)]) [(11,sc 1 0 1 0 1),(12,(zI (Int.ofNat k2))),(13,sc 1 0 1 0 1),(14,(zI (Int.ofNat k1))),(15,sc 1 0 1 0 1),(16,(zI (Int.ofNat k1))),(17,(.pointer (some ⟨1,(0+k1*1),none⟩))),(18,zI x2),(19,sc 1 0 1 0 1),(20,(zI (Int.ofNat k2))),(21,(.pointer (some ⟨1,(0+k2*1),none⟩)))]) (hT 2 [(oC [])]) (eC 6 (keep (hT 2 [(oC [])]) (bb (an (Nat.blt k1 0) true) (some (.pointer (some ⟨1,(0+k1*1),none⟩))) none)) (AX h2) (eD (keep (hT 2 [(oC [])]) (AL ([]:LV) (0+k1*1))) (AZ h3) (eC 2 (keep (hT 2 [(oC [])]) (bb (an (Nat.blt k2 0) true) (some (.pointer (some ⟨1,(0+k2*1),none⟩))) none)) (AX h5) (by kernel_rfl)))) (eD (keep (hT 2 [(oC [])]) (AL ([]:LV) (0+k2*1))) (AZ h6) (eD (keep (hT 2 [(oC [])]) (bb (an (Nat.blt k2 0) true) (some (.pointer (some ⟨1,(0+k2*1),none⟩))) none)) (AX h7) (eD (done (bb (an (Nat.ble ((0+k2*1)+1) (len ([]:LV))) true) (some (hT 2 [(oC (BM ([zI x2]:LV) (0+k2*1) ([]:LV)))])) none) undef) (Js h8) (eD (keep (hT 2 [(oC (BM ([zI x2]:LV) (0+k2*1) ([]:LV)))]) (bb (an (Nat.blt k1 0) true) (some (.pointer (some ⟨1,(0+k1*1),none⟩))) none)) (AX h9) (eD (done (bb (an (Nat.ble ((0+k1*1)+1) (len (BM ([zI x2]:LV) (0+k2*1) ([]:LV)))) true) (some (hT 2 [(oC (BM ([zI x3]:LV) (0+k1*1) (BM ([zI x2]:LV) (0+k2*1) ([]:LV))))])) none) undef) (Js h10) (eE))))))) ?_
  replace hm:=Ae hm;obtain⟨h11,hm⟩:=hm
  refine .ghs (fr 26 [(7,sc 1 0 1 0 1)]) (hT 2 [(oC (BM ([zI x3]:LV) (0+k1*1) (BM ([zI x2]:LV) (0+k2*1) ([]:LV))))]) (.k [1] [false] [.tmp 7 false] [7] ⟨Dy h11,trivial⟩) ?_
  refine .then (.rK (.ghs (fr 26 [(6,sc 1 0 1 0 1)]) (hT 2 [(oC (BM ([zI x3]:LV) (0+k1*1) (BM ([zI x2]:LV) (0+k2*1) ([]:LV))))]) (.k [1] [false] [.tmp 6 false] [6] ⟨Dy h11,trivial⟩) ?_))
  replace hm:=Ae hm;obtain⟨h12,hm⟩:=hm
  refine .ghs (Fr.puts (fr 26 [(6,sc 1 0 1 0 1)]) [(6,(Sl.v 1 (Sl.mk 0 0 (Aq (0*1) (Am 0 (BM ([zI x3]:LV) (0+k1*1) (BM ([zI x2]:LV) (0+k2*1) ([]:LV))))))))]) (hT 2 [.dead]) (.freezeC 1 6 1 (an (Nat.ble (0+0*1) (len (BM ([zI x3]:LV) (0+k1*1) (BM ([zI x2]:LV) (0+k2*1) ([]:LV))))) (Au Ah (Aq (0*1) (Am 0 (BM ([zI x3]:LV) (0+k1*1) (BM ([zI x2]:LV) (0+k2*1) ([]:LV))))))) (F1:=(Fr.puts (fr 26 [(6,sc 1 0 1 0 1)]) [(6,(Sl.v 1 (Sl.mk 0 0 (Aq (0*1) (Am 0 (BM ([zI x3]:LV) (0+k1*1) (BM ([zI x2]:LV) (0+k2*1) ([]:LV))))))))])) (H1:=(hT 2 [.dead])) (by kernel_rfl) (by kernel_rfl) h12 (E9.id _ _)) ?_
  refine .ret ?_
  exact Fp (Sl.v 1 (Sl.mk 0 0 (Aq (0*1) (Am 0 (BM ([zI x3]:LV) (0+k1*1) (BM ([zI x2]:LV) (0+k2*1) ([]:LV))))))) hm
 ·replace hm:=Ae hm;obtain⟨h13,hm⟩:=hm
  refine .reg (eC 2 (Ql (hT 2 [(oC [])]) 1 8 (sc 1 0 1 0 1) s0) (Zf h0 h13 (by kernel_rfl)) (eE)) ?_
  replace hm:=Ae hm;obtain⟨h14,hm⟩:=hm
  refine .ghs (fr 26 [(1,zI x0),(2,zI x1),(7,(sc 1 0 1 (0+(Sl.n s0)) (d2 (0+(Sl.n s0)))))]) (hT 2 [(oC (Aq ((Sl.n s0)*1) (Sl.cs s0)))]) (.k [2] [false] [.tmp 7 false] [1,2,7] ⟨Dy h14,trivial⟩) ?_
  refine .then ?_
  replace hm:=Ab hm;obtain⟨k3,h15,hm⟩:=hm
  obtain rfl:=AR h15
  replace hm:=Ae hm;obtain⟨h16,hm⟩:=hm
  replace hm:=Hy hm;obtain⟨x4,h17,hm⟩:=hm
  replace hm:=Ab hm;obtain⟨k4,h18,hm⟩:=hm
  obtain rfl:=AR h18
  replace hm:=Ae hm;obtain⟨h19,hm⟩:=hm
  replace hm:=Hy hm;obtain⟨x5,h20,hm⟩:=hm
  replace hm:=Ae hm;obtain⟨h21,hm⟩:=hm
  replace hm:=Ae hm;obtain⟨h22,hm⟩:=hm
  replace hm:=Ae hm;obtain⟨h23,hm⟩:=hm
  replace hm:=Ae hm;obtain⟨h24,hm⟩:=hm
  refine .reg (eN 11 (Fr.puts (fr 26 [(1,(zI (Int.ofNat k4))),(2,(zI (Int.ofNat k3))),(7,(sc 1 0 1 (0+(Sl.n s0)) (d2 (0+(Sl.n s0)))))]) [(11,(sc 1 0 1 (0+(Sl.n s0)) (d2 (0+(Sl.n s0))))),(12,(zI (Int.ofNat k4))),(13,(sc 1 0 1 (0+(Sl.n s0)) (d2 (0+(Sl.n s0))))),(14,(zI (Int.ofNat k3))),(15,(sc 1 0 1 (0+(Sl.n s0)) (d2 (0+(Sl.n s0))))),(16,(zI (Int.ofNat k3))),(17,(.pointer (some ⟨1,(0+k3*1),none⟩))),(18,zI x4),(19,(sc 1 0 1 (0+(Sl.n s0)) (d2 (0+(Sl.n s0))))),(20,(zI (Int.ofNat k4))),(21,(.pointer (some ⟨1,(0+k4*1),none⟩)))]) (hT 2 [(oC (Aq ((Sl.n s0)*1) (Sl.cs s0)))]) (eC 6 (keep (hT 2 [(oC (Aq ((Sl.n s0)*1) (Sl.cs s0)))]) (bb (an (Nat.blt k3 (0+(Sl.n s0))) true) (some (.pointer (some ⟨1,(0+k3*1),none⟩))) none)) (AX h16) (eD (keep (hT 2 [(oC (Aq ((Sl.n s0)*1) (Sl.cs s0)))]) (AL (Aq ((Sl.n s0)*1) (Sl.cs s0)) (0+k3*1))) (AZ h17) (eC 2 (keep (hT 2 [(oC (Aq ((Sl.n s0)*1) (Sl.cs s0)))]) (bb (an (Nat.blt k4 (0+(Sl.n s0))) true) (some (.pointer (some ⟨1,(0+k4*1),none⟩))) none)) (AX h19) (by kernel_rfl)))) (eD (keep (hT 2 [(oC (Aq ((Sl.n s0)*1) (Sl.cs s0)))]) (AL (Aq ((Sl.n s0)*1) (Sl.cs s0)) (0+k4*1))) (AZ h20) (eD (keep (hT 2 [(oC (Aq ((Sl.n s0)*1) (Sl.cs s0)))]) (bb (an (Nat.blt k4 (0+(Sl.n s0))) true) (some (.pointer (some ⟨1,(0+k4*1),none⟩))) none)) (AX h21) (eD (done (bb (an (Nat.ble ((0+k4*1)+1) (len (Aq ((Sl.n s0)*1) (Sl.cs s0)))) true) (some (hT 2 [(oC (BM ([zI x4]:LV) (0+k4*1) (Aq ((Sl.n s0)*1) (Sl.cs s0))))])) none) undef) (Js h22) (eD (keep (hT 2 [(oC (BM ([zI x4]:LV) (0+k4*1) (Aq ((Sl.n s0)*1) (Sl.cs s0))))]) (bb (an (Nat.blt k3 (0+(Sl.n s0))) true) (some (.pointer (some ⟨1,(0+k3*1),none⟩))) none)) (AX h23) (eD (done (bb (an (Nat.ble ((0+k3*1)+1) (len (BM ([zI x4]:LV) (0+k4*1) (Aq ((Sl.n s0)*1) (Sl.cs s0))))) true) (some (hT 2 [(oC (BM ([zI x5]:LV) (0+k3*1) (BM ([zI x4]:LV) (0+k4*1) (Aq ((Sl.n s0)*1) (Sl.cs s0)))))])) none) undef) (Js h24) (eE))))))) ?_
  replace hm:=Ae hm;obtain⟨h25,hm⟩:=hm
  refine .ghs (fr 26 [(7,(sc 1 0 1 (0+(Sl.n s0)) (d2 (0+(Sl.n s0)))))]) (hT 2 [(oC (BM ([zI x5]:LV) (0+k3*1) (BM ([zI x4]:LV) (0+k4*1) (Aq ((Sl.n s0)*1) (Sl.cs s0)))))]) (.k [1] [false] [.tmp 7 false] [7] ⟨Dy h25,trivial⟩) ?_
  refine .then (.rK (.ghs (fr 26 [(6,(sc 1 0 1 (0+(Sl.n s0)) (d2 (0+(Sl.n s0)))))]) (hT 2 [(oC (BM ([zI x5]:LV) (0+k3*1) (BM ([zI x4]:LV) (0+k4*1) (Aq ((Sl.n s0)*1) (Sl.cs s0)))))]) (.k [1] [false] [.tmp 6 false] [6] ⟨Dy h25,trivial⟩) ?_))
  replace hm:=Ae hm;obtain⟨h26,hm⟩:=hm
  refine .ghs (Fr.puts (fr 26 [(6,(sc 1 0 1 (0+(Sl.n s0)) (d2 (0+(Sl.n s0)))))]) [(6,(Sl.v 1 (Sl.mk (0+(Sl.n s0)) 0 (Aq ((0+(Sl.n s0))*1) (Am 0 (BM ([zI x5]:LV) (0+k3*1) (BM ([zI x4]:LV) (0+k4*1) (Aq ((Sl.n s0)*1) (Sl.cs s0)))))))))]) (hT 2 [.dead]) (.freezeC 1 6 1 (an (Nat.ble (0+(0+(Sl.n s0))*1) (len (BM ([zI x5]:LV) (0+k3*1) (BM ([zI x4]:LV) (0+k4*1) (Aq ((Sl.n s0)*1) (Sl.cs s0)))))) (Au Ah (Aq ((0+(Sl.n s0))*1) (Am 0 (BM ([zI x5]:LV) (0+k3*1) (BM ([zI x4]:LV) (0+k4*1) (Aq ((Sl.n s0)*1) (Sl.cs s0)))))))) (F1:=(Fr.puts (fr 26 [(6,(sc 1 0 1 (0+(Sl.n s0)) (d2 (0+(Sl.n s0)))))]) [(6,(Sl.v 1 (Sl.mk (0+(Sl.n s0)) 0 (Aq ((0+(Sl.n s0))*1) (Am 0 (BM ([zI x5]:LV) (0+k3*1) (BM ([zI x4]:LV) (0+k4*1) (Aq ((Sl.n s0)*1) (Sl.cs s0)))))))))])) (H1:=(hT 2 [.dead])) (by kernel_rfl) (by kernel_rfl) h26 (E9.id _ _)) ?_
  refine .ret ?_
  exact Fp (Sl.v 1 (Sl.mk (0+(Sl.n s0)) 0 (Aq ((0+(Sl.n s0))*1) (Am 0 (BM ([zI x5]:LV) (0+k3*1) (BM ([zI x4]:LV) (0+k4*1) (Aq ((Sl.n s0)*1) (Sl.cs s0)))))))) hm
def QJ (pu:Af) (n:Nat) (z0 z1 z2 z3:Int) (s0 s1:Sl) (z4:Int):OV:=
 (bb (nt (Bd z2 (0:Int))) (some (.tuple ⟨[(.agg ⟨[(.int .i64 (0:Int)),(Sl.v 1 (Sl.mk 0 2 [])),(Sl.v 1 (Sl.mk 0 2 []))]⟩),.int .i64 z2]⟩)) (oo (pu 43 [(.agg ⟨[.int .i64 z3,Sl.v 1 s0,Sl.v 1 s1]⟩),.int .i64 z0,.int .i64 z1]) none fun v0=>(oo (Bt v0) none fun l0=>(ll l0 none fun v1 l0=>(ll l0 none fun v2 l0=>(ll l0 none fun v3 l0=>(ll l0 (oo (Bi .i64 v1) none fun x0=>(oo (Bj 1 v2) none fun s2=>(oo (Bj 1 v3) none fun s3=>(some (.tuple ⟨[(.agg ⟨[.int .i64 x0,Sl.v 1 s2,Sl.v 1 s3]⟩),(.int .i64 (0:Int))]⟩))))) fun _ _=>none)))))))
def bL (pu:Af) (n:Nat) (x0:Int) (s0 s1:Sl) (x1 x2:Int):OV:=
 (oo (pu 47 [(.agg ⟨[.int .i64 x0,Sl.v 1 s0,Sl.v 1 s1]⟩)]) none fun v0=>(oo (Bi .i64 v0) none fun x3=>(bb (Bd x3 (0:Int)) (oo (pu 57 [(.agg ⟨[.int .i64 x0,Sl.v 1 s0,Sl.v 1 s1]⟩),.int .i64 x1,.int .i64 x2]) none fun v1=>(oo (Bi .i64 v1) none fun x4=>(QJ pu n x1 x2 x4 x0 s0 s1 (0:Int)))) (QJ pu n x1 x2 x3 x0 s0 s1 (0:Int)))))
def uZ (pu:Af) (n:Nat) (args:LV):OV:=
 (ll args none fun a0 args=>(ll args none fun a1 args=>(ll args none fun a2 args=>(ll args (oo (Bt a0) none fun l0=>(ll l0 none fun v0 l0=>(ll l0 none fun v1 l0=>(ll l0 none fun v2 l0=>(ll l0 (oo (Bi .i64 v0) none fun x0=>(oo (Bj 1 v1) none fun s0=>(oo (Bj 1 v2) none fun s1=>(oo (Bi .i64 a1) none fun x1=>(oo (Bi .i64 a2) none fun x2=>(bL pu n x0 s0 s1 x1 x2)))))) fun _ _=>none))))) fun _ _=>none))))
theorem AaZ (pu:Af) (n:Nat) (z0 z1 z2 z3:Int) (s0 s1:Sl) (z4:Int) {v:Value} (hm:QJ pu n z0 z1 z2 z3 s0 s1 z4=some v):BN tt (Bb tabs HV pu (inl pu)) 1 XZ (fr 25 [(1,zI z0),(2,zI z1),(3,pt 1 0),(6,(pt 2 0)),(8,zI z2)]) (hT 3 [(oC [zI z3,Sl.v 1 s0,Sl.v 1 s1]),(oC [zI z4,(.slice none 0 0),(.slice none 0 0)])]) (Fin tt 1 [.cell 6 24,.tmp 7] v):=by
 unfold QJ at hm
 refine .then (.then (.rK (.ghs (fr 25 [(1,zI z0),(2,zI z1),(3,pt 1 0),(6,(pt 2 0)),(8,zI z2),(18,(zB (nt (Bd z2 (0:Int)))))]) (hT 3 [(oC [zI z3,Sl.v 1 s0,Sl.v 1 s1]),(oC [zI z4,(.slice none 0 0),(.slice none 0 0)])]) (.k0 [false] [.tmp 3 false,.tmp 6 false] [1,2,3,6,8,18]) ?_)))
 replace hm:=Ag hm;rcases hm with⟨h0,hm⟩ | ⟨h0,hm⟩
 ·refine FX (nt (Bd z2 (0:Int))) h0 ?_
  refine .then (.rK (.ghs (fr 25 [(6,pt 1 0),(7,zI z2)]) (hT 2 [(oC [(zI (0:Int)),(.slice none 0 0),(.slice none 0 0)])]) (.k0 [false] [.tmp 6 false] [6,7]) ?_))
  refine .ret ?_
  exact Uc (.tuple ⟨[(.agg ⟨[(zI (0:Int)),(.slice none 0 0),(.slice none 0 0)]⟩),zI z2]⟩) (.tuple ⟨[(.agg ⟨[(zI (0:Int)),(Sl.v 1 (Sl.mk 0 2 [])),(Sl.v 1 (Sl.mk 0 2 []))]⟩),zI z2]⟩) (by kernel_rfl) (FU.tup (.cons (FU.agg (.cons (FU.refl _ _ _) (.cons (.weak (PG.nil 1 2)) (.cons (.weak (PG.nil 1 2)) (Mr.nil _))))) (.cons (FU.refl _ _ _) (Mr.nil _)))) (by kernel_rfl) hm
 ·refine FY (nt (Bd z2 (0:Int))) h0 ?_
  refine .skip (.ghs (fr 25 [(1,zI z0),(2,zI z1),(3,pt 1 0),(6,(pt 2 0))]) (hT 3 [(oC [zI z3,Sl.v 1 s0,Sl.v 1 s1]),(oC [zI z4,(.slice none 0 0),(.slice none 0 0)])]) (.k0 [false] [.tmp 3 false,.tmp 6 false] [1,2,3,6]) ?_)
  refine .then ?_
  replace hm:=Ab hm;obtain⟨v0,h1,hm⟩:=hm
  replace hm:=BG hm;obtain⟨l0,rfl,hm⟩:=hm
  replace hm:=Ad hm;obtain⟨v1,l33527_0,rfl,hm⟩:=hm
  replace hm:=Ad hm;obtain⟨v2,l33527_1,rfl,hm⟩:=hm
  replace hm:=Ad hm;obtain⟨v3,l33527_2,rfl,hm⟩:=hm
  replace hm:=AC hm;obtain⟨rfl,hm⟩:=hm
  replace hm:=Ai hm;obtain⟨x0,rfl,hm⟩:=hm
  replace hm:=Al hm;obtain⟨s2,rfl,hm⟩:=hm
  replace hm:=Al hm;obtain⟨s3,rfl,hm⟩:=hm
  refine .reg (eC 3 ((oo (pu 43 [(.agg ⟨[zI z3,Sl.v 1 s0,Sl.v 1 s1]⟩),zI z0,zI z1]) none fun v=>some (v,(hT 3 [(oC [zI z3,Sl.v 1 s0,Sl.v 1 s1]),(oC [zI z4,(.slice none 0 0),(.slice none 0 0)])])))) (AB h1) (eE)) ?_
  refine .ghs (fr 25 [(6,pt 1 0),(7,(zI (0:Int)))]) (hT 2 [(oC [zI x0,Sl.v 1 s2,Sl.v 1 s3])]) (.k0 [false] [.tmp 6 false] [6,7]) ?_
  refine .ret ?_
  exact Fp (.tuple ⟨[(.agg ⟨[zI x0,Sl.v 1 s2,Sl.v 1 s3]⟩),(zI (0:Int))]⟩) hm
theorem r25 {call:A8} (pu:Af) (n:Nat) (hcall:call=Bb tabs HV pu (inl pu)) {args:LV} {v:Value} (hm:uZ pu n args=some v) (_:∀ x∈args,closed2 x=true):args.length≤25∧BN tt call 1 R8 (Fr.made 25 args) (Ao tabs) (Fin tt 1 [.cell 6 24,.tmp 7] v):=by
 subst hcall
 unfold uZ at hm
 replace hm:=Ad hm;obtain⟨a0,args_0,rfl,hm⟩:=hm
 replace hm:=Ad hm;obtain⟨a1,args_1,rfl,hm⟩:=hm
 replace hm:=Ad hm;obtain⟨a2,args_2,rfl,hm⟩:=hm
 replace hm:=AC hm;obtain⟨rfl,hm⟩:=hm
 replace hm:=BG hm;obtain⟨l0,rfl,hm⟩:=hm
 replace hm:=Ad hm;obtain⟨v0,l33463_0,rfl,hm⟩:=hm
 replace hm:=Ad hm;obtain⟨v1,l33463_1,rfl,hm⟩:=hm
 replace hm:=Ad hm;obtain⟨v2,l33463_2,rfl,hm⟩:=hm
 replace hm:=AC hm;obtain⟨rfl,hm⟩:=hm
 replace hm:=Ai hm;obtain⟨x0,rfl,hm⟩:=hm
 replace hm:=Al hm;obtain⟨s0,rfl,hm⟩:=hm
 replace hm:=Al hm;obtain⟨s1,rfl,hm⟩:=hm
 replace hm:=Ai hm;obtain⟨x1,rfl,hm⟩:=hm
 replace hm:=Ai hm;obtain⟨x2,rfl,hm⟩:=hm
 unfold bL at hm
 refine⟨by simp,?_⟩
 refine .same (F':=(fr 25 [(0,(.agg ⟨[zI x0,Sl.v 1 s0,Sl.v 1 s1]⟩)),(1,zI x1),(2,zI x2)])) (H':=DT) (by kernel_rfl) (by kernel_rfl) ?_
 refine .then (.rK (.ghs (fr 25 [(1,zI x1),(2,zI x2),(3,pt 1 0),(6,(pt 2 0))]) (hT 3 [(oC [zI x0,Sl.v 1 s0,Sl.v 1 s1]),(oC [(zI (0:Int)),(.slice none 0 0),(.slice none 0 0)])]) (.k0 [false] [.tmp 3 false,.tmp 6 false] [1,2,3,6]) ?_))
 refine .then ?_
 replace hm:=Hy hm;obtain⟨x3,h0,hm⟩:=hm
 refine .reg (eC 1 ((oo (pu 47 [(.agg ⟨[zI x0,Sl.v 1 s0,Sl.v 1 s1]⟩)]) none fun v=>some (v,(hT 3 [(oC [zI x0,Sl.v 1 s0,Sl.v 1 s1]),(oC [(zI (0:Int)),(.slice none 0 0),(.slice none 0 0)])])))) (AB h0) (eE)) ?_
 refine .ghs (fr 25 [(1,zI x1),(2,zI x2),(3,pt 1 0),(6,(pt 2 0)),(8,zI x3)]) (hT 3 [(oC [zI x0,Sl.v 1 s0,Sl.v 1 s1]),(oC [(zI (0:Int)),(.slice none 0 0),(.slice none 0 0)])]) (.k0 [false] [.tmp 3 false,.tmp 6 false] [1,2,3,6,8]) ?_
 refine .join (v:=v) (fun y:Int×Int×Int×Int×Sl×Sl×Int=>((fr 25 [(1,(zI y.1)),(2,(zI y.2.1)),(3,pt 1 0),(6,(pt 2 0)),(8,(zI y.2.2.1))]),(hT 3 [(oC [(zI y.2.2.2.1),(Sl.v 1 y.2.2.2.2.1),(Sl.v 1 y.2.2.2.2.2.1)]),(oC [(zI y.2.2.2.2.2.2),(.slice none 0 0),(.slice none 0 0)])]))) (fun y=>QJ pu n y.1 y.2.1 y.2.2.1 y.2.2.2.1 y.2.2.2.2.1 y.2.2.2.2.2.1 y.2.2.2.2.2.2) ?_ ?_
 ·rintro⟨z0,z1,z2,z3,s2,s3,z4⟩ hm
  exact AaZ pu n z0 z1 z2 z3 s2 s3 z4 hm
 ·refine .then (.rK (.ghs (fr 25 [(1,zI x1),(2,zI x2),(3,pt 1 0),(6,(pt 2 0)),(8,zI x3),(12,(zB (Bd x3 (0:Int))))]) (hT 3 [(oC [zI x0,Sl.v 1 s0,Sl.v 1 s1]),(oC [(zI (0:Int)),(.slice none 0 0),(.slice none 0 0)])]) (.k0 [false] [.tmp 3 false,.tmp 6 false] [1,2,3,6,8,12]) ?_))
  replace hm:=Ag hm;rcases hm with⟨h1,hm⟩ | ⟨h1,hm⟩
  ·refine FX (Bd x3 (0:Int)) h1 ?_
   replace hm:=Hy hm;obtain⟨x4,h2,hm⟩:=hm
   refine .reg (eC 3 ((oo (pu 57 [(.agg ⟨[zI x0,Sl.v 1 s0,Sl.v 1 s1]⟩),zI x1,zI x2]) none fun v=>some (v,(hT 3 [(oC [zI x0,Sl.v 1 s0,Sl.v 1 s1]),(oC [(zI (0:Int)),(.slice none 0 0),(.slice none 0 0)])])))) (AB h2) (eE)) ?_
   exact⟨(x1,x2,x4,x0,s0,s1,(0:Int)),hm,(.k0 [false] [.tmp 3 false,.tmp 6 false] [1,2,3,6,8])⟩
  ·refine FY (Bd x3 (0:Int)) h1 ?_
   refine .skip ?_
   exact⟨(x1,x2,x3,x0,s0,s1,(0:Int)),hm,(.k0 [false] [.tmp 3 false,.tmp 6 false] [1,2,3,6,8])⟩
def WC (pu:Af) (n:Nat):OV:=
 (some (.bool true))
def Uh (pu:Af) (n:Nat) (ih0:Sl→Sl→Int→OV) (s0 s1:Sl) (z0:Int):OV:=
 (bb (AY z0 (Int.ofNat (Sl.n s0))) (oo (EA z0) none fun k1=>(bb (an (Nat.blt k1 (Sl.n s0)) true) (oo (AL (Sl.cs s0) (k1*1)) none fun v0=>(oo (Bi .i64 v0) none fun x0=>(bb (an (Nat.blt k1 (Sl.n s1)) true) (oo (AL (Sl.cs s1) (k1*1)) none fun v1=>(oo (Bi .i64 v1) none fun x1=>(bb (nt (Bd x0 x1)) (some (.bool false)) (ih0 s0 s1 (Aj .i64 (Int.add (Int.ofNat k1) (1:Int))))))) none))) none)) (WC pu n))
def QK (pu:Af) (n w:Nat):Sl→Sl→Int→OV:=
 Nat.rec (motive:=fun _=>Sl→Sl→Int→OV) (fun _ _ _=>none) (fun _ ih0=>Uh pu n ih0) w
def Aa0 (pu:Af) (n:Nat) (s0 s1:Sl):OV:=
 (bb (nt (Bd (Int.ofNat (Sl.n s0)) (Int.ofNat (Sl.n s1)))) (some (.bool false)) (QK pu n n s0 s1 (0:Int)))
def m26 (pu:Af) (n:Nat) (args:LV):OV:=
 (ll args none fun a0 args=>(ll args none fun a1 args=>(ll args (oo (Bj 1 a0) none fun s0=>(oo (Bj 1 a1) none fun s1=>(Aa0 pu n s0 s1))) fun _ _=>none)))
theorem Aa1 (pu:Af) (n:Nat) {v:Value} (hm:WC pu n=some v):BN tt (Bb tabs HV pu (inl pu)) 1 X0 (fr 26 []) DT (Fin tt 1 [.tmp 4] v):=by
 unfold WC at hm
 refine .then (.rK (.ghs (fr 26 [(4,zB true)]) DT (.k0 [false] [] [4]) ?_))
 refine .ret ?_
 exact Fp (zB true) hm
theorem r26 {call:A8} (pu:Af) (n:Nat) (hcall:call=Bb tabs HV pu (inl pu)) {args:LV} {v:Value} (hm:m26 pu n args=some v) (_:∀ x∈args,closed2 x=true):args.length≤26∧BN tt call 1 R9 (Fr.made 26 args) (Ao tabs) (Fin tt 1 [.tmp 4] v):=by
 subst hcall
 unfold m26 at hm
 replace hm:=Ad hm;obtain⟨a0,args_0,rfl,hm⟩:=hm
 replace hm:=Ad hm;obtain⟨a1,args_1,rfl,hm⟩:=hm
 replace hm:=AC hm;obtain⟨rfl,hm⟩:=hm
 replace hm:=Al hm;obtain⟨s0,rfl,hm⟩:=hm
 replace hm:=Al hm;obtain⟨s1,rfl,hm⟩:=hm
 unfold Aa0 at hm
 refine⟨by simp,?_⟩
 refine .same (F':=(fr 26 [(0,Sl.v 1 s0),(1,Sl.v 1 s1)])) (H':=DT) (by kernel_rfl) (by kernel_rfl) ?_
 refine .then (.rK (.ghs (fr 26 [(0,Sl.v 1 s0),(1,Sl.v 1 s1)]) DT (.k0 [false] [] [0,1]) ?_))
 refine .then (.then (.rK (.ghs (fr 26 [(0,Sl.v 1 s0),(1,Sl.v 1 s1),(10,(zB (nt (Bd (Int.ofNat (Sl.n s0)) (Int.ofNat (Sl.n s1))))))]) DT (.k0 [false] [] [0,1,10]) ?_)))
 replace hm:=Ag hm;rcases hm with⟨h0,hm⟩ | ⟨h0,hm⟩
 ·refine FX (nt (Bd (Int.ofNat (Sl.n s0)) (Int.ofNat (Sl.n s1)))) h0 ?_
  refine .then (.rK (.ghs (fr 26 [(4,zB false)]) DT (.k0 [false] [] [4]) ?_))
  refine .ret ?_
  exact Fp (zB false) hm
 ·refine FY (nt (Bd (Int.ofNat (Sl.n s0)) (Int.ofNat (Sl.n s1)))) h0 ?_
  refine .skip (.ghs (fr 26 [(0,Sl.v 1 s0),(1,Sl.v 1 s1)]) DT (.k0 [false] [] [0,1]) ?_)
  refine .join (v:=v) (fun y:Unit=>((fr 26 []),DT)) (fun y=>WC pu n) ?_ ?_
  ·rintro _ hm
   exact Aa1 pu n hm
  ·refine .then (.rK (.ghs (fr 26 [(0,Sl.v 1 s0),(1,Sl.v 1 s1),(5,(zI (0:Int)))]) DT (.k0 [false] [] [0,1,5]) ?_))
   refine .block (.loopM (v:=v) (fun y:Sl×Sl×Int=>((fr 26 [(0,(Sl.v 1 y.1)),(1,(Sl.v 1 y.2.1)),(5,(zI y.2.2))]),DT)) (fun w y=>QK pu n w y.1 y.2.1 y.2.2) n ⟨(s0,s1,(0:Int)),hm,(.k0 [false] [] [0,1,5])⟩ (fun _=>rfl) ?_)
   rintro w0 ⟨s2,s3,z0⟩ hm
   replace hm:Uh pu n (QK pu n w0) s2 s3 z0=some v:=hm
   unfold Uh at hm
   refine .then (.then (.rK (.ghs (fr 26 [(0,Sl.v 1 s2),(1,Sl.v 1 s3),(5,zI z0),(14,(zB (AY z0 (Int.ofNat (Sl.n s2)))))]) DT (.k0 [false] [] [0,1,5,14]) ?_)))
   replace hm:=Ag hm;rcases hm with⟨h1,hm⟩ | ⟨h1,hm⟩
   ·refine FX (AY z0 (Int.ofNat (Sl.n s2))) h1 ?_
    refine .skip (.ghs (fr 26 [(0,Sl.v 1 s2),(1,Sl.v 1 s3),(5,zI z0)]) DT (.k0 [false] [] [0,1,5]) ?_)
    refine .then (.block (.then ?_))
    replace hm:=Ab hm;obtain⟨k1,h2,hm⟩:=hm
    obtain rfl:=AR h2
    replace hm:=Ae hm;obtain⟨h3,hm⟩:=hm
    replace hm:=Hy hm;obtain⟨x0,h4,hm⟩:=hm
    replace hm:=Ae hm;obtain⟨h5,hm⟩:=hm
    replace hm:=Hy hm;obtain⟨x1,h6,hm⟩:=hm
    refine .reg (eC 2 (keep DT (bb (an (Nat.blt k1 (Sl.n s2)) true) (some (Cv (k1*1) (Sl.cs s2))) none)) (AX h3) (eD (keep DT (AL (Sl.cs s2) (k1*1))) (AZ h4) (eC 2 (keep DT (bb (an (Nat.blt k1 (Sl.n s3)) true) (some (Cv (k1*1) (Sl.cs s3))) none)) (AX h5) (eD (keep DT (AL (Sl.cs s3) (k1*1))) (AZ h6) (eE))))) ?_
    refine .ghs (fr 26 [(0,Sl.v 1 s2),(1,Sl.v 1 s3),(5,(zI (Int.ofNat k1))),(25,(zB (nt (Bd x0 x1))))]) DT (.k0 [false] [] [0,1,5,25]) ?_
    replace hm:=Ag hm;rcases hm with⟨h7,hm⟩ | ⟨h7,hm⟩
    ·refine FX (nt (Bd x0 x1)) h7 ?_
     refine .then (.rK (.ghs (fr 26 [(4,zB false)]) DT (.k0 [false] [] [4]) ?_))
     refine .ret ?_
     exact Fp (zB false) hm
    ·refine FY (nt (Bd x0 x1)) h7 ?_
     refine .skip (.ghs (fr 26 [(0,Sl.v 1 s2),(1,Sl.v 1 s3),(5,(zI (Int.ofNat k1)))]) DT (.k0 [false] [] [0,1,5]) ?_)
     refine .rK ?_
     exact⟨(s2,s3,(Aj .i64 (Int.add (Int.ofNat k1) (1:Int)))),hm,(.k0 [false] [] [0,1,5])⟩
   ·refine FY (AY z0 (Int.ofNat (Sl.n s2))) h1 ?_
    refine .exit ?_
    exact⟨(),hm,(.k0 [false] [] [])⟩

def bM (pu:Af) (n:Nat) (x0:Int) (s0 s1:Sl):OV:=
 (oo (pu 47 [(.agg ⟨[.int .i64 x0,Sl.v 1 s0,Sl.v 1 s1]⟩)]) none fun v0=>(oo (Bi .i64 v0) none fun x1=>(bb (nt (Bd x1 (0:Int))) (some (.tuple ⟨[(.int .i64 (0:Int)),.int .i64 x1]⟩)) (oo (pu 44 [(.agg ⟨[.int .i64 x0,Sl.v 1 s0,Sl.v 1 s1]⟩)]) none fun v1=>(oo (Bi .i64 v1) none fun x2=>(some (.tuple ⟨[.int .i64 x2,(.int .i64 (0:Int))]⟩)))))))
def m29 (pu:Af) (n:Nat) (args:LV):OV:=
 (ll args none fun a0 args=>(ll args (oo (Bt a0) none fun l0=>(ll l0 none fun v0 l0=>(ll l0 none fun v1 l0=>(ll l0 none fun v2 l0=>(ll l0 (oo (Bi .i64 v0) none fun x0=>(oo (Bj 1 v1) none fun s0=>(oo (Bj 1 v2) none fun s1=>(bM pu n x0 s0 s1)))) fun _ _=>none))))) fun _ _=>none))
theorem r29 {call:A8} (pu:Af) (n:Nat) (hcall:call=Bb tabs HV pu (inl pu)) {args:LV} {v:Value} (hm:m29 pu n args=some v) (_:∀ x∈args,closed2 x=true):args.length≤12∧BN tt call 1 Sa (Fr.made 12 args) (Ao tabs) (Fin tt 1 [.tmp 2,.tmp 3] v):=by
 subst hcall
 unfold m29 at hm
 replace hm:=Ad hm;obtain⟨a0,args_0,rfl,hm⟩:=hm
 replace hm:=AC hm;obtain⟨rfl,hm⟩:=hm
 replace hm:=BG hm;obtain⟨l0,rfl,hm⟩:=hm
 replace hm:=Ad hm;obtain⟨v0,l33639_0,rfl,hm⟩:=hm
 replace hm:=Ad hm;obtain⟨v1,l33639_1,rfl,hm⟩:=hm
 replace hm:=Ad hm;obtain⟨v2,l33639_2,rfl,hm⟩:=hm
 replace hm:=AC hm;obtain⟨rfl,hm⟩:=hm
 replace hm:=Ai hm;obtain⟨x0,rfl,hm⟩:=hm
 replace hm:=Al hm;obtain⟨s0,rfl,hm⟩:=hm
 replace hm:=Al hm;obtain⟨s1,rfl,hm⟩:=hm
 unfold bM at hm
 refine⟨by simp,?_⟩
 refine .same (F':=(fr 12 [(0,(.agg ⟨[zI x0,Sl.v 1 s0,Sl.v 1 s1]⟩))])) (H':=DT) (by kernel_rfl) (by kernel_rfl) ?_
 refine .then (.rK (.ghs (fr 12 [(1,pt 1 0)]) (hT 2 [(oC [zI x0,Sl.v 1 s0,Sl.v 1 s1])]) (.k0 [false] [.tmp 1 false] [1]) ?_))
 refine .then (.then ?_)
 replace hm:=Hy hm;obtain⟨x1,h0,hm⟩:=hm
 refine .reg (eC 1 ((oo (pu 47 [(.agg ⟨[zI x0,Sl.v 1 s0,Sl.v 1 s1]⟩)]) none fun v=>some (v,(hT 2 [(oC [zI x0,Sl.v 1 s0,Sl.v 1 s1])])))) (AB h0) (eE)) ?_
 refine .ghs (fr 12 [(1,pt 1 0),(4,zI x1)]) (hT 2 [(oC [zI x0,Sl.v 1 s0,Sl.v 1 s1])]) (.k0 [false] [.tmp 1 false] [1,4]) ?_
 refine .then (.rK (.ghs (fr 12 [(1,pt 1 0),(4,zI x1),(8,(zB (nt (Bd x1 (0:Int)))))]) (hT 2 [(oC [zI x0,Sl.v 1 s0,Sl.v 1 s1])]) (.k0 [false] [.tmp 1 false] [1,4,8]) ?_))
 replace hm:=Ag hm;rcases hm with⟨h1,hm⟩ | ⟨h1,hm⟩
 ·refine FX (nt (Bd x1 (0:Int))) h1 ?_
  refine .then (.rK (.ghs (fr 12 [(2,(zI (0:Int))),(3,zI x1)]) DT (.k0 [false] [] [2,3]) ?_))
  refine .ret ?_
  exact Fp (.tuple ⟨[(zI (0:Int)),zI x1]⟩) hm
 ·refine FY (nt (Bd x1 (0:Int))) h1 ?_
  refine .skip (.ghs (fr 12 [(1,pt 1 0)]) (hT 2 [(oC [zI x0,Sl.v 1 s0,Sl.v 1 s1])]) (.k0 [false] [.tmp 1 false] [1]) ?_)
  refine .then ?_
  replace hm:=Hy hm;obtain⟨x2,h2,hm⟩:=hm
  refine .reg (eC 1 ((oo (pu 44 [(.agg ⟨[zI x0,Sl.v 1 s0,Sl.v 1 s1]⟩)]) none fun v=>some (v,(hT 2 [(oC [zI x0,Sl.v 1 s0,Sl.v 1 s1])])))) (AB h2) (eE)) ?_
  refine .ghs (fr 12 [(2,zI x2),(3,(zI (0:Int)))]) DT (.k0 [false] [] [2,3]) ?_
  refine .ret ?_
  exact Fp (.tuple ⟨[zI x2,(zI (0:Int))]⟩) hm

def bN (pu:Af) (n:Nat) (x0:Int) (s0 s1:Sl) (x1 x2:Int):OV:=
 (bb (EQ (0+(Sl.n s0)) 8) (bb (EQ (0+(Sl.n s1)) 8) (bb (Au Ah (Aq ((Sl.n s0)*1) (Sl.cs s0))) (bb (Au Ah (Aq ((Sl.n s1)*1) (Sl.cs s1))) (oo (EA x2) none fun k1=>(bb (an (Nat.blt k1 (Sl.n s0)) true) (oo (AL (Aq ((Sl.n s0)*1) (Sl.cs s0)) (0+k1*1)) none fun v0=>(oo (Bi .i64 v0) none fun x3=>(oo (EA x1) none fun k2=>(bb (an (Nat.blt k2 (Sl.n s0)) true) (oo (AL (Aq ((Sl.n s0)*1) (Sl.cs s0)) (0+k2*1)) none fun v1=>(oo (Bi .i64 v1) none fun x4=>(bb (an (Nat.blt k2 (Sl.n s0)) true) (bb (an (Nat.ble ((0+k2*1)+1) (len (Aq ((Sl.n s0)*1) (Sl.cs s0)))) true) (bb (an (Nat.blt k1 (Sl.n s0)) true) (bb (an (Nat.ble ((0+k1*1)+1) (len (BM ([.int .i64 x3]:LV) (0+k2*1) (Aq ((Sl.n s0)*1) (Sl.cs s0))))) true) (bb (Au Ah (BM ([.int .i64 x4]:LV) (0+k1*1) (BM ([.int .i64 x3]:LV) (0+k2*1) (Aq ((Sl.n s0)*1) (Sl.cs s0))))) (bb (an (Nat.ble (0+(Sl.n s0)*1) (len (BM ([.int .i64 x4]:LV) (0+k1*1) (BM ([.int .i64 x3]:LV) (0+k2*1) (Aq ((Sl.n s0)*1) (Sl.cs s0)))))) (Au Ah (Aq ((Sl.n s0)*1) (Am 0 (BM ([.int .i64 x4]:LV) (0+k1*1) (BM ([.int .i64 x3]:LV) (0+k2*1) (Aq ((Sl.n s0)*1) (Sl.cs s0)))))))) (bb (an (Nat.ble (0+(Sl.n s1)*1) (len (Aq ((Sl.n s1)*1) (Sl.cs s1)))) (Au Ah (Aq ((Sl.n s1)*1) (Am 0 (Aq ((Sl.n s1)*1) (Sl.cs s1)))))) (some (.agg ⟨[.int .i64 x0,(Sl.v 1 (Sl.mk (Sl.n s0) 0 (Aq ((Sl.n s0)*1) (Am 0 (BM ([.int .i64 x4]:LV) (0+k1*1) (BM ([.int .i64 x3]:LV) (0+k2*1) (Aq ((Sl.n s0)*1) (Sl.cs s0)))))))),(Sl.v 1 (Sl.mk (Sl.n s1) 0 (Aq ((Sl.n s1)*1) (Am 0 (Aq ((Sl.n s1)*1) (Sl.cs s1))))))]⟩)) none) none) none) none) none) none) none))) none)))) none)) none) none) none) none)
def m43 (pu:Af) (n:Nat) (args:LV):OV:=
 (ll args none fun a0 args=>(ll args none fun a1 args=>(ll args none fun a2 args=>(ll args (oo (Bt a0) none fun l0=>(ll l0 none fun v0 l0=>(ll l0 none fun v1 l0=>(ll l0 none fun v2 l0=>(ll l0 (oo (Bi .i64 v0) none fun x0=>(oo (Bj 1 v1) none fun s0=>(oo (Bj 1 v2) none fun s1=>(oo (Bi .i64 a1) none fun x1=>(oo (Bi .i64 a2) none fun x2=>(bN pu n x0 s0 s1 x1 x2)))))) fun _ _=>none))))) fun _ _=>none))))
theorem r43 {call:A8} (pu:Af) (n:Nat) (hcall:call=Bb tabs HV pu (inl pu)) {args:LV} {v:Value} (hm:m43 pu n args=some v) (_:∀ x∈args,closed2 x=true):args.length≤36∧BN tt call 1 Ws (Fr.made 36 args) (Ao tabs) (Fin tt 1 [.cell 6 24] v):=by
 subst hcall
 unfold m43 at hm
 replace hm:=Ad hm;obtain⟨a0,args_0,rfl,hm⟩:=hm
 replace hm:=Ad hm;obtain⟨a1,args_1,rfl,hm⟩:=hm
 replace hm:=Ad hm;obtain⟨a2,args_2,rfl,hm⟩:=hm
 replace hm:=AC hm;obtain⟨rfl,hm⟩:=hm
 replace hm:=BG hm;obtain⟨l0,rfl,hm⟩:=hm
 replace hm:=Ad hm;obtain⟨v0,l33667_0,rfl,hm⟩:=hm
 replace hm:=Ad hm;obtain⟨v1,l33667_1,rfl,hm⟩:=hm
 replace hm:=Ad hm;obtain⟨v2,l33667_2,rfl,hm⟩:=hm
 replace hm:=AC hm;obtain⟨rfl,hm⟩:=hm
 replace hm:=Ai hm;obtain⟨x0,rfl,hm⟩:=hm
 replace hm:=Al hm;obtain⟨s0,rfl,hm⟩:=hm
 replace hm:=Al hm;obtain⟨s1,rfl,hm⟩:=hm
 replace hm:=Ai hm;obtain⟨x1,rfl,hm⟩:=hm
 replace hm:=Ai hm;obtain⟨x2,rfl,hm⟩:=hm
 unfold bN at hm
 refine⟨by simp,?_⟩
 refine .same (F':=(fr 36 [(0,(.agg ⟨[zI x0,Sl.v 1 s0,Sl.v 1 s1]⟩)),(1,zI x1),(2,zI x2)])) (H':=DT) (by kernel_rfl) (by kernel_rfl) ?_
 refine .then (.rK (.ghs (fr 36 [(1,zI x1),(2,zI x2),(3,pt 1 0),(6,(pt 2 0))]) (hT 3 [(oC [zI x0,Sl.v 1 s0,Sl.v 1 s1]),(oC [(zI (0:Int)),(.slice none 0 0),(.slice none 0 0)])]) (.k0 [false] [.tmp 3 false,.tmp 6 false] [1,2,3,6]) ?_))
 refine .then ?_
 replace hm:=Ae hm;obtain⟨h0,hm⟩:=hm
 replace hm:=Ae hm;obtain⟨h1,hm⟩:=hm
 refine .reg (eC 7 (bb (EQ (0+(Sl.n s0)) 8) (some ((sc 5 0 1 (Sl.n s0) (d2 (Sl.n s0))),(hT 6 [(oC [zI x0,Sl.v 1 s0,Sl.v 1 s1]),(oC [(zI (0:Int)),(.slice none 0 0),(.slice none 0 0)]),(oC [(zI (0:Int)),(.slice none 0 0),(.slice none 0 0)]),(oC []),(oC (Aq ((Sl.n s0)*1) (Sl.cs s0)))]))) none) (kH h0) (eD (bb (EQ (0+(Sl.n s1)) 8) (some ((sc 7 0 1 (Sl.n s1) (d2 (Sl.n s1))),(hT 8 [(oC [zI x0,Sl.v 1 s0,Sl.v 1 s1]),(oC [(zI (0:Int)),(.slice none 0 0),(.slice none 0 0)]),(oC [(zI (0:Int)),(.slice none 0 0),(.slice none 0 0)]),(oC []),(oC (Aq ((Sl.n s0)*1) (Sl.cs s0))),(oC []),(oC (Aq ((Sl.n s1)*1) (Sl.cs s1)))]))) none) (kH h1) (eE))) ?_
 replace hm:=Ae hm;obtain⟨h2,hm⟩:=hm
 replace hm:=Ae hm;obtain⟨h3,hm⟩:=hm
 refine .ghs (fr 36 [(1,zI x1),(2,zI x2),(6,pt 1 0),(7,(pt 2 0))]) (hT 5 [(oC [(zI (0:Int)),(.slice none 0 0),(.slice none 0 0)]),(oC [zI x0,(sc 3 0 1 (Sl.n s0) (d2 (Sl.n s0))),(sc 4 0 1 (Sl.n s1) (d2 (Sl.n s1)))]),(oC (Aq ((Sl.n s0)*1) (Sl.cs s0))),(oC (Aq ((Sl.n s1)*1) (Sl.cs s1)))]) (.k [5,7] [false] [.tmp 6 false,.tmp 7 true,.cell 2 1 false,.cell 2 2 false] [1,2,6,7] ⟨Dy h2,Dy h3,trivial⟩) ?_
 refine .then ?_
 replace hm:=Ab hm;obtain⟨k1,h4,hm⟩:=hm
 obtain rfl:=AR h4
 replace hm:=Ae hm;obtain⟨h5,hm⟩:=hm
 replace hm:=Hy hm;obtain⟨x3,h6,hm⟩:=hm
 replace hm:=Ab hm;obtain⟨k2,h7,hm⟩:=hm
 obtain rfl:=AR h7
 replace hm:=Ae hm;obtain⟨h8,hm⟩:=hm
 replace hm:=Hy hm;obtain⟨x4,h9,hm⟩:=hm
 replace hm:=Ae hm;obtain⟨h10,hm⟩:=hm
 replace hm:=Ae hm;obtain⟨h11,hm⟩:=hm
 replace hm:=Ae hm;obtain⟨h12,hm⟩:=hm
 replace hm:=Ae hm;obtain⟨h13,hm⟩:=hm
 refine .reg (eN 15 (Fr.puts (fr 36 [(1,(zI (Int.ofNat k2))),(2,(zI (Int.ofNat k1))),(6,pt 1 0),(7,(pt 2 0))]) [(17,(pt 2 1)),(18,(sc 3 0 1 (Sl.n s0) (d2 (Sl.n s0)))),(19,(zI (Int.ofNat k2))),(20,(pt 2 1)),(21,(sc 3 0 1 (Sl.n s0) (d2 (Sl.n s0)))),(22,(zI (Int.ofNat k1))),(23,(pt 2 1)),(24,(sc 3 0 1 (Sl.n s0) (d2 (Sl.n s0)))),(25,(zI (Int.ofNat k1))),(26,(.pointer (some ⟨3,(0+k1*1),none⟩))),(27,zI x3),(28,(pt 2 1)),(29,(sc 3 0 1 (Sl.n s0) (d2 (Sl.n s0)))),(30,(zI (Int.ofNat k2))),(31,(.pointer (some ⟨3,(0+k2*1),none⟩)))]) (hT 5 [(oC [(zI (0:Int)),(.slice none 0 0),(.slice none 0 0)]),(oC [zI x0,(sc 3 0 1 (Sl.n s0) (d2 (Sl.n s0))),(sc 4 0 1 (Sl.n s1) (d2 (Sl.n s1)))]),(oC (Aq ((Sl.n s0)*1) (Sl.cs s0))),(oC (Aq ((Sl.n s1)*1) (Sl.cs s1)))]) (eC 9 (keep (hT 5 [(oC [(zI (0:Int)),(.slice none 0 0),(.slice none 0 0)]),(oC [zI x0,(sc 3 0 1 (Sl.n s0) (d2 (Sl.n s0))),(sc 4 0 1 (Sl.n s1) (d2 (Sl.n s1)))]),(oC (Aq ((Sl.n s0)*1) (Sl.cs s0))),(oC (Aq ((Sl.n s1)*1) (Sl.cs s1)))]) (bb (an (Nat.blt k1 (Sl.n s0)) true) (some (.pointer (some ⟨3,(0+k1*1),none⟩))) none)) (AX h5) (eD (keep (hT 5 [(oC [(zI (0:Int)),(.slice none 0 0),(.slice none 0 0)]),(oC [zI x0,(sc 3 0 1 (Sl.n s0) (d2 (Sl.n s0))),(sc 4 0 1 (Sl.n s1) (d2 (Sl.n s1)))]),(oC (Aq ((Sl.n s0)*1) (Sl.cs s0))),(oC (Aq ((Sl.n s1)*1) (Sl.cs s1)))]) (AL (Aq ((Sl.n s0)*1) (Sl.cs s0)) (0+k1*1))) (AZ h6) (eC 3 (keep (hT 5 [(oC [(zI (0:Int)),(.slice none 0 0),(.slice none 0 0)]),(oC [zI x0,(sc 3 0 1 (Sl.n s0) (d2 (Sl.n s0))),(sc 4 0 1 (Sl.n s1) (d2 (Sl.n s1)))]),(oC (Aq ((Sl.n s0)*1) (Sl.cs s0))),(oC (Aq ((Sl.n s1)*1) (Sl.cs s1)))]) (bb (an (Nat.blt k2 (Sl.n s0)) true) (some (.pointer (some ⟨3,(0+k2*1),none⟩))) none)) (AX h8) (by kernel_rfl)))) (eD (keep (hT 5 [(oC [(zI (0:Int)),(.slice none 0 0),(.slice none 0 0)]),(oC [zI x0,(sc 3 0 1 (Sl.n s0) (d2 (Sl.n s0))),(sc 4 0 1 (Sl.n s1) (d2 (Sl.n s1)))]),(oC (Aq ((Sl.n s0)*1) (Sl.cs s0))),(oC (Aq ((Sl.n s1)*1) (Sl.cs s1)))]) (AL (Aq ((Sl.n s0)*1) (Sl.cs s0)) (0+k2*1))) (AZ h9) (eD (keep (hT 5 [(oC [(zI (0:Int)),(.slice none 0 0),(.slice none 0 0)]),(oC [zI x0,(sc 3 0 1 (Sl.n s0) (d2 (Sl.n s0))),(sc 4 0 1 (Sl.n s1) (d2 (Sl.n s1)))]),(oC (Aq ((Sl.n s0)*1) (Sl.cs s0))),(oC (Aq ((Sl.n s1)*1) (Sl.cs s1)))]) (bb (an (Nat.blt k2 (Sl.n s0)) true) (some (.pointer (some ⟨3,(0+k2*1),none⟩))) none)) (AX h10) (eD (done (bb (an (Nat.ble ((0+k2*1)+1) (len (Aq ((Sl.n s0)*1) (Sl.cs s0)))) true) (some (hT 5 [(oC [(zI (0:Int)),(.slice none 0 0),(.slice none 0 0)]),(oC [zI x0,(sc 3 0 1 (Sl.n s0) (d2 (Sl.n s0))),(sc 4 0 1 (Sl.n s1) (d2 (Sl.n s1)))]),(oC (BM ([zI x3]:LV) (0+k2*1) (Aq ((Sl.n s0)*1) (Sl.cs s0)))),(oC (Aq ((Sl.n s1)*1) (Sl.cs s1)))])) none) undef) (Js h11) (eD (keep (hT 5 [(oC [(zI (0:Int)),(.slice none 0 0),(.slice none 0 0)]),(oC [zI x0,(sc 3 0 1 (Sl.n s0) (d2 (Sl.n s0))),(sc 4 0 1 (Sl.n s1) (d2 (Sl.n s1)))]),(oC (BM ([zI x3]:LV) (0+k2*1) (Aq ((Sl.n s0)*1) (Sl.cs s0)))),(oC (Aq ((Sl.n s1)*1) (Sl.cs s1)))]) (bb (an (Nat.blt k1 (Sl.n s0)) true) (some (.pointer (some ⟨3,(0+k1*1),none⟩))) none)) (AX h12) (eD (done (bb (an (Nat.ble ((0+k1*1)+1) (len (BM ([zI x3]:LV) (0+k2*1) (Aq ((Sl.n s0)*1) (Sl.cs s0))))) true) (some (hT 5 [(oC [(zI (0:Int)),(.slice none 0 0),(.slice none 0 0)]),(oC [zI x0,(sc 3 0 1 (Sl.n s0) (d2 (Sl.n s0))),(sc 4 0 1 (Sl.n s1) (d2 (Sl.n s1)))]),(oC (BM ([zI x4]:LV) (0+k1*1) (BM ([zI x3]:LV) (0+k2*1) (Aq ((Sl.n s0)*1) (Sl.cs s0))))),(oC (Aq ((Sl.n s1)*1) (Sl.cs s1)))])) none) undef) (Js h13) (eE))))))) ?_
 replace hm:=Ae hm;obtain⟨h14,hm⟩:=hm
 refine .ghs (fr 36 [(6,pt 1 0),(7,(pt 2 0))]) (hT 5 [(oC [(zI (0:Int)),(.slice none 0 0),(.slice none 0 0)]),(oC [zI x0,(sc 3 0 1 (Sl.n s0) (d2 (Sl.n s0))),(sc 4 0 1 (Sl.n s1) (d2 (Sl.n s1)))]),(oC (BM ([zI x4]:LV) (0+k1*1) (BM ([zI x3]:LV) (0+k2*1) (Aq ((Sl.n s0)*1) (Sl.cs s0))))),(oC (Aq ((Sl.n s1)*1) (Sl.cs s1)))]) (.k [3,4] [false] [.tmp 6 false,.tmp 7 true,.cell 2 1 false,.cell 2 2 false] [6,7] ⟨Dy h14,Dy h3,trivial⟩) ?_
 refine .then (.rK (.ghs (fr 36 [(6,pt 1 0)]) (hT 4 [(oC [zI x0,(sc 2 0 1 (Sl.n s0) (d2 (Sl.n s0))),(sc 3 0 1 (Sl.n s1) (d2 (Sl.n s1)))]),(oC (BM ([zI x4]:LV) (0+k1*1) (BM ([zI x3]:LV) (0+k2*1) (Aq ((Sl.n s0)*1) (Sl.cs s0))))),(oC (Aq ((Sl.n s1)*1) (Sl.cs s1)))]) (.k [3,4] [false] [.tmp 6 true,.cell 1 1 false,.cell 1 2 false] [6] ⟨Dy h14,Dy h3,trivial⟩) ?_))
 refine .ret ?_
 replace hm:=Ae hm;obtain⟨h15,hm⟩:=hm
 replace hm:=Ae hm;obtain⟨h16,hm⟩:=hm
 exact Uc (.agg ⟨[zI x0,(sc 2 0 1 (Sl.n s0) (d2 (Sl.n s0))),(sc 3 0 1 (Sl.n s1) (d2 (Sl.n s1)))]⟩) (.agg ⟨[zI x0,(Sl.v 1 (Sl.mk (Sl.n s0) 0 (Aq ((Sl.n s0)*1) (Am 0 (BM ([zI x4]:LV) (0+k1*1) (BM ([zI x3]:LV) (0+k2*1) (Aq ((Sl.n s0)*1) (Sl.cs s0)))))))),(Sl.v 1 (Sl.mk (Sl.n s1) 0 (Aq ((Sl.n s1)*1) (Am 0 (Aq ((Sl.n s1)*1) (Sl.cs s1))))))]⟩) (by kernel_rfl) (FU.agg (.cons (FU.refl _ _ _) (.cons (FU.frz (v':=(Sl.v 1 (Sl.mk (Sl.n s0) 0 (Aq ((Sl.n s0)*1) (Am 0 (BM ([zI x4]:LV) (0+k1*1) (BM ([zI x3]:LV) (0+k2*1) (Aq ((Sl.n s0)*1) (Sl.cs s0))))))))) (H1:=(hT 4 [(oC [zI x0,(sc 2 0 1 (Sl.n s0) (d2 (Sl.n s0))),(sc 3 0 1 (Sl.n s1) (d2 (Sl.n s1)))]),.dead,(oC (Aq ((Sl.n s1)*1) (Sl.cs s1)))])) 1 false (an (Nat.ble (0+(Sl.n s0)*1) (len (BM ([zI x4]:LV) (0+k1*1) (BM ([zI x3]:LV) (0+k2*1) (Aq ((Sl.n s0)*1) (Sl.cs s0)))))) (Au Ah (Aq ((Sl.n s0)*1) (Am 0 (BM ([zI x4]:LV) (0+k1*1) (BM ([zI x3]:LV) (0+k2*1) (Aq ((Sl.n s0)*1) (Sl.cs s0)))))))) (by kernel_rfl) (by kernel_rfl) h15) (.cons (FU.frz (v':=(Sl.v 1 (Sl.mk (Sl.n s1) 0 (Aq ((Sl.n s1)*1) (Am 0 (Aq ((Sl.n s1)*1) (Sl.cs s1))))))) (H1:=(hT 4 [(oC [zI x0,(sc 2 0 1 (Sl.n s0) (d2 (Sl.n s0))),(sc 3 0 1 (Sl.n s1) (d2 (Sl.n s1)))]),.dead,.dead])) 1 false (an (Nat.ble (0+(Sl.n s1)*1) (len (Aq ((Sl.n s1)*1) (Sl.cs s1)))) (Au Ah (Aq ((Sl.n s1)*1) (Am 0 (Aq ((Sl.n s1)*1) (Sl.cs s1)))))) (by kernel_rfl) (by kernel_rfl) h16) (Mr.nil _))))) (by kernel_rfl) hm

def bO (pu:Af) (n:Nat) (x0:Int) (s0 s1:Sl):OV:=
 (oo (pu 51 [(.agg ⟨[.int .i64 x0,Sl.v 1 s0,Sl.v 1 s1]⟩)]) none fun v0=>(oo (Bi .u16 v0) none fun x1=>(oo (pu 64 [.int .u16 x1]) none fun v1=>(oo (Bi .i64 v1) none fun x2=>(oo (pu 10650 [(.agg ⟨[.int .i64 x0,Sl.v 1 s0,Sl.v 1 s1]⟩)]) none fun v2=>(oo (CQ v2) none fun l0=>(ll l0 none fun v3 l0=>(ll l0 none fun v4 l0=>(ll l0 none fun v5 l0=>(ll l0 (bb (MK v3 1 0) (oo (Bt v4) none fun l1=>(ll l1 none fun v6 l1=>(ll l1 none fun v7 l1=>(ll l1 none fun v8 l1=>(ll l1 none fun v9 l1=>(ll l1 (oo (Bi .i64 v6) none fun x3=>(oo (Bj 1 v7) none fun s2=>(oo (Bj 1 v8) none fun s3=>(bb (FC v9 2) (oo (Fj v5) none fun y0=>(bb (Au F4 (Akd.es y0)) (bb (Au F4 (Akd.es y0)) (oo (pu 10660 [(.pointer (some ⟨1,0,none⟩)),.int .u16 x1,(.agg ⟨[.int .i64 x3,Sl.v 1 s2,Sl.v 1 s3,(.map (some 2))]⟩),(Ef (.map (Akd.es y0) (Akd.clock y0)))]) none fun v10=>(oo (CQ v10) none fun l2=>(ll l2 none fun v11 l2=>(ll l2 none fun v12 l2=>(ll l2 none fun v13 l2=>(ll l2 (oo (Bi .i64 v11) none fun x4=>(oo (Bt v12) none fun l3=>(ll l3 none fun v14 l3=>(ll l3 none fun v15 l3=>(ll l3 none fun v16 l3=>(ll l3 none fun v17 l3=>(ll l3 (oo (Bi .i64 v14) none fun x5=>(oo (Bj 1 v15) none fun s4=>(oo (Bj 1 v16) none fun s5=>(bb (FC v17 2) (oo (Fj v13) none fun y1=>(bb (Au F4 (Akd.es y1)) (some (.int .i64 (Aj .i64 (Int.sub x2 x4)))) none)) none)))) fun _ _=>none))))))) fun _ _=>none)))))) none) none)) none)))) fun _ _=>none)))))) none) fun _ _=>none))))))))))
def m44 (pu:Af) (n:Nat) (args:LV):OV:=
 (ll args none fun a0 args=>(ll args (oo (Bt a0) none fun l0=>(ll l0 none fun v0 l0=>(ll l0 none fun v1 l0=>(ll l0 none fun v2 l0=>(ll l0 (oo (Bi .i64 v0) none fun x0=>(oo (Bj 1 v1) none fun s0=>(oo (Bj 1 v2) none fun s1=>(bO pu n x0 s0 s1)))) fun _ _=>none))))) fun _ _=>none))
theorem r44 {call:A8} (pu:Af) (n:Nat) (hcall:call=Bb tabs HV pu (inl pu)) {args:LV} {v:Value} (hm:m44 pu n args=some v) (_:∀ x∈args,closed2 x=true):args.length≤13∧BN tt call 1 Wt (Fr.made 13 args) (Ao tabs) (Fin tt 1 [.tmp 2] v):=by
 subst hcall
 unfold m44 at hm
 replace hm:=Ad hm;obtain⟨a0,args_0,rfl,hm⟩:=hm
 replace hm:=AC hm;obtain⟨rfl,hm⟩:=hm
 replace hm:=BG hm;obtain⟨l0,rfl,hm⟩:=hm
 replace hm:=Ad hm;obtain⟨v0,l33727_0,rfl,hm⟩:=hm
 replace hm:=Ad hm;obtain⟨v1,l33727_1,rfl,hm⟩:=hm
 replace hm:=Ad hm;obtain⟨v2,l33727_2,rfl,hm⟩:=hm
 replace hm:=AC hm;obtain⟨rfl,hm⟩:=hm
 replace hm:=Ai hm;obtain⟨x0,rfl,hm⟩:=hm
 replace hm:=Al hm;obtain⟨s0,rfl,hm⟩:=hm
 replace hm:=Al hm;obtain⟨s1,rfl,hm⟩:=hm
 unfold bO at hm
 refine⟨by simp,?_⟩
 refine .same (F':=(fr 13 [(0,(.agg ⟨[zI x0,Sl.v 1 s0,Sl.v 1 s1]⟩))])) (H':=DT) (by kernel_rfl) (by kernel_rfl) ?_
 refine .then (.rK (.ghs (fr 13 [(1,pt 1 0)]) (hT 2 [(oC [zI x0,Sl.v 1 s0,Sl.v 1 s1])]) (.k0 [false] [.tmp 1 false] [1]) ?_))
 refine .then ?_
 replace hm:=Hy hm;obtain⟨x1,h0,hm⟩:=hm
 refine .reg (eC 1 ((oo (pu 51 [(.agg ⟨[zI x0,Sl.v 1 s0,Sl.v 1 s1]⟩)]) none fun v=>some (v,(hT 2 [(oC [zI x0,Sl.v 1 s0,Sl.v 1 s1])])))) (AB h0) (eE)) ?_
 refine .ghs (fr 13 [(1,pt 1 0),(3,.int .u16 x1)]) (hT 2 [(oC [zI x0,Sl.v 1 s0,Sl.v 1 s1])]) (.k0 [false] [.tmp 1 false] [1,3]) ?_
 refine .then ?_
 replace hm:=Hy hm;obtain⟨x2,h1,hm⟩:=hm
 replace hm:=Ab hm;obtain⟨v3,h2,hm⟩:=hm
 replace hm:=Ch hm;obtain⟨l1,rfl,hm⟩:=hm
 replace hm:=Ad hm;obtain⟨v4,l34237_0,rfl,hm⟩:=hm
 replace hm:=Ad hm;obtain⟨v5,l34237_1,rfl,hm⟩:=hm
 replace hm:=Ad hm;obtain⟨v6,l34237_2,rfl,hm⟩:=hm
 replace hm:=AC hm;obtain⟨rfl,hm⟩:=hm
 replace hm:=Ae hm;obtain⟨h3,hm⟩:=hm
 obtain rfl:=KR h3
 replace hm:=BG hm;obtain⟨l2,rfl,hm⟩:=hm
 replace hm:=Ad hm;obtain⟨v7,l34243_0,rfl,hm⟩:=hm
 replace hm:=Ad hm;obtain⟨v8,l34243_1,rfl,hm⟩:=hm
 replace hm:=Ad hm;obtain⟨v9,l34243_2,rfl,hm⟩:=hm
 replace hm:=Ad hm;obtain⟨v10,l34243_3,rfl,hm⟩:=hm
 replace hm:=AC hm;obtain⟨rfl,hm⟩:=hm
 replace hm:=Ai hm;obtain⟨x3,rfl,hm⟩:=hm
 replace hm:=Al hm;obtain⟨s2,rfl,hm⟩:=hm
 replace hm:=Al hm;obtain⟨s3,rfl,hm⟩:=hm
 replace hm:=Ae hm;obtain⟨h4,hm⟩:=hm
 obtain rfl:=Ey h4
 replace hm:=Ab hm;obtain⟨y0,h5,hm⟩:=hm
 replace hm:=Ae hm;obtain⟨h6,hm⟩:=hm
 replace hm:=Ae hm;obtain⟨h7,hm⟩:=hm
 replace hm:=Ab hm;obtain⟨v11,h8,hm⟩:=hm
 replace hm:=Ch hm;obtain⟨l3,rfl,hm⟩:=hm
 replace hm:=Ad hm;obtain⟨v12,l34268_0,rfl,hm⟩:=hm
 replace hm:=Ad hm;obtain⟨v13,l34268_1,rfl,hm⟩:=hm
 replace hm:=Ad hm;obtain⟨v14,l34268_2,rfl,hm⟩:=hm
 replace hm:=AC hm;obtain⟨rfl,hm⟩:=hm
 replace hm:=Ai hm;obtain⟨x4,rfl,hm⟩:=hm
 replace hm:=BG hm;obtain⟨l4,rfl,hm⟩:=hm
 replace hm:=Ad hm;obtain⟨v15,l34275_0,rfl,hm⟩:=hm
 replace hm:=Ad hm;obtain⟨v16,l34275_1,rfl,hm⟩:=hm
 replace hm:=Ad hm;obtain⟨v17,l34275_2,rfl,hm⟩:=hm
 replace hm:=Ad hm;obtain⟨v18,l34275_3,rfl,hm⟩:=hm
 replace hm:=AC hm;obtain⟨rfl,hm⟩:=hm
 replace hm:=Ai hm;obtain⟨x5,rfl,hm⟩:=hm
 replace hm:=Al hm;obtain⟨s4,rfl,hm⟩:=hm
 replace hm:=Al hm;obtain⟨s5,rfl,hm⟩:=hm
 replace hm:=Ae hm;obtain⟨h9,hm⟩:=hm
 obtain rfl:=Ey h9
 replace hm:=Ab hm;obtain⟨y1,h10,hm⟩:=hm
 replace hm:=Ae hm;obtain⟨h11,hm⟩:=hm
 refine .reg (eC 3 ((oo (pu 64 [.int .u16 x1]) none fun v=>some (v,(hT 2 [(oC [zI x0,Sl.v 1 s0,Sl.v 1 s1])])))) (AB h1) (eD (EK tabs [[none,some 1,some 1]] 1 [] [true,false] (pu 10650) [(.agg ⟨[zI x0,Sl.v 1 s0,Sl.v 1 s1]⟩)] (hT 2 [(oC [zI x0,Sl.v 1 s0,Sl.v 1 s1])])) (EL (as:=[(.agg ⟨[zI x0,Sl.v 1 s0,Sl.v 1 s1]⟩)]) (H1:=(hT 2 [(oC [zI x0,Sl.v 1 s0,Sl.v 1 s1])])) (BS (Ot (Da Dk (Da (KQ (CV (z:=1) (v:=(Sl.v 1 s0)) (H:=(hT 2 [(oC [zI x0,Sl.v 1 s0,Sl.v 1 s1])])) (by kernel_rfl) (by kernel_rfl) (by kernel_rfl))) (Da (KQ (CV (z:=1) (v:=(Sl.v 1 s1)) (H:=(hT 2 [(oC [zI x0,Sl.v 1 s0,Sl.v 1 s1])])) (by kernel_rfl) (by kernel_rfl) (by kernel_rfl))) Oq)))) Gj) (EI (H2:=(hT 4 [(oC [zI x0,Sl.v 1 s0,Sl.v 1 s1]),(oC [zI x3,Sl.v 1 s2,Sl.v 1 s3,(.map (some 3))]),(.map (Akd.es y0) (Akd.clock y0))])) (v:=(pt 1 0)) (v':=(pt 2 0)) [some 0] [] [] [(.agg ⟨[zI x0,Sl.v 1 s0,Sl.v 1 s1]⟩)] [(.agg ⟨[zI x3,Sl.v 1 s2,Sl.v 1 s3,(.map (some 2))]⟩),v6] [(oC [zI x3,Sl.v 1 s2,Sl.v 1 s3,(.map (some 2))]),(.map (Akd.es y0) (Akd.clock y0))] [some 0,none,some 1,some 2] [(true,(oC [zI x3,Sl.v 1 s2,Sl.v 1 s3,(.map (some 2))])),(false,(.map (Akd.es y0) (Akd.clock y0)))] [(oC [zI x3,Sl.v 1 s2,Sl.v 1 s3,(.map (some 3))]),(.map (Akd.es y0) (Akd.clock y0))] (by kernel_rfl) BX (Eq.trans (by kernel_rfl) h2) (En rfl (En (CK h5) BX)) (En (by kernel_rfl) (En (GZ h6) BX)))) (eD (EK tabs [[none],[none]] 2 [.tmp 0 true,.cell 1 3 false] [true,false] (pu 10660) [(pt 2 0),.int .u16 x1] (hT 4 [(oC [zI x0,Sl.v 1 s0,Sl.v 1 s1]),(oC [zI x3,Sl.v 1 s2,Sl.v 1 s3,(.map (some 3))]),(.map (Akd.es y0) (Akd.clock y0))])) (EL (as:=[(pt 2 0),.int .u16 x1]) (H1:=(hT 4 [(oC [zI x0,Sl.v 1 s0,Sl.v 1 s1]),(oC [zI x3,Sl.v 1 s2,Sl.v 1 s3,(.map (some 3))]),(.map (Akd.es y0) (Akd.clock y0))])) (BS (Dm Dk) (BS (Dm Dk) Gj)) (EI (H2:=(hT 4 [(oC [zI x0,Sl.v 1 s0,Sl.v 1 s1]),(oC [zI x5,Sl.v 1 s4,Sl.v 1 s5,(.map (some 3))]),(.map (Akd.es y1) (Akd.clock y1))])) (v:=(zI x4)) (v':=(zI x4)) [some 0,some 2,some 3] [(true,some 2),(false,some 3)] [(oC [zI x3,Sl.v 1 s2,Sl.v 1 s3,(.map (some 2))]),(.map (Akd.es y0) (Akd.clock y0))] [pt 1 0,.int .u16 x1] [(.agg ⟨[zI x5,Sl.v 1 s4,Sl.v 1 s5,(.map (some 2))]⟩),v14] [(oC [zI x5,Sl.v 1 s4,Sl.v 1 s5,(.map (some 2))]),(.map (Akd.es y1) (Akd.clock y1))] [some 0,none,some 1,some 2] [(true,(oC [zI x5,Sl.v 1 s4,Sl.v 1 s5,(.map (some 2))])),(false,(.map (Akd.es y1) (Akd.clock y1)))] [(oC [zI x5,Sl.v 1 s4,Sl.v 1 s5,(.map (some 3))]),(.map (Akd.es y1) (Akd.clock y1))] (by kernel_rfl) (En (by kernel_rfl) (En (Ka h7) BX)) (Eq.trans (by kernel_rfl) h8) (En rfl (En (CK h10) BX)) (En (by kernel_rfl) (En (GZ h11) BX)))) (eE)))) ?_
 refine .ghs (fr 13 [(2,(zI (Aj .i64 (Int.sub x2 x4))))]) DT (.k0 [false] [] [2]) ?_
 refine .ret ?_
 exact Fp (zI (Aj .i64 (Int.sub x2 x4))) hm
end
end Go.MnOM
