/- Made from wip. -/
import Derived.Test.YtlgmapibifphaaaDoorMnNMod1x

set_option maxRecDepth 100000
set_option maxHeartbeats 20000000
set_option linter.unusedVariables false
namespace Go.MnNM
open Go.Sp Go.MnN
noncomputable section
def UH (pu:Af) (n:Nat) (z0:Int):OV:=
 (some (.int .i64 z0))
def Ox (pu:Af) (n:Nat) (ih0:Int→Sl→Int→Int→OV) (z0:Int) (s0:Sl) (z1 z2:Int):OV:=
 (bb (AY z2 z1) (oo (EA z2) none fun k1=>(bb (an (Nat.blt k1 (Sl.n s0)) true) (oo (AL (Sl.cs s0) (k1*1)) none fun v0=>(oo (Bi .i64 v0) none fun x0=>(ih0 (Aj .i64 (Int.add (Aj .i64 (Int.mul (8:Int) z0)) x0)) s0 z1 (Aj .i64 (Int.add (Int.ofNat k1) (1:Int)))))) none)) (UH pu n z0))
def Oy (pu:Af) (n w:Nat):Int→Sl→Int→Int→OV:=
 Nat.rec (motive:=fun _=>Int→Sl→Int→Int→OV) (fun _ _ _ _=>none) (fun _ ih0=>Ox pu n ih0) w
def vO (pu:Af) (n:Nat) (s0:Sl):OV:=
 (Oy pu n n (0:Int) s0 (Int.ofNat (Sl.n s0)) (0:Int))
def vP (pu:Af) (n:Nat) (args:LV):OV:=
 (ll args none fun a0 args=>(ll args (oo (Bj 1 a0) none fun s0=>(vO pu n s0)) fun _ _=>none))
theorem vQ (pu:Af) (n:Nat) (z0:Int) {v:Value} (hm:UH pu n z0=some v):BN tt (Bb tabs Ir pu (inl pu)) 1 WH (fr 18 [(3,zI z0)]) FK (Fin tt 1 [.tmp 2] v):=by
 unfold UH at hm
 refine .then (.rK (.ghs (fr 18 [(2,zI z0)]) FK (.k0 [false] [] [2]) ?_))
 refine .ret ?_
 exact Fb (zI z0) hm
theorem r23 {call:A8} (pu:Af) (n:Nat) (hcall:call=Bb tabs Ir pu (inl pu)) {args:LV} {v:Value} (hm:vP pu n args=some v) (_:∀ x∈args,closed2 x=true):args.length≤18∧BN tt call 1 PQ (Fr.made 18 args) (Ao tabs) (Fin tt 1 [.tmp 2] v):=by
 subst hcall
 unfold vP at hm
 replace hm:=Ad hm;obtain⟨a0,args_0,rfl,hm⟩:=hm
 replace hm:=AC hm;obtain⟨rfl,hm⟩:=hm
 replace hm:=Al hm;obtain⟨s0,rfl,hm⟩:=hm
 unfold vO at hm
 refine⟨by simp,?_⟩
 refine .same (F':=(fr 18 [(0,Sl.v 1 s0)])) (H':=FK) (by kernel_rfl) (by kernel_rfl) ?_
 refine .then (.rK (.ghs (fr 18 [(0,Sl.v 1 s0)]) FK (.k0 [false] [] [0]) ?_))
 refine .then (.rK (.ghs (fr 18 [(0,Sl.v 1 s0),(3,(zI (0:Int)))]) FK (.k0 [false] [] [0,3]) ?_))
 refine .join (v:=v) (fun y:Int=>((fr 18 [(3,zI y)]),FK)) (fun y=>UH pu n y) ?_ ?_
 ·rintro z0 hm
  exact vQ pu n z0 hm
 ·refine .then (.rK (.ghs (fr 18 [(3,(zI (0:Int))),(6,Sl.v 1 s0),(7,(zI (Int.ofNat (Sl.n s0)))),(8,(zI (0:Int)))]) FK (.k0 [false] [] [3,6,7,8]) ?_))
  refine .block (.loopM (v:=v) (fun y:Int×Sl×Int×Int=>((fr 18 [(3,(zI y.1)),(6,(Sl.v 1 y.2.1)),(7,(zI y.2.2.1)),(8,(zI y.2.2.2))]),FK)) (fun w y=>Oy pu n w y.1 y.2.1 y.2.2.1 y.2.2.2) n ⟨((0:Int),s0,(Int.ofNat (Sl.n s0)),(0:Int)),hm,(.k0 [false] [] [3,6,7,8])⟩ (fun _=>rfl) ?_)
  rintro w0 ⟨z1,s1,z2,z3⟩ hm
  replace hm:Ox pu n (Oy pu n w0) z1 s1 z2 z3=some v:=hm
  unfold Ox at hm
  refine .then (.rK (.ghs (fr 18 [(3,zI z1),(6,Sl.v 1 s1),(7,zI z2),(8,zI z3),(9,(zB (AY z3 z2)))]) FK (.k0 [false] [] [3,6,7,8,9]) ?_))
  refine .then ?_
  replace hm:=Ag hm;rcases hm with⟨h0,hm⟩ | ⟨h0,hm⟩
  ·refine Gy (AY z3 z2) h0 ?_
   refine .skip (.ghs (fr 18 [(3,zI z1),(6,Sl.v 1 s1),(7,zI z2),(8,zI z3)]) FK (.k0 [false] [] [3,6,7,8]) ?_)
   refine .then (.block (.then ?_))
   replace hm:=Ab hm;obtain⟨k1,h1,hm⟩:=hm
   obtain rfl:=AR h1
   replace hm:=Ae hm;obtain⟨h2,hm⟩:=hm
   replace hm:=Gq hm;obtain⟨x0,h3,hm⟩:=hm
   refine .reg (eD (keep FK (bb (an (Nat.blt k1 (Sl.n s1)) true) (some (Cv (k1*1) (Sl.cs s1))) none)) (AX h2) (eD (keep FK (AL (Sl.cs s1) (k1*1))) (AZ h3) (eE))) ?_
   refine .ghs (fr 18 [(3,zI z1),(5,zI x0),(6,Sl.v 1 s1),(7,zI z2),(8,(zI (Int.ofNat k1)))]) FK (.k0 [false] [] [3,5,6,7,8]) ?_
   refine .rK (.ghs (fr 18 [(3,(zI (Aj .i64 (Int.add (Aj .i64 (Int.mul (8:Int) z1)) x0)))),(6,Sl.v 1 s1),(7,zI z2),(8,(zI (Int.ofNat k1)))]) FK (.k0 [false] [] [3,6,7,8]) ?_)
   refine .rK ?_
   exact⟨((Aj .i64 (Int.add (Aj .i64 (Int.mul (8:Int) z1)) x0)),s1,z2,(Aj .i64 (Int.add (Int.ofNat k1) (1:Int)))),hm,(.k0 [false] [] [3,6,7,8])⟩
  ·refine G5 (AY z3 z2) h0 ?_
   refine .exit ?_
   exact⟨z1,hm,(.k0 [false] [] [3])⟩

def Yp (pu:Af) (n:Nat) (s0:Sl) (x0 x1:Int):OV:=
 (bb (Nat.beq (Sl.n s0) 0) (oo (EA x1) none fun k1=>(bb (an (Nat.blt k1 0) true) (oo (AL ([]:LV) (0+k1*1)) none fun v0=>(oo (Bi .i64 v0) none fun x2=>(oo (EA x0) none fun k2=>(bb (an (Nat.blt k2 0) true) (oo (AL ([]:LV) (0+k2*1)) none fun v1=>(oo (Bi .i64 v1) none fun x3=>(bb (an (Nat.blt k2 0) true) (bb (an (Nat.ble ((0+k2*1)+1) (len ([]:LV))) true) (bb (an (Nat.blt k1 0) true) (bb (an (Nat.ble ((0+k1*1)+1) (len (BM ([.int .i64 x2]:LV) (0+k2*1) ([]:LV)))) true) (bb (Au Ah (BM ([.int .i64 x3]:LV) (0+k1*1) (BM ([.int .i64 x2]:LV) (0+k2*1) ([]:LV)))) (bb (an (Nat.ble (0+0*1) (len (BM ([.int .i64 x3]:LV) (0+k1*1) (BM ([.int .i64 x2]:LV) (0+k2*1) ([]:LV))))) (Au Ah (Aq (0*1) (Am 0 (BM ([.int .i64 x3]:LV) (0+k1*1) (BM ([.int .i64 x2]:LV) (0+k2*1) ([]:LV))))))) (some (Sl.v 1 (Sl.mk 0 0 (Aq (0*1) (Am 0 (BM ([.int .i64 x3]:LV) (0+k1*1) (BM ([.int .i64 x2]:LV) (0+k2*1) ([]:LV)))))))) none) none) none) none) none) none))) none)))) none)) (bb (EQ (0+(Sl.n s0)) 8) (bb (Au Ah (Aq ((Sl.n s0)*1) (Sl.cs s0))) (oo (EA x1) none fun k3=>(bb (an (Nat.blt k3 (0+(Sl.n s0))) true) (oo (AL (Aq ((Sl.n s0)*1) (Sl.cs s0)) (0+k3*1)) none fun v2=>(oo (Bi .i64 v2) none fun x4=>(oo (EA x0) none fun k4=>(bb (an (Nat.blt k4 (0+(Sl.n s0))) true) (oo (AL (Aq ((Sl.n s0)*1) (Sl.cs s0)) (0+k4*1)) none fun v3=>(oo (Bi .i64 v3) none fun x5=>(bb (an (Nat.blt k4 (0+(Sl.n s0))) true) (bb (an (Nat.ble ((0+k4*1)+1) (len (Aq ((Sl.n s0)*1) (Sl.cs s0)))) true) (bb (an (Nat.blt k3 (0+(Sl.n s0))) true) (bb (an (Nat.ble ((0+k3*1)+1) (len (BM ([.int .i64 x4]:LV) (0+k4*1) (Aq ((Sl.n s0)*1) (Sl.cs s0))))) true) (bb (Au Ah (BM ([.int .i64 x5]:LV) (0+k3*1) (BM ([.int .i64 x4]:LV) (0+k4*1) (Aq ((Sl.n s0)*1) (Sl.cs s0))))) (bb (an (Nat.ble (0+(0+(Sl.n s0))*1) (len (BM ([.int .i64 x5]:LV) (0+k3*1) (BM ([.int .i64 x4]:LV) (0+k4*1) (Aq ((Sl.n s0)*1) (Sl.cs s0)))))) (Au Ah (Aq ((0+(Sl.n s0))*1) (Am 0 (BM ([.int .i64 x5]:LV) (0+k3*1) (BM ([.int .i64 x4]:LV) (0+k4*1) (Aq ((Sl.n s0)*1) (Sl.cs s0)))))))) (some (Sl.v 1 (Sl.mk (0+(Sl.n s0)) 0 (Aq ((0+(Sl.n s0))*1) (Am 0 (BM ([.int .i64 x5]:LV) (0+k3*1) (BM ([.int .i64 x4]:LV) (0+k4*1) (Aq ((Sl.n s0)*1) (Sl.cs s0))))))))) none) none) none) none) none) none))) none)))) none)) none) none))
def pI (pu:Af) (n:Nat) (args:LV):OV:=
 (ll args none fun a0 args=>(ll args none fun a1 args=>(ll args none fun a2 args=>(ll args (oo (Bj 1 a0) none fun s0=>(oo (Bi .i64 a1) none fun x0=>(oo (Bi .i64 a2) none fun x1=>(Yp pu n s0 x0 x1)))) fun _ _=>none))))
theorem r24 {call:A8} (pu:Af) (n:Nat) (hcall:call=Bb tabs Ir pu (inl pu)) {args:LV} {v:Value} (hm:pI pu n args=some v) (_:∀ x∈args,closed2 x=true):args.length≤26∧BN tt call 1 UB (Fr.made 26 args) (Ao tabs) (Fin tt 1 [.tmp 6] v):=by
 subst hcall
 unfold pI at hm
 replace hm:=Ad hm;obtain⟨a0,args_0,rfl,hm⟩:=hm
 replace hm:=Ad hm;obtain⟨a1,args_1,rfl,hm⟩:=hm
 replace hm:=Ad hm;obtain⟨a2,args_2,rfl,hm⟩:=hm
 replace hm:=AC hm;obtain⟨rfl,hm⟩:=hm
 replace hm:=Al hm;obtain⟨s0,rfl,hm⟩:=hm
 replace hm:=Ai hm;obtain⟨x0,rfl,hm⟩:=hm
 replace hm:=Ai hm;obtain⟨x1,rfl,hm⟩:=hm
 unfold Yp at hm
 refine⟨by simp,?_⟩
 refine .same (F':=(fr 26 [(0,Sl.v 1 s0),(1,zI x0),(2,zI x1)])) (H':=FK) (by kernel_rfl) (by kernel_rfl) ?_
 refine .then (.rK (.ghs (fr 26 [(0,Sl.v 1 s0),(1,zI x0),(2,zI x1)]) FK (.k0 [false] [] [0,1,2]) ?_))
 refine .then ?_
 replace hm:=Ag hm;rcases hm with⟨h0,hm⟩ | ⟨h0,hm⟩
 ·refine .reg (eC 2 (Ql (hT 2 [(oC [])]) 1 8 (sc 1 0 1 0 1) s0) (Ze h0) (eE)) ?_
  refine .ghs (fr 26 [(1,zI x0),(2,zI x1),(7,sc 1 0 1 0 1)]) (hT 2 [(oC [])]) (.k0 [false] [.tmp 7 false] [1,2,7]) ?_
  refine .then ?_
  replace hm:=Ab hm;obtain⟨k1,h1,hm⟩:=hm
  obtain rfl:=AR h1
  replace hm:=Ae hm;obtain⟨h2,hm⟩:=hm
  replace hm:=Gq hm;obtain⟨x2,h3,hm⟩:=hm
  replace hm:=Ab hm;obtain⟨k2,h4,hm⟩:=hm
  obtain rfl:=AR h4
  replace hm:=Ae hm;obtain⟨h5,hm⟩:=hm
  replace hm:=Gq hm;obtain⟨x3,h6,hm⟩:=hm
  replace hm:=Ae hm;obtain⟨h7,hm⟩:=hm
  replace hm:=Ae hm;obtain⟨h8,hm⟩:=hm
  replace hm:=Ae hm;obtain⟨h9,hm⟩:=hm
  replace hm:=Ae hm;obtain⟨h10,hm⟩:=hm
  refine .reg (eN 11 (Fr.puts (fr 26 [(1,(zI (Int.ofNat k2))),(2,(zI (Int.ofNat k1))),(7,sc 1 0 1 0 1)]) [(11,sc 1 0 1 0 1),(12,(zI (Int.ofNat k2))),(13,sc 1 0 1 0 1),(14,(zI (Int.ofNat k1))),(15,sc 1 0 1 0 1),(16,(zI (Int.ofNat k1))),(17,(.pointer (some ⟨1,(0+k1*1),none⟩))),(18,zI x2),(19,sc 1 0 1 0 1),(20,(zI (Int.ofNat k2))),(21,(.pointer (some ⟨1,(0+k2*1),none⟩)))]) (hT 2 [(oC [])]) (eC 6 (keep (hT 2 [(oC [])]) (bb (an (Nat.blt k1 0) true) (some (.pointer (some ⟨1,(0+k1*1),none⟩))) none)) (AX h2) (eD (keep (hT 2 [(oC [])]) (AL ([]:LV) (0+k1*1))) (AZ h3) (eC 2 (keep (hT 2 [(oC [])]) (bb (an (Nat.blt k2 0) true) (some (.pointer (some ⟨1,(0+k2*1),none⟩))) none)) (AX h5) (by kernel_rfl)))) (eD (keep (hT 2 [(oC [])]) (AL ([]:LV) (0+k2*1))) (AZ h6) (eD (keep (hT 2 [(oC [])]) (bb (an (Nat.blt k2 0) true) (some (.pointer (some ⟨1,(0+k2*1),none⟩))) none)) (AX h7) (eD (done (bb (an (Nat.ble ((0+k2*1)+1) (len ([]:LV))) true) (some (hT 2 [(oC (BM ([zI x2]:LV) (0+k2*1) ([]:LV)))])) none) undef) (Js h8) (eD (keep (hT 2 [(oC (BM ([zI x2]:LV) (0+k2*1) ([]:LV)))]) (bb (an (Nat.blt k1 0) true) (some (.pointer (some ⟨1,(0+k1*1),none⟩))) none)) (AX h9) (eD (done (bb (an (Nat.ble ((0+k1*1)+1) (len (BM ([zI x2]:LV) (0+k2*1) ([]:LV)))) true) (some (hT 2 [(oC (BM ([zI x3]:LV) (0+k1*1) (BM ([zI x2]:LV) (0+k2*1) ([]:LV))))])) none) undef) (Js h10) (eE))))))) ?_
  replace hm:=Ae hm;obtain⟨h11,hm⟩:=hm
  refine .ghs (fr 26 [(7,sc 1 0 1 0 1)]) (hT 2 [(oC (BM ([zI x3]:LV) (0+k1*1) (BM ([zI x2]:LV) (0+k2*1) ([]:LV))))]) (.k [1] [false] [.tmp 7 false] [7] ⟨DL h11,trivial⟩) ?_
  refine .then (.rK (.ghs (fr 26 [(6,sc 1 0 1 0 1)]) (hT 2 [(oC (BM ([zI x3]:LV) (0+k1*1) (BM ([zI x2]:LV) (0+k2*1) ([]:LV))))]) (.k [1] [false] [.tmp 6 false] [6] ⟨DL h11,trivial⟩) ?_))
  replace hm:=Ae hm;obtain⟨h12,hm⟩:=hm
  refine .ghs (Fr.puts (fr 26 [(6,sc 1 0 1 0 1)]) [(6,(Sl.v 1 (Sl.mk 0 0 (Aq (0*1) (Am 0 (BM ([zI x3]:LV) (0+k1*1) (BM ([zI x2]:LV) (0+k2*1) ([]:LV))))))))]) (hT 2 [.dead]) (.freezeC 1 6 1 (an (Nat.ble (0+0*1) (len (BM ([zI x3]:LV) (0+k1*1) (BM ([zI x2]:LV) (0+k2*1) ([]:LV))))) (Au Ah (Aq (0*1) (Am 0 (BM ([zI x3]:LV) (0+k1*1) (BM ([zI x2]:LV) (0+k2*1) ([]:LV))))))) (F1:=(Fr.puts (fr 26 [(6,sc 1 0 1 0 1)]) [(6,(Sl.v 1 (Sl.mk 0 0 (Aq (0*1) (Am 0 (BM ([zI x3]:LV) (0+k1*1) (BM ([zI x2]:LV) (0+k2*1) ([]:LV))))))))])) (H1:=(hT 2 [.dead])) (by kernel_rfl) (by kernel_rfl) h12 (E9.id _ _)) ?_
  refine .ret ?_
  exact Fb (Sl.v 1 (Sl.mk 0 0 (Aq (0*1) (Am 0 (BM ([zI x3]:LV) (0+k1*1) (BM ([zI x2]:LV) (0+k2*1) ([]:LV))))))) hm
 ·replace hm:=Ae hm;obtain⟨h13,hm⟩:=hm
  refine .reg (eC 2 (Ql (hT 2 [(oC [])]) 1 8 (sc 1 0 1 0 1) s0) (Zf h0 h13 (by kernel_rfl)) (eE)) ?_
  replace hm:=Ae hm;obtain⟨h14,hm⟩:=hm
  refine .ghs (fr 26 [(1,zI x0),(2,zI x1),(7,(sc 1 0 1 (0+(Sl.n s0)) (d2 (0+(Sl.n s0)))))]) (hT 2 [(oC (Aq ((Sl.n s0)*1) (Sl.cs s0)))]) (.k [2] [false] [.tmp 7 false] [1,2,7] ⟨DL h14,trivial⟩) ?_
  refine .then ?_
  replace hm:=Ab hm;obtain⟨k3,h15,hm⟩:=hm
  obtain rfl:=AR h15
  replace hm:=Ae hm;obtain⟨h16,hm⟩:=hm
  replace hm:=Gq hm;obtain⟨x4,h17,hm⟩:=hm
  replace hm:=Ab hm;obtain⟨k4,h18,hm⟩:=hm
  obtain rfl:=AR h18
  replace hm:=Ae hm;obtain⟨h19,hm⟩:=hm
  replace hm:=Gq hm;obtain⟨x5,h20,hm⟩:=hm
  replace hm:=Ae hm;obtain⟨h21,hm⟩:=hm
  replace hm:=Ae hm;obtain⟨h22,hm⟩:=hm
  replace hm:=Ae hm;obtain⟨h23,hm⟩:=hm
  replace hm:=Ae hm;obtain⟨h24,hm⟩:=hm
  refine .reg (eN 11 (Fr.puts (fr 26 [(1,(zI (Int.ofNat k4))),(2,(zI (Int.ofNat k3))),(7,(sc 1 0 1 (0+(Sl.n s0)) (d2 (0+(Sl.n s0)))))]) [(11,(sc 1 0 1 (0+(Sl.n s0)) (d2 (0+(Sl.n s0))))),(12,(zI (Int.ofNat k4))),(13,(sc 1 0 1 (0+(Sl.n s0)) (d2 (0+(Sl.n s0))))),(14,(zI (Int.ofNat k3))),(15,(sc 1 0 1 (0+(Sl.n s0)) (d2 (0+(Sl.n s0))))),(16,(zI (Int.ofNat k3))),(17,(.pointer (some ⟨1,(0+k3*1),none⟩))),(18,zI x4),(19,(sc 1 0 1 (0+(Sl.n s0)) (d2 (0+(Sl.n s0))))),(20,(zI (Int.ofNat k4))),(21,(.pointer (some ⟨1,(0+k4*1),none⟩)))]) (hT 2 [(oC (Aq ((Sl.n s0)*1) (Sl.cs s0)))]) (eC 6 (keep (hT 2 [(oC (Aq ((Sl.n s0)*1) (Sl.cs s0)))]) (bb (an (Nat.blt k3 (0+(Sl.n s0))) true) (some (.pointer (some ⟨1,(0+k3*1),none⟩))) none)) (AX h16) (eD (keep (hT 2 [(oC (Aq ((Sl.n s0)*1) (Sl.cs s0)))]) (AL (Aq ((Sl.n s0)*1) (Sl.cs s0)) (0+k3*1))) (AZ h17) (eC 2 (keep (hT 2 [(oC (Aq ((Sl.n s0)*1) (Sl.cs s0)))]) (bb (an (Nat.blt k4 (0+(Sl.n s0))) true) (some (.pointer (some ⟨1,(0+k4*1),none⟩))) none)) (AX h19) (by kernel_rfl)))) (eD (keep (hT 2 [(oC (Aq ((Sl.n s0)*1) (Sl.cs s0)))]) (AL (Aq ((Sl.n s0)*1) (Sl.cs s0)) (0+k4*1))) (AZ h20) (eD (keep (hT 2 [(oC (Aq ((Sl.n s0)*1) (Sl.cs s0)))]) (bb (an (Nat.blt k4 (0+(Sl.n s0))) true) (some (.pointer (some ⟨1,(0+k4*1),none⟩))) none)) (AX h21) (eD (done (bb (an (Nat.ble ((0+k4*1)+1) (len (Aq ((Sl.n s0)*1) (Sl.cs s0)))) true) (some (hT 2 [(oC (BM ([zI x4]:LV) (0+k4*1) (Aq ((Sl.n s0)*1) (Sl.cs s0))))])) none) undef) (Js h22) (eD (keep (hT 2 [(oC (BM ([zI x4]:LV) (0+k4*1) (Aq ((Sl.n s0)*1) (Sl.cs s0))))]) (bb (an (Nat.blt k3 (0+(Sl.n s0))) true) (some (.pointer (some ⟨1,(0+k3*1),none⟩))) none)) (AX h23) (eD (done (bb (an (Nat.ble ((0+k3*1)+1) (len (BM ([zI x4]:LV) (0+k4*1) (Aq ((Sl.n s0)*1) (Sl.cs s0))))) true) (some (hT 2 [(oC (BM ([zI x5]:LV) (0+k3*1) (BM ([zI x4]:LV) (0+k4*1) (Aq ((Sl.n s0)*1) (Sl.cs s0)))))])) none) undef) (Js h24) (eE))))))) ?_
  replace hm:=Ae hm;obtain⟨h25,hm⟩:=hm
  refine .ghs (fr 26 [(7,(sc 1 0 1 (0+(Sl.n s0)) (d2 (0+(Sl.n s0)))))]) (hT 2 [(oC (BM ([zI x5]:LV) (0+k3*1) (BM ([zI x4]:LV) (0+k4*1) (Aq ((Sl.n s0)*1) (Sl.cs s0)))))]) (.k [1] [false] [.tmp 7 false] [7] ⟨DL h25,trivial⟩) ?_
  refine .then (.rK (.ghs (fr 26 [(6,(sc 1 0 1 (0+(Sl.n s0)) (d2 (0+(Sl.n s0)))))]) (hT 2 [(oC (BM ([zI x5]:LV) (0+k3*1) (BM ([zI x4]:LV) (0+k4*1) (Aq ((Sl.n s0)*1) (Sl.cs s0)))))]) (.k [1] [false] [.tmp 6 false] [6] ⟨DL h25,trivial⟩) ?_))
  replace hm:=Ae hm;obtain⟨h26,hm⟩:=hm
  refine .ghs (Fr.puts (fr 26 [(6,(sc 1 0 1 (0+(Sl.n s0)) (d2 (0+(Sl.n s0)))))]) [(6,(Sl.v 1 (Sl.mk (0+(Sl.n s0)) 0 (Aq ((0+(Sl.n s0))*1) (Am 0 (BM ([zI x5]:LV) (0+k3*1) (BM ([zI x4]:LV) (0+k4*1) (Aq ((Sl.n s0)*1) (Sl.cs s0)))))))))]) (hT 2 [.dead]) (.freezeC 1 6 1 (an (Nat.ble (0+(0+(Sl.n s0))*1) (len (BM ([zI x5]:LV) (0+k3*1) (BM ([zI x4]:LV) (0+k4*1) (Aq ((Sl.n s0)*1) (Sl.cs s0)))))) (Au Ah (Aq ((0+(Sl.n s0))*1) (Am 0 (BM ([zI x5]:LV) (0+k3*1) (BM ([zI x4]:LV) (0+k4*1) (Aq ((Sl.n s0)*1) (Sl.cs s0)))))))) (F1:=(Fr.puts (fr 26 [(6,(sc 1 0 1 (0+(Sl.n s0)) (d2 (0+(Sl.n s0)))))]) [(6,(Sl.v 1 (Sl.mk (0+(Sl.n s0)) 0 (Aq ((0+(Sl.n s0))*1) (Am 0 (BM ([zI x5]:LV) (0+k3*1) (BM ([zI x4]:LV) (0+k4*1) (Aq ((Sl.n s0)*1) (Sl.cs s0)))))))))])) (H1:=(hT 2 [.dead])) (by kernel_rfl) (by kernel_rfl) h26 (E9.id _ _)) ?_
  refine .ret ?_
  exact Fb (Sl.v 1 (Sl.mk (0+(Sl.n s0)) 0 (Aq ((0+(Sl.n s0))*1) (Am 0 (BM ([zI x5]:LV) (0+k3*1) (BM ([zI x4]:LV) (0+k4*1) (Aq ((Sl.n s0)*1) (Sl.cs s0)))))))) hm

def Yq (pu:Af) (n:Nat) (x0:Int) (s0 s1:Sl):OV:=
 (oo (pu 47 [(.agg ⟨[.int .i64 x0,Sl.v 1 s0,Sl.v 1 s1]⟩)]) none fun v0=>(oo (Bi .i64 v0) none fun x1=>(bb (nt (Bd x1 (0:Int))) (some (.tuple ⟨[(.int .i64 (0:Int)),.int .i64 x1]⟩)) (oo (pu 44 [(.agg ⟨[.int .i64 x0,Sl.v 1 s0,Sl.v 1 s1]⟩)]) none fun v1=>(oo (Bi .i64 v1) none fun x2=>(some (.tuple ⟨[.int .i64 x2,(.int .i64 (0:Int))]⟩)))))))
def m29 (pu:Af) (n:Nat) (args:LV):OV:=
 (ll args none fun a0 args=>(ll args (oo (Bt a0) none fun l0=>(ll l0 none fun v0 l0=>(ll l0 none fun v1 l0=>(ll l0 none fun v2 l0=>(ll l0 (oo (Bi .i64 v0) none fun x0=>(oo (Bj 1 v1) none fun s0=>(oo (Bj 1 v2) none fun s1=>(Yq pu n x0 s0 s1)))) fun _ _=>none))))) fun _ _=>none))
theorem r29 {call:A8} (pu:Af) (n:Nat) (hcall:call=Bb tabs Ir pu (inl pu)) {args:LV} {v:Value} (hm:m29 pu n args=some v) (_:∀ x∈args,closed2 x=true):args.length≤12∧BN tt call 1 Qp (Fr.made 12 args) (Ao tabs) (Fin tt 1 [.tmp 2,.tmp 3] v):=by
 subst hcall
 unfold m29 at hm
 replace hm:=Ad hm;obtain⟨a0,args_0,rfl,hm⟩:=hm
 replace hm:=AC hm;obtain⟨rfl,hm⟩:=hm
 replace hm:=BG hm;obtain⟨l0,rfl,hm⟩:=hm
 replace hm:=Ad hm;obtain⟨v0,l24716_0,rfl,hm⟩:=hm
 replace hm:=Ad hm;obtain⟨v1,l24716_1,rfl,hm⟩:=hm
 replace hm:=Ad hm;obtain⟨v2,l24716_2,rfl,hm⟩:=hm
 replace hm:=AC hm;obtain⟨rfl,hm⟩:=hm
 replace hm:=Ai hm;obtain⟨x0,rfl,hm⟩:=hm
 replace hm:=Al hm;obtain⟨s0,rfl,hm⟩:=hm
 replace hm:=Al hm;obtain⟨s1,rfl,hm⟩:=hm
 unfold Yq at hm
 refine⟨by simp,?_⟩
 refine .same (F':=(fr 12 [(0,(.agg ⟨[zI x0,Sl.v 1 s0,Sl.v 1 s1]⟩))])) (H':=FK) (by kernel_rfl) (by kernel_rfl) ?_
 refine .then (.rK (.ghs (fr 12 [(1,pt 1 0)]) (hT 2 [(oC [zI x0,Sl.v 1 s0,Sl.v 1 s1])]) (.k0 [false] [.tmp 1 false] [1]) ?_))
 refine .then (.then ?_)
 replace hm:=Gq hm;obtain⟨x1,h0,hm⟩:=hm
 refine .reg (eC 1 ((oo (pu 47 [(.agg ⟨[zI x0,Sl.v 1 s0,Sl.v 1 s1]⟩)]) none fun v=>some (v,(hT 2 [(oC [zI x0,Sl.v 1 s0,Sl.v 1 s1])])))) (AB h0) (eE)) ?_
 refine .ghs (fr 12 [(1,pt 1 0),(4,zI x1)]) (hT 2 [(oC [zI x0,Sl.v 1 s0,Sl.v 1 s1])]) (.k0 [false] [.tmp 1 false] [1,4]) ?_
 refine .then (.rK (.ghs (fr 12 [(1,pt 1 0),(4,zI x1),(8,(zB (nt (Bd x1 (0:Int)))))]) (hT 2 [(oC [zI x0,Sl.v 1 s0,Sl.v 1 s1])]) (.k0 [false] [.tmp 1 false] [1,4,8]) ?_))
 replace hm:=Ag hm;rcases hm with⟨h1,hm⟩ | ⟨h1,hm⟩
 ·refine Gy (nt (Bd x1 (0:Int))) h1 ?_
  refine .then (.rK (.ghs (fr 12 [(2,(zI (0:Int))),(3,zI x1)]) FK (.k0 [false] [] [2,3]) ?_))
  refine .ret ?_
  exact Fb (.tuple ⟨[(zI (0:Int)),zI x1]⟩) hm
 ·refine G5 (nt (Bd x1 (0:Int))) h1 ?_
  refine .skip (.ghs (fr 12 [(1,pt 1 0)]) (hT 2 [(oC [zI x0,Sl.v 1 s0,Sl.v 1 s1])]) (.k0 [false] [.tmp 1 false] [1]) ?_)
  refine .then ?_
  replace hm:=Gq hm;obtain⟨x2,h2,hm⟩:=hm
  refine .reg (eC 1 ((oo (pu 44 [(.agg ⟨[zI x0,Sl.v 1 s0,Sl.v 1 s1]⟩)]) none fun v=>some (v,(hT 2 [(oC [zI x0,Sl.v 1 s0,Sl.v 1 s1])])))) (AB h2) (eE)) ?_
  refine .ghs (fr 12 [(2,zI x2),(3,(zI (0:Int)))]) FK (.k0 [false] [] [2,3]) ?_
  refine .ret ?_
  exact Fb (.tuple ⟨[zI x2,(zI (0:Int))]⟩) hm
def UI (pu:Af) (n:Nat) (z0:Int):OV:=
 (some (.tuple ⟨[.int .i64 z0,(.int .i64 (0:Int))]⟩))
def UJ (pu:Af) (n:Nat) (ih0:Sl→Int→Sl→Int→Int→OV) (s0:Sl) (z0:Int) (s1:Sl) (z1 z2:Int):OV:=
 (ih0 s0 z0 s1 z1 (Aj .i64 (Int.add z2 (1:Int))))
def RY (pu:Af) (n:Nat) (ih0:Sl→Int→Sl→Int→Int→OV) (ih1:Sl→Int→Int→Sl→Int→Int→Sl→Int→Int→OV) (s0:Sl) (z0 z1:Int) (s1:Sl) (z2 z3:Int) (s2:Sl) (z4 z5:Int):OV:=
 (ih1 s0 z0 z1 s1 z2 z3 s2 z4 (Aj .i64 (Int.add z5 (1:Int))))
def RZ (pu:Af) (n:Nat) (ih0:Sl→Int→Sl→Int→Int→OV) (ih1:Sl→Int→Int→Sl→Int→Int→Sl→Int→Int→OV) (s0:Sl) (z0 z1:Int) (s1:Sl) (z2 z3:Int) (s2:Sl) (z4 z5:Int):OV:=
 (bb (AY z5 z4) (oo (EA z5) none fun k1=>(bb (an (Nat.blt k1 (Sl.n s2)) true) (oo (AL (Sl.cs s2) (k1*1)) none fun v0=>(oo (Bi .i64 v0) none fun x0=>(bb (AY x0 z1) (RY pu n ih0 ih1 s0 (Aj .i64 (Int.add z0 (1:Int))) z1 s1 z2 z3 s2 z4 (Int.ofNat k1)) (RY pu n ih0 ih1 s0 z0 z1 s1 z2 z3 s2 z4 (Int.ofNat k1))))) none)) (UJ pu n ih0 s0 z0 s1 z2 z3))
def Pe (pu:Af) (n:Nat) (ih0:Sl→Int→Sl→Int→Int→OV) (w:Nat):Sl→Int→Int→Sl→Int→Int→Sl→Int→Int→OV:=
 Nat.rec (motive:=fun _=>Sl→Int→Int→Sl→Int→Int→Sl→Int→Int→OV) (fun _ _ _ _ _ _ _ _ _=>none) (fun _ ih1=>RZ pu n ih0 ih1) w
def R3 (pu:Af) (n:Nat) (ih0:Sl→Int→Sl→Int→Int→OV) (s0:Sl) (z0:Int) (s1:Sl) (z1 z2:Int):OV:=
 (bb (AY z2 z1) (oo (EA z2) none fun k1=>(bb (an (Nat.blt k1 (Sl.n s1)) true) (oo (AL (Sl.cs s1) (k1*1)) none fun v0=>(oo (Bi .i64 v0) none fun x0=>(oo (EA (Aj .i64 (Int.add (Int.ofNat k1) (1:Int)))) none fun k2=>(bb (nt (Nat.beq (Sl.fl s0) 2)) (bb (Nat.ble k2 (Sl.n s0)) (Pe pu n ih0 n s0 z0 x0 s1 z1 (Int.ofNat k1) (Sl.mk ((Sl.n s0) - k2) (bb (an (Nat.beq (Sl.n s0) (Sl.n s0)) (Dp false (Nat.beq (Sl.fl s0) 1))) 1 0) (Aq (((Sl.n s0) - k2)*1) (Am (k2*1) (Sl.cs s0)))) (Int.ofNat (Sl.n (Sl.mk ((Sl.n s0) - k2) (bb (an (Nat.beq (Sl.n s0) (Sl.n s0)) (Dp false (Nat.beq (Sl.fl s0) 1))) 1 0) (Aq (((Sl.n s0) - k2)*1) (Am (k2*1) (Sl.cs s0)))))) (0:Int)) none) none)))) none)) (UI pu n z0))
def JO (pu:Af) (n w:Nat):Sl→Int→Sl→Int→Int→OV:=
 Nat.rec (motive:=fun _=>Sl→Int→Sl→Int→Int→OV) (fun _ _ _ _ _=>none) (fun _ ih0=>R3 pu n ih0) w
def Yr (pu:Af) (n:Nat) (x0:Int) (s0 s1:Sl):OV:=
 (oo (pu 47 [(.agg ⟨[.int .i64 x0,Sl.v 1 s0,Sl.v 1 s1]⟩)]) none fun v0=>(oo (Bi .i64 v0) none fun x1=>(bb (nt (Bd x1 (0:Int))) (some (.tuple ⟨[(.int .i64 (0:Int)),.int .i64 x1]⟩)) (oo (pu 58 [(.agg ⟨[.int .i64 x0,Sl.v 1 s0,Sl.v 1 s1]⟩)]) none fun v1=>(oo (Bj 1 v1) none fun s2=>(JO pu n n s2 (0:Int) s2 (Int.ofNat (Sl.n s2)) (0:Int)))))))
def pJ (pu:Af) (n:Nat) (args:LV):OV:=
 (ll args none fun a0 args=>(ll args (oo (Bt a0) none fun l0=>(ll l0 none fun v0 l0=>(ll l0 none fun v1 l0=>(ll l0 none fun v2 l0=>(ll l0 (oo (Bi .i64 v0) none fun x0=>(oo (Bj 1 v1) none fun s0=>(oo (Bj 1 v2) none fun s1=>(Yr pu n x0 s0 s1)))) fun _ _=>none))))) fun _ _=>none))
theorem vR (pu:Af) (n:Nat) (z0:Int) {v:Value} (hm:UI pu n z0=some v):BN tt (Bb tabs Ir pu (inl pu)) 1 WI (fr 44 [(7,zI z0)]) FK (Fin tt 1 [.tmp 2,.tmp 3] v):=by
 unfold UI at hm
 refine .then (.rK (.ghs (fr 44 [(2,zI z0),(3,(zI (0:Int)))]) FK (.k0 [false] [] [2,3]) ?_))
 refine .ret ?_
 exact Fb (.tuple ⟨[zI z0,(zI (0:Int))]⟩) hm
theorem r30 {call:A8} (pu:Af) (n:Nat) (hcall:call=Bb tabs Ir pu (inl pu)) {args:LV} {v:Value} (hm:pJ pu n args=some v) (_:∀ x∈args,closed2 x=true):args.length≤44∧BN tt call 1 Qq (Fr.made 44 args) (Ao tabs) (Fin tt 1 [.tmp 2,.tmp 3] v):=by
 subst hcall
 unfold pJ at hm
 replace hm:=Ad hm;obtain⟨a0,args_0,rfl,hm⟩:=hm
 replace hm:=AC hm;obtain⟨rfl,hm⟩:=hm
 replace hm:=BG hm;obtain⟨l0,rfl,hm⟩:=hm
 replace hm:=Ad hm;obtain⟨v0,l24744_0,rfl,hm⟩:=hm
 replace hm:=Ad hm;obtain⟨v1,l24744_1,rfl,hm⟩:=hm
 replace hm:=Ad hm;obtain⟨v2,l24744_2,rfl,hm⟩:=hm
 replace hm:=AC hm;obtain⟨rfl,hm⟩:=hm
 replace hm:=Ai hm;obtain⟨x0,rfl,hm⟩:=hm
 replace hm:=Al hm;obtain⟨s0,rfl,hm⟩:=hm
 replace hm:=Al hm;obtain⟨s1,rfl,hm⟩:=hm
 unfold Yr at hm
 refine⟨by simp,?_⟩
 refine .same (F':=(fr 44 [(0,(.agg ⟨[zI x0,Sl.v 1 s0,Sl.v 1 s1]⟩))])) (H':=FK) (by kernel_rfl) (by kernel_rfl) ?_
 refine .then (.rK (.ghs (fr 44 [(1,pt 1 0)]) (hT 2 [(oC [zI x0,Sl.v 1 s0,Sl.v 1 s1])]) (.k0 [false] [.tmp 1 false] [1]) ?_))
 refine .then (.then ?_)
 replace hm:=Gq hm;obtain⟨x1,h0,hm⟩:=hm
 refine .reg (eC 1 ((oo (pu 47 [(.agg ⟨[zI x0,Sl.v 1 s0,Sl.v 1 s1]⟩)]) none fun v=>some (v,(hT 2 [(oC [zI x0,Sl.v 1 s0,Sl.v 1 s1])])))) (AB h0) (eE)) ?_
 refine .ghs (fr 44 [(1,pt 1 0),(4,zI x1)]) (hT 2 [(oC [zI x0,Sl.v 1 s0,Sl.v 1 s1])]) (.k0 [false] [.tmp 1 false] [1,4]) ?_
 refine .then (.rK (.ghs (fr 44 [(1,pt 1 0),(4,zI x1),(15,(zB (nt (Bd x1 (0:Int)))))]) (hT 2 [(oC [zI x0,Sl.v 1 s0,Sl.v 1 s1])]) (.k0 [false] [.tmp 1 false] [1,4,15]) ?_))
 replace hm:=Ag hm;rcases hm with⟨h1,hm⟩ | ⟨h1,hm⟩
 ·refine Gy (nt (Bd x1 (0:Int))) h1 ?_
  refine .then (.rK (.ghs (fr 44 [(2,(zI (0:Int))),(3,zI x1)]) FK (.k0 [false] [] [2,3]) ?_))
  refine .ret ?_
  exact Fb (.tuple ⟨[(zI (0:Int)),zI x1]⟩) hm
 ·refine G5 (nt (Bd x1 (0:Int))) h1 ?_
  refine .skip (.ghs (fr 44 [(1,pt 1 0)]) (hT 2 [(oC [zI x0,Sl.v 1 s0,Sl.v 1 s1])]) (.k0 [false] [.tmp 1 false] [1]) ?_)
  refine .then (.rK (.ghs (fr 44 [(1,pt 1 0),(5,(.func (.func 58) ⟨[]⟩ ⟨[]⟩))]) (hT 2 [(oC [zI x0,Sl.v 1 s0,Sl.v 1 s1])]) (.k0 [false] [.tmp 1 false] [1,5]) ?_))
  refine .then ?_
  replace hm:=vJ hm;obtain⟨s2,h2,hm⟩:=hm
  refine .reg (eC 2 ((oo (pu 58 [(.agg ⟨[zI x0,Sl.v 1 s0,Sl.v 1 s1]⟩)]) none fun v=>some (v,(hT 2 [(oC [zI x0,Sl.v 1 s0,Sl.v 1 s1])])))) (AB h2) (eE)) ?_
  refine .ghs (fr 44 [(6,Sl.v 1 s2)]) FK (.k0 [false] [] [6]) ?_
  refine .then (.rK (.ghs (fr 44 [(6,Sl.v 1 s2),(7,(zI (0:Int)))]) FK (.k0 [false] [] [6,7]) ?_))
  refine .join (v:=v) (fun y:Int=>((fr 44 [(7,zI y)]),FK)) (fun y=>UI pu n y) ?_ ?_
  ·rintro z0 hm
   exact vR pu n z0 hm
  ·refine .then (.rK (.ghs (fr 44 [(6,Sl.v 1 s2),(7,(zI (0:Int))),(20,Sl.v 1 s2),(21,(zI (Int.ofNat (Sl.n s2)))),(22,(zI (0:Int)))]) FK (.k0 [false] [] [6,7,20,21,22]) ?_))
   refine .block (.loopM (v:=v) (fun y:Sl×Int×Sl×Int×Int=>((fr 44 [(6,(Sl.v 1 y.1)),(7,(zI y.2.1)),(20,(Sl.v 1 y.2.2.1)),(21,(zI y.2.2.2.1)),(22,(zI y.2.2.2.2))]),FK)) (fun w y=>JO pu n w y.1 y.2.1 y.2.2.1 y.2.2.2.1 y.2.2.2.2) n ⟨(s2,(0:Int),s2,(Int.ofNat (Sl.n s2)),(0:Int)),hm,(.k0 [false] [] [6,7,20,21,22])⟩ (fun _=>rfl) ?_)
   rintro w0 ⟨s3,z1,s4,z2,z3⟩ hm
   replace hm:R3 pu n (JO pu n w0) s3 z1 s4 z2 z3=some v:=hm
   unfold R3 at hm
   refine .then (.rK (.ghs (fr 44 [(6,Sl.v 1 s3),(7,zI z1),(20,Sl.v 1 s4),(21,zI z2),(22,zI z3),(23,(zB (AY z3 z2)))]) FK (.k0 [false] [] [6,7,20,21,22,23]) ?_))
   refine .then ?_
   replace hm:=Ag hm;rcases hm with⟨h3,hm⟩ | ⟨h3,hm⟩
   ·refine Gy (AY z3 z2) h3 ?_
    refine .skip (.ghs (fr 44 [(6,Sl.v 1 s3),(7,zI z1),(20,Sl.v 1 s4),(21,zI z2),(22,zI z3)]) FK (.k0 [false] [] [6,7,20,21,22]) ?_)
    refine .join (v:=v) (fun y:Sl×Int×Sl×Int×Int=>((fr 44 [(6,(Sl.v 1 y.1)),(7,(zI y.2.1)),(20,(Sl.v 1 y.2.2.1)),(21,(zI y.2.2.2.1)),(22,(zI y.2.2.2.2))]),FK)) (fun y=>UJ pu n (JO pu n w0) y.1 y.2.1 y.2.2.1 y.2.2.2.1 y.2.2.2.2) ?_ ?_
    ·rintro⟨s5,z4,s6,z5,z6⟩ hm
     unfold UJ at hm
     refine .rK ?_
     exact⟨(s5,z4,s6,z5,(Aj .i64 (Int.add z6 (1:Int)))),hm,(.k0 [false] [] [6,7,20,21,22])⟩
    ·refine .block (.then ?_)
     replace hm:=Ab hm;obtain⟨k1,h4,hm⟩:=hm
     obtain rfl:=AR h4
     replace hm:=Ae hm;obtain⟨h5,hm⟩:=hm
     replace hm:=Gq hm;obtain⟨x2,h6,hm⟩:=hm
     refine .reg (eC 1 (keep FK (bb (an (Nat.blt k1 (Sl.n s4)) true) (some (Cv (k1*1) (Sl.cs s4))) none)) (AX h5) (eD (keep FK (AL (Sl.cs s4) (k1*1))) (AZ h6) (eE))) ?_
     refine .ghs (fr 44 [(6,Sl.v 1 s3),(7,zI z1),(8,(zI (Int.ofNat k1))),(9,zI x2),(20,Sl.v 1 s4),(21,zI z2),(22,(zI (Int.ofNat k1)))]) FK (.k0 [false] [] [6,7,8,9,20,21,22]) ?_
     refine .then ?_
     replace hm:=Ab hm;obtain⟨k2,h7,hm⟩:=hm
     replace hm:=Ae hm;obtain⟨h8,hm⟩:=hm
     replace hm:=Ae hm;obtain⟨h9,hm⟩:=hm
     refine .reg (eC 2 (some ((zI (Aj .i64 (Int.add (Int.ofNat k1) (1:Int)))),FK)) (show _=some ((zI (Int.ofNat k2)),_) from (by rw[AR h7])) (eD (keep FK (Ns ti3 ⟨1,(Sl.n s3),(Sl.fl s3),(Sl.cs s3)⟩ (some (zI (Int.ofNat k2))) none none)) (ME (c1:=true) (c2:=(Nat.ble k2 (Sl.n s3))) (l:=k2) (h:=(Sl.n s3)) h8 (by kernel_rfl) (by kernel_rfl) rfl (by kernel_rfl) h9) (eE))) ?_
     refine .ghs (fr 44 [(6,Sl.v 1 s3),(7,zI z1),(9,zI x2),(20,Sl.v 1 s4),(21,zI z2),(22,(zI (Int.ofNat k1))),(30,(Sl.v 1 (Sl.mk ((Sl.n s3) - k2) (bb (an (Nat.beq (Sl.n s3) (Sl.n s3)) (Dp false (Nat.beq (Sl.fl s3) 1))) 1 0) (Aq (((Sl.n s3) - k2)*1) (Am (k2*1) (Sl.cs s3)))))),(31,(zI (Int.ofNat (Sl.n (Sl.mk ((Sl.n s3) - k2) (bb (an (Nat.beq (Sl.n s3) (Sl.n s3)) (Dp false (Nat.beq (Sl.fl s3) 1))) 1 0) (Aq (((Sl.n s3) - k2)*1) (Am (k2*1) (Sl.cs s3)))))))),(32,(zI (0:Int)))]) FK (.k0 [false] [] [6,7,9,20,21,22,30,31,32]) ?_
     refine .block (.loopM (v:=v) (fun y:Sl×Int×Int×Sl×Int×Int×Sl×Int×Int=>((fr 44 [(6,(Sl.v 1 y.1)),(7,(zI y.2.1)),(9,(zI y.2.2.1)),(20,(Sl.v 1 y.2.2.2.1)),(21,(zI y.2.2.2.2.1)),(22,(zI y.2.2.2.2.2.1)),(30,(Sl.v 1 y.2.2.2.2.2.2.1)),(31,(zI y.2.2.2.2.2.2.2.1)),(32,(zI y.2.2.2.2.2.2.2.2))]),FK)) (fun w y=>Pe pu n (JO pu n w0) w y.1 y.2.1 y.2.2.1 y.2.2.2.1 y.2.2.2.2.1 y.2.2.2.2.2.1 y.2.2.2.2.2.2.1 y.2.2.2.2.2.2.2.1 y.2.2.2.2.2.2.2.2) n ⟨(s3,z1,x2,s4,z2,(Int.ofNat k1),(Sl.mk ((Sl.n s3) - k2) (bb (an (Nat.beq (Sl.n s3) (Sl.n s3)) (Dp false (Nat.beq (Sl.fl s3) 1))) 1 0) (Aq (((Sl.n s3) - k2)*1) (Am (k2*1) (Sl.cs s3)))),(Int.ofNat (Sl.n (Sl.mk ((Sl.n s3) - k2) (bb (an (Nat.beq (Sl.n s3) (Sl.n s3)) (Dp false (Nat.beq (Sl.fl s3) 1))) 1 0) (Aq (((Sl.n s3) - k2)*1) (Am (k2*1) (Sl.cs s3)))))),(0:Int)),hm,(.k0 [false] [] [6,7,9,20,21,22,30,31,32])⟩ (fun _=>rfl) ?_)
     rintro w1 ⟨s7,z7,z8,s8,z9,z10,s9,z11,z12⟩ hm
     replace hm:RZ pu n (JO pu n w0) (Pe pu n (JO pu n w0) w1) s7 z7 z8 s8 z9 z10 s9 z11 z12=some v:=hm
     unfold RZ at hm
     refine .then (.rK (.ghs (fr 44 [(6,Sl.v 1 s7),(7,zI z7),(9,zI z8),(20,Sl.v 1 s8),(21,zI z9),(22,zI z10),(30,Sl.v 1 s9),(31,zI z11),(32,zI z12),(33,(zB (AY z12 z11)))]) FK (.k0 [false] [] [6,7,9,20,21,22,30,31,32,33]) ?_))
     refine .then ?_
     replace hm:=Ag hm;rcases hm with⟨h10,hm⟩ | ⟨h10,hm⟩
     ·refine Gy (AY z12 z11) h10 ?_
      refine .skip (.ghs (fr 44 [(6,Sl.v 1 s7),(7,zI z7),(9,zI z8),(20,Sl.v 1 s8),(21,zI z9),(22,zI z10),(30,Sl.v 1 s9),(31,zI z11),(32,zI z12)]) FK (.k0 [false] [] [6,7,9,20,21,22,30,31,32]) ?_)
      refine .join (v:=v) (fun y:Sl×Int×Int×Sl×Int×Int×Sl×Int×Int=>((fr 44 [(6,(Sl.v 1 y.1)),(7,(zI y.2.1)),(9,(zI y.2.2.1)),(20,(Sl.v 1 y.2.2.2.1)),(21,(zI y.2.2.2.2.1)),(22,(zI y.2.2.2.2.2.1)),(30,(Sl.v 1 y.2.2.2.2.2.2.1)),(31,(zI y.2.2.2.2.2.2.2.1)),(32,(zI y.2.2.2.2.2.2.2.2))]),FK)) (fun y=>RY pu n (JO pu n w0) (Pe pu n (JO pu n w0) w1) y.1 y.2.1 y.2.2.1 y.2.2.2.1 y.2.2.2.2.1 y.2.2.2.2.2.1 y.2.2.2.2.2.2.1 y.2.2.2.2.2.2.2.1 y.2.2.2.2.2.2.2.2) ?_ ?_
      ·rintro⟨s10,z13,z14,s11,z15,z16,s12,z17,z18⟩ hm
       unfold RY at hm
       refine .rK ?_
       exact⟨(s10,z13,z14,s11,z15,z16,s12,z17,(Aj .i64 (Int.add z18 (1:Int)))),hm,(.k0 [false] [] [6,7,9,20,21,22,30,31,32])⟩
      ·refine .block (.then ?_)
       replace hm:=Ab hm;obtain⟨k3,h11,hm⟩:=hm
       obtain rfl:=AR h11
       replace hm:=Ae hm;obtain⟨h12,hm⟩:=hm
       replace hm:=Gq hm;obtain⟨x3,h13,hm⟩:=hm
       refine .reg (eD (keep FK (bb (an (Nat.blt k3 (Sl.n s9)) true) (some (Cv (k3*1) (Sl.cs s9))) none)) (AX h12) (eD (keep FK (AL (Sl.cs s9) (k3*1))) (AZ h13) (eE))) ?_
       refine .ghs (fr 44 [(6,Sl.v 1 s7),(7,zI z7),(9,zI z8),(11,zI x3),(20,Sl.v 1 s8),(21,zI z9),(22,zI z10),(30,Sl.v 1 s9),(31,zI z11),(32,(zI (Int.ofNat k3)))]) FK (.k0 [false] [] [6,7,9,11,20,21,22,30,31,32]) ?_
       refine .then (.rK (.ghs (fr 44 [(6,Sl.v 1 s7),(7,zI z7),(9,zI z8),(20,Sl.v 1 s8),(21,zI z9),(22,zI z10),(30,Sl.v 1 s9),(31,zI z11),(32,(zI (Int.ofNat k3))),(38,(zB (AY x3 z8)))]) FK (.k0 [false] [] [6,7,9,20,21,22,30,31,32,38]) ?_))
       replace hm:=Ag hm;rcases hm with⟨h14,hm⟩ | ⟨h14,hm⟩
       ·refine Gy (AY x3 z8) h14 ?_
        refine .rK ?_
        exact⟨(s7,(Aj .i64 (Int.add z7 (1:Int))),z8,s8,z9,z10,s9,z11,(Int.ofNat k3)),hm,(.k0 [false] [] [6,7,9,20,21,22,30,31,32])⟩
       ·refine G5 (AY x3 z8) h14 ?_
        refine .skip ?_
        exact⟨(s7,z7,z8,s8,z9,z10,s9,z11,(Int.ofNat k3)),hm,(.k0 [false] [] [6,7,9,20,21,22,30,31,32])⟩
     ·refine G5 (AY z12 z11) h10 ?_
      refine .exit ?_
      exact⟨(s7,z7,s8,z9,z10),hm,(.k0 [false] [] [6,7,20,21,22])⟩
   ·refine G5 (AY z3 z2) h3 ?_
    refine .exit ?_
    exact⟨z1,hm,(.k0 [false] [] [7])⟩

def Yt (pu:Af) (n:Nat) (x0:Int) (s0 s1:Sl):OV:=
 (oo (pu 47 [(.agg ⟨[.int .i64 x0,Sl.v 1 s0,Sl.v 1 s1]⟩)]) none fun v0=>(oo (Bi .i64 v0) none fun x1=>(bb (nt (Bd x1 (0:Int))) (some (.tuple ⟨[(Sl.v 1 (Sl.mk 0 2 [])),.int .i64 x1]⟩)) (oo (pu 58 [(.agg ⟨[.int .i64 x0,Sl.v 1 s0,Sl.v 1 s1]⟩)]) none fun v1=>(oo (Bj 1 v1) none fun s2=>(some (.tuple ⟨[Sl.v 1 s2,(.int .i64 (0:Int))]⟩)))))))
def pK (pu:Af) (n:Nat) (args:LV):OV:=
 (ll args none fun a0 args=>(ll args (oo (Bt a0) none fun l0=>(ll l0 none fun v0 l0=>(ll l0 none fun v1 l0=>(ll l0 none fun v2 l0=>(ll l0 (oo (Bi .i64 v0) none fun x0=>(oo (Bj 1 v1) none fun s0=>(oo (Bj 1 v2) none fun s1=>(Yt pu n x0 s0 s1)))) fun _ _=>none))))) fun _ _=>none))
theorem r31 {call:A8} (pu:Af) (n:Nat) (hcall:call=Bb tabs Ir pu (inl pu)) {args:LV} {v:Value} (hm:pK pu n args=some v) (_:∀ x∈args,closed2 x=true):args.length≤12∧BN tt call 1 Qt (Fr.made 12 args) (Ao tabs) (Fin tt 1 [.tmp 2,.tmp 3] v):=by
 subst hcall
 unfold pK at hm
 replace hm:=Ad hm;obtain⟨a0,args_0,rfl,hm⟩:=hm
 replace hm:=AC hm;obtain⟨rfl,hm⟩:=hm
 replace hm:=BG hm;obtain⟨l0,rfl,hm⟩:=hm
 replace hm:=Ad hm;obtain⟨v0,l25580_0,rfl,hm⟩:=hm
 replace hm:=Ad hm;obtain⟨v1,l25580_1,rfl,hm⟩:=hm
 replace hm:=Ad hm;obtain⟨v2,l25580_2,rfl,hm⟩:=hm
 replace hm:=AC hm;obtain⟨rfl,hm⟩:=hm
 replace hm:=Ai hm;obtain⟨x0,rfl,hm⟩:=hm
 replace hm:=Al hm;obtain⟨s0,rfl,hm⟩:=hm
 replace hm:=Al hm;obtain⟨s1,rfl,hm⟩:=hm
 unfold Yt at hm
 refine⟨by simp,?_⟩
 refine .same (F':=(fr 12 [(0,(.agg ⟨[zI x0,Sl.v 1 s0,Sl.v 1 s1]⟩))])) (H':=FK) (by kernel_rfl) (by kernel_rfl) ?_
 refine .then (.rK (.ghs (fr 12 [(1,pt 1 0)]) (hT 2 [(oC [zI x0,Sl.v 1 s0,Sl.v 1 s1])]) (.k0 [false] [.tmp 1 false] [1]) ?_))
 refine .then (.then ?_)
 replace hm:=Gq hm;obtain⟨x1,h0,hm⟩:=hm
 refine .reg (eC 1 ((oo (pu 47 [(.agg ⟨[zI x0,Sl.v 1 s0,Sl.v 1 s1]⟩)]) none fun v=>some (v,(hT 2 [(oC [zI x0,Sl.v 1 s0,Sl.v 1 s1])])))) (AB h0) (eE)) ?_
 refine .ghs (fr 12 [(1,pt 1 0),(4,zI x1)]) (hT 2 [(oC [zI x0,Sl.v 1 s0,Sl.v 1 s1])]) (.k0 [false] [.tmp 1 false] [1,4]) ?_
 refine .then (.rK (.ghs (fr 12 [(1,pt 1 0),(4,zI x1),(8,(zB (nt (Bd x1 (0:Int)))))]) (hT 2 [(oC [zI x0,Sl.v 1 s0,Sl.v 1 s1])]) (.k0 [false] [.tmp 1 false] [1,4,8]) ?_))
 replace hm:=Ag hm;rcases hm with⟨h1,hm⟩ | ⟨h1,hm⟩
 ·refine Gy (nt (Bd x1 (0:Int))) h1 ?_
  refine .then (.rK (.ghs (fr 12 [(2,(.slice none 0 0)),(3,zI x1)]) FK (.k0 [false] [] [2,3]) ?_))
  refine .ghs (Fr.puts (fr 12 [(2,(.slice none 0 0)),(3,zI x1)]) [(2,(Sl.v 1 (Sl.mk 0 2 [])))]) FK (.freeze 1 2 1 (by kernel_rfl) (by kernel_rfl) (E9.id _ _)) ?_
  refine .ret ?_
  exact Fb (.tuple ⟨[(Sl.v 1 (Sl.mk 0 2 [])),zI x1]⟩) hm
 ·refine G5 (nt (Bd x1 (0:Int))) h1 ?_
  refine .skip (.ghs (fr 12 [(1,pt 1 0)]) (hT 2 [(oC [zI x0,Sl.v 1 s0,Sl.v 1 s1])]) (.k0 [false] [.tmp 1 false] [1]) ?_)
  refine .then ?_
  replace hm:=vJ hm;obtain⟨s2,h2,hm⟩:=hm
  refine .reg (eC 1 ((oo (pu 58 [(.agg ⟨[zI x0,Sl.v 1 s0,Sl.v 1 s1]⟩)]) none fun v=>some (v,(hT 2 [(oC [zI x0,Sl.v 1 s0,Sl.v 1 s1])])))) (AB h2) (eE)) ?_
  refine .ghs (fr 12 [(2,Sl.v 1 s2),(3,(zI (0:Int)))]) FK (.k0 [false] [] [2,3]) ?_
  refine .ret ?_
  exact Fb (.tuple ⟨[Sl.v 1 s2,(zI (0:Int))]⟩) hm

def Yu (pu:Af) (n:Nat) (x0:Int) (s0 s1:Sl):OV:=
 (oo (pu 51 [(.agg ⟨[.int .i64 x0,Sl.v 1 s0,Sl.v 1 s1]⟩)]) none fun v0=>(oo (Bi .u16 v0) none fun x1=>(oo (pu 64 [.int .u16 x1]) none fun v1=>(oo (Bi .i64 v1) none fun x2=>(oo (pu 10650 [(.agg ⟨[.int .i64 x0,Sl.v 1 s0,Sl.v 1 s1]⟩)]) none fun v2=>(oo (CQ v2) none fun l0=>(ll l0 none fun v3 l0=>(ll l0 none fun v4 l0=>(ll l0 none fun v5 l0=>(ll l0 (bb (MK v3 1 0) (oo (Bt v4) none fun l1=>(ll l1 none fun v6 l1=>(ll l1 none fun v7 l1=>(ll l1 none fun v8 l1=>(ll l1 none fun v9 l1=>(ll l1 (oo (Bi .i64 v6) none fun x3=>(oo (Bj 1 v7) none fun s2=>(oo (Bj 1 v8) none fun s3=>(bb (FC v9 2) (oo (Fj v5) none fun y0=>(bb (Au F4 (Akd.es y0)) (bb (Au F4 (Akd.es y0)) (oo (pu 10660 [(.pointer (some ⟨1,0,none⟩)),.int .u16 x1,(.agg ⟨[.int .i64 x3,Sl.v 1 s2,Sl.v 1 s3,(.map (some 2))]⟩),(Ef (.map (Akd.es y0) (Akd.clock y0)))]) none fun v10=>(oo (CQ v10) none fun l2=>(ll l2 none fun v11 l2=>(ll l2 none fun v12 l2=>(ll l2 none fun v13 l2=>(ll l2 (oo (Bi .i64 v11) none fun x4=>(oo (Bt v12) none fun l3=>(ll l3 none fun v14 l3=>(ll l3 none fun v15 l3=>(ll l3 none fun v16 l3=>(ll l3 none fun v17 l3=>(ll l3 (oo (Bi .i64 v14) none fun x5=>(oo (Bj 1 v15) none fun s4=>(oo (Bj 1 v16) none fun s5=>(bb (FC v17 2) (oo (Fj v13) none fun y1=>(bb (Au F4 (Akd.es y1)) (some (.int .i64 (Aj .i64 (Int.sub x2 x4)))) none)) none)))) fun _ _=>none))))))) fun _ _=>none)))))) none) none)) none)))) fun _ _=>none)))))) none) fun _ _=>none))))))))))
def m44 (pu:Af) (n:Nat) (args:LV):OV:=
 (ll args none fun a0 args=>(ll args (oo (Bt a0) none fun l0=>(ll l0 none fun v0 l0=>(ll l0 none fun v1 l0=>(ll l0 none fun v2 l0=>(ll l0 (oo (Bi .i64 v0) none fun x0=>(oo (Bj 1 v1) none fun s0=>(oo (Bj 1 v2) none fun s1=>(Yu pu n x0 s0 s1)))) fun _ _=>none))))) fun _ _=>none))
theorem r44 {call:A8} (pu:Af) (n:Nat) (hcall:call=Bb tabs Ir pu (inl pu)) {args:LV} {v:Value} (hm:m44 pu n args=some v) (_:∀ x∈args,closed2 x=true):args.length≤13∧BN tt call 1 UC (Fr.made 13 args) (Ao tabs) (Fin tt 1 [.tmp 2] v):=by
 subst hcall
 unfold m44 at hm
 replace hm:=Ad hm;obtain⟨a0,args_0,rfl,hm⟩:=hm
 replace hm:=AC hm;obtain⟨rfl,hm⟩:=hm
 replace hm:=BG hm;obtain⟨l0,rfl,hm⟩:=hm
 replace hm:=Ad hm;obtain⟨v0,l25608_0,rfl,hm⟩:=hm
 replace hm:=Ad hm;obtain⟨v1,l25608_1,rfl,hm⟩:=hm
 replace hm:=Ad hm;obtain⟨v2,l25608_2,rfl,hm⟩:=hm
 replace hm:=AC hm;obtain⟨rfl,hm⟩:=hm
 replace hm:=Ai hm;obtain⟨x0,rfl,hm⟩:=hm
 replace hm:=Al hm;obtain⟨s0,rfl,hm⟩:=hm
 replace hm:=Al hm;obtain⟨s1,rfl,hm⟩:=hm
 unfold Yu at hm
 refine⟨by simp,?_⟩
 refine .same (F':=(fr 13 [(0,(.agg ⟨[zI x0,Sl.v 1 s0,Sl.v 1 s1]⟩))])) (H':=FK) (by kernel_rfl) (by kernel_rfl) ?_
 refine .then (.rK (.ghs (fr 13 [(1,pt 1 0)]) (hT 2 [(oC [zI x0,Sl.v 1 s0,Sl.v 1 s1])]) (.k0 [false] [.tmp 1 false] [1]) ?_))
 refine .then ?_
 replace hm:=Gq hm;obtain⟨x1,h0,hm⟩:=hm
 refine .reg (eC 1 ((oo (pu 51 [(.agg ⟨[zI x0,Sl.v 1 s0,Sl.v 1 s1]⟩)]) none fun v=>some (v,(hT 2 [(oC [zI x0,Sl.v 1 s0,Sl.v 1 s1])])))) (AB h0) (eE)) ?_
 refine .ghs (fr 13 [(1,pt 1 0),(3,.int .u16 x1)]) (hT 2 [(oC [zI x0,Sl.v 1 s0,Sl.v 1 s1])]) (.k0 [false] [.tmp 1 false] [1,3]) ?_
 refine .then ?_
 replace hm:=Gq hm;obtain⟨x2,h1,hm⟩:=hm
 replace hm:=Ab hm;obtain⟨v3,h2,hm⟩:=hm
 replace hm:=Ch hm;obtain⟨l1,rfl,hm⟩:=hm
 replace hm:=Ad hm;obtain⟨v4,l26118_0,rfl,hm⟩:=hm
 replace hm:=Ad hm;obtain⟨v5,l26118_1,rfl,hm⟩:=hm
 replace hm:=Ad hm;obtain⟨v6,l26118_2,rfl,hm⟩:=hm
 replace hm:=AC hm;obtain⟨rfl,hm⟩:=hm
 replace hm:=Ae hm;obtain⟨h3,hm⟩:=hm
 obtain rfl:=KR h3
 replace hm:=BG hm;obtain⟨l2,rfl,hm⟩:=hm
 replace hm:=Ad hm;obtain⟨v7,l26124_0,rfl,hm⟩:=hm
 replace hm:=Ad hm;obtain⟨v8,l26124_1,rfl,hm⟩:=hm
 replace hm:=Ad hm;obtain⟨v9,l26124_2,rfl,hm⟩:=hm
 replace hm:=Ad hm;obtain⟨v10,l26124_3,rfl,hm⟩:=hm
 replace hm:=AC hm;obtain⟨rfl,hm⟩:=hm
 replace hm:=Ai hm;obtain⟨x3,rfl,hm⟩:=hm
 replace hm:=Al hm;obtain⟨s2,rfl,hm⟩:=hm
 replace hm:=Al hm;obtain⟨s3,rfl,hm⟩:=hm
 replace hm:=Ae hm;obtain⟨h4,hm⟩:=hm
 obtain rfl:=Ey h4
 replace hm:=Ab hm;obtain⟨y0,h5,hm⟩:=hm
 replace hm:=Ae hm;obtain⟨h6,hm⟩:=hm
 replace hm:=Ae hm;obtain⟨h7,hm⟩:=hm
 replace hm:=Ab hm;obtain⟨v11,h8,hm⟩:=hm
 replace hm:=Ch hm;obtain⟨l3,rfl,hm⟩:=hm
 replace hm:=Ad hm;obtain⟨v12,l26149_0,rfl,hm⟩:=hm
 replace hm:=Ad hm;obtain⟨v13,l26149_1,rfl,hm⟩:=hm
 replace hm:=Ad hm;obtain⟨v14,l26149_2,rfl,hm⟩:=hm
 replace hm:=AC hm;obtain⟨rfl,hm⟩:=hm
 replace hm:=Ai hm;obtain⟨x4,rfl,hm⟩:=hm
 replace hm:=BG hm;obtain⟨l4,rfl,hm⟩:=hm
 replace hm:=Ad hm;obtain⟨v15,l26156_0,rfl,hm⟩:=hm
 replace hm:=Ad hm;obtain⟨v16,l26156_1,rfl,hm⟩:=hm
 replace hm:=Ad hm;obtain⟨v17,l26156_2,rfl,hm⟩:=hm
 replace hm:=Ad hm;obtain⟨v18,l26156_3,rfl,hm⟩:=hm
 replace hm:=AC hm;obtain⟨rfl,hm⟩:=hm
 replace hm:=Ai hm;obtain⟨x5,rfl,hm⟩:=hm
 replace hm:=Al hm;obtain⟨s4,rfl,hm⟩:=hm
 replace hm:=Al hm;obtain⟨s5,rfl,hm⟩:=hm
 replace hm:=Ae hm;obtain⟨h9,hm⟩:=hm
 obtain rfl:=Ey h9
 replace hm:=Ab hm;obtain⟨y1,h10,hm⟩:=hm
 replace hm:=Ae hm;obtain⟨h11,hm⟩:=hm
 refine .reg (eC 3 ((oo (pu 64 [.int .u16 x1]) none fun v=>some (v,(hT 2 [(oC [zI x0,Sl.v 1 s0,Sl.v 1 s1])])))) (AB h1) (eD (EK tabs [[none,some 1,some 1]] 1 [] [true,false] (pu 10650) [(.agg ⟨[zI x0,Sl.v 1 s0,Sl.v 1 s1]⟩)] (hT 2 [(oC [zI x0,Sl.v 1 s0,Sl.v 1 s1])])) (EL (as:=[(.agg ⟨[zI x0,Sl.v 1 s0,Sl.v 1 s1]⟩)]) (H1:=(hT 2 [(oC [zI x0,Sl.v 1 s0,Sl.v 1 s1])])) (BS (Ot (Da Dk (Da (KQ (CV (z:=1) (v:=(Sl.v 1 s0)) (H:=(hT 2 [(oC [zI x0,Sl.v 1 s0,Sl.v 1 s1])])) (by kernel_rfl) (by kernel_rfl) (by kernel_rfl))) (Da (KQ (CV (z:=1) (v:=(Sl.v 1 s1)) (H:=(hT 2 [(oC [zI x0,Sl.v 1 s0,Sl.v 1 s1])])) (by kernel_rfl) (by kernel_rfl) (by kernel_rfl))) Oq)))) Gj) (EI (H2:=(hT 4 [(oC [zI x0,Sl.v 1 s0,Sl.v 1 s1]),(oC [zI x3,Sl.v 1 s2,Sl.v 1 s3,(.map (some 3))]),(.map (Akd.es y0) (Akd.clock y0))])) (v:=(pt 1 0)) (v':=(pt 2 0)) [some 0] [] [] [(.agg ⟨[zI x0,Sl.v 1 s0,Sl.v 1 s1]⟩)] [(.agg ⟨[zI x3,Sl.v 1 s2,Sl.v 1 s3,(.map (some 2))]⟩),v6] [(oC [zI x3,Sl.v 1 s2,Sl.v 1 s3,(.map (some 2))]),(.map (Akd.es y0) (Akd.clock y0))] [some 0,none,some 1,some 2] [(true,(oC [zI x3,Sl.v 1 s2,Sl.v 1 s3,(.map (some 2))])),(false,(.map (Akd.es y0) (Akd.clock y0)))] [(oC [zI x3,Sl.v 1 s2,Sl.v 1 s3,(.map (some 3))]),(.map (Akd.es y0) (Akd.clock y0))] (by kernel_rfl) BX (Eq.trans (by kernel_rfl) h2) (En rfl (En (CK h5) BX)) (En (by kernel_rfl) (En (GZ h6) BX)))) (eD (EK tabs [[none],[none]] 2 [.tmp 0 true,.cell 1 3 false] [true,false] (pu 10660) [(pt 2 0),.int .u16 x1] (hT 4 [(oC [zI x0,Sl.v 1 s0,Sl.v 1 s1]),(oC [zI x3,Sl.v 1 s2,Sl.v 1 s3,(.map (some 3))]),(.map (Akd.es y0) (Akd.clock y0))])) (EL (as:=[(pt 2 0),.int .u16 x1]) (H1:=(hT 4 [(oC [zI x0,Sl.v 1 s0,Sl.v 1 s1]),(oC [zI x3,Sl.v 1 s2,Sl.v 1 s3,(.map (some 3))]),(.map (Akd.es y0) (Akd.clock y0))])) (BS (Dm Dk) (BS (Dm Dk) Gj)) (EI (H2:=(hT 4 [(oC [zI x0,Sl.v 1 s0,Sl.v 1 s1]),(oC [zI x5,Sl.v 1 s4,Sl.v 1 s5,(.map (some 3))]),(.map (Akd.es y1) (Akd.clock y1))])) (v:=(zI x4)) (v':=(zI x4)) [some 0,some 2,some 3] [(true,some 2),(false,some 3)] [(oC [zI x3,Sl.v 1 s2,Sl.v 1 s3,(.map (some 2))]),(.map (Akd.es y0) (Akd.clock y0))] [pt 1 0,.int .u16 x1] [(.agg ⟨[zI x5,Sl.v 1 s4,Sl.v 1 s5,(.map (some 2))]⟩),v14] [(oC [zI x5,Sl.v 1 s4,Sl.v 1 s5,(.map (some 2))]),(.map (Akd.es y1) (Akd.clock y1))] [some 0,none,some 1,some 2] [(true,(oC [zI x5,Sl.v 1 s4,Sl.v 1 s5,(.map (some 2))])),(false,(.map (Akd.es y1) (Akd.clock y1)))] [(oC [zI x5,Sl.v 1 s4,Sl.v 1 s5,(.map (some 3))]),(.map (Akd.es y1) (Akd.clock y1))] (by kernel_rfl) (En (by kernel_rfl) (En (Ka h7) BX)) (Eq.trans (by kernel_rfl) h8) (En rfl (En (CK h10) BX)) (En (by kernel_rfl) (En (GZ h11) BX)))) (eE)))) ?_
 refine .ghs (fr 13 [(2,(zI (Aj .i64 (Int.sub x2 x4))))]) FK (.k0 [false] [] [2]) ?_
 refine .ret ?_
 exact Fb (zI (Aj .i64 (Int.sub x2 x4))) hm
end
end Go.MnNM
