/- Made from wip. -/
import Derived.Test.YtlgmapibifphaaaDoorMnWMod1x

set_option maxRecDepth 100000
set_option maxHeartbeats 20000000
set_option linter.unusedVariables false
namespace Go.MnWM
open Go.Sp Go.MnW
noncomputable section
def Uj (pu:Af) (n:Nat) (z0:Int):OV:=
 (some (.int .i64 z0))
def OC (pu:Af) (n:Nat) (ih0:Int→Sl→Int→Int→OV) (z0:Int) (s0:Sl) (z1 z2:Int):OV:=
 (bb (AY z2 z1) (oo (EA z2) none fun k1=>(bb (an (Nat.blt k1 (Sl.n s0)) true) (oo (AL (Sl.cs s0) (k1*1)) none fun v0=>(oo (Bi .i64 v0) none fun x0=>(ih0 (Aj .i64 (Int.add (Aj .i64 (Int.mul (8:Int) z0)) x0)) s0 z1 (Aj .i64 (Int.add (Int.ofNat k1) (1:Int)))))) none)) (Uj pu n z0))
def O3 (pu:Af) (n w:Nat):Int→Sl→Int→Int→OV:=
 Nat.rec (motive:=fun _=>Int→Sl→Int→Int→OV) (fun _ _ _ _=>none) (fun _ ih0=>OC pu n ih0) w
def sM (pu:Af) (n:Nat) (s0:Sl):OV:=
 (O3 pu n n (0:Int) s0 (Int.ofNat (Sl.n s0)) (0:Int))
def sN (pu:Af) (n:Nat) (args:LV):OV:=
 (ll args none fun a0 args=>(ll args (oo (Bj 1 a0) none fun s0=>(sM pu n s0)) fun _ _=>none))
theorem sO (pu:Af) (n:Nat) (z0:Int) {v:Value} (hm:Uj pu n z0=some v):BN tt (Bb tabs Iq pu (inl pu)) 1 VZ (fr 18 [(3,zI z0)]) FM (Fin tt 1 [.tmp 2] v):=by
 unfold Uj at hm
 refine .then (.rK (.ghs (fr 18 [(2,zI z0)]) FM (.k0 [false] [] [2]) ?_))
 refine .ret ?_
 exact FK (zI z0) hm
theorem r23 {call:A8} (pu:Af) (n:Nat) (hcall:call=Bb tabs Iq pu (inl pu)) {args:LV} {v:Value} (hm:sN pu n args=some v) (_:∀ x∈args,closed2 x=true):args.length≤18∧BN tt call 1 Ps (Fr.made 18 args) (Ao tabs) (Fin tt 1 [.tmp 2] v):=by
 subst hcall
 unfold sN at hm
 replace hm:=Ad hm;obtain⟨a0,args_0,rfl,hm⟩:=hm
 replace hm:=AC hm;obtain⟨rfl,hm⟩:=hm
 replace hm:=Al hm;obtain⟨s0,rfl,hm⟩:=hm
 unfold sM at hm
 refine⟨by simp,?_⟩
 refine .same (F':=(fr 18 [(0,Sl.v 1 s0)])) (H':=FM) (by kernel_rfl) (by kernel_rfl) ?_
 refine .then (.rK (.ghs (fr 18 [(0,Sl.v 1 s0)]) FM (.k0 [false] [] [0]) ?_))
 refine .then (.rK (.ghs (fr 18 [(0,Sl.v 1 s0),(3,(zI (0:Int)))]) FM (.k0 [false] [] [0,3]) ?_))
 refine .join (v:=v) (fun y:Int=>((fr 18 [(3,zI y)]),FM)) (fun y=>Uj pu n y) ?_ ?_
 ·rintro z0 hm
  exact sO pu n z0 hm
 ·refine .then (.rK (.ghs (fr 18 [(3,(zI (0:Int))),(6,Sl.v 1 s0),(7,(zI (Int.ofNat (Sl.n s0)))),(8,(zI (0:Int)))]) FM (.k0 [false] [] [3,6,7,8]) ?_))
  refine .block (.loopM (v:=v) (fun y:Int×Sl×Int×Int=>((fr 18 [(3,(zI y.1)),(6,(Sl.v 1 y.2.1)),(7,(zI y.2.2.1)),(8,(zI y.2.2.2))]),FM)) (fun w y=>O3 pu n w y.1 y.2.1 y.2.2.1 y.2.2.2) n ⟨((0:Int),s0,(Int.ofNat (Sl.n s0)),(0:Int)),hm,(.k0 [false] [] [3,6,7,8])⟩ (fun _=>rfl) ?_)
  rintro w0 ⟨z1,s1,z2,z3⟩ hm
  replace hm:OC pu n (O3 pu n w0) z1 s1 z2 z3=some v:=hm
  unfold OC at hm
  refine .then (.rK (.ghs (fr 18 [(3,zI z1),(6,Sl.v 1 s1),(7,zI z2),(8,zI z3),(9,(zB (AY z3 z2)))]) FM (.k0 [false] [] [3,6,7,8,9]) ?_))
  refine .then ?_
  replace hm:=Ag hm;rcases hm with⟨h0,hm⟩ | ⟨h0,hm⟩
  ·refine Hy (AY z3 z2) h0 ?_
   refine .skip (.ghs (fr 18 [(3,zI z1),(6,Sl.v 1 s1),(7,zI z2),(8,zI z3)]) FM (.k0 [false] [] [3,6,7,8]) ?_)
   refine .then (.block (.then ?_))
   replace hm:=Ab hm;obtain⟨k1,h1,hm⟩:=hm
   obtain rfl:=AR h1
   replace hm:=Ae hm;obtain⟨h2,hm⟩:=hm
   replace hm:=Ke hm;obtain⟨x0,h3,hm⟩:=hm
   refine .reg (eD (keep FM (bb (an (Nat.blt k1 (Sl.n s1)) true) (some (Cv (k1*1) (Sl.cs s1))) none)) (AX h2) (eD (keep FM (AL (Sl.cs s1) (k1*1))) (AZ h3) (eE))) ?_
   refine .ghs (fr 18 [(3,zI z1),(5,zI x0),(6,Sl.v 1 s1),(7,zI z2),(8,(zI (Int.ofNat k1)))]) FM (.k0 [false] [] [3,5,6,7,8]) ?_
   refine .rK (.ghs (fr 18 [(3,(zI (Aj .i64 (Int.add (Aj .i64 (Int.mul (8:Int) z1)) x0)))),(6,Sl.v 1 s1),(7,zI z2),(8,(zI (Int.ofNat k1)))]) FM (.k0 [false] [] [3,6,7,8]) ?_)
   refine .rK ?_
   exact⟨((Aj .i64 (Int.add (Aj .i64 (Int.mul (8:Int) z1)) x0)),s1,z2,(Aj .i64 (Int.add (Int.ofNat k1) (1:Int)))),hm,(.k0 [false] [] [3,6,7,8])⟩
  ·refine Hz (AY z3 z2) h0 ?_
   refine .exit ?_
   exact⟨z1,hm,(.k0 [false] [] [3])⟩

def XP (pu:Af) (n:Nat) (s0:Sl) (x0 x1:Int):OV:=
 (bb (Nat.beq (Sl.n s0) 0) (oo (EA x1) none fun k1=>(bb (an (Nat.blt k1 0) true) (oo (AL ([]:LV) (0+k1*1)) none fun v0=>(oo (Bi .i64 v0) none fun x2=>(oo (EA x0) none fun k2=>(bb (an (Nat.blt k2 0) true) (oo (AL ([]:LV) (0+k2*1)) none fun v1=>(oo (Bi .i64 v1) none fun x3=>(bb (an (Nat.blt k2 0) true) (bb (an (Nat.ble ((0+k2*1)+1) (len ([]:LV))) true) (bb (an (Nat.blt k1 0) true) (bb (an (Nat.ble ((0+k1*1)+1) (len (BM ([.int .i64 x2]:LV) (0+k2*1) ([]:LV)))) true) (bb (Au Ah (BM ([.int .i64 x3]:LV) (0+k1*1) (BM ([.int .i64 x2]:LV) (0+k2*1) ([]:LV)))) (bb (an (Nat.ble (0+0*1) (len (BM ([.int .i64 x3]:LV) (0+k1*1) (BM ([.int .i64 x2]:LV) (0+k2*1) ([]:LV))))) (Au Ah (Aq (0*1) (Am 0 (BM ([.int .i64 x3]:LV) (0+k1*1) (BM ([.int .i64 x2]:LV) (0+k2*1) ([]:LV))))))) (some (Sl.v 1 (Sl.mk 0 0 (Aq (0*1) (Am 0 (BM ([.int .i64 x3]:LV) (0+k1*1) (BM ([.int .i64 x2]:LV) (0+k2*1) ([]:LV)))))))) none) none) none) none) none) none))) none)))) none)) (bb (EQ (0+(Sl.n s0)) 8) (bb (Au Ah (Aq ((Sl.n s0)*1) (Sl.cs s0))) (oo (EA x1) none fun k3=>(bb (an (Nat.blt k3 (0+(Sl.n s0))) true) (oo (AL (Aq ((Sl.n s0)*1) (Sl.cs s0)) (0+k3*1)) none fun v2=>(oo (Bi .i64 v2) none fun x4=>(oo (EA x0) none fun k4=>(bb (an (Nat.blt k4 (0+(Sl.n s0))) true) (oo (AL (Aq ((Sl.n s0)*1) (Sl.cs s0)) (0+k4*1)) none fun v3=>(oo (Bi .i64 v3) none fun x5=>(bb (an (Nat.blt k4 (0+(Sl.n s0))) true) (bb (an (Nat.ble ((0+k4*1)+1) (len (Aq ((Sl.n s0)*1) (Sl.cs s0)))) true) (bb (an (Nat.blt k3 (0+(Sl.n s0))) true) (bb (an (Nat.ble ((0+k3*1)+1) (len (BM ([.int .i64 x4]:LV) (0+k4*1) (Aq ((Sl.n s0)*1) (Sl.cs s0))))) true) (bb (Au Ah (BM ([.int .i64 x5]:LV) (0+k3*1) (BM ([.int .i64 x4]:LV) (0+k4*1) (Aq ((Sl.n s0)*1) (Sl.cs s0))))) (bb (an (Nat.ble (0+(0+(Sl.n s0))*1) (len (BM ([.int .i64 x5]:LV) (0+k3*1) (BM ([.int .i64 x4]:LV) (0+k4*1) (Aq ((Sl.n s0)*1) (Sl.cs s0)))))) (Au Ah (Aq ((0+(Sl.n s0))*1) (Am 0 (BM ([.int .i64 x5]:LV) (0+k3*1) (BM ([.int .i64 x4]:LV) (0+k4*1) (Aq ((Sl.n s0)*1) (Sl.cs s0)))))))) (some (Sl.v 1 (Sl.mk (0+(Sl.n s0)) 0 (Aq ((0+(Sl.n s0))*1) (Am 0 (BM ([.int .i64 x5]:LV) (0+k3*1) (BM ([.int .i64 x4]:LV) (0+k4*1) (Aq ((Sl.n s0)*1) (Sl.cs s0))))))))) none) none) none) none) none) none))) none)))) none)) none) none))
def lX (pu:Af) (n:Nat) (args:LV):OV:=
 (ll args none fun a0 args=>(ll args none fun a1 args=>(ll args none fun a2 args=>(ll args (oo (Bj 1 a0) none fun s0=>(oo (Bi .i64 a1) none fun x0=>(oo (Bi .i64 a2) none fun x1=>(XP pu n s0 x0 x1)))) fun _ _=>none))))
theorem r24 {call:A8} (pu:Af) (n:Nat) (hcall:call=Bb tabs Iq pu (inl pu)) {args:LV} {v:Value} (hm:lX pu n args=some v) (_:∀ x∈args,closed2 x=true):args.length≤26∧BN tt call 1 Ub (Fr.made 26 args) (Ao tabs) (Fin tt 1 [.tmp 6] v):=by
 subst hcall
 unfold lX at hm
 replace hm:=Ad hm;obtain⟨a0,args_0,rfl,hm⟩:=hm
 replace hm:=Ad hm;obtain⟨a1,args_1,rfl,hm⟩:=hm
 replace hm:=Ad hm;obtain⟨a2,args_2,rfl,hm⟩:=hm
 replace hm:=AC hm;obtain⟨rfl,hm⟩:=hm
 replace hm:=Al hm;obtain⟨s0,rfl,hm⟩:=hm
 replace hm:=Ai hm;obtain⟨x0,rfl,hm⟩:=hm
 replace hm:=Ai hm;obtain⟨x1,rfl,hm⟩:=hm
 unfold XP at hm
 refine⟨by simp,?_⟩
 refine .same (F':=(fr 26 [(0,Sl.v 1 s0),(1,zI x0),(2,zI x1)])) (H':=FM) (by kernel_rfl) (by kernel_rfl) ?_
 refine .then (.rK (.ghs (fr 26 [(0,Sl.v 1 s0),(1,zI x0),(2,zI x1)]) FM (.k0 [false] [] [0,1,2]) ?_))
 refine .then ?_
 replace hm:=Ag hm;rcases hm with⟨h0,hm⟩ | ⟨h0,hm⟩
 ·refine .reg (eC 2 (Ql (hT 2 [(oC [])]) 1 8 (sc 1 0 1 0 1) s0) (Ze h0) (eE)) ?_
  refine .ghs (fr 26 [(1,zI x0),(2,zI x1),(7,sc 1 0 1 0 1)]) (hT 2 [(oC [])]) (.k0 [false] [.tmp 7 false] [1,2,7]) ?_
  refine .then ?_
  replace hm:=Ab hm;obtain⟨k1,h1,hm⟩:=hm
  obtain rfl:=AR h1
  replace hm:=Ae hm;obtain⟨h2,hm⟩:=hm
  replace hm:=Ke hm;obtain⟨x2,h3,hm⟩:=hm
  replace hm:=Ab hm;obtain⟨k2,h4,hm⟩:=hm
  obtain rfl:=AR h4
  replace hm:=Ae hm;obtain⟨h5,hm⟩:=hm
  replace hm:=Ke hm;obtain⟨x3,h6,hm⟩:=hm
  replace hm:=Ae hm;obtain⟨h7,hm⟩:=hm
  replace hm:=Ae hm;obtain⟨h8,hm⟩:=hm
  replace hm:=Ae hm;obtain⟨h9,hm⟩:=hm
  replace hm:=Ae hm;obtain⟨h10,hm⟩:=hm
  refine .reg (eN 11 (Fr.puts (fr 26 [(1,(zI (Int.ofNat k2))),(2,(zI (Int.ofNat k1))),(7,sc 1 0 1 0 1)]) [(11,sc 1 0 1 0 1),(12,(zI (Int.ofNat k2))),(13,sc 1 0 1 0 1),(14,(zI (Int.ofNat k1))),(15,sc 1 0 1 0 1),(16,(zI (Int.ofNat k1))),(17,(.pointer (some ⟨1,(0+k1*1),none⟩))),(18,zI x2),(19,sc 1 0 1 0 1),(20,(zI (Int.ofNat k2))),(21,(.pointer (some ⟨1,(0+k2*1),none⟩)))]) (hT 2 [(oC [])]) (eC 6 (keep (hT 2 [(oC [])]) (bb (an (Nat.blt k1 0) true) (some (.pointer (some ⟨1,(0+k1*1),none⟩))) none)) (AX h2) (eD (keep (hT 2 [(oC [])]) (AL ([]:LV) (0+k1*1))) (AZ h3) (eC 2 (keep (hT 2 [(oC [])]) (bb (an (Nat.blt k2 0) true) (some (.pointer (some ⟨1,(0+k2*1),none⟩))) none)) (AX h5) (by kernel_rfl)))) (eD (keep (hT 2 [(oC [])]) (AL ([]:LV) (0+k2*1))) (AZ h6) (eD (keep (hT 2 [(oC [])]) (bb (an (Nat.blt k2 0) true) (some (.pointer (some ⟨1,(0+k2*1),none⟩))) none)) (AX h7) (eD (done (bb (an (Nat.ble ((0+k2*1)+1) (len ([]:LV))) true) (some (hT 2 [(oC (BM ([zI x2]:LV) (0+k2*1) ([]:LV)))])) none) undef) (Js h8) (eD (keep (hT 2 [(oC (BM ([zI x2]:LV) (0+k2*1) ([]:LV)))]) (bb (an (Nat.blt k1 0) true) (some (.pointer (some ⟨1,(0+k1*1),none⟩))) none)) (AX h9) (eD (done (bb (an (Nat.ble ((0+k1*1)+1) (len (BM ([zI x2]:LV) (0+k2*1) ([]:LV)))) true) (some (hT 2 [(oC (BM ([zI x3]:LV) (0+k1*1) (BM ([zI x2]:LV) (0+k2*1) ([]:LV))))])) none) undef) (Js h10) (eE))))))) ?_
  replace hm:=Ae hm;obtain⟨h11,hm⟩:=hm
  refine .ghs (fr 26 [(7,sc 1 0 1 0 1)]) (hT 2 [(oC (BM ([zI x3]:LV) (0+k1*1) (BM ([zI x2]:LV) (0+k2*1) ([]:LV))))]) (.k [1] [false] [.tmp 7 false] [7] ⟨DL h11,trivial⟩) ?_
  refine .then (.rK (.ghs (fr 26 [(6,sc 1 0 1 0 1)]) (hT 2 [(oC (BM ([zI x3]:LV) (0+k1*1) (BM ([zI x2]:LV) (0+k2*1) ([]:LV))))]) (.k [1] [false] [.tmp 6 false] [6] ⟨DL h11,trivial⟩) ?_))
  replace hm:=Ae hm;obtain⟨h12,hm⟩:=hm
  refine .ghs (Fr.puts (fr 26 [(6,sc 1 0 1 0 1)]) [(6,(Sl.v 1 (Sl.mk 0 0 (Aq (0*1) (Am 0 (BM ([zI x3]:LV) (0+k1*1) (BM ([zI x2]:LV) (0+k2*1) ([]:LV))))))))]) (hT 2 [.dead]) (.freezeC 1 6 1 (an (Nat.ble (0+0*1) (len (BM ([zI x3]:LV) (0+k1*1) (BM ([zI x2]:LV) (0+k2*1) ([]:LV))))) (Au Ah (Aq (0*1) (Am 0 (BM ([zI x3]:LV) (0+k1*1) (BM ([zI x2]:LV) (0+k2*1) ([]:LV))))))) (F1:=(Fr.puts (fr 26 [(6,sc 1 0 1 0 1)]) [(6,(Sl.v 1 (Sl.mk 0 0 (Aq (0*1) (Am 0 (BM ([zI x3]:LV) (0+k1*1) (BM ([zI x2]:LV) (0+k2*1) ([]:LV))))))))])) (H1:=(hT 2 [.dead])) (by kernel_rfl) (by kernel_rfl) h12 (E9.id _ _)) ?_
  refine .ret ?_
  exact FK (Sl.v 1 (Sl.mk 0 0 (Aq (0*1) (Am 0 (BM ([zI x3]:LV) (0+k1*1) (BM ([zI x2]:LV) (0+k2*1) ([]:LV))))))) hm
 ·replace hm:=Ae hm;obtain⟨h13,hm⟩:=hm
  refine .reg (eC 2 (Ql (hT 2 [(oC [])]) 1 8 (sc 1 0 1 0 1) s0) (Zf h0 h13 (by kernel_rfl)) (eE)) ?_
  replace hm:=Ae hm;obtain⟨h14,hm⟩:=hm
  refine .ghs (fr 26 [(1,zI x0),(2,zI x1),(7,(sc 1 0 1 (0+(Sl.n s0)) (d2 (0+(Sl.n s0)))))]) (hT 2 [(oC (Aq ((Sl.n s0)*1) (Sl.cs s0)))]) (.k [2] [false] [.tmp 7 false] [1,2,7] ⟨DL h14,trivial⟩) ?_
  refine .then ?_
  replace hm:=Ab hm;obtain⟨k3,h15,hm⟩:=hm
  obtain rfl:=AR h15
  replace hm:=Ae hm;obtain⟨h16,hm⟩:=hm
  replace hm:=Ke hm;obtain⟨x4,h17,hm⟩:=hm
  replace hm:=Ab hm;obtain⟨k4,h18,hm⟩:=hm
  obtain rfl:=AR h18
  replace hm:=Ae hm;obtain⟨h19,hm⟩:=hm
  replace hm:=Ke hm;obtain⟨x5,h20,hm⟩:=hm
  replace hm:=Ae hm;obtain⟨h21,hm⟩:=hm
  replace hm:=Ae hm;obtain⟨h22,hm⟩:=hm
  replace hm:=Ae hm;obtain⟨h23,hm⟩:=hm
  replace hm:=Ae hm;obtain⟨h24,hm⟩:=hm
  refine .reg (eN 11 (Fr.puts (fr 26 [(1,(zI (Int.ofNat k4))),(2,(zI (Int.ofNat k3))),(7,(sc 1 0 1 (0+(Sl.n s0)) (d2 (0+(Sl.n s0)))))]) [(11,(sc 1 0 1 (0+(Sl.n s0)) (d2 (0+(Sl.n s0))))),(12,(zI (Int.ofNat k4))),(13,(sc 1 0 1 (0+(Sl.n s0)) (d2 (0+(Sl.n s0))))),(14,(zI (Int.ofNat k3))),(15,(sc 1 0 1 (0+(Sl.n s0)) (d2 (0+(Sl.n s0))))),(16,(zI (Int.ofNat k3))),(17,(.pointer (some ⟨1,(0+k3*1),none⟩))),(18,zI x4),(19,(sc 1 0 1 (0+(Sl.n s0)) (d2 (0+(Sl.n s0))))),(20,(zI (Int.ofNat k4))),(21,(.pointer (some ⟨1,(0+k4*1),none⟩)))]) (hT 2 [(oC (Aq ((Sl.n s0)*1) (Sl.cs s0)))]) (eC 6 (keep (hT 2 [(oC (Aq ((Sl.n s0)*1) (Sl.cs s0)))]) (bb (an (Nat.blt k3 (0+(Sl.n s0))) true) (some (.pointer (some ⟨1,(0+k3*1),none⟩))) none)) (AX h16) (eD (keep (hT 2 [(oC (Aq ((Sl.n s0)*1) (Sl.cs s0)))]) (AL (Aq ((Sl.n s0)*1) (Sl.cs s0)) (0+k3*1))) (AZ h17) (eC 2 (keep (hT 2 [(oC (Aq ((Sl.n s0)*1) (Sl.cs s0)))]) (bb (an (Nat.blt k4 (0+(Sl.n s0))) true) (some (.pointer (some ⟨1,(0+k4*1),none⟩))) none)) (AX h19) (by kernel_rfl)))) (eD (keep (hT 2 [(oC (Aq ((Sl.n s0)*1) (Sl.cs s0)))]) (AL (Aq ((Sl.n s0)*1) (Sl.cs s0)) (0+k4*1))) (AZ h20) (eD (keep (hT 2 [(oC (Aq ((Sl.n s0)*1) (Sl.cs s0)))]) (bb (an (Nat.blt k4 (0+(Sl.n s0))) true) (some (.pointer (some ⟨1,(0+k4*1),none⟩))) none)) (AX h21) (eD (done (bb (an (Nat.ble ((0+k4*1)+1) (len (Aq ((Sl.n s0)*1) (Sl.cs s0)))) true) (some (hT 2 [(oC (BM ([zI x4]:LV) (0+k4*1) (Aq ((Sl.n s0)*1) (Sl.cs s0))))])) none) undef) (Js h22) (eD (keep (hT 2 [(oC (BM ([zI x4]:LV) (0+k4*1) (Aq ((Sl.n s0)*1) (Sl.cs s0))))]) (bb (an (Nat.blt k3 (0+(Sl.n s0))) true) (some (.pointer (some ⟨1,(0+k3*1),none⟩))) none)) (AX h23) (eD (done (bb (an (Nat.ble ((0+k3*1)+1) (len (BM ([zI x4]:LV) (0+k4*1) (Aq ((Sl.n s0)*1) (Sl.cs s0))))) true) (some (hT 2 [(oC (BM ([zI x5]:LV) (0+k3*1) (BM ([zI x4]:LV) (0+k4*1) (Aq ((Sl.n s0)*1) (Sl.cs s0)))))])) none) undef) (Js h24) (eE))))))) ?_
  replace hm:=Ae hm;obtain⟨h25,hm⟩:=hm
  refine .ghs (fr 26 [(7,(sc 1 0 1 (0+(Sl.n s0)) (d2 (0+(Sl.n s0)))))]) (hT 2 [(oC (BM ([zI x5]:LV) (0+k3*1) (BM ([zI x4]:LV) (0+k4*1) (Aq ((Sl.n s0)*1) (Sl.cs s0)))))]) (.k [1] [false] [.tmp 7 false] [7] ⟨DL h25,trivial⟩) ?_
  refine .then (.rK (.ghs (fr 26 [(6,(sc 1 0 1 (0+(Sl.n s0)) (d2 (0+(Sl.n s0)))))]) (hT 2 [(oC (BM ([zI x5]:LV) (0+k3*1) (BM ([zI x4]:LV) (0+k4*1) (Aq ((Sl.n s0)*1) (Sl.cs s0)))))]) (.k [1] [false] [.tmp 6 false] [6] ⟨DL h25,trivial⟩) ?_))
  replace hm:=Ae hm;obtain⟨h26,hm⟩:=hm
  refine .ghs (Fr.puts (fr 26 [(6,(sc 1 0 1 (0+(Sl.n s0)) (d2 (0+(Sl.n s0)))))]) [(6,(Sl.v 1 (Sl.mk (0+(Sl.n s0)) 0 (Aq ((0+(Sl.n s0))*1) (Am 0 (BM ([zI x5]:LV) (0+k3*1) (BM ([zI x4]:LV) (0+k4*1) (Aq ((Sl.n s0)*1) (Sl.cs s0)))))))))]) (hT 2 [.dead]) (.freezeC 1 6 1 (an (Nat.ble (0+(0+(Sl.n s0))*1) (len (BM ([zI x5]:LV) (0+k3*1) (BM ([zI x4]:LV) (0+k4*1) (Aq ((Sl.n s0)*1) (Sl.cs s0)))))) (Au Ah (Aq ((0+(Sl.n s0))*1) (Am 0 (BM ([zI x5]:LV) (0+k3*1) (BM ([zI x4]:LV) (0+k4*1) (Aq ((Sl.n s0)*1) (Sl.cs s0)))))))) (F1:=(Fr.puts (fr 26 [(6,(sc 1 0 1 (0+(Sl.n s0)) (d2 (0+(Sl.n s0)))))]) [(6,(Sl.v 1 (Sl.mk (0+(Sl.n s0)) 0 (Aq ((0+(Sl.n s0))*1) (Am 0 (BM ([zI x5]:LV) (0+k3*1) (BM ([zI x4]:LV) (0+k4*1) (Aq ((Sl.n s0)*1) (Sl.cs s0)))))))))])) (H1:=(hT 2 [.dead])) (by kernel_rfl) (by kernel_rfl) h26 (E9.id _ _)) ?_
  refine .ret ?_
  exact FK (Sl.v 1 (Sl.mk (0+(Sl.n s0)) 0 (Aq ((0+(Sl.n s0))*1) (Am 0 (BM ([zI x5]:LV) (0+k3*1) (BM ([zI x4]:LV) (0+k4*1) (Aq ((Sl.n s0)*1) (Sl.cs s0)))))))) hm
def Uk (pu:Af) (n:Nat) (z0 z1:Int) (b0:Bool):OV:=
 (bb b0 (some (.tuple ⟨[(.int .i64 (0:Int)),(.int .i64 (1:Int))]⟩)) (bb (nt (Bd z1 (0:Int))) (some (.tuple ⟨[(.int .i64 (Aj .i64 (Int.sub z0 (Aj .i64 (Int.tdiv (Aj .i64 (Int.sub (Aj .i64 (Int.add z0 z1)) (1:Int))) z1))))),(.int .i64 (0:Int))]⟩)) none))
def sP (pu:Af) (n:Nat) (x0 x1:Int):OV:=
 (oo (pu 52 [(.int .i64 (1:Int)),.int .i64 x0,(.int .i64 (10:Int))]) none fun v0=>(oo (Bf v0) none fun b0=>(bb (nt b0) (Uk pu n x0 x1 true) (oo (pu 52 [(.int .i64 (1:Int)),.int .i64 x1,(.int .i64 (5:Int))]) none fun v1=>(oo (Bf v1) none fun b3=>(Uk pu n x0 x1 (nt b3)))))))
def xD (pu:Af) (n:Nat) (args:LV):OV:=
 (ll args none fun a0 args=>(ll args none fun a1 args=>(ll args (oo (Bi .i64 a0) none fun x0=>(oo (Bi .i64 a1) none fun x1=>(sP pu n x0 x1))) fun _ _=>none)))
theorem r27 {call:A8} (pu:Af) (n:Nat) (hcall:call=Bb tabs Iq pu (inl pu)) {args:LV} {v:Value} (hm:xD pu n args=some v) (_:∀ x∈args,closed2 x=true):args.length≤22∧BN tt call 1 Ud (Fr.made 22 args) (Ao tabs) (Fin tt 1 [.tmp 4,.tmp 5] v):=by
 subst hcall
 unfold xD at hm
 replace hm:=Ad hm;obtain⟨a0,args_0,rfl,hm⟩:=hm
 replace hm:=Ad hm;obtain⟨a1,args_1,rfl,hm⟩:=hm
 replace hm:=AC hm;obtain⟨rfl,hm⟩:=hm
 replace hm:=Ai hm;obtain⟨x0,rfl,hm⟩:=hm
 replace hm:=Ai hm;obtain⟨x1,rfl,hm⟩:=hm
 unfold sP at hm
 refine⟨by simp,?_⟩
 refine .same (F':=(fr 22 [(0,zI x0),(1,zI x1)])) (H':=FM) (by kernel_rfl) (by kernel_rfl) ?_
 refine .then (.rK (.ghs (fr 22 [(0,zI x0),(1,zI x1)]) FM (.k0 [false] [] [0,1]) ?_))
 refine .then (.join (v:=v) (fun y:Int×Int×Bool=>((fr 22 [(0,(zI y.1)),(1,(zI y.2.1)),(13,(zB y.2.2))]),FM)) (fun y=>Uk pu n y.1 y.2.1 y.2.2) ?_ ?_)
 ·rintro⟨z0,z1,b0⟩ hm
  unfold Uk at hm
  replace hm:=Ag hm;rcases hm with⟨h0,hm⟩ | ⟨h0,hm⟩
  ·refine .ifT b0 (by kernel_rfl) h0 ?_
   refine .then (.rK (.ghs (fr 22 [(4,(zI (0:Int))),(5,(zI (1:Int)))]) FM (.k0 [false] [] [4,5]) ?_))
   refine .ret ?_
   exact FK (.tuple ⟨[(zI (0:Int)),(zI (1:Int))]⟩) hm
  ·refine .ifF b0 (by kernel_rfl) h0 ?_
   refine .skip (.ghs (fr 22 [(0,zI z0),(1,zI z1)]) FM (.k0 [false] [] [0,1]) ?_)
   refine .then ?_
   replace hm:=Ae hm;obtain⟨h1,hm⟩:=hm
   refine .reg (eC 6 (keep FM (bb (Bd z1 (0:Int)) none (some (zI (Aj .i64 (Int.tdiv (Aj .i64 (Int.sub (Aj .i64 (Int.add z0 z1)) (1:Int))) z1)))))) (XH h1) (eE)) ?_
   refine .ghs (fr 22 [(4,(zI (Aj .i64 (Int.sub z0 (Aj .i64 (Int.tdiv (Aj .i64 (Int.sub (Aj .i64 (Int.add z0 z1)) (1:Int))) z1)))))),(5,(zI (0:Int)))]) FM (.k0 [false] [] [4,5]) ?_
   refine .ret ?_
   exact FK (.tuple ⟨[(zI (Aj .i64 (Int.sub z0 (Aj .i64 (Int.tdiv (Aj .i64 (Int.sub (Aj .i64 (Int.add z0 z1)) (1:Int))) z1))))),(zI (0:Int))]⟩) hm
 ·replace hm:=gV hm;obtain⟨b3,h2,hm⟩:=hm
  replace hm:=Ag hm;rcases hm with⟨h3,hm⟩ | ⟨h3,hm⟩
  ·refine .reg (eC 1 ((oo (pu 52 [(zI (1:Int)),zI x0,(zI (10:Int))]) none fun v=>some (v,FM))) (AB h2) (eD (some ((zB (nt b3)),FM)) (show _=some ((zB true),_) from (by rw[show (nt b3)=true from h3])) (eE))) ?_
   exact⟨(x0,x1,true),hm,(.k0 [false] [] [0,1,13])⟩
  ·replace hm:=gV hm;obtain⟨b4,h4,hm⟩:=hm
   refine .reg (eC 1 ((oo (pu 52 [(zI (1:Int)),zI x0,(zI (10:Int))]) none fun v=>some (v,FM))) (AB h2) (eD (some ((zB (nt b3)),FM)) (show _=some ((zB false),_) from (by rw[show (nt b3)=false from h3])) (eC 2 ((oo (pu 52 [(zI (1:Int)),zI x1,(zI (5:Int))]) none fun v=>some (v,FM))) (AB h4) (eE)))) ?_
   exact⟨(x0,x1,(nt b4)),hm,(.k0 [false] [] [0,1,13])⟩

def XQ (pu:Af) (n:Nat) (x0:Int) (s0 s1:Sl):OV:=
 (oo (pu 51 [(.agg ⟨[.int .i64 x0,Sl.v 1 s0,Sl.v 1 s1]⟩)]) none fun v0=>(oo (Bi .u16 v0) none fun x1=>(oo (pu 64 [.int .u16 x1]) none fun v1=>(oo (Bi .i64 v1) none fun x2=>(oo (pu 10650 [(.agg ⟨[.int .i64 x0,Sl.v 1 s0,Sl.v 1 s1]⟩)]) none fun v2=>(oo (CQ v2) none fun l0=>(ll l0 none fun v3 l0=>(ll l0 none fun v4 l0=>(ll l0 none fun v5 l0=>(ll l0 (bb (MK v3 1 0) (oo (Bt v4) none fun l1=>(ll l1 none fun v6 l1=>(ll l1 none fun v7 l1=>(ll l1 none fun v8 l1=>(ll l1 none fun v9 l1=>(ll l1 (oo (Bi .i64 v6) none fun x3=>(oo (Bj 1 v7) none fun s2=>(oo (Bj 1 v8) none fun s3=>(bb (FC v9 2) (oo (Fj v5) none fun y0=>(bb (Au F4 (Akd.es y0)) (bb (Au F4 (Akd.es y0)) (oo (pu 10660 [(.pointer (some ⟨1,0,none⟩)),.int .u16 x1,(.agg ⟨[.int .i64 x3,Sl.v 1 s2,Sl.v 1 s3,(.map (some 2))]⟩),(Ef (.map (Akd.es y0) (Akd.clock y0)))]) none fun v10=>(oo (CQ v10) none fun l2=>(ll l2 none fun v11 l2=>(ll l2 none fun v12 l2=>(ll l2 none fun v13 l2=>(ll l2 (oo (Bi .i64 v11) none fun x4=>(oo (Bt v12) none fun l3=>(ll l3 none fun v14 l3=>(ll l3 none fun v15 l3=>(ll l3 none fun v16 l3=>(ll l3 none fun v17 l3=>(ll l3 (oo (Bi .i64 v14) none fun x5=>(oo (Bj 1 v15) none fun s4=>(oo (Bj 1 v16) none fun s5=>(bb (FC v17 2) (oo (Fj v13) none fun y1=>(bb (Au F4 (Akd.es y1)) (some (.int .i64 (Aj .i64 (Int.sub x2 x4)))) none)) none)))) fun _ _=>none))))))) fun _ _=>none)))))) none) none)) none)))) fun _ _=>none)))))) none) fun _ _=>none))))))))))
def xE (pu:Af) (n:Nat) (args:LV):OV:=
 (ll args none fun a0 args=>(ll args (oo (Bt a0) none fun l0=>(ll l0 none fun v0 l0=>(ll l0 none fun v1 l0=>(ll l0 none fun v2 l0=>(ll l0 (oo (Bi .i64 v0) none fun x0=>(oo (Bj 1 v1) none fun s0=>(oo (Bj 1 v2) none fun s1=>(XQ pu n x0 s0 s1)))) fun _ _=>none))))) fun _ _=>none))
theorem r44 {call:A8} (pu:Af) (n:Nat) (hcall:call=Bb tabs Iq pu (inl pu)) {args:LV} {v:Value} (hm:xE pu n args=some v) (_:∀ x∈args,closed2 x=true):args.length≤13∧BN tt call 1 Ue (Fr.made 13 args) (Ao tabs) (Fin tt 1 [.tmp 2] v):=by
 subst hcall
 unfold xE at hm
 replace hm:=Ad hm;obtain⟨a0,args_0,rfl,hm⟩:=hm
 replace hm:=AC hm;obtain⟨rfl,hm⟩:=hm
 replace hm:=BG hm;obtain⟨l0,rfl,hm⟩:=hm
 replace hm:=Ad hm;obtain⟨v0,l16569_0,rfl,hm⟩:=hm
 replace hm:=Ad hm;obtain⟨v1,l16569_1,rfl,hm⟩:=hm
 replace hm:=Ad hm;obtain⟨v2,l16569_2,rfl,hm⟩:=hm
 replace hm:=AC hm;obtain⟨rfl,hm⟩:=hm
 replace hm:=Ai hm;obtain⟨x0,rfl,hm⟩:=hm
 replace hm:=Al hm;obtain⟨s0,rfl,hm⟩:=hm
 replace hm:=Al hm;obtain⟨s1,rfl,hm⟩:=hm
 unfold XQ at hm
 refine⟨by simp,?_⟩
 refine .same (F':=(fr 13 [(0,(.agg ⟨[zI x0,Sl.v 1 s0,Sl.v 1 s1]⟩))])) (H':=FM) (by kernel_rfl) (by kernel_rfl) ?_
 refine .then (.rK (.ghs (fr 13 [(1,pt 1 0)]) (hT 2 [(oC [zI x0,Sl.v 1 s0,Sl.v 1 s1])]) (.k0 [false] [.tmp 1 false] [1]) ?_))
 refine .then ?_
 replace hm:=Ke hm;obtain⟨x1,h0,hm⟩:=hm
 refine .reg (eC 1 ((oo (pu 51 [(.agg ⟨[zI x0,Sl.v 1 s0,Sl.v 1 s1]⟩)]) none fun v=>some (v,(hT 2 [(oC [zI x0,Sl.v 1 s0,Sl.v 1 s1])])))) (AB h0) (eE)) ?_
 refine .ghs (fr 13 [(1,pt 1 0),(3,.int .u16 x1)]) (hT 2 [(oC [zI x0,Sl.v 1 s0,Sl.v 1 s1])]) (.k0 [false] [.tmp 1 false] [1,3]) ?_
 refine .then ?_
 replace hm:=Ke hm;obtain⟨x2,h1,hm⟩:=hm
 replace hm:=Ab hm;obtain⟨v3,h2,hm⟩:=hm
 replace hm:=Ch hm;obtain⟨l1,rfl,hm⟩:=hm
 replace hm:=Ad hm;obtain⟨v4,l17079_0,rfl,hm⟩:=hm
 replace hm:=Ad hm;obtain⟨v5,l17079_1,rfl,hm⟩:=hm
 replace hm:=Ad hm;obtain⟨v6,l17079_2,rfl,hm⟩:=hm
 replace hm:=AC hm;obtain⟨rfl,hm⟩:=hm
 replace hm:=Ae hm;obtain⟨h3,hm⟩:=hm
 obtain rfl:=KR h3
 replace hm:=BG hm;obtain⟨l2,rfl,hm⟩:=hm
 replace hm:=Ad hm;obtain⟨v7,l17085_0,rfl,hm⟩:=hm
 replace hm:=Ad hm;obtain⟨v8,l17085_1,rfl,hm⟩:=hm
 replace hm:=Ad hm;obtain⟨v9,l17085_2,rfl,hm⟩:=hm
 replace hm:=Ad hm;obtain⟨v10,l17085_3,rfl,hm⟩:=hm
 replace hm:=AC hm;obtain⟨rfl,hm⟩:=hm
 replace hm:=Ai hm;obtain⟨x3,rfl,hm⟩:=hm
 replace hm:=Al hm;obtain⟨s2,rfl,hm⟩:=hm
 replace hm:=Al hm;obtain⟨s3,rfl,hm⟩:=hm
 replace hm:=Ae hm;obtain⟨h4,hm⟩:=hm
 obtain rfl:=Ey h4
 replace hm:=Ab hm;obtain⟨y0,h5,hm⟩:=hm
 replace hm:=Ae hm;obtain⟨h6,hm⟩:=hm
 replace hm:=Ae hm;obtain⟨h7,hm⟩:=hm
 replace hm:=Ab hm;obtain⟨v11,h8,hm⟩:=hm
 replace hm:=Ch hm;obtain⟨l3,rfl,hm⟩:=hm
 replace hm:=Ad hm;obtain⟨v12,l17110_0,rfl,hm⟩:=hm
 replace hm:=Ad hm;obtain⟨v13,l17110_1,rfl,hm⟩:=hm
 replace hm:=Ad hm;obtain⟨v14,l17110_2,rfl,hm⟩:=hm
 replace hm:=AC hm;obtain⟨rfl,hm⟩:=hm
 replace hm:=Ai hm;obtain⟨x4,rfl,hm⟩:=hm
 replace hm:=BG hm;obtain⟨l4,rfl,hm⟩:=hm
 replace hm:=Ad hm;obtain⟨v15,l17117_0,rfl,hm⟩:=hm
 replace hm:=Ad hm;obtain⟨v16,l17117_1,rfl,hm⟩:=hm
 replace hm:=Ad hm;obtain⟨v17,l17117_2,rfl,hm⟩:=hm
 replace hm:=Ad hm;obtain⟨v18,l17117_3,rfl,hm⟩:=hm
 replace hm:=AC hm;obtain⟨rfl,hm⟩:=hm
 replace hm:=Ai hm;obtain⟨x5,rfl,hm⟩:=hm
 replace hm:=Al hm;obtain⟨s4,rfl,hm⟩:=hm
 replace hm:=Al hm;obtain⟨s5,rfl,hm⟩:=hm
 replace hm:=Ae hm;obtain⟨h9,hm⟩:=hm
 obtain rfl:=Ey h9
 replace hm:=Ab hm;obtain⟨y1,h10,hm⟩:=hm
 replace hm:=Ae hm;obtain⟨h11,hm⟩:=hm
 refine .reg (eC 3 ((oo (pu 64 [.int .u16 x1]) none fun v=>some (v,(hT 2 [(oC [zI x0,Sl.v 1 s0,Sl.v 1 s1])])))) (AB h1) (eD (EK tabs [[none,some 1,some 1]] 1 [] [true,false] (pu 10650) [(.agg ⟨[zI x0,Sl.v 1 s0,Sl.v 1 s1]⟩)] (hT 2 [(oC [zI x0,Sl.v 1 s0,Sl.v 1 s1])])) (EL (as:=[(.agg ⟨[zI x0,Sl.v 1 s0,Sl.v 1 s1]⟩)]) (H1:=(hT 2 [(oC [zI x0,Sl.v 1 s0,Sl.v 1 s1])])) (BS (Ot (Da Dk (Da (KQ (CV (z:=1) (v:=(Sl.v 1 s0)) (H:=(hT 2 [(oC [zI x0,Sl.v 1 s0,Sl.v 1 s1])])) (by kernel_rfl) (by kernel_rfl) (by kernel_rfl))) (Da (KQ (CV (z:=1) (v:=(Sl.v 1 s1)) (H:=(hT 2 [(oC [zI x0,Sl.v 1 s0,Sl.v 1 s1])])) (by kernel_rfl) (by kernel_rfl) (by kernel_rfl))) Oq)))) Gj) (EI (H2:=(hT 4 [(oC [zI x0,Sl.v 1 s0,Sl.v 1 s1]),(oC [zI x3,Sl.v 1 s2,Sl.v 1 s3,(.map (some 3))]),(.map (Akd.es y0) (Akd.clock y0))])) (v:=(pt 1 0)) (v':=(pt 2 0)) [some 0] [] [] [(.agg ⟨[zI x0,Sl.v 1 s0,Sl.v 1 s1]⟩)] [(.agg ⟨[zI x3,Sl.v 1 s2,Sl.v 1 s3,(.map (some 2))]⟩),v6] [(oC [zI x3,Sl.v 1 s2,Sl.v 1 s3,(.map (some 2))]),(.map (Akd.es y0) (Akd.clock y0))] [some 0,none,some 1,some 2] [(true,(oC [zI x3,Sl.v 1 s2,Sl.v 1 s3,(.map (some 2))])),(false,(.map (Akd.es y0) (Akd.clock y0)))] [(oC [zI x3,Sl.v 1 s2,Sl.v 1 s3,(.map (some 3))]),(.map (Akd.es y0) (Akd.clock y0))] (by kernel_rfl) BX (Eq.trans (by kernel_rfl) h2) (En rfl (En (CK h5) BX)) (En (by kernel_rfl) (En (GZ h6) BX)))) (eD (EK tabs [[none],[none]] 2 [.tmp 0 true,.cell 1 3 false] [true,false] (pu 10660) [(pt 2 0),.int .u16 x1] (hT 4 [(oC [zI x0,Sl.v 1 s0,Sl.v 1 s1]),(oC [zI x3,Sl.v 1 s2,Sl.v 1 s3,(.map (some 3))]),(.map (Akd.es y0) (Akd.clock y0))])) (EL (as:=[(pt 2 0),.int .u16 x1]) (H1:=(hT 4 [(oC [zI x0,Sl.v 1 s0,Sl.v 1 s1]),(oC [zI x3,Sl.v 1 s2,Sl.v 1 s3,(.map (some 3))]),(.map (Akd.es y0) (Akd.clock y0))])) (BS (Dm Dk) (BS (Dm Dk) Gj)) (EI (H2:=(hT 4 [(oC [zI x0,Sl.v 1 s0,Sl.v 1 s1]),(oC [zI x5,Sl.v 1 s4,Sl.v 1 s5,(.map (some 3))]),(.map (Akd.es y1) (Akd.clock y1))])) (v:=(zI x4)) (v':=(zI x4)) [some 0,some 2,some 3] [(true,some 2),(false,some 3)] [(oC [zI x3,Sl.v 1 s2,Sl.v 1 s3,(.map (some 2))]),(.map (Akd.es y0) (Akd.clock y0))] [pt 1 0,.int .u16 x1] [(.agg ⟨[zI x5,Sl.v 1 s4,Sl.v 1 s5,(.map (some 2))]⟩),v14] [(oC [zI x5,Sl.v 1 s4,Sl.v 1 s5,(.map (some 2))]),(.map (Akd.es y1) (Akd.clock y1))] [some 0,none,some 1,some 2] [(true,(oC [zI x5,Sl.v 1 s4,Sl.v 1 s5,(.map (some 2))])),(false,(.map (Akd.es y1) (Akd.clock y1)))] [(oC [zI x5,Sl.v 1 s4,Sl.v 1 s5,(.map (some 3))]),(.map (Akd.es y1) (Akd.clock y1))] (by kernel_rfl) (En (by kernel_rfl) (En (Ka h7) BX)) (Eq.trans (by kernel_rfl) h8) (En rfl (En (CK h10) BX)) (En (by kernel_rfl) (En (GZ h11) BX)))) (eE)))) ?_
 refine .ghs (fr 13 [(2,(zI (Aj .i64 (Int.sub x2 x4))))]) FM (.k0 [false] [] [2]) ?_
 refine .ret ?_
 exact FK (zI (Aj .i64 (Int.sub x2 x4))) hm
def QG (pu:Af) (n:Nat) (q0:LV):OV:=
 (bb (Nat.ble (0+5) (len q0)) (oo (AL q0 0) none fun v0=>(oo (Bi .i64 v0) none fun x0=>(oo (AL q0 (0+1)) none fun v1=>(oo (Bi .i64 v1) none fun x1=>(oo (AL q0 ((0+1)+1)) none fun v2=>(oo (Bi .i64 v2) none fun x2=>(oo (AL q0 (((0+1)+1)+1)) none fun v3=>(oo (Bi .i64 v3) none fun x3=>(oo (AL q0 ((((0+1)+1)+1)+1)) none fun v4=>(oo (Bi .i64 v4) none fun x4=>(bb (bq false (an (Bd x0 (0:Int)) (an (Bd x1 (0:Int)) (an (Bd x2 (0:Int)) (an (Bd x3 (0:Int)) (an (Bd x4 (0:Int)) true)))))) (some (.int .i64 (17:Int))) (some (.int .i64 (0:Int)))))))))))))) none)
def O4 (pu:Af) (n:Nat) (ih0:Sl→Int→Int→Int→Sl→Sl→LV→OV) (z0 z1:Int) (s0:Sl) (z2 z3:Int) (b0:Bool) (z4:Int) (s1 s2:Sl) (q0:LV):OV:=
 (bb b0 (some (.int .i64 (2:Int))) (bb (Au Ah q0) (oo (EA z0) none fun k1=>(bb (Nat.blt k1 5) (oo (AL q0 (0+k1*1)) none fun v0=>(oo (Bi .i64 v0) none fun x0=>(bb (Nat.blt k1 5) (bb (an (Nat.ble ((0+k1*1)+1) (len q0)) true) (bb (Au Ah (BM ([(.int .i64 (Aj .i64 (Int.add x0 (1:Int))))]:LV) (0+k1*1) q0)) (oo (EA z1) none fun k2=>(bb (Nat.blt k2 5) (oo (AL (BM ([(.int .i64 (Aj .i64 (Int.add x0 (1:Int))))]:LV) (0+k1*1) q0) (0+k2*1)) none fun v1=>(oo (Bi .i64 v1) none fun x1=>(bb (Nat.blt k2 5) (bb (an (Nat.ble ((0+k2*1)+1) (len (BM ([(.int .i64 (Aj .i64 (Int.add x0 (1:Int))))]:LV) (0+k1*1) q0))) true) (bb (Au Ah (BM ([(.int .i64 (Aj .i64 (Int.sub x1 (1:Int))))]:LV) (0+k2*1) (BM ([(.int .i64 (Aj .i64 (Int.add x0 (1:Int))))]:LV) (0+k1*1) q0))) (ih0 s0 z2 (Aj .i64 (Int.add z3 (1:Int))) z4 s1 s2 (BM ([(.int .i64 (Aj .i64 (Int.sub x1 (1:Int))))]:LV) (0+k2*1) (BM ([(.int .i64 (Aj .i64 (Int.add x0 (1:Int))))]:LV) (0+k1*1) q0))) none) none) none))) none)) none) none) none))) none)) none))
def QJ (pu:Af) (n:Nat) (ih0:Sl→Int→Int→Int→Sl→Sl→LV→OV) (s0:Sl) (z0 z1 z2:Int) (s1 s2:Sl) (q0:LV):OV:=
 (bb (Au Ah q0) (bb (AY z1 z0) (oo (EA z1) none fun k1=>(bb (an (Nat.blt k1 (Sl.n s0)) true) (oo (AL (Sl.cs s0) (k1*1)) none fun v0=>(oo (Bi .i64 v0) none fun x0=>(bb (an (Nat.blt k1 (Sl.n s2)) true) (oo (AL (Sl.cs s2) (k1*1)) none fun v1=>(oo (Bi .i64 v1) none fun x1=>(oo (pu 52 [(.int .i64 (0:Int)),(.int .i64 (bb (AY x1 x0) x1 x0)),(.int .i64 (Aj .i64 (Int.sub z2 (1:Int))))]) none fun v2=>(oo (Bf v2) none fun b0=>(bb (nt b0) (O4 pu n ih0 x0 x1 s0 z0 (Int.ofNat k1) true z2 s1 s2 q0) (O4 pu n ih0 x0 x1 s0 z0 (Int.ofNat k1) (nt (AY (bb (AY x0 x1) x1 x0) z2)) z2 s1 s2 q0)))))) none))) none)) (QG pu n q0)) none)
def OD (pu:Af) (n w:Nat):Sl→Int→Int→Int→Sl→Sl→LV→OV:=
 Nat.rec (motive:=fun _=>Sl→Int→Int→Int→Sl→Sl→LV→OV) (fun _ _ _ _ _ _ _=>none) (fun _ ih0=>QJ pu n ih0) w
def sQ (pu:Af) (n:Nat) (x0:Int) (s0 s1:Sl):OV:=
 (oo (pu 52 [(.int .i64 (1:Int)),.int .i64 x0,(.int .i64 (5:Int))]) none fun v0=>(oo (Bf v0) none fun b0=>(bb (nt b0) (some (.int .i64 (1:Int))) (bb (Bd (Int.ofNat (Sl.n s0)) (0:Int)) (some (.int .i64 (4:Int))) (bb (AY (10:Int) (Int.ofNat (Sl.n s0))) (some (.int .i64 (3:Int))) (bb (nt (Bd (Int.ofNat (Sl.n s1)) (Int.ofNat (Sl.n s0)))) (some (.int .i64 (5:Int))) (OD pu n n s0 (Int.ofNat (Sl.n s0)) (0:Int) x0 s0 s1 ([(.int .i64 (0:Int)),(.int .i64 (0:Int)),(.int .i64 (0:Int)),(.int .i64 (0:Int)),(.int .i64 (0:Int))]:LV))))))))
def xG (pu:Af) (n:Nat) (args:LV):OV:=
 (ll args none fun a0 args=>(ll args (oo (Bt a0) none fun l0=>(ll l0 none fun v0 l0=>(ll l0 none fun v1 l0=>(ll l0 none fun v2 l0=>(ll l0 (oo (Bi .i64 v0) none fun x0=>(oo (Bj 1 v1) none fun s0=>(oo (Bj 1 v2) none fun s1=>(sQ pu n x0 s0 s1)))) fun _ _=>none))))) fun _ _=>none))
theorem sS (pu:Af) (n:Nat) (q0:LV) {v:Value} (hm:QG pu n q0=some v):BN tt (Bb tabs Iq pu (inl pu)) 1 V3 (fr 73 [(3,pt 1 0)]) (hT 2 [oC q0]) (Fin tt 1 [.tmp 2] v):=by
 unfold QG at hm
 refine .then (.then ?_)
 replace hm:=Ae hm;obtain⟨h0,hm⟩:=hm
 replace hm:=Ke hm;obtain⟨x0,h1,hm⟩:=hm
 replace hm:=Ke hm;obtain⟨x1,h2,hm⟩:=hm
 replace hm:=Ke hm;obtain⟨x2,h3,hm⟩:=hm
 replace hm:=Ke hm;obtain⟨x3,h4,hm⟩:=hm
 replace hm:=Ke hm;obtain⟨x4,h5,hm⟩:=hm
 refine .reg (eD (keep (hT 2 [oC q0]) (bb (Nat.ble (0+5) (len q0)) (some (.agg ⟨Aq 5 (Am 0 q0)⟩)) none)) (Pd h0 (Ca h1 (Ca h2 (Ca h3 (Ca h4 (Ca h5 rfl)))))) (eE)) ?_
 refine .ghs (fr 73 [(72,(zB (bq false (an (Bd x0 (0:Int)) (an (Bd x1 (0:Int)) (an (Bd x2 (0:Int)) (an (Bd x3 (0:Int)) (an (Bd x4 (0:Int)) true))))))))]) FM (.k0 [false] [] [72]) ?_
 replace hm:=Ag hm;rcases hm with⟨h6,hm⟩ | ⟨h6,hm⟩
 ·refine Hy (bq false (an (Bd x0 (0:Int)) (an (Bd x1 (0:Int)) (an (Bd x2 (0:Int)) (an (Bd x3 (0:Int)) (an (Bd x4 (0:Int)) true)))))) h6 ?_
  refine .then (.rK (.ghs (fr 73 [(2,(zI (17:Int)))]) FM (.k0 [false] [] [2]) ?_))
  refine .ret ?_
  exact FK (zI (17:Int)) hm
 ·refine Hz (bq false (an (Bd x0 (0:Int)) (an (Bd x1 (0:Int)) (an (Bd x2 (0:Int)) (an (Bd x3 (0:Int)) (an (Bd x4 (0:Int)) true)))))) h6 ?_
  refine .skip (.ghs (fr 73 []) FM (.k0 [false] [] []) ?_)
  refine .then (.rK (.ghs (fr 73 [(2,(zI (0:Int)))]) FM (.k0 [false] [] [2]) ?_))
  refine .ret ?_
  exact FK (zI (0:Int)) hm
theorem r47 {call:A8} (pu:Af) (n:Nat) (hcall:call=Bb tabs Iq pu (inl pu)) {args:LV} {v:Value} (hm:xG pu n args=some v) (_:∀ x∈args,closed2 x=true):args.length≤73∧BN tt call 1 Pt (Fr.made 73 args) (Ao tabs) (Fin tt 1 [.tmp 2] v):=by
 subst hcall
 unfold xG at hm
 replace hm:=Ad hm;obtain⟨a0,args_0,rfl,hm⟩:=hm
 replace hm:=AC hm;obtain⟨rfl,hm⟩:=hm
 replace hm:=BG hm;obtain⟨l0,rfl,hm⟩:=hm
 replace hm:=Ad hm;obtain⟨v0,l17133_0,rfl,hm⟩:=hm
 replace hm:=Ad hm;obtain⟨v1,l17133_1,rfl,hm⟩:=hm
 replace hm:=Ad hm;obtain⟨v2,l17133_2,rfl,hm⟩:=hm
 replace hm:=AC hm;obtain⟨rfl,hm⟩:=hm
 replace hm:=Ai hm;obtain⟨x0,rfl,hm⟩:=hm
 replace hm:=Al hm;obtain⟨s0,rfl,hm⟩:=hm
 replace hm:=Al hm;obtain⟨s1,rfl,hm⟩:=hm
 unfold sQ at hm
 refine⟨by simp,?_⟩
 refine .same (F':=(fr 73 [(0,(.agg ⟨[zI x0,Sl.v 1 s0,Sl.v 1 s1]⟩))])) (H':=FM) (by kernel_rfl) (by kernel_rfl) ?_
 refine .then (.rK (.ghs (fr 73 [(1,pt 1 0)]) (hT 2 [(oC [zI x0,Sl.v 1 s0,Sl.v 1 s1])]) (.k0 [false] [.tmp 1 false] [1]) ?_))
 refine .then (.block (.then ?_))
 replace hm:=gV hm;obtain⟨b0,h0,hm⟩:=hm
 refine .reg (eC 2 ((oo (pu 52 [(zI (1:Int)),zI x0,(zI (5:Int))]) none fun v=>some (v,(hT 2 [(oC [zI x0,Sl.v 1 s0,Sl.v 1 s1])])))) (AB h0) (eE)) ?_
 refine .ghs (fr 73 [(1,pt 1 0),(7,(zB (nt b0)))]) (hT 2 [(oC [zI x0,Sl.v 1 s0,Sl.v 1 s1])]) (.k0 [false] [.tmp 1 false] [1,7]) ?_
 replace hm:=Ag hm;rcases hm with⟨h1,hm⟩ | ⟨h1,hm⟩
 ·refine Hy (nt b0) h1 ?_
  refine .then (.rK (.ghs (fr 73 [(2,(zI (1:Int)))]) FM (.k0 [false] [] [2]) ?_))
  refine .ret ?_
  exact FK (zI (1:Int)) hm
 ·refine Hz (nt b0) h1 ?_
  refine .then (.rK (.ghs (fr 73 [(1,pt 1 0),(12,(zB (Bd (Int.ofNat (Sl.n s0)) (0:Int))))]) (hT 2 [(oC [zI x0,Sl.v 1 s0,Sl.v 1 s1])]) (.k0 [false] [.tmp 1 false] [1,12]) ?_))
  replace hm:=Ag hm;rcases hm with⟨h2,hm⟩ | ⟨h2,hm⟩
  ·refine Hy (Bd (Int.ofNat (Sl.n s0)) (0:Int)) h2 ?_
   refine .then (.rK (.ghs (fr 73 [(2,(zI (4:Int)))]) FM (.k0 [false] [] [2]) ?_))
   refine .ret ?_
   exact FK (zI (4:Int)) hm
  ·refine Hz (Bd (Int.ofNat (Sl.n s0)) (0:Int)) h2 ?_
   refine .then (.rK (.ghs (fr 73 [(1,pt 1 0),(17,(zB (AY (10:Int) (Int.ofNat (Sl.n s0)))))]) (hT 2 [(oC [zI x0,Sl.v 1 s0,Sl.v 1 s1])]) (.k0 [false] [.tmp 1 false] [1,17]) ?_))
   replace hm:=Ag hm;rcases hm with⟨h3,hm⟩ | ⟨h3,hm⟩
   ·refine Hy (AY (10:Int) (Int.ofNat (Sl.n s0))) h3 ?_
    refine .then (.rK (.ghs (fr 73 [(2,(zI (3:Int)))]) FM (.k0 [false] [] [2]) ?_))
    refine .ret ?_
    exact FK (zI (3:Int)) hm
   ·refine Hz (AY (10:Int) (Int.ofNat (Sl.n s0))) h3 ?_
    refine .then (.rK (.ghs (fr 73 [(1,pt 1 0),(22,(zB (nt (Bd (Int.ofNat (Sl.n s1)) (Int.ofNat (Sl.n s0))))))]) (hT 2 [(oC [zI x0,Sl.v 1 s0,Sl.v 1 s1])]) (.k0 [false] [.tmp 1 false] [1,22]) ?_))
    replace hm:=Ag hm;rcases hm with⟨h4,hm⟩ | ⟨h4,hm⟩
    ·refine Hy (nt (Bd (Int.ofNat (Sl.n s1)) (Int.ofNat (Sl.n s0)))) h4 ?_
     refine .then (.rK (.ghs (fr 73 [(2,(zI (5:Int)))]) FM (.k0 [false] [] [2]) ?_))
     refine .ret ?_
     exact FK (zI (5:Int)) hm
    ·refine Hz (nt (Bd (Int.ofNat (Sl.n s1)) (Int.ofNat (Sl.n s0)))) h4 ?_
     refine .skip (.ghs (fr 73 [(1,pt 1 0)]) (hT 2 [(oC [zI x0,Sl.v 1 s0,Sl.v 1 s1])]) (.k0 [false] [.tmp 1 false] [1]) ?_)
     refine .then (.rK (.ghs (fr 73 [(1,pt 1 0),(3,(pt 2 0))]) (hT 3 [(oC [zI x0,Sl.v 1 s0,Sl.v 1 s1]),(oC [(zI (0:Int)),(zI (0:Int)),(zI (0:Int)),(zI (0:Int)),(zI (0:Int))])]) (.k0 [false] [.tmp 1 false,.tmp 3 false] [1,3]) ?_))
     refine .join (v:=v) (fun y:LV=>((fr 73 [(3,pt 1 0)]),(hT 2 [oC y]))) (fun y=>QG pu n y) ?_ ?_
     ·rintro q0 hm
      exact sS pu n q0 hm
     ·refine .then (.rK (.ghs (fr 73 [(1,pt 1 0),(3,(pt 2 0)),(31,Sl.v 1 s0),(32,(zI (Int.ofNat (Sl.n s0)))),(33,(zI (0:Int)))]) (hT 3 [(oC [zI x0,Sl.v 1 s0,Sl.v 1 s1]),(oC [(zI (0:Int)),(zI (0:Int)),(zI (0:Int)),(zI (0:Int)),(zI (0:Int))])]) (.k0 [false] [.tmp 1 false,.tmp 3 false] [1,3,31,32,33]) ?_))
      refine .block (.loopM (v:=v) (fun y:Sl×Int×Int×Int×Sl×Sl×LV=>((fr 73 [(1,pt 1 0),(3,(pt 2 0)),(31,(Sl.v 1 y.1)),(32,(zI y.2.1)),(33,(zI y.2.2.1))]),(hT 3 [(oC [(zI y.2.2.2.1),(Sl.v 1 y.2.2.2.2.1),(Sl.v 1 y.2.2.2.2.2.1)]),(oC y.2.2.2.2.2.2)]))) (fun w y=>OD pu n w y.1 y.2.1 y.2.2.1 y.2.2.2.1 y.2.2.2.2.1 y.2.2.2.2.2.1 y.2.2.2.2.2.2) n ⟨(s0,(Int.ofNat (Sl.n s0)),(0:Int),x0,s0,s1,([(zI (0:Int)),(zI (0:Int)),(zI (0:Int)),(zI (0:Int)),(zI (0:Int))]:LV)),hm,(.k0 [false] [.tmp 1 false,.tmp 3 false] [1,3,31,32,33])⟩ (fun _=>rfl) ?_)
      rintro w0 ⟨s2,z0,z1,z2,s3,s4,q1⟩ hm
      replace hm:QJ pu n (OD pu n w0) s2 z0 z1 z2 s3 s4 q1=some v:=hm
      unfold QJ at hm
      refine .then (.rK ?_)
      replace hm:=Ae hm;obtain⟨h5,hm⟩:=hm
      refine .ghs (fr 73 [(1,pt 1 0),(3,(pt 2 0)),(31,Sl.v 1 s2),(32,zI z0),(33,zI z1),(34,(zB (AY z1 z0)))]) (hT 3 [(oC [zI z2,Sl.v 1 s3,Sl.v 1 s4]),oC q1]) (.k [2] [false] [.tmp 1 false,.tmp 3 false] [1,3,31,32,33,34] ⟨DL h5,trivial⟩) ?_
      refine .then ?_
      replace hm:=Ag hm;rcases hm with⟨h6,hm⟩ | ⟨h6,hm⟩
      ·refine Hy (AY z1 z0) h6 ?_
       refine .skip (.ghs (fr 73 [(1,pt 1 0),(3,(pt 2 0)),(31,Sl.v 1 s2),(32,zI z0),(33,zI z1)]) (hT 3 [(oC [zI z2,Sl.v 1 s3,Sl.v 1 s4]),oC q1]) (.k [2] [false] [.tmp 1 false,.tmp 3 false] [1,3,31,32,33] ⟨DL h5,trivial⟩) ?_)
       refine .then (.block (.then ?_))
       replace hm:=Ab hm;obtain⟨k1,h7,hm⟩:=hm
       obtain rfl:=AR h7
       replace hm:=Ae hm;obtain⟨h8,hm⟩:=hm
       replace hm:=Ke hm;obtain⟨x1,h9,hm⟩:=hm
       refine .reg (eC 1 (keep (hT 3 [(oC [zI z2,Sl.v 1 s3,Sl.v 1 s4]),oC q1]) (bb (an (Nat.blt k1 (Sl.n s2)) true) (some (Cv (k1*1) (Sl.cs s2))) none)) (AX h8) (eD (keep (hT 3 [(oC [zI z2,Sl.v 1 s3,Sl.v 1 s4]),oC q1]) (AL (Sl.cs s2) (k1*1))) (AZ h9) (eE))) ?_
       refine .ghs (fr 73 [(1,pt 1 0),(3,(pt 2 0)),(4,(zI (Int.ofNat k1))),(5,zI x1),(31,Sl.v 1 s2),(32,zI z0),(33,(zI (Int.ofNat k1)))]) (hT 3 [(oC [zI z2,Sl.v 1 s3,Sl.v 1 s4]),oC q1]) (.k [2] [false] [.tmp 1 false,.tmp 3 false] [1,3,4,5,31,32,33] ⟨DL h5,trivial⟩) ?_
       refine .then ?_
       replace hm:=Ae hm;obtain⟨h10,hm⟩:=hm
       replace hm:=Ke hm;obtain⟨x2,h11,hm⟩:=hm
       refine .reg (eC 3 (keep (hT 3 [(oC [zI z2,Sl.v 1 s3,Sl.v 1 s4]),oC q1]) (bb (an (Nat.blt k1 (Sl.n s4)) true) (some (Cv (k1*1) (Sl.cs s4))) none)) (AX h10) (eD (keep (hT 3 [(oC [zI z2,Sl.v 1 s3,Sl.v 1 s4]),oC q1]) (AL (Sl.cs s4) (k1*1))) (AZ h11) (eE))) ?_
       refine .ghs (fr 73 [(1,pt 1 0),(3,(pt 2 0)),(5,zI x1),(6,zI x2),(31,Sl.v 1 s2),(32,zI z0),(33,(zI (Int.ofNat k1)))]) (hT 3 [(oC [zI z2,Sl.v 1 s3,Sl.v 1 s4]),oC q1]) (.k [2] [false] [.tmp 1 false,.tmp 3 false] [1,3,5,6,31,32,33] ⟨DL h5,trivial⟩) ?_
       refine .then (.join (v:=v) (fun y:Int×Int×Sl×Int×Int×Bool×Int×Sl×Sl×LV=>((fr 73 [(1,pt 1 0),(3,(pt 2 0)),(5,(zI y.1)),(6,(zI y.2.1)),(31,(Sl.v 1 y.2.2.1)),(32,(zI y.2.2.2.1)),(33,(zI y.2.2.2.2.1)),(58,(zB y.2.2.2.2.2.1))]),(hT 3 [(oC [(zI y.2.2.2.2.2.2.1),(Sl.v 1 y.2.2.2.2.2.2.2.1),(Sl.v 1 y.2.2.2.2.2.2.2.2.1)]),(oC y.2.2.2.2.2.2.2.2.2)]))) (fun y=>O4 pu n (OD pu n w0) y.1 y.2.1 y.2.2.1 y.2.2.2.1 y.2.2.2.2.1 y.2.2.2.2.2.1 y.2.2.2.2.2.2.1 y.2.2.2.2.2.2.2.1 y.2.2.2.2.2.2.2.2.1 y.2.2.2.2.2.2.2.2.2) ?_ ?_)
       ·rintro⟨z3,z4,s5,z5,z6,b3,z7,s6,s7,q2⟩ hm
        unfold O4 at hm
        replace hm:=Ag hm;rcases hm with⟨h12,hm⟩ | ⟨h12,hm⟩
        ·refine .ifT b3 (by kernel_rfl) h12 ?_
         refine .then (.rK (.ghs (fr 73 [(2,(zI (2:Int)))]) FM (.k0 [false] [] [2]) ?_))
         refine .ret ?_
         exact FK (zI (2:Int)) hm
        ·refine .ifF b3 (by kernel_rfl) h12 ?_
         refine .skip ?_
         replace hm:=Ae hm;obtain⟨h13,hm⟩:=hm
         refine .ghs (fr 73 [(1,pt 1 0),(3,(pt 2 0)),(5,zI z3),(6,zI z4),(31,Sl.v 1 s5),(32,zI z5),(33,zI z6)]) (hT 3 [(oC [zI z7,Sl.v 1 s6,Sl.v 1 s7]),oC q2]) (.k [2] [false] [.tmp 1 false,.tmp 3 false] [1,3,5,6,31,32,33] ⟨DL h13,trivial⟩) ?_
         refine .then ?_
         replace hm:=Ab hm;obtain⟨k2,h14,hm⟩:=hm
         obtain rfl:=AR h14
         replace hm:=Ae hm;obtain⟨h15,hm⟩:=hm
         replace hm:=Ke hm;obtain⟨x3,h16,hm⟩:=hm
         replace hm:=Ae hm;obtain⟨h17,hm⟩:=hm
         replace hm:=Ae hm;obtain⟨h18,hm⟩:=hm
         refine .reg (eC 1 (keep (hT 3 [(oC [zI z7,Sl.v 1 s6,Sl.v 1 s7]),oC q2]) (bb (Nat.blt k2 5) (some (.pointer (some ⟨2,(0+k2*1),none⟩))) none)) (AX h15) (eD (keep (hT 3 [(oC [zI z7,Sl.v 1 s6,Sl.v 1 s7]),oC q2]) (AL q2 (0+k2*1))) (AZ h16) (eC 1 (keep (hT 3 [(oC [zI z7,Sl.v 1 s6,Sl.v 1 s7]),oC q2]) (bb (Nat.blt k2 5) (some (.pointer (some ⟨2,(0+k2*1),none⟩))) none)) (AX h17) (eD (done (bb (an (Nat.ble ((0+k2*1)+1) (len q2)) true) (some (hT 3 [(oC [zI z7,Sl.v 1 s6,Sl.v 1 s7]),(oC (BM ([(zI (Aj .i64 (Int.add x3 (1:Int))))]:LV) (0+k2*1) q2))])) none) undef) (Js h18) (eE))))) ?_
         replace hm:=Ae hm;obtain⟨h19,hm⟩:=hm
         refine .ghs (fr 73 [(1,pt 1 0),(3,(pt 2 0)),(6,zI z4),(31,Sl.v 1 s5),(32,zI z5),(33,zI z6)]) (hT 3 [(oC [zI z7,Sl.v 1 s6,Sl.v 1 s7]),(oC (BM ([(zI (Aj .i64 (Int.add x3 (1:Int))))]:LV) (0+k2*1) q2))]) (.k [2] [false] [.tmp 1 false,.tmp 3 false] [1,3,6,31,32,33] ⟨DL h19,trivial⟩) ?_
         replace hm:=Ab hm;obtain⟨k3,h20,hm⟩:=hm
         obtain rfl:=AR h20
         replace hm:=Ae hm;obtain⟨h21,hm⟩:=hm
         replace hm:=Ke hm;obtain⟨x4,h22,hm⟩:=hm
         replace hm:=Ae hm;obtain⟨h23,hm⟩:=hm
         replace hm:=Ae hm;obtain⟨h24,hm⟩:=hm
         refine .reg (eC 1 (keep (hT 3 [(oC [zI z7,Sl.v 1 s6,Sl.v 1 s7]),(oC (BM ([(zI (Aj .i64 (Int.add x3 (1:Int))))]:LV) (0+k2*1) q2))]) (bb (Nat.blt k3 5) (some (.pointer (some ⟨2,(0+k3*1),none⟩))) none)) (AX h21) (eD (keep (hT 3 [(oC [zI z7,Sl.v 1 s6,Sl.v 1 s7]),(oC (BM ([(zI (Aj .i64 (Int.add x3 (1:Int))))]:LV) (0+k2*1) q2))]) (AL (BM ([(zI (Aj .i64 (Int.add x3 (1:Int))))]:LV) (0+k2*1) q2) (0+k3*1))) (AZ h22) (eC 1 (keep (hT 3 [(oC [zI z7,Sl.v 1 s6,Sl.v 1 s7]),(oC (BM ([(zI (Aj .i64 (Int.add x3 (1:Int))))]:LV) (0+k2*1) q2))]) (bb (Nat.blt k3 5) (some (.pointer (some ⟨2,(0+k3*1),none⟩))) none)) (AX h23) (eD (done (bb (an (Nat.ble ((0+k3*1)+1) (len (BM ([(zI (Aj .i64 (Int.add x3 (1:Int))))]:LV) (0+k2*1) q2))) true) (some (hT 3 [(oC [zI z7,Sl.v 1 s6,Sl.v 1 s7]),(oC (BM ([(zI (Aj .i64 (Int.sub x4 (1:Int))))]:LV) (0+k3*1) (BM ([(zI (Aj .i64 (Int.add x3 (1:Int))))]:LV) (0+k2*1) q2)))])) none) undef) (Js h24) (eE))))) ?_
         replace hm:=Ae hm;obtain⟨h25,hm⟩:=hm
         refine .ghs (fr 73 [(1,pt 1 0),(3,(pt 2 0)),(31,Sl.v 1 s5),(32,zI z5),(33,zI z6)]) (hT 3 [(oC [zI z7,Sl.v 1 s6,Sl.v 1 s7]),(oC (BM ([(zI (Aj .i64 (Int.sub x4 (1:Int))))]:LV) (0+k3*1) (BM ([(zI (Aj .i64 (Int.add x3 (1:Int))))]:LV) (0+k2*1) q2)))]) (.k [2] [false] [.tmp 1 false,.tmp 3 false] [1,3,31,32,33] ⟨DL h25,trivial⟩) ?_
         refine .rK ?_
         exact⟨(s5,z5,(Aj .i64 (Int.add z6 (1:Int))),z7,s6,s7,(BM ([(zI (Aj .i64 (Int.sub x4 (1:Int))))]:LV) (0+k3*1) (BM ([(zI (Aj .i64 (Int.add x3 (1:Int))))]:LV) (0+k2*1) q2))),hm,(.k [2] [false] [.tmp 1 false,.tmp 3 false] [1,3,31,32,33] ⟨DL h25,trivial⟩)⟩
       ·replace hm:=gV hm;obtain⟨b4,h26,hm⟩:=hm
        replace hm:=Ag hm;rcases hm with⟨h27,hm⟩ | ⟨h27,hm⟩
        ·refine .reg (eC 6 ((oo (pu 52 [(zI (0:Int)),(zI (bb (AY x2 x1) x2 x1)),(zI (Aj .i64 (Int.sub z2 (1:Int))))]) none fun v=>some (v,(hT 3 [(oC [zI z2,Sl.v 1 s3,Sl.v 1 s4]),oC q1])))) (AB h26) (eD (some ((zB (nt b4)),(hT 3 [(oC [zI z2,Sl.v 1 s3,Sl.v 1 s4]),oC q1]))) (show _=some ((zB true),_) from (by rw[show (nt b4)=true from h27])) (eE))) ?_
         exact⟨(x1,x2,s2,z0,(Int.ofNat k1),true,z2,s3,s4,q1),hm,(.k [2] [false] [.tmp 1 false,.tmp 3 false] [1,3,5,6,31,32,33,58] ⟨DL h5,trivial⟩)⟩
        ·refine .reg (eC 6 ((oo (pu 52 [(zI (0:Int)),(zI (bb (AY x2 x1) x2 x1)),(zI (Aj .i64 (Int.sub z2 (1:Int))))]) none fun v=>some (v,(hT 3 [(oC [zI z2,Sl.v 1 s3,Sl.v 1 s4]),oC q1])))) (AB h26) (eD (some ((zB (nt b4)),(hT 3 [(oC [zI z2,Sl.v 1 s3,Sl.v 1 s4]),oC q1]))) (show _=some ((zB false),_) from (by rw[show (nt b4)=false from h27])) (eE))) ?_
         exact⟨(x1,x2,s2,z0,(Int.ofNat k1),(nt (AY (bb (AY x1 x2) x2 x1) z2)),z2,s3,s4,q1),hm,(.k [2] [false] [.tmp 1 false,.tmp 3 false] [1,3,5,6,31,32,33,58] ⟨DL h5,trivial⟩)⟩
      ·refine Hz (AY z1 z0) h6 ?_
       refine .exit ?_
       exact⟨q1,hm,(.k [2] [false] [.tmp 3 false] [3] ⟨DL h5,trivial⟩)⟩
end
end Go.MnWM
