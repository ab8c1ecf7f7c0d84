import Derived.Test.YtlgmapibifphaaaDoorMnSMod0x
set_option maxRecDepth 100000
set_option maxHeartbeats 20000000
set_option linter.unusedVariables false
namespace Go.MnSM
open Go.Sp Go.MnS
noncomputable section
def YA (pu:Af) (n:Nat) (z0:Int):OV:=
 (some (.int .i64 z0))
def QO (pu:Af) (n:Nat) (ih0:Int→Sl→Int→Int→OV) (z0:Int) (s0:Sl) (z1 z2:Int):OV:=
 (bb (AY z2 z1) (oo (EA z2) none λk1=>(bb (an (Nat.blt k1 (Sl.n s0)) true) (oo (AL (Sl.cs s0) (k1*1)) none λv0=>(oo (Bi .i64 v0) none λx0=>(ih0 (Aj .i64 (Int.add (Aj .i64 (Int.mul (8:Int) z0)) x0)) s0 z1 (Aj .i64 (Int.add (Int.ofNat k1) (1:Int)))))) none)) (YA pu n z0))
def QR (pu:Af) (n w:Nat):Int→Sl→Int→Int→OV:=
 Nat.rec (motive:=λ_=>Int→Sl→Int→Int→OV) (λ_ _ _ _=>none) (λ_ ih0=>QO pu n ih0) w
def Afw (pu:Af) (n:Nat) (s0:Sl):OV:=
 (QR pu n n (0:Int) s0 (Int.ofNat (Sl.n s0)) (0:Int))
def m23 (pu:Af) (n:Nat) (args:LV):OV:=
 (ll args none λa0 args=>(ll args (oo (Bj 1 a0) none λs0=>(Afw pu n s0)) λ_ _=>none))
theorem Afy (pu:Af) (n:Nat) (z0:Int) {v:Value} (hm:YA pu n z0=some v):BN tt (Bb tabs Ir pu (inl pu)) 1 dY (fr 18 [(3,zI z0)]) FD (Fin tt 1 [.tmp 2] v):=by
 unfold YA at hm
 refine .then (.rK (.ghs (fr 18 [(2,zI z0)]) FD (.k0 [false] [] [2]) ?_))
 refine .ret ?_
 exact Fp (zI z0) hm
theorem r23 {call:A8} (pu:Af) (n:Nat) (hcall:call=Bb tabs Ir pu (inl pu)) {args:LV} {v:Value} (hm:m23 pu n args=some v) (_:∀ x∈args,closed2 x=true):args.length≤18∧BN tt call 1 UG (Fr.made 18 args) (Ao tabs) (Fin tt 1 [.tmp 2] v):=by
 subst hcall
 unfold m23 at hm
 replace hm:=Ad hm;obtain⟨a0,args_0,rfl,hm⟩:=hm
 replace hm:=AC hm;obtain⟨rfl,hm⟩:=hm
 replace hm:=Al hm;obtain⟨s0,rfl,hm⟩:=hm
 unfold Afw at hm
 refine⟨by simp,?_⟩
 refine .same (F':=(fr 18 [(0,Sl.v 1 s0)])) (H':=FD) (by kernel_rfl) (by kernel_rfl) ?_
 refine .then (.rK (.ghs (fr 18 [(0,Sl.v 1 s0)]) FD (.k0 [false] [] [0]) ?_))
 refine .then (.rK (.ghs (fr 18 [(0,Sl.v 1 s0),(3,(zI (0:Int)))]) FD (.k0 [false] [] [0,3]) ?_))
 refine .join (v:=v) (λy:Int=>((fr 18 [(3,zI y)]),FD)) (λy=>YA pu n y) ?_ ?_
 ·rintro z0 hm
  exact Afy pu n z0 hm
 ·refine .then (.rK (.ghs (fr 18 [(3,(zI (0:Int))),(6,Sl.v 1 s0),(7,(Ah6 s0)),(8,(zI (0:Int)))]) FD (.k0 [false] [] [3,6,7,8]) ?_))
  refine .block (.loopM (v:=v) (λy:Int×Sl×Int×Int=>((fr 18 [(3,(zI y.1)),(6,(Sl.v 1 y.2.1)),(7,(zI y.2.2.1)),(8,(zI y.2.2.2))]),FD)) (λw y=>QR pu n w y.1 y.2.1 y.2.2.1 y.2.2.2) n ⟨((0:Int),s0,(Int.ofNat (Sl.n s0)),(0:Int)),hm,(.k0 [false] [] [3,6,7,8])⟩ (λ_=>rfl) ?_)
  rintro w0 ⟨z1,s1,z2,z3⟩ hm
  replace hm:QO pu n (QR pu n w0) z1 s1 z2 z3=some v:=hm
  unfold QO at hm
  refine .then (.rK (.ghs (fr 18 [(3,zI z1),(6,Sl.v 1 s1),(7,zI z2),(8,zI z3),(9,(zB (AY z3 z2)))]) FD (.k0 [false] [] [3,6,7,8,9]) ?_))
  refine .then ?_
  replace hm:=Ag hm;rcases hm with⟨h0,hm⟩|⟨h0,hm⟩
  ·refine Gq (AY z3 z2) h0 ?_
   refine .skip (.ghs (fr 18 [(3,zI z1),(6,Sl.v 1 s1),(7,zI z2),(8,zI z3)]) FD (.k0 [false] [] [3,6,7,8]) ?_)
   refine .then (.block (.then ?_))
   replace⟨k1,h1,hm⟩:=Ab hm
   obtain rfl:=AR h1
   replace⟨h2,hm⟩:=Ae hm
   replace⟨x0,h3,hm⟩:=Hw hm
   refine .reg (eD (keep FD (Aht k1 s1)) (AX h2) (eD (Aia s1 k1) (AZ h3) (eE))) ?_
   refine .ghs (fr 18 [(3,zI z1),(5,zI x0),(6,Sl.v 1 s1),(7,zI z2),(8,(zI (Int.ofNat k1)))]) FD (.k0 [false] [] [3,5,6,7,8]) ?_
   refine .rK (.ghs (fr 18 [(3,(zI (Aj .i64 (Int.add (Aj .i64 (Int.mul (8:Int) z1)) x0)))),(6,Sl.v 1 s1),(7,zI z2),(8,(zI (Int.ofNat k1)))]) FD (.k0 [false] [] [3,6,7,8]) ?_)
   refine .rK ?_
   exact⟨((Aj .i64 (Int.add (Aj .i64 (Int.mul (8:Int) z1)) x0)),s1,z2,(AhP k1)),hm,(.k0 [false] [] [3,6,7,8])⟩
  ·refine Gs (AY z3 z2) h0 ?_
   refine .exit ?_
   exact⟨z1,hm,(.k0 [false] [] [3])⟩
def mQ (pu:Af) (n:Nat) (s0:Sl) (x0 x1:Int):OV:=
 (bb (Nat.beq (Sl.n s0) 0) (oo (EA x1) none λk1=>(bb (an (Nat.blt k1 0) true) (oo (AL ([]:LV) (0+k1*1)) none λv0=>(oo (Bi .i64 v0) none λx2=>(oo (EA x0) none λk2=>(bb (an (Nat.blt k2 0) true) (oo (AL ([]:LV) (0+k2*1)) none λv1=>(oo (Bi .i64 v1) none λx3=>(bb (an (Nat.blt k2 0) true) (bb (an (Nat.ble ((0+k2*1)+1) (len ([]:LV))) true) (bb (an (Nat.blt k1 0) true) (bb (an (Nat.ble ((0+k1*1)+1) (len (BM ([.int .i64 x2]:LV) (0+k2*1) ([]:LV)))) true) (bb (Au Ah (BM ([.int .i64 x3]:LV) (0+k1*1) (BM ([.int .i64 x2]:LV) (0+k2*1) ([]:LV)))) (bb (an (Nat.ble (0+0*1) (len (BM ([.int .i64 x3]:LV) (0+k1*1) (BM ([.int .i64 x2]:LV) (0+k2*1) ([]:LV))))) (Au Ah (Aq (0*1) (Am 0 (BM ([.int .i64 x3]:LV) (0+k1*1) (BM ([.int .i64 x2]:LV) (0+k2*1) ([]:LV))))))) (some (Sl.v 1 (Sl.mk 0 0 (Aq (0*1) (Am 0 (BM ([.int .i64 x3]:LV) (0+k1*1) (BM ([.int .i64 x2]:LV) (0+k2*1) ([]:LV)))))))) none) none) none) none) none) none))) none)))) none)) (bb (EQ (0+(Sl.n s0)) 8) (bb (Au Ah (Aq ((Sl.n s0)*1) (Sl.cs s0))) (oo (EA x1) none λk3=>(bb (an (Nat.blt k3 (0+(Sl.n s0))) true) (oo (AL (Aq ((Sl.n s0)*1) (Sl.cs s0)) (0+k3*1)) none λv2=>(oo (Bi .i64 v2) none λx4=>(oo (EA x0) none λk4=>(bb (an (Nat.blt k4 (0+(Sl.n s0))) true) (oo (AL (Aq ((Sl.n s0)*1) (Sl.cs s0)) (0+k4*1)) none λv3=>(oo (Bi .i64 v3) none λx5=>(bb (an (Nat.blt k4 (0+(Sl.n s0))) true) (bb (an (Nat.ble ((0+k4*1)+1) (len (Aq ((Sl.n s0)*1) (Sl.cs s0)))) true) (bb (an (Nat.blt k3 (0+(Sl.n s0))) true) (bb (an (Nat.ble ((0+k3*1)+1) (len (BM ([.int .i64 x4]:LV) (0+k4*1) (Aq ((Sl.n s0)*1) (Sl.cs s0))))) true) (bb (Au Ah (BM ([.int .i64 x5]:LV) (0+k3*1) (BM ([.int .i64 x4]:LV) (0+k4*1) (Aq ((Sl.n s0)*1) (Sl.cs s0))))) (bb (an (Nat.ble (0+(0+(Sl.n s0))*1) (len (BM ([.int .i64 x5]:LV) (0+k3*1) (BM ([.int .i64 x4]:LV) (0+k4*1) (Aq ((Sl.n s0)*1) (Sl.cs s0)))))) (Au Ah (Aq ((0+(Sl.n s0))*1) (Am 0 (BM ([.int .i64 x5]:LV) (0+k3*1) (BM ([.int .i64 x4]:LV) (0+k4*1) (Aq ((Sl.n s0)*1) (Sl.cs s0)))))))) (some (Sl.v 1 (Sl.mk (0+(Sl.n s0)) 0 (Aq ((0+(Sl.n s0))*1) (Am 0 (BM ([.int .i64 x5]:LV) (0+k3*1) (BM ([.int .i64 x4]:LV) (0+k4*1) (Aq ((Sl.n s0)*1) (Sl.cs s0))))))))) none) none) none) none) none) none))) none)))) none)) none) none))
def m24 (pu:Af) (n:Nat) (args:LV):OV:=
 (ll args none λa0 args=>(ll args none λa1 args=>(ll args none λa2 args=>(ll args (oo (Bj 1 a0) none λs0=>(oo (Bi .i64 a1) none λx0=>(oo (Bi .i64 a2) none λx1=>(mQ pu n s0 x0 x1)))) λ_ _=>none))))
theorem r24 {call:A8} (pu:Af) (n:Nat) (hcall:call=Bb tabs Ir pu (inl pu)) {args:LV} {v:Value} (hm:m24 pu n args=some v) (_:∀ x∈args,closed2 x=true):args.length≤26∧BN tt call 1 Yq (Fr.made 26 args) (Ao tabs) (Fin tt 1 [.tmp 6] v):=by
 subst hcall
 unfold m24 at hm
 replace hm:=Ad hm;obtain⟨a0,args_0,rfl,hm⟩:=hm
 replace hm:=Ad hm;obtain⟨a1,args_1,rfl,hm⟩:=hm
 replace hm:=Ad hm;obtain⟨a2,args_2,rfl,hm⟩:=hm
 replace hm:=AC hm;obtain⟨rfl,hm⟩:=hm
 replace hm:=Al hm;obtain⟨s0,rfl,hm⟩:=hm
 replace hm:=Ai hm;obtain⟨x0,rfl,hm⟩:=hm
 replace hm:=Ai hm;obtain⟨x1,rfl,hm⟩:=hm
 unfold mQ at hm
 refine⟨by simp,?_⟩
 refine .same (F':=(fr 26 [(0,Sl.v 1 s0),(1,zI x0),(2,zI x1)])) (H':=FD) (by kernel_rfl) (by kernel_rfl) ?_
 refine .then (.rK (.ghs (fr 26 [(0,Sl.v 1 s0),(1,zI x0),(2,zI x1)]) FD (.k0 [false] [] [0,1,2]) ?_))
 refine .then ?_
 replace hm:=Ag hm;rcases hm with⟨h0,hm⟩|⟨h0,hm⟩
 ·refine .reg (eC 2 (Ql (hT 2 [(oC [])]) 1 8 (sc 1 0 1 0 1) s0) (Ze h0) (eE)) ?_
  refine .ghs (fr 26 [(1,zI x0),(2,zI x1),(7,sc 1 0 1 0 1)]) (hT 2 [(oC [])]) (.k0 [false] [.tmp 7 false] [1,2,7]) ?_
  refine .then ?_
  replace⟨k1,h1,hm⟩:=Ab hm
  obtain rfl:=AR h1
  replace⟨h2,hm⟩:=Ae hm
  replace⟨x2,h3,hm⟩:=Hw hm
  replace⟨k2,h4,hm⟩:=Ab hm
  obtain rfl:=AR h4
  replace⟨h5,hm⟩:=Ae hm
  replace⟨x3,h6,hm⟩:=Hw hm
  replace⟨h7,hm⟩:=Ae hm
  replace⟨h8,hm⟩:=Ae hm
  replace⟨h9,hm⟩:=Ae hm
  replace⟨h10,hm⟩:=Ae hm
  refine .reg (eN 11 (Fr.puts (fr 26 [(1,(zI (Int.ofNat k2))),(2,(zI (Int.ofNat k1))),(7,sc 1 0 1 0 1)]) [(11,sc 1 0 1 0 1),(12,(zI (Int.ofNat k2))),(13,sc 1 0 1 0 1),(14,(zI (Int.ofNat k1))),(15,sc 1 0 1 0 1),(16,(zI (Int.ofNat k1))),(17,(Ah2 k1)),(18,zI x2),(19,sc 1 0 1 0 1),(20,(zI (Int.ofNat k2))),(21,(Ah2 k2))]) (hT 2 [(oC [])]) (eC 6 (AiV k1) (AX h2) (eD (keep (hT 2 [(oC [])]) (AL ([]:LV) (0+k1*1))) (AZ h3) (eC 2 (AiV k2) (AX h5) (by kernel_rfl)))) (eD (keep (hT 2 [(oC [])]) (AL ([]:LV) (0+k2*1))) (AZ h6) (eD (AiV k2) (AX h7) (eD (done (bb (an (Nat.ble ((0+k2*1)+1) (len ([]:LV))) true) (some (hT 2 [(oC (BM ([zI x2]:LV) (0+k2*1) ([]:LV)))])) none) undef) (Js h8) (eD (keep (hT 2 [(oC (BM ([zI x2]:LV) (0+k2*1) ([]:LV)))]) (bb (an (Nat.blt k1 0) true) (some (Ah2 k1)) none)) (AX h9) (eD (done (bb (an (Nat.ble ((0+k1*1)+1) (len (BM ([zI x2]:LV) (0+k2*1) ([]:LV)))) true) (some (hT 2 [(oC (Aim x3 k1 x2 k2))])) none) undef) (Js h10) (eE))))))) ?_
  replace⟨h11,hm⟩:=Ae hm
  refine .ghs (fr 26 [(7,sc 1 0 1 0 1)]) (hT 2 [(oC (Aim x3 k1 x2 k2))]) (.k [1] [false] [.tmp 7 false] [7] ⟨Fb h11,trivial⟩) ?_
  refine .then (.rK (.ghs (fr 26 [(6,sc 1 0 1 0 1)]) (hT 2 [(oC (Aim x3 k1 x2 k2))]) (.k [1] [false] [.tmp 6 false] [6] ⟨Fb h11,trivial⟩) ?_))
  replace⟨h12,hm⟩:=Ae hm
  refine .ghs (Fr.puts (fr 26 [(6,sc 1 0 1 0 1)]) [(6,(Sl.v 1 (Sl.mk 0 0 (Aq (0*1) (Am 0 (Aim x3 k1 x2 k2))))))]) (hT 2 [.dead]) (.freezeC 1 6 1 (an (Nat.ble (0+0*1) (len (Aim x3 k1 x2 k2))) (Au Ah (Aq (0*1) (Am 0 (Aim x3 k1 x2 k2))))) (F1:=(Fr.puts (fr 26 [(6,sc 1 0 1 0 1)]) [(6,(Sl.v 1 (Sl.mk 0 0 (Aq (0*1) (Am 0 (Aim x3 k1 x2 k2))))))])) (H1:=(hT 2 [.dead])) (by kernel_rfl) (by kernel_rfl) h12 (E9.id _ _)) ?_
  refine .ret ?_
  exact Fp (Sl.v 1 (Sl.mk 0 0 (Aq (0*1) (Am 0 (Aim x3 k1 x2 k2))))) hm
 ·replace⟨h13,hm⟩:=Ae hm
  refine .reg (eC 2 (Ql (hT 2 [(oC [])]) 1 8 (sc 1 0 1 0 1) s0) (Zf h0 h13 (by kernel_rfl)) (eE)) ?_
  replace⟨h14,hm⟩:=Ae hm
  refine .ghs (fr 26 [(1,zI x0),(2,zI x1),(7,(Aid s0))]) (hT 2 [(oC (Ahy s0))]) (.k [2] [false] [.tmp 7 false] [1,2,7] ⟨Fb h14,trivial⟩) ?_
  refine .then ?_
  replace⟨k3,h15,hm⟩:=Ab hm
  obtain rfl:=AR h15
  replace⟨h16,hm⟩:=Ae hm
  replace⟨x4,h17,hm⟩:=Hw hm
  replace⟨k4,h18,hm⟩:=Ab hm
  obtain rfl:=AR h18
  replace⟨h19,hm⟩:=Ae hm
  replace⟨x5,h20,hm⟩:=Hw hm
  replace⟨h21,hm⟩:=Ae hm
  replace⟨h22,hm⟩:=Ae hm
  replace⟨h23,hm⟩:=Ae hm
  replace⟨h24,hm⟩:=Ae hm
  refine .reg (eN 11 (Fr.puts (fr 26 [(1,(zI (Int.ofNat k4))),(2,(zI (Int.ofNat k3))),(7,(Aid s0))]) [(11,(Aid s0)),(12,(zI (Int.ofNat k4))),(13,(Aid s0)),(14,(zI (Int.ofNat k3))),(15,(Aid s0)),(16,(zI (Int.ofNat k3))),(17,(Ah2 k3)),(18,zI x4),(19,(Aid s0)),(20,(zI (Int.ofNat k4))),(21,(Ah2 k4))]) (hT 2 [(oC (Ahy s0))]) (eC 6 (AiQ s0 k3) (AX h16) (eD (keep (hT 2 [(oC (Ahy s0))]) (AL (Ahy s0) (0+k3*1))) (AZ h17) (eC 2 (AiQ s0 k4) (AX h19) (by kernel_rfl)))) (eD (keep (hT 2 [(oC (Ahy s0))]) (AL (Ahy s0) (0+k4*1))) (AZ h20) (eD (AiQ s0 k4) (AX h21) (eD (done (bb (an (Nat.ble ((0+k4*1)+1) (len (Ahy s0))) true) (some (hT 2 [(oC (Ajp x4 k4 s0))])) none) undef) (Js h22) (eD (keep (hT 2 [(oC (Ajp x4 k4 s0))]) (bb (an (Nat.blt k3 (0+(Sl.n s0))) true) (some (Ah2 k3)) none)) (AX h23) (eD (done (bb (an (Nat.ble ((0+k3*1)+1) (len (Ajp x4 k4 s0))) true) (some (hT 2 [(oC (AhN x5 k3 x4 k4 s0))])) none) undef) (Js h24) (eE))))))) ?_
  replace⟨h25,hm⟩:=Ae hm
  refine .ghs (fr 26 [(7,(Aid s0))]) (hT 2 [(oC (AhN x5 k3 x4 k4 s0))]) (.k [1] [false] [.tmp 7 false] [7] ⟨Fb h25,trivial⟩) ?_
  refine .then (.rK (.ghs (fr 26 [(6,(Aid s0))]) (hT 2 [(oC (AhN x5 k3 x4 k4 s0))]) (.k [1] [false] [.tmp 6 false] [6] ⟨Fb h25,trivial⟩) ?_))
  replace⟨h26,hm⟩:=Ae hm
  refine .ghs (Fr.puts (fr 26 [(6,(Aid s0))]) [(6,(Ajk s0 x5 k3 x4 k4))]) (hT 2 [.dead]) (.freezeC 1 6 1 (an (Nat.ble (0+(0+(Sl.n s0))*1) (len (AhN x5 k3 x4 k4 s0))) (Au Ah (Aq ((0+(Sl.n s0))*1) (Am 0 (AhN x5 k3 x4 k4 s0))))) (F1:=(Fr.puts (fr 26 [(6,(Aid s0))]) [(6,(Ajk s0 x5 k3 x4 k4))])) (H1:=(hT 2 [.dead])) (by kernel_rfl) (by kernel_rfl) h26 (E9.id _ _)) ?_
  refine .ret ?_
  exact Fp (Ajk s0 x5 k3 x4 k4) hm
def YB (pu:Af) (n:Nat):OV:=
 (some (.bool true))
def Wz (pu:Af) (n:Nat) (ih0:Sl→Sl→Int→OV) (s0 s1:Sl) (z0:Int):OV:=
 (bb (AY z0 (Int.ofNat (Sl.n s0))) (oo (EA z0) none λk1=>(bb (an (Nat.blt k1 (Sl.n s0)) true) (oo (AL (Sl.cs s0) (k1*1)) none λv0=>(oo (Bi .i64 v0) none λx0=>(bb (an (Nat.blt k1 (Sl.n s1)) true) (oo (AL (Sl.cs s1) (k1*1)) none λv1=>(oo (Bi .i64 v1) none λx1=>(bb (nt (Bd x0 x1)) (some (.bool false)) (ih0 s0 s1 (Aj .i64 (Int.add (Int.ofNat k1) (1:Int))))))) none))) none)) (YB pu n))
def SQ (pu:Af) (n w:Nat):Sl→Sl→Int→OV:=
 Nat.rec (motive:=λ_=>Sl→Sl→Int→OV) (λ_ _ _=>none) (λ_ ih0=>Wz pu n ih0) w
def Afz (pu:Af) (n:Nat) (s0 s1:Sl):OV:=
 (bb (nt (Bd (Int.ofNat (Sl.n s0)) (Int.ofNat (Sl.n s1)))) (some (.bool false)) (SQ pu n n s0 s1 (0:Int)))
def m26 (pu:Af) (n:Nat) (args:LV):OV:=
 (ll args none λa0 args=>(ll args none λa1 args=>(ll args (oo (Bj 1 a0) none λs0=>(oo (Bj 1 a1) none λs1=>(Afz pu n s0 s1))) λ_ _=>none)))
theorem AfA (pu:Af) (n:Nat) {v:Value} (hm:YB pu n=some v):BN tt (Bb tabs Ir pu (inl pu)) 1 dZ (fr 26 []) FD (Fin tt 1 [.tmp 4] v):=by
 unfold YB at hm
 refine .then (.rK (.ghs (fr 26 [(4,zB true)]) FD (.k0 [false] [] [4]) ?_))
 refine .ret ?_
 exact Fp (zB true) hm
theorem r26 {call:A8} (pu:Af) (n:Nat) (hcall:call=Bb tabs Ir pu (inl pu)) {args:LV} {v:Value} (hm:m26 pu n args=some v) (_:∀ x∈args,closed2 x=true):args.length≤26∧BN tt call 1 UH (Fr.made 26 args) (Ao tabs) (Fin tt 1 [.tmp 4] v):=by
 subst hcall
 unfold m26 at hm
 replace hm:=Ad hm;obtain⟨a0,args_0,rfl,hm⟩:=hm
 replace hm:=Ad hm;obtain⟨a1,args_1,rfl,hm⟩:=hm
 replace hm:=AC hm;obtain⟨rfl,hm⟩:=hm
 replace hm:=Al hm;obtain⟨s0,rfl,hm⟩:=hm
 replace hm:=Al hm;obtain⟨s1,rfl,hm⟩:=hm
 unfold Afz at hm
 refine⟨by simp,?_⟩
 refine .same (F':=(fr 26 (Ai2 s0 s1))) (H':=FD) (by kernel_rfl) (by kernel_rfl) ?_
 refine .then (.rK (.ghs (fr 26 (Ai2 s0 s1)) FD (.k0 [false] [] [0,1]) ?_))
 refine .then (.then (.rK (.ghs (fr 26 [(0,Sl.v 1 s0),(1,Sl.v 1 s1),(10,(zB (Ah7 s0 s1)))]) FD (.k0 [false] [] [0,1,10]) ?_)))
 replace hm:=Ag hm;rcases hm with⟨h0,hm⟩|⟨h0,hm⟩
 ·refine Gq (Ah7 s0 s1) h0 ?_
  refine .then (.rK (.ghs (fr 26 [(4,zB false)]) FD (.k0 [false] [] [4]) ?_))
  refine .ret ?_
  exact Fp (zB false) hm
 ·refine Gs (Ah7 s0 s1) h0 ?_
  refine .skip (.ghs (fr 26 (Ai2 s0 s1)) FD (.k0 [false] [] [0,1]) ?_)
  refine .join (v:=v) (λy:Unit=>((fr 26 []),FD)) (λy=>YB pu n) ?_ ?_
  ·rintro _ hm
   exact AfA pu n hm
  ·refine .then (.rK (.ghs (fr 26 [(0,Sl.v 1 s0),(1,Sl.v 1 s1),(5,(zI (0:Int)))]) FD (.k0 [false] [] [0,1,5]) ?_))
   refine .block (.loopM (v:=v) (λy:Sl×Sl×Int=>((fr 26 [(0,(Sl.v 1 y.1)),(1,(Sl.v 1 y.2.1)),(5,(zI y.2.2))]),FD)) (λw y=>SQ pu n w y.1 y.2.1 y.2.2) n ⟨(s0,s1,(0:Int)),hm,(.k0 [false] [] [0,1,5])⟩ (λ_=>rfl) ?_)
   rintro w0 ⟨s2,s3,z0⟩ hm
   replace hm:Wz pu n (SQ pu n w0) s2 s3 z0=some v:=hm
   unfold Wz at hm
   refine .then (.then (.rK (.ghs (fr 26 [(0,Sl.v 1 s2),(1,Sl.v 1 s3),(5,zI z0),(14,(zB (Aie z0 s2)))]) FD (.k0 [false] [] [0,1,5,14]) ?_)))
   replace hm:=Ag hm;rcases hm with⟨h1,hm⟩|⟨h1,hm⟩
   ·refine Gq (Aie z0 s2) h1 ?_
    refine .skip (.ghs (fr 26 [(0,Sl.v 1 s2),(1,Sl.v 1 s3),(5,zI z0)]) FD (.k0 [false] [] [0,1,5]) ?_)
    refine .then (.block (.then ?_))
    replace⟨k1,h2,hm⟩:=Ab hm
    obtain rfl:=AR h2
    replace⟨h3,hm⟩:=Ae hm
    replace⟨x0,h4,hm⟩:=Hw hm
    replace⟨h5,hm⟩:=Ae hm
    replace⟨x1,h6,hm⟩:=Hw hm
    refine .reg (eC 2 (keep FD (Aht k1 s2)) (AX h3) (eD (Aia s2 k1) (AZ h4) (eC 2 (keep FD (Aht k1 s3)) (AX h5) (eD (Aia s3 k1) (AZ h6) (eE))))) ?_
    refine .ghs (fr 26 [(0,Sl.v 1 s2),(1,Sl.v 1 s3),(5,(zI (Int.ofNat k1))),(25,(zB (nt (Bd x0 x1))))]) FD (.k0 [false] [] [0,1,5,25]) ?_
    replace hm:=Ag hm;rcases hm with⟨h7,hm⟩|⟨h7,hm⟩
    ·refine Gq (nt (Bd x0 x1)) h7 ?_
     refine .then (.rK (.ghs (fr 26 [(4,zB false)]) FD (.k0 [false] [] [4]) ?_))
     refine .ret ?_
     exact Fp (zB false) hm
    ·refine Gs (nt (Bd x0 x1)) h7 ?_
     refine .skip (.ghs (fr 26 [(0,Sl.v 1 s2),(1,Sl.v 1 s3),(5,(zI (Int.ofNat k1)))]) FD (.k0 [false] [] [0,1,5]) ?_)
     refine .rK ?_
     exact⟨(s2,s3,(AhP k1)),hm,(.k0 [false] [] [0,1,5])⟩
   ·refine Gs (Aie z0 s2) h1 ?_
    refine .exit ?_
    exact⟨(),hm,(.k0 [false] [] [])⟩
def nD (pu:Af) (n:Nat) (x0:Int) (s0 s1:Sl):OV:=
 (oo (pu 47 [(.agg ⟨[.int .i64 x0,Sl.v 1 s0,Sl.v 1 s1]⟩)]) none λv0=>(oo (Bi .i64 v0) none λx1=>(bb (nt (Bd x1 (0:Int))) (some (.tuple ⟨[(.int .i64 (0:Int)),.int .i64 x1]⟩)) (oo (pu 44 [(.agg ⟨[.int .i64 x0,Sl.v 1 s0,Sl.v 1 s1]⟩)]) none λv1=>(oo (Bi .i64 v1) none λx2=>(some (.tuple ⟨[.int .i64 x2,(.int .i64 (0:Int))]⟩)))))))
def m29 (pu:Af) (n:Nat) (args:LV):OV:=
 (ll args none λa0 args=>(ll args (oo (Bt a0) none λl0=>(ll l0 none λv0 l0=>(ll l0 none λv1 l0=>(ll l0 none λv2 l0=>(ll l0 (oo (Bi .i64 v0) none λx0=>(oo (Bj 1 v1) none λs0=>(oo (Bj 1 v2) none λs1=>(nD pu n x0 s0 s1)))) λ_ _=>none))))) λ_ _=>none))
theorem r29 {call:A8} (pu:Af) (n:Nat) (hcall:call=Bb tabs Ir pu (inl pu)) {args:LV} {v:Value} (hm:m29 pu n args=some v) (_:∀ x∈args,closed2 x=true):args.length≤12∧BN tt call 1 UI (Fr.made 12 args) (Ao tabs) (Fin tt 1 [.tmp 2,.tmp 3] v):=by
 subst hcall
 unfold m29 at hm
 replace hm:=Ad hm;obtain⟨a0,args_0,rfl,hm⟩:=hm
 replace hm:=AC hm;obtain⟨rfl,hm⟩:=hm
 replace hm:=BG hm;obtain⟨l0,rfl,hm⟩:=hm
 replace hm:=Ad hm;obtain⟨v0,l18838_0,rfl,hm⟩:=hm
 replace hm:=Ad hm;obtain⟨v1,l18838_1,rfl,hm⟩:=hm
 replace hm:=Ad hm;obtain⟨v2,l18838_2,rfl,hm⟩:=hm
 replace hm:=AC hm;obtain⟨rfl,hm⟩:=hm
 replace hm:=Ai hm;obtain⟨x0,rfl,hm⟩:=hm
 replace hm:=Al hm;obtain⟨s0,rfl,hm⟩:=hm
 replace hm:=Al hm;obtain⟨s1,rfl,hm⟩:=hm
 unfold nD at hm
 refine⟨by simp,?_⟩
 refine .same (F':=(fr 12 [(0,(AhC x0 s0 s1))])) (H':=FD) (by kernel_rfl) (by kernel_rfl) ?_
 refine .then (.rK (.ghs (fr 12 [(1,pt 1 0)]) (hT 2 [(Ahr x0 s0 s1)]) (.k0 [false] [.tmp 1 false] [1]) ?_))
 refine .then (.then ?_)
 replace⟨x1,h0,hm⟩:=Hw hm
 refine .reg (eC 1 ((oo (pu 47 [(AhC x0 s0 s1)]) none λv=>some (v,(hT 2 [(Ahr x0 s0 s1)])))) (AB h0) (eE)) ?_
 refine .ghs (fr 12 [(1,pt 1 0),(4,zI x1)]) (hT 2 [(Ahr x0 s0 s1)]) (.k0 [false] [.tmp 1 false] [1,4]) ?_
 refine .then (.rK (.ghs (fr 12 [(1,pt 1 0),(4,zI x1),(8,(zB (nt (Bd x1 (0:Int)))))]) (hT 2 [(Ahr x0 s0 s1)]) (.k0 [false] [.tmp 1 false] [1,4,8]) ?_))
 replace hm:=Ag hm;rcases hm with⟨h1,hm⟩|⟨h1,hm⟩
 ·refine Gq (nt (Bd x1 (0:Int))) h1 ?_
  refine .then (.rK (.ghs (fr 12 [(2,(zI (0:Int))),(3,zI x1)]) FD (.k0 [false] [] [2,3]) ?_))
  refine .ret ?_
  exact Fp (.tuple ⟨[(zI (0:Int)),zI x1]⟩) hm
 ·refine Gs (nt (Bd x1 (0:Int))) h1 ?_
  refine .skip (.ghs (fr 12 [(1,pt 1 0)]) (hT 2 [(Ahr x0 s0 s1)]) (.k0 [false] [.tmp 1 false] [1]) ?_)
  refine .then ?_
  replace⟨x2,h2,hm⟩:=Hw hm
  refine .reg (eC 1 ((oo (pu 44 [(AhC x0 s0 s1)]) none λv=>some (v,(hT 2 [(Ahr x0 s0 s1)])))) (AB h2) (eE)) ?_
  refine .ghs (fr 12 [(2,zI x2),(3,(zI (0:Int)))]) FD (.k0 [false] [] [2,3]) ?_
  refine .ret ?_
  exact Fp (.tuple ⟨[zI x2,(zI (0:Int))]⟩) hm
def TV (pu:Af) (n n0 c0:Nat) (q0:LV):OV:=
 (bb (Au Ah q0) (bb (an (Nat.ble (0+n0*2) (len q0)) (Au Ah (Aq (n0*2) (Am 0 q0)))) (some (.tuple ⟨[(Sl.v 2 (Sl.mk n0 0 (Aq (n0*2) (Am 0 q0)))),(.int .i64 (0:Int))]⟩)) none) none)
def YC (pu:Af) (n:Nat) (ih0:AjF) (n0 c0:Nat) (s0:Sl) (z0 z1:Int) (q0:LV):OV:=
 (bb (Au Ah q0) (ih0 n0 c0 s0 z0 (Aj .i64 (Int.add z1 (1:Int))) q0) none)
def WA (pu:Af) (n:Nat) (ih0:AjF) (ih1:AjN) (n0 c0:Nat) (s0:Sl) (z0:Int) (s1:Sl) (z1 z2:Int) (q0:LV):OV:=
 (bb (Au Ah q0) (bb (AY z0 (Int.ofNat (Sl.n s0))) (oo (EA (Aj .i64 (Int.sub z0 (1:Int)))) none λk1=>(bb (an (Nat.blt k1 (Sl.n s0)) true) (oo (AL (Sl.cs s0) (k1*1)) none λv0=>(oo (Bi .i64 v0) none λx0=>(oo (EA z0) none λk2=>(bb (an (Nat.blt k2 (Sl.n s0)) true) (oo (AL (Sl.cs s0) (k2*1)) none λv1=>(oo (Bi .i64 v1) none λx1=>(oo (EA (Aj .i64 (Int.sub (Int.ofNat k2) (1:Int)))) none λk3=>(bb (an (Nat.blt k3 (Sl.n s0)) true) (oo (AL (Sl.cs s0) (k3*1)) none λv2=>(oo (Bi .i64 v2) none λx2=>(bb (an (Nat.blt k2 (Sl.n s0)) true) (oo (AL (Sl.cs s0) (k2*1)) none λv3=>(oo (Bi .i64 v3) none λx3=>(bb (GV 2 16 n0 c0 1 q0) (bb (Au Ah (Br (Am 0 q0) [(.int .i64 (bb (AY x1 x0) x1 x0)),(.int .i64 (bb (AY x2 x3) x3 x2))])) (ih1 (n0+1) (2*(n0+1)+bb false 1 0) s0 (Aj .i64 (Int.add (Int.ofNat k2) (1:Int))) s1 z1 z2 (Br (Am 0 q0) [(.int .i64 (bb (AY x1 x0) x1 x0)),(.int .i64 (bb (AY x2 x3) x3 x2))])) none) none))) none))) none)))) none)))) none)) (YC pu n ih0 n0 c0 s1 z1 z2 q0)) none)
def WB (pu:Af) (n:Nat) (ih0:AjF) (w:Nat):AjN:=
 Nat.rec (motive:=λ_=>AjN) (λ_ _ _ _ _ _ _ _=>none) (λ_ ih1=>WA pu n ih0 ih1) w
def WC (pu:Af) (n:Nat) (ih0:AjF) (n0 c0:Nat) (s0:Sl) (z0 z1:Int) (q0:LV):OV:=
 (bb (Au Ah q0) (bb (AY z1 z0) (oo (EA z1) none λk1=>(bb (an (Nat.blt k1 (Sl.n s0)) true) (oo (AL (Sl.cs s0) (k1*1)) none λv0=>(oo (Bj 1 v0) none λs1=>(WB pu n ih0 n n0 c0 s1 (1:Int) s0 z0 (Int.ofNat k1) q0))) none)) (TV pu n n0 c0 q0)) none)
def OC (pu:Af) (n w:Nat):AjF:=
 Nat.rec (motive:=λ_=>AjF) (λ_ _ _ _ _ _=>none) (λ_ ih0=>WC pu n ih0) w
def nG (pu:Af) (n:Nat) (x0:Int) (s0 s1:Sl):OV:=
 (oo (pu 47 [(.agg ⟨[.int .i64 x0,Sl.v 1 s0,Sl.v 1 s1]⟩)]) none λv0=>(oo (Bi .i64 v0) none λx1=>(bb (nt (Bd x1 (0:Int))) (some (.tuple ⟨[(Sl.v 2 (Sl.mk 0 2 [])),.int .i64 x1]⟩)) (oo (pu 48 [(.agg ⟨[.int .i64 x0,Sl.v 1 s0,Sl.v 1 s1]⟩)]) none λv1=>(oo (Bj 1 v1) none λs2=>(OC pu n n 0 0 s2 (Int.ofNat (Sl.n s2)) (0:Int) ([]:LV)))))))
def m33 (pu:Af) (n:Nat) (args:LV):OV:=
 (ll args none λa0 args=>(ll args (oo (Bt a0) none λl0=>(ll l0 none λv0 l0=>(ll l0 none λv1 l0=>(ll l0 none λv2 l0=>(ll l0 (oo (Bi .i64 v0) none λx0=>(oo (Bj 1 v1) none λs0=>(oo (Bj 1 v2) none λs1=>(nG pu n x0 s0 s1)))) λ_ _=>none))))) λ_ _=>none))
theorem AfB (pu:Af) (n n0 c0:Nat) (q0:LV) {v:Value} (hm:TV pu n n0 c0 q0=some v):BN tt (Bb tabs Ir pu (inl pu)) 1 eF (fr 53 [(5,sc 1 0 2 n0 c0)]) (hT 2 [oC q0]) (Fin tt 1 [.tmp 2,.tmp 3] v):=by
 unfold TV at hm
 refine .then (.rK ?_)
 replace⟨h0,hm⟩:=Ae hm
 refine .ghs (fr 53 [(2,sc 1 0 2 n0 c0),(3,(zI (0:Int)))]) (hT 2 [oC q0]) (.k [1] [false] [.tmp 2 false] [2,3] ⟨Fb h0,trivial⟩) ?_
 replace⟨h1,hm⟩:=Ae hm
 refine .ghs (Fr.puts (fr 53 [(2,sc 1 0 2 n0 c0),(3,(zI (0:Int)))]) [(2,(Sl.v 2 (Sl.mk n0 0 (Aq (n0*2) (Am 0 q0)))))]) (hT 2 [.dead]) (.freezeC 1 2 2 (an (Nat.ble (0+n0*2) (len q0)) (Au Ah (Aq (n0*2) (Am 0 q0)))) (F1:=(Fr.puts (fr 53 [(2,sc 1 0 2 n0 c0),(3,(zI (0:Int)))]) [(2,(Sl.v 2 (Sl.mk n0 0 (Aq (n0*2) (Am 0 q0)))))])) (H1:=(hT 2 [.dead])) (by kernel_rfl) (by kernel_rfl) h1 (E9.id _ _)) ?_
 refine .ret ?_
 exact Fp (.tuple ⟨[(Sl.v 2 (Sl.mk n0 0 (Aq (n0*2) (Am 0 q0)))),(zI (0:Int))]⟩) hm
theorem r33 {call:A8} (pu:Af) (n:Nat) (hcall:call=Bb tabs Ir pu (inl pu)) {args:LV} {v:Value} (hm:m33 pu n args=some v) (_:∀ x∈args,closed2 x=true):args.length≤53∧BN tt call 1 UJ (Fr.made 53 args) (Ao tabs) (Fin tt 1 [.tmp 2,.tmp 3] v):=by
 subst hcall
 unfold m33 at hm
 replace hm:=Ad hm;obtain⟨a0,args_0,rfl,hm⟩:=hm
 replace hm:=AC hm;obtain⟨rfl,hm⟩:=hm
 replace hm:=BG hm;obtain⟨l0,rfl,hm⟩:=hm
 replace hm:=Ad hm;obtain⟨v0,l18866_0,rfl,hm⟩:=hm
 replace hm:=Ad hm;obtain⟨v1,l18866_1,rfl,hm⟩:=hm
 replace hm:=Ad hm;obtain⟨v2,l18866_2,rfl,hm⟩:=hm
 replace hm:=AC hm;obtain⟨rfl,hm⟩:=hm
 replace hm:=Ai hm;obtain⟨x0,rfl,hm⟩:=hm
 replace hm:=Al hm;obtain⟨s0,rfl,hm⟩:=hm
 replace hm:=Al hm;obtain⟨s1,rfl,hm⟩:=hm
 unfold nG at hm
 refine⟨by simp,?_⟩
 refine .same (F':=(fr 53 [(0,(AhC x0 s0 s1))])) (H':=FD) (by kernel_rfl) (by kernel_rfl) ?_
 refine .then (.rK (.ghs (fr 53 [(1,pt 1 0)]) (hT 2 [(Ahr x0 s0 s1)]) (.k0 [false] [.tmp 1 false] [1]) ?_))
 refine .then (.then ?_)
 replace⟨x1,h0,hm⟩:=Hw hm
 refine .reg (eC 1 ((oo (pu 47 [(AhC x0 s0 s1)]) none λv=>some (v,(hT 2 [(Ahr x0 s0 s1)])))) (AB h0) (eE)) ?_
 refine .ghs (fr 53 [(1,pt 1 0),(4,zI x1)]) (hT 2 [(Ahr x0 s0 s1)]) (.k0 [false] [.tmp 1 false] [1,4]) ?_
 refine .then (.rK (.ghs (fr 53 [(1,pt 1 0),(4,zI x1),(12,(zB (nt (Bd x1 (0:Int)))))]) (hT 2 [(Ahr x0 s0 s1)]) (.k0 [false] [.tmp 1 false] [1,4,12]) ?_))
 replace hm:=Ag hm;rcases hm with⟨h1,hm⟩|⟨h1,hm⟩
 ·refine Gq (nt (Bd x1 (0:Int))) h1 ?_
  refine .then (.rK (.ghs (fr 53 [(2,(.slice none 0 0)),(3,zI x1)]) FD (.k0 [false] [] [2,3]) ?_))
  refine .ghs (Fr.puts (fr 53 [(2,(.slice none 0 0)),(3,zI x1)]) [(2,(Sl.v 2 (Sl.mk 0 2 [])))]) FD (.freeze 1 2 2 (by kernel_rfl) (by kernel_rfl) (E9.id _ _)) ?_
  refine .ret ?_
  exact Fp (.tuple ⟨[(Sl.v 2 (Sl.mk 0 2 [])),zI x1]⟩) hm
 ·refine Gs (nt (Bd x1 (0:Int))) h1 ?_
  refine .skip (.ghs (fr 53 [(1,pt 1 0)]) (hT 2 [(Ahr x0 s0 s1)]) (.k0 [false] [.tmp 1 false] [1]) ?_)
  refine .then (.rK (.ghs (fr 53 [(1,pt 1 0),(5,(.slice none 0 0))]) (hT 2 [(Ahr x0 s0 s1)]) (.k0 [false] [.tmp 1 false] [1,5]) ?_))
  refine .join (v:=v) (λy:Nat×Nat×LV=>((fr 53 [(5,(sc 1 0 2 y.1 y.2.1))]),(hT 2 [(oC y.2.2)]))) (λy=>TV pu n y.1 y.2.1 y.2.2) ?_ ?_
  ·rintro⟨n0,c0,q0⟩ hm
   exact AfB pu n n0 c0 q0 hm
  ·refine .then ?_
   replace⟨s2,h2,hm⟩:=Sm hm
   refine .reg (eC 1 ((oo (pu 48 [(AhC x0 s0 s1)]) none λv=>some (v,(hT 2 [(Ahr x0 s0 s1)])))) (AB h2) (eE)) ?_
   refine .ghs (fr 53 [(5,(.slice none 0 0)),(15,Sl.v 1 s2),(16,(Ah6 s2)),(17,(zI (0:Int)))]) FD (.k0 [false] [] [5,15,16,17]) ?_
   refine .block (.loopM (v:=v) (λy:Nat×Nat×Sl×Int×Int×LV=>((fr 53 [(5,(sc 1 0 2 y.1 y.2.1)),(15,(Sl.v 1 y.2.2.1)),(16,(zI y.2.2.2.1)),(17,(zI (AaW y)))]),(hT 2 [(oC (AaX y))]))) (λw y=>OC pu n w y.1 y.2.1 y.2.2.1 y.2.2.2.1 (AaW y) (AaX y)) n ⟨(0,0,s2,(Int.ofNat (Sl.n s2)),(0:Int),([]:LV)),hm,(.thaw 5 2 (by kernel_rfl) (.k0 [false] [.tmp 5 false] [5,15,16,17]))⟩ (λ_=>rfl) ?_)
   rintro w0 ⟨n1,c1,s3,z0,z1,q1⟩ hm
   replace hm:WC pu n (OC pu n w0) n1 c1 s3 z0 z1 q1=some v:=hm
   unfold WC at hm
   refine .then (.rK ?_)
   replace⟨h3,hm⟩:=Ae hm
   refine .ghs (fr 53 [(5,sc 1 0 2 n1 c1),(15,Sl.v 1 s3),(16,zI z0),(17,zI z1),(18,(zB (AY z1 z0)))]) (hT 2 [oC q1]) (.k [1] [false] [.tmp 5 false] [5,15,16,17,18] ⟨Fb h3,trivial⟩) ?_
   refine .then ?_
   replace hm:=Ag hm;rcases hm with⟨h4,hm⟩|⟨h4,hm⟩
   ·refine Gq (AY z1 z0) h4 ?_
    refine .skip (.ghs (fr 53 [(5,sc 1 0 2 n1 c1),(15,Sl.v 1 s3),(16,zI z0),(17,zI z1)]) (hT 2 [oC q1]) (.k [1] [false] [.tmp 5 false] [5,15,16,17] ⟨Fb h3,trivial⟩) ?_)
    refine .join (v:=v) (λy:Nat×Nat×Sl×Int×Int×LV=>((fr 53 [(5,(sc 1 0 2 y.1 y.2.1)),(15,(Sl.v 1 y.2.2.1)),(16,(zI y.2.2.2.1)),(17,(zI (AaW y)))]),(hT 2 [(oC (AaX y))]))) (λy=>YC pu n (OC pu n w0) y.1 y.2.1 y.2.2.1 y.2.2.2.1 (AaW y) (AaX y)) ?_ ?_
    ·rintro⟨n2,c2,s4,z2,z3,q2⟩ hm
     unfold YC at hm
     refine .rK ?_
     replace⟨h5,hm⟩:=Ae hm
     exact⟨(n2,c2,s4,z2,(AhE z3),q2),hm,(.k [1] [false] [.tmp 5 false] [5,15,16,17] ⟨Fb h5,trivial⟩)⟩
    ·refine .block (.then ?_)
     replace⟨k1,h6,hm⟩:=Ab hm
     obtain rfl:=AR h6
     replace⟨h7,hm⟩:=Ae hm
     replace⟨s5,h8,hm⟩:=Sm hm
     refine .reg (eD (keep (hT 2 [oC q1]) (Aht k1 s3)) (AX h7) (eD (Ajc q1 s3 k1) (AZ h8) (eE))) ?_
     refine .ghs (fr 53 [(5,sc 1 0 2 n1 c1),(7,Sl.v 1 s5),(15,Sl.v 1 s3),(16,zI z0),(17,(zI (Int.ofNat k1)))]) (hT 2 [oC q1]) (.k [1] [false] [.tmp 5 false] [5,7,15,16,17] ⟨Fb h3,trivial⟩) ?_
     refine .then (.rK (.ghs (fr 53 [(5,sc 1 0 2 n1 c1),(7,Sl.v 1 s5),(8,(zI (1:Int))),(15,Sl.v 1 s3),(16,zI z0),(17,(zI (Int.ofNat k1)))]) (hT 2 [oC q1]) (.k [1] [false] [.tmp 5 false] [5,7,8,15,16,17] ⟨Fb h3,trivial⟩) ?_))
     refine .block (.loopM (v:=v) (λy:Nat×Nat×Sl×Int×Sl×Int×Int×LV=>((fr 53 [(5,(sc 1 0 2 y.1 y.2.1)),(7,(Sl.v 1 y.2.2.1)),(8,(zI y.2.2.2.1)),(15,(Sl.v 1 (AaW y))),(16,(zI (Acq y))),(17,(zI (Ac3 y)))]),(hT 2 [(oC (Adc y))]))) (λw y=>WB pu n (OC pu n w0) w y.1 y.2.1 y.2.2.1 y.2.2.2.1 (AaW y) (Acq y) (Ac3 y) (Adc y)) n ⟨(n1,c1,s5,(1:Int),s3,z0,(Int.ofNat k1),q1),hm,(.k [1] [false] [.tmp 5 false] [5,7,8,15,16,17] ⟨Fb h3,trivial⟩)⟩ (λ_=>rfl) ?_)
     rintro w1 ⟨n3,c3,s6,z4,s7,z5,z6,q3⟩ hm
     replace hm:WA pu n (OC pu n w0) (WB pu n (OC pu n w0) w1) n3 c3 s6 z4 s7 z5 z6 q3=some v:=hm
     unfold WA at hm
     refine .then (.then (.rK ?_))
     replace⟨h9,hm⟩:=Ae hm
     refine .ghs (fr 53 [(5,sc 1 0 2 n3 c3),(7,Sl.v 1 s6),(8,zI z4),(15,Sl.v 1 s7),(16,zI z5),(17,zI z6),(24,(zB (Aie z4 s6)))]) (hT 2 [oC q3]) (.k [1] [false] [.tmp 5 false] [5,7,8,15,16,17,24] ⟨Fb h9,trivial⟩) ?_
     replace hm:=Ag hm;rcases hm with⟨h10,hm⟩|⟨h10,hm⟩
     ·refine Gq (Aie z4 s6) h10 ?_
      refine .skip (.ghs (fr 53 [(5,sc 1 0 2 n3 c3),(7,Sl.v 1 s6),(8,zI z4),(15,Sl.v 1 s7),(16,zI z5),(17,zI z6)]) (hT 2 [oC q3]) (.k [1] [false] [.tmp 5 false] [5,7,8,15,16,17] ⟨Fb h9,trivial⟩) ?_)
      refine .then (.block ?_)
      replace⟨k2,h11,hm⟩:=Ab hm
      replace⟨h12,hm⟩:=Ae hm
      replace⟨x2,h13,hm⟩:=Hw hm
      replace⟨k3,h14,hm⟩:=Ab hm
      obtain rfl:=AR h14
      replace⟨h15,hm⟩:=Ae hm
      replace⟨x3,h16,hm⟩:=Hw hm
      replace⟨k4,h17,hm⟩:=Ab hm
      replace⟨h18,hm⟩:=Ae hm
      replace⟨x4,h19,hm⟩:=Hw hm
      replace⟨h20,hm⟩:=Ae hm
      replace⟨x5,h21,hm⟩:=Hw hm
      replace⟨h22,hm⟩:=Ae hm
      refine .reg (eN 6 (Fr.puts (fr 53 [(5,sc 1 0 2 n3 c3),(7,Sl.v 1 s6),(8,(zI (Int.ofNat k3))),(15,Sl.v 1 s7),(16,zI z5),(17,zI z6)]) [(27,sc 1 0 2 n3 c3),(28,Sl.v 1 s6),(29,(zI (Int.ofNat k3))),(30,(zI (Int.ofNat k2))),(31,(Cv (k2*1) (Sl.cs s6))),(32,zI x2)]) (hT 2 [oC q3]) (eC 3 (some ((zI (Aj .i64 (Int.sub (Int.ofNat k3) (1:Int)))),(hT 2 [oC q3]))) (show _=some ((zI (Int.ofNat k2)),_) from (by rw[AR h11])) (eD (keep (hT 2 [oC q3]) (Aht k2 s6)) (AX h12) (eD (Ajc q3 s6 k2) (AZ h13) (by kernel_rfl)))) (eN 8 (Fr.puts (fr 53 [(5,sc 1 0 2 n3 c3),(7,Sl.v 1 s6),(8,(zI (Int.ofNat k3))),(15,Sl.v 1 s7),(16,zI z5),(17,zI z6)]) [(27,sc 1 0 2 n3 c3),(28,Sl.v 1 s6),(29,(zI (Int.ofNat k3))),(30,(zI (Int.ofNat k2))),(31,(Cv (k2*1) (Sl.cs s6))),(32,zI x2),(33,Sl.v 1 s6),(34,(zI (Int.ofNat k3))),(35,(Cv (k3*1) (Sl.cs s6))),(36,zI x3),(37,(zI (bb (AY x3 x2) x3 x2))),(38,Sl.v 1 s6),(39,(zI (Int.ofNat k3))),(40,(zI (Int.ofNat k4)))]) (hT 2 [oC q3]) (eC 2 (keep (hT 2 [oC q3]) (Aht k3 s6)) (AX h15) (eD (Ajc q3 s6 k3) (AZ h16) (eC 3 (some ((zI (Aj .i64 (Int.sub (Int.ofNat k3) (1:Int)))),(hT 2 [oC q3]))) (show _=some ((zI (Int.ofNat k4)),_) from (by rw[AR h17])) (by kernel_rfl)))) (eD (keep (hT 2 [oC q3]) (Aht k4 s6)) (AX h18) (eD (Ajc q3 s6 k4) (AZ h19) (eC 2 (keep (hT 2 [oC q3]) (Aht k3 s6)) (AX h20) (eD (Ajc q3 s6 k3) (AZ h21) (eC 3 (Oc 2 16 n3 c3 1 1 q3 [(zI (bb (AY x3 x2) x3 x2)),(zI (bb (AY x4 x5) x5 x4))] [] (hT 3 [oC q3,(oC [(zI (bb (AY x3 x2) x3 x2)),(zI (bb (AY x4 x5) x5 x4))])])) (I1 h22) (eE)))))))) ?_
      replace⟨h23,hm⟩:=Ae hm
      refine .ghs (fr 53 [(5,(sc 1 0 2 (n3+1) (d2 (n3+1)))),(7,Sl.v 1 s6),(8,(zI (Int.ofNat k3))),(15,Sl.v 1 s7),(16,zI z5),(17,zI z6)]) (hT 2 [(oC (Br (Am 0 q3) [(zI (bb (AY x3 x2) x3 x2)),(zI (bb (AY x4 x5) x5 x4))]))]) (.k [3] [false] [.tmp 5 false] [5,7,8,15,16,17] ⟨Fb h23,trivial⟩) ?_
      refine .rK ?_
      exact⟨((n3+1),(d2 (n3+1)),s6,(AhP k3),s7,z5,z6,(Br (Am 0 q3) [(zI (bb (AY x3 x2) x3 x2)),(zI (bb (AY x4 x5) x5 x4))])),hm,(.k [1] [false] [.tmp 5 false] [5,7,8,15,16,17] ⟨Fb h23,trivial⟩)⟩
     ·refine Gs (Aie z4 s6) h10 ?_
      refine .exit ?_
      exact⟨(n3,c3,s7,z5,z6,q3),hm,(.k [1] [false] [.tmp 5 false] [5,15,16,17] ⟨Fb h9,trivial⟩)⟩
   ·refine Gs (AY z1 z0) h4 ?_
    refine .exit ?_
    exact⟨(n1,c1,q1),hm,(.k [1] [false] [.tmp 5 false] [5] ⟨Fb h3,trivial⟩)⟩
def TW (pu:Af) (n:Nat) (z0:Int) (s0 s1:Sl):OV:=
 (oo (pu 51 [(.agg ⟨[.int .i64 z0,Sl.v 1 s0,Sl.v 1 s1]⟩)]) none λv0=>(oo (Bi .u16 v0) none λx0=>(bb (nt (Bd x0 (0:Int))) (some (.int .i64 (14:Int))) (some (.int .i64 (0:Int))))))
def WE (pu:Af) (n:Nat) (ih0:Sl→Int→Int→Int→Sl→Sl→OV) (s0:Sl) (z0 z1 z2:Int) (s1 s2:Sl):OV:=
 (bb (AY z1 z0) (oo (EA z1) none λk1=>(bb (an (Nat.blt k1 (Sl.n s0)) true) (bb (Nat.ble ((k1*2)+2) (len (Sl.cs s0))) (oo (AL (Sl.cs s0) (k1*2)) none λv0=>(oo (Bi .i64 v0) none λx0=>(oo (AL (Sl.cs s0) ((k1*2)+1)) none λv1=>(oo (Bi .i64 v1) none λx1=>(oo (pu 57 [(.agg ⟨[.int .i64 z2,Sl.v 1 s1,Sl.v 1 s2]⟩),.int .i64 x0,.int .i64 x1]) none λv2=>(oo (Bi .i64 v2) none λx2=>(bb (nt (Bd x2 (0:Int))) (some (.int .i64 x2)) (oo (pu 43 [(.agg ⟨[.int .i64 z2,Sl.v 1 s1,Sl.v 1 s2]⟩),.int .i64 x0,.int .i64 x1]) none λv3=>(oo (Bt v3) none λl0=>(ll l0 none λv4 l0=>(ll l0 none λv5 l0=>(ll l0 none λv6 l0=>(ll l0 (oo (Bi .i64 v4) none λx3=>(oo (Bj 1 v5) none λs3=>(oo (Bj 1 v6) none λs4=>(ih0 s0 z0 (Aj .i64 (Int.add (Int.ofNat k1) (1:Int))) x3 s3 s4)))) λ_ _=>none))))))))))))) none) none)) (TW pu n z2 s1 s2))
def WF (pu:Af) (n w:Nat):Sl→Int→Int→Int→Sl→Sl→OV:=
 Nat.rec (motive:=λ_=>Sl→Int→Int→Int→Sl→Sl→OV) (λ_ _ _ _ _ _=>none) (λ_ ih0=>WE pu n ih0) w
def nH (pu:Af) (n:Nat) (x0:Int) (s0 s1 s2:Sl):OV:=
 (oo (pu 47 [(.agg ⟨[.int .i64 x0,Sl.v 1 s0,Sl.v 1 s1]⟩)]) none λv0=>(oo (Bi .i64 v0) none λx1=>(bb (nt (Bd x1 (0:Int))) (some (.int .i64 x1)) (WF pu n n s2 (Int.ofNat (Sl.n s2)) (0:Int) x0 s0 s1))))
def m34 (pu:Af) (n:Nat) (args:LV):OV:=
 (ll args none λa0 args=>(ll args none λa1 args=>(ll args (oo (Bt a0) none λl0=>(ll l0 none λv0 l0=>(ll l0 none λv1 l0=>(ll l0 none λv2 l0=>(ll l0 (oo (Bi .i64 v0) none λx0=>(oo (Bj 1 v1) none λs0=>(oo (Bj 1 v2) none λs1=>(oo (Bj 2 a1) none λs2=>(nH pu n x0 s0 s1 s2))))) λ_ _=>none))))) λ_ _=>none)))
theorem AfC (pu:Af) (n:Nat) (z0:Int) (s0 s1:Sl) {v:Value} (hm:TW pu n z0 s0 s1=some v):BN tt (Bb tabs Ir pu (inl pu)) 1 eH (fr 39 [(2,pt 1 0)]) (hT 2 [(oC [zI z0,Sl.v 1 s0,Sl.v 1 s1])]) (Fin tt 1 [.tmp 4] v):=by
 unfold TW at hm
 refine .then (.then ?_)
 replace⟨x0,h0,hm⟩:=Hw hm
 refine .reg (eC 1 ((oo (pu 51 [(AhC z0 s0 s1)]) none λv=>some (v,(hT 2 [(Ahr z0 s0 s1)])))) (AB h0) (eE)) ?_
 refine .ghs (fr 39 [(38,(zB (nt (Bd x0 (0:Int)))))]) FD (.k0 [false] [] [38]) ?_
 replace hm:=Ag hm;rcases hm with⟨h1,hm⟩|⟨h1,hm⟩
 ·refine Gq (nt (Bd x0 (0:Int))) h1 ?_
  refine .then (.rK (.ghs (fr 39 [(4,(zI (14:Int)))]) FD (.k0 [false] [] [4]) ?_))
  refine .ret ?_
  exact Fp (zI (14:Int)) hm
 ·refine Gs (nt (Bd x0 (0:Int))) h1 ?_
  refine .skip (.ghs (fr 39 []) FD (.k0 [false] [] []) ?_)
  refine .then (.rK (.ghs (fr 39 [(4,(zI (0:Int)))]) FD (.k0 [false] [] [4]) ?_))
  refine .ret ?_
  exact Fp (zI (0:Int)) hm
theorem r34 {call:A8} (pu:Af) (n:Nat) (hcall:call=Bb tabs Ir pu (inl pu)) {args:LV} {v:Value} (hm:m34 pu n args=some v) (_:∀ x∈args,closed2 x=true):args.length≤39∧BN tt call 1 UK (Fr.made 39 args) (Ao tabs) (Fin tt 1 [.tmp 4] v):=by
 subst hcall
 unfold m34 at hm
 replace hm:=Ad hm;obtain⟨a0,args_0,rfl,hm⟩:=hm
 replace hm:=Ad hm;obtain⟨a1,args_1,rfl,hm⟩:=hm
 replace hm:=AC hm;obtain⟨rfl,hm⟩:=hm
 replace hm:=BG hm;obtain⟨l0,rfl,hm⟩:=hm
 replace hm:=Ad hm;obtain⟨v0,l19671_0,rfl,hm⟩:=hm
 replace hm:=Ad hm;obtain⟨v1,l19671_1,rfl,hm⟩:=hm
 replace hm:=Ad hm;obtain⟨v2,l19671_2,rfl,hm⟩:=hm
 replace hm:=AC hm;obtain⟨rfl,hm⟩:=hm
 replace hm:=Ai hm;obtain⟨x0,rfl,hm⟩:=hm
 replace hm:=Al hm;obtain⟨s0,rfl,hm⟩:=hm
 replace hm:=Al hm;obtain⟨s1,rfl,hm⟩:=hm
 replace hm:=Al hm;obtain⟨s2,rfl,hm⟩:=hm
 unfold nH at hm
 refine⟨by simp,?_⟩
 refine .same (F':=(fr 39 [(0,(AhC x0 s0 s1)),(1,(Sl.v 2 s2))])) (H':=FD) (by kernel_rfl) (by kernel_rfl) ?_
 refine .then (.rK (.ghs (fr 39 [(1,(Sl.v 2 s2)),(2,pt 1 0)]) (hT 2 [(Ahr x0 s0 s1)]) (.k0 [false] [.tmp 2 false] [1,2]) ?_))
 refine .then (.then ?_)
 replace⟨x1,h0,hm⟩:=Hw hm
 refine .reg (eC 1 ((oo (pu 47 [(AhC x0 s0 s1)]) none λv=>some (v,(hT 2 [(Ahr x0 s0 s1)])))) (AB h0) (eE)) ?_
 refine .ghs (fr 39 [(1,(Sl.v 2 s2)),(2,pt 1 0),(5,zI x1)]) (hT 2 [(Ahr x0 s0 s1)]) (.k0 [false] [.tmp 2 false] [1,2,5]) ?_
 refine .then (.rK (.ghs (fr 39 [(1,(Sl.v 2 s2)),(2,pt 1 0),(5,zI x1),(12,(zB (nt (Bd x1 (0:Int)))))]) (hT 2 [(Ahr x0 s0 s1)]) (.k0 [false] [.tmp 2 false] [1,2,5,12]) ?_))
 replace hm:=Ag hm;rcases hm with⟨h1,hm⟩|⟨h1,hm⟩
 ·refine Gq (nt (Bd x1 (0:Int))) h1 ?_
  refine .then (.rK (.ghs (fr 39 [(4,zI x1)]) FD (.k0 [false] [] [4]) ?_))
  refine .ret ?_
  exact Fp (zI x1) hm
 ·refine Gs (nt (Bd x1 (0:Int))) h1 ?_
  refine .skip (.ghs (fr 39 [(1,(Sl.v 2 s2)),(2,pt 1 0)]) (hT 2 [(Ahr x0 s0 s1)]) (.k0 [false] [.tmp 2 false] [1,2]) ?_)
  refine .join (v:=v) (λy:Int×Sl×Sl=>((fr 39 [(2,pt 1 0)]),(Ai7 y.1 y.2.1 y.2.2))) (λy=>TW pu n y.1 y.2.1 y.2.2) ?_ ?_
  ·rintro⟨z0,s3,s4⟩ hm
   exact AfC pu n z0 s3 s4 hm
  ·refine .then (.rK (.ghs (fr 39 [(2,pt 1 0),(14,(Sl.v 2 s2)),(15,(Ah6 s2)),(16,(zI (0:Int)))]) (hT 2 [(Ahr x0 s0 s1)]) (.k0 [false] [.tmp 2 false] [2,14,15,16]) ?_))
   refine .block (.loopM (v:=v) (λy:Sl×Int×Int×Int×Sl×Sl=>((fr 39 [(2,pt 1 0),(14,(Sl.v 2 y.1)),(15,(zI y.2.1)),(16,(zI y.2.2.1))]),(Ai7 y.2.2.2.1 (AaW y) (AaX y)))) (λw y=>WF pu n w y.1 y.2.1 y.2.2.1 y.2.2.2.1 (AaW y) (AaX y)) n ⟨(s2,(Int.ofNat (Sl.n s2)),(0:Int),x0,s0,s1),hm,(.k0 [false] [.tmp 2 false] [2,14,15,16])⟩ (λ_=>rfl) ?_)
   rintro w0 ⟨s5,z1,z2,z3,s6,s7⟩ hm
   replace hm:WE pu n (WF pu n w0) s5 z1 z2 z3 s6 s7=some v:=hm
   unfold WE at hm
   refine .then (.rK (.ghs (fr 39 [(2,pt 1 0),(14,(Sl.v 2 s5)),(15,zI z1),(16,zI z2),(17,(zB (AY z2 z1)))]) (hT 2 [(Ahr z3 s6 s7)]) (.k0 [false] [.tmp 2 false] [2,14,15,16,17]) ?_))
   refine .then ?_
   replace hm:=Ag hm;rcases hm with⟨h2,hm⟩|⟨h2,hm⟩
   ·refine Gq (AY z2 z1) h2 ?_
    refine .skip (.ghs (fr 39 [(2,pt 1 0),(14,(Sl.v 2 s5)),(15,zI z1),(16,zI z2)]) (hT 2 [(Ahr z3 s6 s7)]) (.k0 [false] [.tmp 2 false] [2,14,15,16]) ?_)
    refine .then (.block (.then ?_))
    replace⟨k1,h3,hm⟩:=Ab hm
    obtain rfl:=AR h3
    replace⟨h4,hm⟩:=Ae hm
    replace⟨h5,hm⟩:=Ae hm
    replace⟨x2,h6,hm⟩:=Hw hm
    replace⟨x3,h7,hm⟩:=Hw hm
    refine .reg (eD (keep (hT 2 [(Ahr z3 s6 s7)]) (bb (an (Nat.blt k1 (Sl.n s5)) true) (some (Cv (k1*2) (Sl.cs s5))) none)) (AX h4) (eD (keep (hT 2 [(Ahr z3 s6 s7)]) (bb (Nat.ble ((k1*2)+2) (len (Sl.cs s5))) (some (.agg ⟨Aq 2 (Am (k1*2) (Sl.cs s5))⟩)) none)) (Pd h5 (Ca h6 (Ca h7 rfl))) (eE))) ?_
    refine .ghs (fr 39 [(2,pt 1 0),(7,(pt 2 0)),(14,(Sl.v 2 s5)),(15,zI z1),(16,(zI (Int.ofNat k1)))]) (AiG z3 s6 s7 x2 x3) (.k0 [false] [.tmp 2 false,.tmp 7 false] [2,7,14,15,16]) ?_
    refine .then (.then ?_)
    replace⟨x4,h8,hm⟩:=Hw hm
    refine .reg (eC 5 ((oo (pu 57 [(AhC z3 s6 s7),zI x2,zI x3]) none λv=>some (v,(AiG z3 s6 s7 x2 x3)))) (AB h8) (eE)) ?_
    refine .ghs (fr 39 [(2,pt 1 0),(7,(pt 2 0)),(8,zI x4),(14,(Sl.v 2 s5)),(15,zI z1),(16,(zI (Int.ofNat k1)))]) (AiG z3 s6 s7 x2 x3) (.k0 [false] [.tmp 2 false,.tmp 7 false] [2,7,8,14,15,16]) ?_
    refine .then (.rK (.ghs (fr 39 [(2,pt 1 0),(7,(pt 2 0)),(8,zI x4),(14,(Sl.v 2 s5)),(15,zI z1),(16,(zI (Int.ofNat k1))),(27,(zB (nt (Bd x4 (0:Int)))))]) (AiG z3 s6 s7 x2 x3) (.k0 [false] [.tmp 2 false,.tmp 7 false] [2,7,8,14,15,16,27]) ?_))
    replace hm:=Ag hm;rcases hm with⟨h9,hm⟩|⟨h9,hm⟩
    ·refine Gq (nt (Bd x4 (0:Int))) h9 ?_
     refine .then (.rK (.ghs (fr 39 [(4,zI x4)]) FD (.k0 [false] [] [4]) ?_))
     refine .ret ?_
     exact Fp (zI x4) hm
    ·refine Gs (nt (Bd x4 (0:Int))) h9 ?_
     refine .skip (.ghs (fr 39 [(2,pt 1 0),(7,(pt 2 0)),(14,(Sl.v 2 s5)),(15,zI z1),(16,(zI (Int.ofNat k1)))]) (AiG z3 s6 s7 x2 x3) (.k0 [false] [.tmp 2 false,.tmp 7 false] [2,7,14,15,16]) ?_)
     replace⟨v3,h10,hm⟩:=Ab hm
     replace hm:=BG hm;obtain⟨l1,rfl,hm⟩:=hm
     replace hm:=Ad hm;obtain⟨v4,l19892_0,rfl,hm⟩:=hm
     replace hm:=Ad hm;obtain⟨v5,l19892_1,rfl,hm⟩:=hm
     replace hm:=Ad hm;obtain⟨v6,l19892_2,rfl,hm⟩:=hm
     replace hm:=AC hm;obtain⟨rfl,hm⟩:=hm
     replace hm:=Ai hm;obtain⟨x5,rfl,hm⟩:=hm
     replace hm:=Al hm;obtain⟨s8,rfl,hm⟩:=hm
     replace hm:=Al hm;obtain⟨s9,rfl,hm⟩:=hm
     refine .reg (eC 5 ((oo (pu 43 [(AhC z3 s6 s7),zI x2,zI x3]) none λv=>some (v,(AiG z3 s6 s7 x2 x3)))) (AB h10) (eE)) ?_
     refine .ghs (fr 39 [(2,pt 1 0),(14,(Sl.v 2 s5)),(15,zI z1),(16,(zI (Int.ofNat k1)))]) (hT 2 [(Ahr x5 s8 s9)]) (.k0 [false] [.tmp 2 false] [2,14,15,16]) ?_
     refine .rK ?_
     exact⟨(s5,z1,(AhP k1),x5,s8,s9),hm,(.k0 [false] [.tmp 2 false] [2,14,15,16])⟩
   ·refine Gs (AY z2 z1) h2 ?_
    refine .exit ?_
    exact⟨(z3,s6,s7),hm,(.k0 [false] [.tmp 2 false] [2])⟩
end
end Go.MnSM
