/- Made from wip. -/
import Derived.Test.YtglnihplphhhoaaDoorTbGMod1x

set_option maxRecDepth 100000
set_option maxHeartbeats 20000000
set_option linter.unusedVariables false
namespace Go.TbGM
open Go.Sp Go.TbG
noncomputable section
def Oy (pu:Af) (n:Nat):OV:=
 (some (.bool true))
def Gs (pu:Af) (n:Nat) (ih0:Sl→Int→OV) (s0:Sl) (z0:Int):OV:=
 (bb (AY (0:Int) z0) (oo (EA z0) none fun k1=>(bb (an (Nat.blt k1 (Sl.n s0)) true) (oo (AL (Sl.cs s0) (k1*1)) none fun v0=>(oo (Bi .i64 v0) none fun x0=>(oo (EA (Aj .i64 (Int.sub (Int.ofNat k1) (1:Int)))) none fun k2=>(bb (an (Nat.blt k2 (Sl.n s0)) true) (oo (AL (Sl.cs s0) (k2*1)) none fun v1=>(oo (Bi .i64 v1) none fun x1=>(oo (pu 39 [.int .i64 x0,.int .i64 x1]) none fun v2=>(oo (Bf v2) none fun b0=>(bb b0 (some (.bool false)) (ih0 s0 (Aj .i64 (Int.sub (Int.ofNat k1) (1:Int))))))))) none)))) none)) (Oy pu n))
def Hy (pu:Af) (n w:Nat):Sl→Int→OV:=
 Nat.rec (motive:=fun _=>Sl→Int→OV) (fun _ _=>none) (fun _ ih0=>Gs pu n ih0) w
def Qr (pu:Af) (n:Nat) (s0:Sl):OV:=
 (Hy pu n n s0 (Aj .i64 (Int.sub (Int.ofNat (Sl.n s0)) (1:Int))))
def iE (pu:Af) (n:Nat) (args:LV):OV:=
 (ll args none fun a0 args=>(ll args (oo (Bj 1 a0) none fun s0=>(Qr pu n s0)) fun _ _=>none))
theorem Yu (pu:Af) (n:Nat) {v:Value} (hm:Oy pu n=some v):BN tt (Bb tabs Eo pu (inl pu)) 1 OT (fr 21 []) Bq (Fin tt 1 [.tmp 2] v):=by
 unfold Oy at hm
 refine .then (.rK (.ghs (fr 21 [(2,zB true)]) Bq (.k0 [false] [] [2]) ?_))
 refine .ret ?_
 exact Bp (zB true) hm
theorem rA {call:A8} (pu:Af) (n:Nat) (hcall:call=Bb tabs Eo pu (inl pu)) {args:LV} {v:Value} (hm:iE pu n args=some v) (_:∀ x∈args,closed2 x=true):args.length≤21∧BN tt call 1 JP (Fr.made 21 args) (Ao tabs) (Fin tt 1 [.tmp 2] v):=by
 subst hcall
 unfold iE at hm
 replace hm:=Ad hm;obtain⟨a0,args_0,rfl,hm⟩:=hm
 replace hm:=AC hm;obtain⟨rfl,hm⟩:=hm
 replace hm:=Al hm;obtain⟨s0,rfl,hm⟩:=hm
 unfold Qr at hm
 refine⟨by simp,?_⟩
 refine .same (F':=(fr 21 [(0,Sl.v 1 s0)])) (H':=Bq) (by kernel_rfl) (by kernel_rfl) ?_
 refine .then (.rK (.ghs (fr 21 [(0,Sl.v 1 s0)]) Bq (.k0 [false] [] [0]) ?_))
 refine .join (v:=v) (fun y:Unit=>((fr 21 []),Bq)) (fun y=>Oy pu n) ?_ ?_
 ·rintro _ hm
  exact Yu pu n hm
 ·refine .then (.rK (.ghs (fr 21 [(0,Sl.v 1 s0),(3,(zI (Aj .i64 (Int.sub (Int.ofNat (Sl.n s0)) (1:Int)))))]) Bq (.k0 [false] [] [0,3]) ?_))
  refine .block (.loopM (v:=v) (fun y:Sl×Int=>((fr 21 [(0,(Sl.v 1 y.1)),(3,(zI y.2))]),Bq)) (fun w y=>Hy pu n w y.1 y.2) n ⟨(s0,(Aj .i64 (Int.sub (Int.ofNat (Sl.n s0)) (1:Int)))),hm,(.k0 [false] [] [0,3])⟩ (fun _=>rfl) ?_)
  rintro w0 ⟨s1,z0⟩ hm
  replace hm:Gs pu n (Hy pu n w0) s1 z0=some v:=hm
  unfold Gs at hm
  refine .then (.then (.rK (.ghs (fr 21 [(0,Sl.v 1 s1),(3,zI z0),(8,(zB (AY (0:Int) z0)))]) Bq (.k0 [false] [] [0,3,8]) ?_)))
  replace hm:=Ag hm;rcases hm with⟨h0,hm⟩ | ⟨h0,hm⟩
  ·refine C8 (AY (0:Int) z0) h0 ?_
   refine .skip (.ghs (fr 21 [(0,Sl.v 1 s1),(3,zI z0)]) Bq (.k0 [false] [] [0,3]) ?_)
   refine .then (.block (.then ?_))
   replace hm:=Ab hm;obtain⟨k1,h1,hm⟩:=hm
   obtain rfl:=AR h1
   replace hm:=Ae hm;obtain⟨h2,hm⟩:=hm
   replace hm:=Jg hm;obtain⟨x0,h3,hm⟩:=hm
   replace hm:=Ab hm;obtain⟨k2,h4,hm⟩:=hm
   replace hm:=Ae hm;obtain⟨h5,hm⟩:=hm
   replace hm:=Jg hm;obtain⟨x1,h6,hm⟩:=hm
   replace hm:=O3 hm;obtain⟨b0,h7,hm⟩:=hm
   refine .reg (eN 7 (Fr.puts (fr 21 [(0,Sl.v 1 s1),(3,(zI (Int.ofNat k1)))]) [(11,Sl.v 1 s1),(12,(zI (Int.ofNat k1))),(13,(Cv (k1*1) (Sl.cs s1))),(14,zI x0),(15,Sl.v 1 s1),(16,(zI (Int.ofNat k1))),(17,(zI (Int.ofNat k2)))]) Bq (eC 2 (keep Bq (bb (an (Nat.blt k1 (Sl.n s1)) true) (some (Cv (k1*1) (Sl.cs s1))) none)) (AX h2) (eD (keep Bq (AL (Sl.cs s1) (k1*1))) (AZ h3) (eC 2 (some ((zI (Aj .i64 (Int.sub (Int.ofNat k1) (1:Int)))),Bq)) (show _=some ((zI (Int.ofNat k2)),_) from (by rw[AR h4])) (by kernel_rfl)))) (eD (keep Bq (bb (an (Nat.blt k2 (Sl.n s1)) true) (some (Cv (k2*1) (Sl.cs s1))) none)) (AX h5) (eD (keep Bq (AL (Sl.cs s1) (k2*1))) (AZ h6) (eD ((oo (pu 39 [zI x0,zI x1]) none fun v=>some (v,Bq))) (AB h7) (eE))))) ?_
   refine .ghs (fr 21 [(0,Sl.v 1 s1),(3,(zI (Int.ofNat k1))),(20,zB b0)]) Bq (.k0 [false] [] [0,3,20]) ?_
   replace hm:=Ag hm;rcases hm with⟨h8,hm⟩ | ⟨h8,hm⟩
   ·refine .ifT b0 (by kernel_rfl) h8 ?_
    refine .then (.rK (.ghs (fr 21 [(2,zB false)]) Bq (.k0 [false] [] [2]) ?_))
    refine .ret ?_
    exact Bp (zB false) hm
   ·refine .ifF b0 (by kernel_rfl) h8 ?_
    refine .skip (.ghs (fr 21 [(0,Sl.v 1 s1),(3,(zI (Int.ofNat k1)))]) Bq (.k0 [false] [] [0,3]) ?_)
    refine .rK ?_
    exact⟨(s1,(Aj .i64 (Int.sub (Int.ofNat k1) (1:Int)))),hm,(.k0 [false] [] [0,3])⟩
  ·refine Dn (AY (0:Int) z0) h0 ?_
   refine .exit ?_
   exact⟨(),hm,(.k0 [false] [] [])⟩
def Oz (pu:Af) (n:Nat):OV:=
 (some (.tuple ⟨[(.bool true),(.int .i64 (0:Int))]⟩))
def K7 (pu:Af) (n:Nat) (ih0:Int→Int→Int→Int→Sl→OV) (z0 z1 z2 z3:Int) (s0:Sl):OV:=
 (ih0 z0 z1 (Aj .i64 (Int.add z2 (1:Int))) z3 s0)
def Hz (pu:Af) (n:Nat) (ih0:Int→Int→Int→Int→Sl→OV) (ih1:Int→Int→Int→Int→Int→Int→Int→Sl→OV) (z0 z1 z2 z3 z4 z5 z6:Int) (s0:Sl):OV:=
 (bb (AY z5 z4) (oo (EA z1) none fun k1=>(oo (EA (Aj .i64 (Int.sub z6 z0))) none fun k2=>(oo (EA z5) none fun k3=>(oo (pu 41 [.int .i64 z6,(.int .i64 (jF .i64 (QW .i64 (Aj .i64 (Int.sub (QW .i64 (1:Int) k1) (1:Int))) k2) (Aj .i64 (Int.sub (QW .i64 (1:Int) k3) (1:Int)))))]) none fun v0=>(oo (Bj 1 v0) none fun s1=>(oo (pu 23 [(.agg ⟨[.int .i64 z6,(Sl.v 2 s0)]⟩),Sl.v 1 s1]) none fun v1=>(oo (CQ v1) none fun l0=>(ll l0 none fun v2 l0=>(ll l0 none fun v3 l0=>(ll l0 (oo (Bj 1 v2) none fun s2=>(oo (Bi .i64 v3) none fun x0=>(oo (pu 13 [Sl.v 1 s2]) none fun v4=>(oo (Bf v4) none fun b0=>(bb (nt b0) (some (.tuple ⟨[(.bool false),(.int .i64 (0:Int))]⟩)) (ih1 z0 (Int.ofNat k1) z2 z3 z4 (Aj .i64 (Int.add (Int.ofNat k3) (1:Int))) z6 s0)))))) fun _ _=>none)))))))))) (K7 pu n ih0 z0 z2 z3 z6 s0))
def Ji (pu:Af) (n:Nat) (ih0:Int→Int→Int→Int→Sl→OV) (w:Nat):Int→Int→Int→Int→Int→Int→Int→Sl→OV:=
 Nat.rec (motive:=fun _=>Int→Int→Int→Int→Int→Int→Int→Sl→OV) (fun _ _ _ _ _ _ _ _=>none) (fun _ ih1=>Hz pu n ih0 ih1) w
def HV (pu:Af) (n:Nat) (ih0:Int→Int→Int→Int→Sl→OV) (z0 z1 z2 z3:Int) (s0:Sl):OV:=
 (bb (AY z2 z1) (Ji pu n ih0 n z0 z2 z1 z2 (Aj .i64 (Int.add (Aj .i64 (Int.sub z3 z0)) (1:Int))) (0:Int) z3 s0) (Oz pu n))
def FM (pu:Af) (n w:Nat):Int→Int→Int→Int→Sl→OV:=
 Nat.rec (motive:=fun _=>Int→Int→Int→Int→Sl→OV) (fun _ _ _ _ _=>none) (fun _ ih0=>HV pu n ih0) w
def Qs (pu:Af) (n:Nat) (x0:Int) (s0:Sl) (x1:Int):OV:=
 (oo (pu 40 [(.agg ⟨[.int .i64 x0,(Sl.v 2 s0)]⟩)]) none fun v0=>(oo (Bi .i64 v0) none fun x2=>(bb (nt (Bd x2 (0:Int))) (some (.tuple ⟨[(.bool false),.int .i64 x2]⟩)) (oo (pu 20 [(.int .i64 (0:Int)),.int .i64 x1,.int .i64 x0]) none fun v1=>(oo (Bf v1) none fun b0=>(bb (nt b0) (some (.tuple ⟨[(.bool false),(.int .i64 (1:Int))]⟩)) (FM pu n n x1 (Aj .i64 (Int.add x1 (1:Int))) (0:Int) x0 s0)))))))
def iF (pu:Af) (n:Nat) (args:LV):OV:=
 (ll args none fun a0 args=>(ll args none fun a1 args=>(ll args (oo (Bt a0) none fun l0=>(ll l0 none fun v0 l0=>(ll l0 none fun v1 l0=>(ll l0 (oo (Bi .i64 v0) none fun x0=>(oo (Bj 2 v1) none fun s0=>(oo (Bi .i64 a1) none fun x1=>(Qs pu n x0 s0 x1)))) fun _ _=>none)))) fun _ _=>none)))
theorem Yv (pu:Af) (n:Nat) {v:Value} (hm:Oz pu n=some v):BN tt (Bb tabs Eo pu (inl pu)) 1 OU (fr 63 []) Bq (Fin tt 1 [.tmp 4,.tmp 5] v):=by
 unfold Oz at hm
 refine .then (.rK (.ghs (fr 63 [(4,zB true),(5,(zI (0:Int)))]) Bq (.k0 [false] [] [4,5]) ?_))
 refine .ret ?_
 exact Bp (.tuple ⟨[zB true,(zI (0:Int))]⟩) hm
theorem rC {call:A8} (pu:Af) (n:Nat) (hcall:call=Bb tabs Eo pu (inl pu)) {args:LV} {v:Value} (hm:iF pu n args=some v) (_:∀ x∈args,closed2 x=true):args.length≤63∧BN tt call 1 Kb (Fr.made 63 args) (Ao tabs) (Fin tt 1 [.tmp 4,.tmp 5] v):=by
 subst hcall
 unfold iF at hm
 replace hm:=Ad hm;obtain⟨a0,args_0,rfl,hm⟩:=hm
 replace hm:=Ad hm;obtain⟨a1,args_1,rfl,hm⟩:=hm
 replace hm:=AC hm;obtain⟨rfl,hm⟩:=hm
 replace hm:=BG hm;obtain⟨l0,rfl,hm⟩:=hm
 replace hm:=Ad hm;obtain⟨v0,l4002_0,rfl,hm⟩:=hm
 replace hm:=Ad hm;obtain⟨v1,l4002_1,rfl,hm⟩:=hm
 replace hm:=AC hm;obtain⟨rfl,hm⟩:=hm
 replace hm:=Ai hm;obtain⟨x0,rfl,hm⟩:=hm
 replace hm:=Al hm;obtain⟨s0,rfl,hm⟩:=hm
 replace hm:=Ai hm;obtain⟨x1,rfl,hm⟩:=hm
 unfold Qs at hm
 refine⟨by simp,?_⟩
 refine .same (F':=(fr 63 [(0,(.agg ⟨[zI x0,(Sl.v 2 s0)]⟩)),(1,zI x1)])) (H':=Bq) (by kernel_rfl) (by kernel_rfl) ?_
 refine .then (.rK (.ghs (fr 63 [(1,zI x1),(2,pt 1 0)]) (hT 2 [(oC [zI x0,(Sl.v 2 s0)])]) (.k0 [false] [.tmp 2 false] [1,2]) ?_))
 refine .then ?_
 replace hm:=Jg hm;obtain⟨x2,h0,hm⟩:=hm
 refine .reg (eC 1 ((oo (pu 40 [(.agg ⟨[zI x0,(Sl.v 2 s0)]⟩)]) none fun v=>some (v,(hT 2 [(oC [zI x0,(Sl.v 2 s0)])])))) (AB h0) (eE)) ?_
 refine .ghs (fr 63 [(1,zI x1),(2,pt 1 0),(6,zI x2)]) (hT 2 [(oC [zI x0,(Sl.v 2 s0)])]) (.k0 [false] [.tmp 2 false] [1,2,6]) ?_
 refine .then (.block (.then (.rK (.ghs (fr 63 [(1,zI x1),(2,pt 1 0),(6,zI x2),(14,(zB (nt (Bd x2 (0:Int)))))]) (hT 2 [(oC [zI x0,(Sl.v 2 s0)])]) (.k0 [false] [.tmp 2 false] [1,2,6,14]) ?_))))
 replace hm:=Ag hm;rcases hm with⟨h1,hm⟩ | ⟨h1,hm⟩
 ·refine C8 (nt (Bd x2 (0:Int))) h1 ?_
  refine .then (.rK (.ghs (fr 63 [(4,zB false),(5,zI x2)]) Bq (.k0 [false] [] [4,5]) ?_))
  refine .ret ?_
  exact Bp (.tuple ⟨[zB false,zI x2]⟩) hm
 ·refine Dn (nt (Bd x2 (0:Int))) h1 ?_
  refine .then ?_
  replace hm:=O3 hm;obtain⟨b0,h2,hm⟩:=hm
  refine .reg (eC 3 ((oo (pu 20 [(zI (0:Int)),zI x1,zI x0]) none fun v=>some (v,(hT 2 [(oC [zI x0,(Sl.v 2 s0)])])))) (AB h2) (eE)) ?_
  refine .ghs (fr 63 [(1,zI x1),(2,pt 1 0),(18,(zB (nt b0)))]) (hT 2 [(oC [zI x0,(Sl.v 2 s0)])]) (.k0 [false] [.tmp 2 false] [1,2,18]) ?_
  replace hm:=Ag hm;rcases hm with⟨h3,hm⟩ | ⟨h3,hm⟩
  ·refine C8 (nt b0) h3 ?_
   refine .then (.rK (.ghs (fr 63 [(4,zB false),(5,(zI (1:Int)))]) Bq (.k0 [false] [] [4,5]) ?_))
   refine .ret ?_
   exact Bp (.tuple ⟨[zB false,(zI (1:Int))]⟩) hm
  ·refine Dn (nt b0) h3 ?_
   refine .skip (.ghs (fr 63 [(1,zI x1),(2,pt 1 0)]) (hT 2 [(oC [zI x0,(Sl.v 2 s0)])]) (.k0 [false] [.tmp 2 false] [1,2]) ?_)
   refine .join (v:=v) (fun y:Unit=>((fr 63 []),Bq)) (fun y=>Oz pu n) ?_ ?_
   ·rintro _ hm
    exact Yv pu n hm
   ·refine .then (.rK (.ghs (fr 63 [(1,zI x1),(2,pt 1 0),(25,(zI (Aj .i64 (Int.add x1 (1:Int))))),(26,(zI (0:Int)))]) (hT 2 [(oC [zI x0,(Sl.v 2 s0)])]) (.k0 [false] [.tmp 2 false] [1,2,25,26]) ?_))
    refine .block (.loopM (v:=v) (fun y:Int×Int×Int×Int×Sl=>((fr 63 [(1,(zI y.1)),(2,pt 1 0),(25,(zI y.2.1)),(26,(zI y.2.2.1))]),(hT 2 [(oC [(zI y.2.2.2.1),(Sl.v 2 y.2.2.2.2)])]))) (fun w y=>FM pu n w y.1 y.2.1 y.2.2.1 y.2.2.2.1 y.2.2.2.2) n ⟨(x1,(Aj .i64 (Int.add x1 (1:Int))),(0:Int),x0,s0),hm,(.k0 [false] [.tmp 2 false] [1,2,25,26])⟩ (fun _=>rfl) ?_)
    rintro w0 ⟨z0,z1,z2,z3,s1⟩ hm
    replace hm:HV pu n (FM pu n w0) z0 z1 z2 z3 s1=some v:=hm
    unfold HV at hm
    refine .then (.rK (.ghs (fr 63 [(1,zI z0),(2,pt 1 0),(25,zI z1),(26,zI z2),(27,(zB (AY z2 z1)))]) (hT 2 [(oC [zI z3,(Sl.v 2 s1)])]) (.k0 [false] [.tmp 2 false] [1,2,25,26,27]) ?_))
    refine .then ?_
    replace hm:=Ag hm;rcases hm with⟨h4,hm⟩ | ⟨h4,hm⟩
    ·refine C8 (AY z2 z1) h4 ?_
     refine .skip (.ghs (fr 63 [(1,zI z0),(2,pt 1 0),(25,zI z1),(26,zI z2)]) (hT 2 [(oC [zI z3,(Sl.v 2 s1)])]) (.k0 [false] [.tmp 2 false] [1,2,25,26]) ?_)
     refine .join (v:=v) (fun y:Int×Int×Int×Int×Sl=>((fr 63 [(1,(zI y.1)),(2,pt 1 0),(25,(zI y.2.1)),(26,(zI y.2.2.1))]),(hT 2 [(oC [(zI y.2.2.2.1),(Sl.v 2 y.2.2.2.2)])]))) (fun y=>K7 pu n (FM pu n w0) y.1 y.2.1 y.2.2.1 y.2.2.2.1 y.2.2.2.2) ?_ ?_
     ·rintro⟨z4,z5,z6,z7,s2⟩ hm
      unfold K7 at hm
      refine .rK ?_
      exact⟨(z4,z5,(Aj .i64 (Int.add z6 (1:Int))),z7,s2),hm,(.k0 [false] [.tmp 2 false] [1,2,25,26])⟩
     ·refine .block (.then (.rK (.ghs (fr 63 [(1,zI z0),(2,pt 1 0),(7,zI z2),(25,zI z1),(26,zI z2)]) (hT 2 [(oC [zI z3,(Sl.v 2 s1)])]) (.k0 [false] [.tmp 2 false] [1,2,7,25,26]) ?_)))
      refine .then (.rK (.ghs (fr 63 [(1,zI z0),(2,pt 1 0),(7,zI z2),(25,zI z1),(26,zI z2),(33,(zI (Aj .i64 (Int.add (Aj .i64 (Int.sub z3 z0)) (1:Int))))),(34,(zI (0:Int)))]) (hT 2 [(oC [zI z3,(Sl.v 2 s1)])]) (.k0 [false] [.tmp 2 false] [1,2,7,25,26,33,34]) ?_))
      refine .block (.loopM (v:=v) (fun y:Int×Int×Int×Int×Int×Int×Int×Sl=>((fr 63 [(1,(zI y.1)),(2,pt 1 0),(7,(zI y.2.1)),(25,(zI y.2.2.1)),(26,(zI y.2.2.2.1)),(33,(zI y.2.2.2.2.1)),(34,(zI y.2.2.2.2.2.1))]),(hT 2 [(oC [(zI y.2.2.2.2.2.2.1),(Sl.v 2 y.2.2.2.2.2.2.2)])]))) (fun w y=>Ji pu n (FM pu n w0) w y.1 y.2.1 y.2.2.1 y.2.2.2.1 y.2.2.2.2.1 y.2.2.2.2.2.1 y.2.2.2.2.2.2.1 y.2.2.2.2.2.2.2) n ⟨(z0,z2,z1,z2,(Aj .i64 (Int.add (Aj .i64 (Int.sub z3 z0)) (1:Int))),(0:Int),z3,s1),hm,(.k0 [false] [.tmp 2 false] [1,2,7,25,26,33,34])⟩ (fun _=>rfl) ?_)
      rintro w1 ⟨z8,z9,z10,z11,z12,z13,z14,s3⟩ hm
      replace hm:Hz pu n (FM pu n w0) (Ji pu n (FM pu n w0) w1) z8 z9 z10 z11 z12 z13 z14 s3=some v:=hm
      unfold Hz at hm
      refine .then (.rK (.ghs (fr 63 [(1,zI z8),(2,pt 1 0),(7,zI z9),(25,zI z10),(26,zI z11),(33,zI z12),(34,zI z13),(35,(zB (AY z13 z12)))]) (hT 2 [(oC [zI z14,(Sl.v 2 s3)])]) (.k0 [false] [.tmp 2 false] [1,2,7,25,26,33,34,35]) ?_))
      refine .then ?_
      replace hm:=Ag hm;rcases hm with⟨h5,hm⟩ | ⟨h5,hm⟩
      ·refine C8 (AY z13 z12) h5 ?_
       refine .skip (.ghs (fr 63 [(1,zI z8),(2,pt 1 0),(7,zI z9),(25,zI z10),(26,zI z11),(33,zI z12),(34,zI z13)]) (hT 2 [(oC [zI z14,(Sl.v 2 s3)])]) (.k0 [false] [.tmp 2 false] [1,2,7,25,26,33,34]) ?_)
       refine .then (.block (.then (.rK (.ghs (fr 63 [(1,zI z8),(2,pt 1 0),(7,zI z9),(8,zI z13),(25,zI z10),(26,zI z11),(33,zI z12),(34,zI z13)]) (hT 2 [(oC [zI z14,(Sl.v 2 s3)])]) (.k0 [false] [.tmp 2 false] [1,2,7,8,25,26,33,34]) ?_))))
       refine .then ?_
       replace hm:=Ab hm;obtain⟨k1,h6,hm⟩:=hm
       obtain rfl:=AR h6
       replace hm:=Ab hm;obtain⟨k2,h7,hm⟩:=hm
       replace hm:=Ab hm;obtain⟨k3,h8,hm⟩:=hm
       obtain rfl:=AR h8
       refine .reg (eC 6 (some ((zI (Aj .i64 (Int.sub z14 z8))),(hT 2 [(oC [zI z14,(Sl.v 2 s3)])]))) (show _=some ((zI (Int.ofNat k2)),_) from (by rw[AR h7])) (eE)) ?_
       refine .ghs (fr 63 [(1,zI z8),(2,pt 1 0),(7,(zI (Int.ofNat k1))),(9,(zI (jF .i64 (QW .i64 (Aj .i64 (Int.sub (QW .i64 (1:Int) k1) (1:Int))) k2) (Aj .i64 (Int.sub (QW .i64 (1:Int) k3) (1:Int)))))),(25,zI z10),(26,zI z11),(33,zI z12),(34,(zI (Int.ofNat k3)))]) (hT 2 [(oC [zI z14,(Sl.v 2 s3)])]) (.k0 [false] [.tmp 2 false] [1,2,7,9,25,26,33,34]) ?_
       refine .then ?_
       replace hm:=pX hm;obtain⟨s4,h9,hm⟩:=hm
       replace hm:=Ab hm;obtain⟨v2,h10,hm⟩:=hm
       replace hm:=Ch hm;obtain⟨l1,rfl,hm⟩:=hm
       replace hm:=Ad hm;obtain⟨v3,l4568_0,rfl,hm⟩:=hm
       replace hm:=Ad hm;obtain⟨v4,l4568_1,rfl,hm⟩:=hm
       replace hm:=AC hm;obtain⟨rfl,hm⟩:=hm
       replace hm:=Al hm;obtain⟨s5,rfl,hm⟩:=hm
       replace hm:=Ai hm;obtain⟨x3,rfl,hm⟩:=hm
       refine .reg (eC 4 ((oo (pu 41 [zI z14,(zI (jF .i64 (QW .i64 (Aj .i64 (Int.sub (QW .i64 (1:Int) k1) (1:Int))) k2) (Aj .i64 (Int.sub (QW .i64 (1:Int) k3) (1:Int)))))]) none fun v=>some (v,(hT 2 [(oC [zI z14,(Sl.v 2 s3)])])))) (AB h9) (eD ((oo (pu 23 [(.agg ⟨[zI z14,(Sl.v 2 s3)]⟩),Sl.v 1 s4]) none fun v=>some (v,(hT 2 [(oC [zI z14,(Sl.v 2 s3)])])))) (AB h10) (eE))) ?_
       refine .ghs (fr 63 [(1,zI z8),(2,pt 1 0),(7,(zI (Int.ofNat k1))),(10,Sl.v 1 s5),(25,zI z10),(26,zI z11),(33,zI z12),(34,(zI (Int.ofNat k3)))]) (hT 2 [(oC [zI z14,(Sl.v 2 s3)])]) (.k0 [false] [.tmp 2 false] [1,2,7,10,25,26,33,34]) ?_
       refine .then ?_
       replace hm:=O3 hm;obtain⟨b1,h11,hm⟩:=hm
       refine .reg (eC 1 ((oo (pu 13 [Sl.v 1 s5]) none fun v=>some (v,(hT 2 [(oC [zI z14,(Sl.v 2 s3)])])))) (AB h11) (eE)) ?_
       refine .ghs (fr 63 [(1,zI z8),(2,pt 1 0),(7,(zI (Int.ofNat k1))),(25,zI z10),(26,zI z11),(33,zI z12),(34,(zI (Int.ofNat k3))),(60,(zB (nt b1)))]) (hT 2 [(oC [zI z14,(Sl.v 2 s3)])]) (.k0 [false] [.tmp 2 false] [1,2,7,25,26,33,34,60]) ?_
       replace hm:=Ag hm;rcases hm with⟨h12,hm⟩ | ⟨h12,hm⟩
       ·refine C8 (nt b1) h12 ?_
        refine .then (.rK (.ghs (fr 63 [(4,zB false),(5,(zI (0:Int)))]) Bq (.k0 [false] [] [4,5]) ?_))
        refine .ret ?_
        exact Bp (.tuple ⟨[zB false,(zI (0:Int))]⟩) hm
       ·refine Dn (nt b1) h12 ?_
        refine .skip (.ghs (fr 63 [(1,zI z8),(2,pt 1 0),(7,(zI (Int.ofNat k1))),(25,zI z10),(26,zI z11),(33,zI z12),(34,(zI (Int.ofNat k3)))]) (hT 2 [(oC [zI z14,(Sl.v 2 s3)])]) (.k0 [false] [.tmp 2 false] [1,2,7,25,26,33,34]) ?_)
        refine .rK ?_
        exact⟨(z8,(Int.ofNat k1),z10,z11,z12,(Aj .i64 (Int.add (Int.ofNat k3) (1:Int))),z14,s3),hm,(.k0 [false] [.tmp 2 false] [1,2,7,25,26,33,34])⟩
      ·refine Dn (AY z13 z12) h5 ?_
       refine .exit ?_
       exact⟨(z8,z10,z11,z14,s3),hm,(.k0 [false] [.tmp 2 false] [1,2,25,26])⟩
    ·refine Dn (AY z2 z1) h4 ?_
     refine .exit ?_
     exact⟨(),hm,(.k0 [false] [] [])⟩

def Qt (pu:Af) (n:Nat) (s0:Sl) (x0:Int):OV:=
 (oo (pu 42 [Sl.v 1 s0,.int .i64 x0]) none fun v0=>(oo (Bi .i64 v0) none fun x1=>(some (.bool (nt (AY x1 (0:Int)))))))
def iG (pu:Af) (n:Nat) (args:LV):OV:=
 (ll args none fun a0 args=>(ll args none fun a1 args=>(ll args (oo (Bj 1 a0) none fun s0=>(oo (Bi .i64 a1) none fun x0=>(Qt pu n s0 x0))) fun _ _=>none)))
theorem rD {call:A8} (pu:Af) (n:Nat) (hcall:call=Bb tabs Eo pu (inl pu)) {args:LV} {v:Value} (hm:iG pu n args=some v) (_:∀ x∈args,closed2 x=true):args.length≤9∧BN tt call 1 Oi (Fr.made 9 args) (Ao tabs) (Fin tt 1 [.tmp 4] v):=by
 subst hcall
 unfold iG at hm
 replace hm:=Ad hm;obtain⟨a0,args_0,rfl,hm⟩:=hm
 replace hm:=Ad hm;obtain⟨a1,args_1,rfl,hm⟩:=hm
 replace hm:=AC hm;obtain⟨rfl,hm⟩:=hm
 replace hm:=Al hm;obtain⟨s0,rfl,hm⟩:=hm
 replace hm:=Ai hm;obtain⟨x0,rfl,hm⟩:=hm
 unfold Qt at hm
 refine⟨by simp,?_⟩
 refine .same (F':=(fr 9 [(0,Sl.v 1 s0),(1,zI x0)])) (H':=Bq) (by kernel_rfl) (by kernel_rfl) ?_
 refine .then (.rK (.ghs (fr 9 [(0,Sl.v 1 s0),(1,zI x0)]) Bq (.k0 [false] [] [0,1]) ?_))
 refine .then ?_
 replace hm:=Jg hm;obtain⟨x1,h0,hm⟩:=hm
 refine .reg (eC 2 ((oo (pu 42 [Sl.v 1 s0,zI x0]) none fun v=>some (v,Bq))) (AB h0) (eE)) ?_
 refine .ghs (fr 9 [(4,(zB (nt (AY x1 (0:Int)))))]) Bq (.k0 [false] [] [4]) ?_
 refine .ret ?_
 exact Bp (zB (nt (AY x1 (0:Int)))) hm

def Qu (pu:Af) (n:Nat) (s0:Sl):OV:=
 (bb (Dp (nt (Nat.beq (Sl.fl s0) 2)) (Nat.beq (Sl.n s0) 0)) (some (Sl.v 1 (KY 1 s0))) none)
def iH (pu:Af) (n:Nat) (args:LV):OV:=
 (ll args none fun a0 args=>(ll args (oo (Bj 1 a0) none fun s0=>(Qu pu n s0)) fun _ _=>none))
theorem rE {call:A8} (pu:Af) (n:Nat) (hcall:call=Bb tabs Eo pu (inl pu)) {args:LV} {v:Value} (hm:iH pu n args=some v) (_:∀ x∈args,closed2 x=true):args.length≤9∧BN tt call 1 Ou (Fr.made 9 args) (Ao tabs) (Fin tt 1 [.tmp 2] v):=by
 subst hcall
 unfold iH at hm
 replace hm:=Ad hm;obtain⟨a0,args_0,rfl,hm⟩:=hm
 replace hm:=AC hm;obtain⟨rfl,hm⟩:=hm
 replace hm:=Al hm;obtain⟨s0,rfl,hm⟩:=hm
 unfold Qu at hm
 refine⟨by simp,?_⟩
 refine .same (F':=(fr 9 [(0,Sl.v 1 s0)])) (H':=Bq) (by kernel_rfl) (by kernel_rfl) ?_
 refine .then (.rK (.ghs (fr 9 [(0,Sl.v 1 s0)]) Bq (.k0 [false] [] [0]) ?_))
 refine .then ?_
 replace hm:=Ae hm;obtain⟨h0,hm⟩:=hm
 refine .reg (eC 5 (Ut Bq Wl 1 s0) (Wh h0) (eE)) ?_
 refine .ghs (fr 9 [(2,(Sl.v 1 (KY 1 s0)))]) Bq (.k0 [false] [] [2]) ?_
 refine .ret ?_
 exact Bp (Sl.v 1 (KY 1 s0)) hm
def K8 (pu:Af) (n:Nat) (b0:Bool):OV:=
 (some (.bool b0))
def Yw (pu:Af) (n:Nat) (x0 x1 x2:Int):OV:=
 (bb (nt (AY x1 x0)) (K8 pu n (nt (AY x2 x1))) (K8 pu n false))
def iI (pu:Af) (n:Nat) (args:LV):OV:=
 (ll args none fun a0 args=>(ll args none fun a1 args=>(ll args none fun a2 args=>(ll args (oo (Bi .i64 a0) none fun x0=>(oo (Bi .i64 a1) none fun x1=>(oo (Bi .i64 a2) none fun x2=>(Yw pu n x0 x1 x2)))) fun _ _=>none))))
theorem Yx (pu:Af) (n:Nat) (b0:Bool) {v:Value} (hm:K8 pu n b0=some v):BN tt (Bb tabs Eo pu (inl pu)) 1 .ret (fr 15 [(6,zB b0)]) Bq (Fin tt 1 [.tmp 6] v):=by
 unfold K8 at hm
 refine .ret ?_
 exact Bp (zB b0) hm
theorem rF {call:A8} (pu:Af) (n:Nat) (hcall:call=Bb tabs Eo pu (inl pu)) {args:LV} {v:Value} (hm:iI pu n args=some v) (_:∀ x∈args,closed2 x=true):args.length≤15∧BN tt call 1 Ov (Fr.made 15 args) (Ao tabs) (Fin tt 1 [.tmp 6] v):=by
 subst hcall
 unfold iI at hm
 replace hm:=Ad hm;obtain⟨a0,args_0,rfl,hm⟩:=hm
 replace hm:=Ad hm;obtain⟨a1,args_1,rfl,hm⟩:=hm
 replace hm:=Ad hm;obtain⟨a2,args_2,rfl,hm⟩:=hm
 replace hm:=AC hm;obtain⟨rfl,hm⟩:=hm
 replace hm:=Ai hm;obtain⟨x0,rfl,hm⟩:=hm
 replace hm:=Ai hm;obtain⟨x1,rfl,hm⟩:=hm
 replace hm:=Ai hm;obtain⟨x2,rfl,hm⟩:=hm
 unfold Yw at hm
 refine⟨by simp,?_⟩
 refine .same (F':=(fr 15 [(0,zI x0),(1,zI x1),(2,zI x2)])) (H':=Bq) (by kernel_rfl) (by kernel_rfl) ?_
 refine .then (.rK (.ghs (fr 15 [(0,zI x0),(1,zI x1),(2,zI x2)]) Bq (.k0 [false] [] [0,1,2]) ?_))
 refine .join (v:=v) (fun y:Bool=>((fr 15 [(6,zB y)]),Bq)) (fun y=>K8 pu n y) ?_ ?_
 ·rintro b0 hm
  exact Yx pu n b0 hm
 ·replace hm:=Ag hm;rcases hm with⟨h0,hm⟩ | ⟨h0,hm⟩
  ·refine .reg (eC 2 (some ((zB (nt (AY x1 x0))),Bq)) (show _=some ((zB true),_) from (by rw[show (nt (AY x1 x0))=true from h0])) (eE)) ?_
   exact⟨(nt (AY x2 x1)),hm,(.k0 [false] [] [6])⟩
  ·refine .reg (eC 2 (some ((zB (nt (AY x1 x0))),Bq)) (show _=some ((zB false),_) from (by rw[show (nt (AY x1 x0))=false from h0])) (eE)) ?_
   exact⟨false,hm,(.k0 [false] [] [6])⟩
def Jj (pu:Af) (n n0 c0:Nat) (q0:LV):OV:=
 (bb (Au Ah q0) (bb (an (Nat.ble (0+n0*1) (len q0)) (Au Ah (Aq (n0*1) (Am 0 q0)))) (some (.tuple ⟨[(Sl.v 1 (Sl.mk n0 0 (Aq (n0*1) (Am 0 q0)))),(.int .i64 (0:Int))]⟩)) none) none)
def K9 (pu:Af) (n:Nat) (ih0:Nat→Nat→Sl→Int→Int→LV→OV) (n0 c0:Nat) (s0:Sl) (z0 z1:Int) (q0:LV):OV:=
 (bb (Au Ah q0) (bb (AY z1 z0) (oo (EA z1) none fun k1=>(bb (an (Nat.blt k1 (Sl.n s0)) true) (bb (Nat.ble ((k1*2)+2) (len (Sl.cs s0))) (oo (AL (Sl.cs s0) (k1*2)) none fun v0=>(oo (Bi .i64 v0) none fun x0=>(oo (AL (Sl.cs s0) ((k1*2)+1)) none fun v1=>(oo (Bi .i64 v1) none fun x1=>(oo (EA x0) none fun k2=>(bb (an (Nat.blt k2 n0) true) (oo (AL q0 (0+k2*1)) none fun v2=>(oo (Bi .i64 v2) none fun x2=>(oo (EA x1) none fun k3=>(bb (an (Nat.blt k3 n0) true) (oo (AL q0 (0+k3*1)) none fun v3=>(oo (Bi .i64 v3) none fun x3=>(bb (an (Nat.blt k2 n0) true) (oo (AL q0 (0+k2*1)) none fun v4=>(oo (Bi .i64 v4) none fun x4=>(bb (an (Nat.blt k3 n0) true) (oo (AL q0 (0+k3*1)) none fun v5=>(oo (Bi .i64 v5) none fun x5=>(bb (an (Nat.blt k2 n0) true) (bb (an (Nat.ble ((0+k2*1)+1) (len q0)) true) (bb (an (Nat.blt k3 n0) true) (bb (an (Nat.ble ((0+k3*1)+1) (len (BM ([(.int .i64 (bb (AY x3 x2) x3 x2))]:LV) (0+k2*1) q0))) true) (bb (Au Ah (BM ([(.int .i64 (bb (AY x4 x5) x5 x4))]:LV) (0+k3*1) (BM ([(.int .i64 (bb (AY x3 x2) x3 x2))]:LV) (0+k2*1) q0))) (ih0 n0 c0 s0 z0 (Aj .i64 (Int.add (Int.ofNat k1) (1:Int))) (BM ([(.int .i64 (bb (AY x4 x5) x5 x4))]:LV) (0+k3*1) (BM ([(.int .i64 (bb (AY x3 x2) x3 x2))]:LV) (0+k2*1) q0))) none) none) none) none) none))) none))) none))) none)))) none)))))) none) none)) (Jj pu n n0 c0 q0)) none)
def LJ (pu:Af) (n w:Nat):Nat→Nat→Sl→Int→Int→LV→OV:=
 Nat.rec (motive:=fun _=>Nat→Nat→Sl→Int→Int→LV→OV) (fun _ _ _ _ _ _=>none) (fun _ ih0=>K9 pu n ih0) w
def Qv (pu:Af) (n:Nat) (x0:Int) (s0 s1:Sl):OV:=
 (oo (pu 40 [(.agg ⟨[.int .i64 x0,(Sl.v 2 s0)]⟩)]) none fun v0=>(oo (Bi .i64 v0) none fun x1=>(bb (nt (Bd x1 (0:Int))) (some (.tuple ⟨[(Sl.v 1 (Sl.mk 0 2 [])),.int .i64 x1]⟩)) (bb (nt (Bd (Int.ofNat (Sl.n s1)) x0)) (some (.tuple ⟨[(Sl.v 1 (Sl.mk 0 2 [])),(.int .i64 (5:Int))]⟩)) (bb (EQ (0+(Sl.n s1)) 8) (bb (Au Ah (Aq ((Sl.n s1)*1) (Sl.cs s1))) (LJ pu n n (Sl.n s1) (2*(Sl.n s1)+bb false 1 0) s0 (Int.ofNat (Sl.n s0)) (0:Int) (Aq ((Sl.n s1)*1) (Sl.cs s1))) none) none)))))
def iJ (pu:Af) (n:Nat) (args:LV):OV:=
 (ll args none fun a0 args=>(ll args none fun a1 args=>(ll args (oo (Bt a0) none fun l0=>(ll l0 none fun v0 l0=>(ll l0 none fun v1 l0=>(ll l0 (oo (Bi .i64 v0) none fun x0=>(oo (Bj 2 v1) none fun s0=>(oo (Bj 1 a1) none fun s1=>(Qv pu n x0 s0 s1)))) fun _ _=>none)))) fun _ _=>none)))
theorem Yy (pu:Af) (n n0 c0:Nat) (q0:LV) {v:Value} (hm:Jj pu n n0 c0 q0=some v):BN tt (Bb tabs Eo pu (inl pu)) 1 OW (fr 63 [(7,sc 1 0 1 n0 c0)]) (hT 2 [oC q0]) (Fin tt 1 [.tmp 4,.tmp 5] v):=by
 unfold Jj at hm
 refine .then (.rK ?_)
 replace hm:=Ae hm;obtain⟨h0,hm⟩:=hm
 refine .ghs (fr 63 [(4,sc 1 0 1 n0 c0),(5,(zI (0:Int)))]) (hT 2 [oC q0]) (.k [1] [false] [.tmp 4 false] [4,5] ⟨BI h0,trivial⟩) ?_
 replace hm:=Ae hm;obtain⟨h1,hm⟩:=hm
 refine .ghs (Fr.puts (fr 63 [(4,sc 1 0 1 n0 c0),(5,(zI (0:Int)))]) [(4,(Sl.v 1 (Sl.mk n0 0 (Aq (n0*1) (Am 0 q0)))))]) (hT 2 [.dead]) (.freezeC 1 4 1 (an (Nat.ble (0+n0*1) (len q0)) (Au Ah (Aq (n0*1) (Am 0 q0)))) (F1:=(Fr.puts (fr 63 [(4,sc 1 0 1 n0 c0),(5,(zI (0:Int)))]) [(4,(Sl.v 1 (Sl.mk n0 0 (Aq (n0*1) (Am 0 q0)))))])) (H1:=(hT 2 [.dead])) (by kernel_rfl) (by kernel_rfl) h1 (E9.id _ _)) ?_
 refine .ret ?_
 exact Bp (.tuple ⟨[(Sl.v 1 (Sl.mk n0 0 (Aq (n0*1) (Am 0 q0)))),(zI (0:Int))]⟩) hm
theorem rG {call:A8} (pu:Af) (n:Nat) (hcall:call=Bb tabs Eo pu (inl pu)) {args:LV} {v:Value} (hm:iJ pu n args=some v) (_:∀ x∈args,closed2 x=true):args.length≤63∧BN tt call 1 Kc (Fr.made 63 args) (Ao tabs) (Fin tt 1 [.tmp 4,.tmp 5] v):=by
 subst hcall
 unfold iJ at hm
 replace hm:=Ad hm;obtain⟨a0,args_0,rfl,hm⟩:=hm
 replace hm:=Ad hm;obtain⟨a1,args_1,rfl,hm⟩:=hm
 replace hm:=AC hm;obtain⟨rfl,hm⟩:=hm
 replace hm:=BG hm;obtain⟨l0,rfl,hm⟩:=hm
 replace hm:=Ad hm;obtain⟨v0,l4614_0,rfl,hm⟩:=hm
 replace hm:=Ad hm;obtain⟨v1,l4614_1,rfl,hm⟩:=hm
 replace hm:=AC hm;obtain⟨rfl,hm⟩:=hm
 replace hm:=Ai hm;obtain⟨x0,rfl,hm⟩:=hm
 replace hm:=Al hm;obtain⟨s0,rfl,hm⟩:=hm
 replace hm:=Al hm;obtain⟨s1,rfl,hm⟩:=hm
 unfold Qv at hm
 refine⟨by simp,?_⟩
 refine .same (F':=(fr 63 [(0,(.agg ⟨[zI x0,(Sl.v 2 s0)]⟩)),(1,Sl.v 1 s1)])) (H':=Bq) (by kernel_rfl) (by kernel_rfl) ?_
 refine .then (.rK (.ghs (fr 63 [(1,Sl.v 1 s1),(2,pt 1 0)]) (hT 2 [(oC [zI x0,(Sl.v 2 s0)])]) (.k0 [false] [.tmp 2 false] [1,2]) ?_))
 refine .then ?_
 replace hm:=Jg hm;obtain⟨x1,h0,hm⟩:=hm
 refine .reg (eC 1 ((oo (pu 40 [(.agg ⟨[zI x0,(Sl.v 2 s0)]⟩)]) none fun v=>some (v,(hT 2 [(oC [zI x0,(Sl.v 2 s0)])])))) (AB h0) (eE)) ?_
 refine .ghs (fr 63 [(1,Sl.v 1 s1),(2,pt 1 0),(6,zI x1)]) (hT 2 [(oC [zI x0,(Sl.v 2 s0)])]) (.k0 [false] [.tmp 2 false] [1,2,6]) ?_
 refine .then (.block (.then (.rK (.ghs (fr 63 [(1,Sl.v 1 s1),(2,pt 1 0),(6,zI x1),(12,(zB (nt (Bd x1 (0:Int)))))]) (hT 2 [(oC [zI x0,(Sl.v 2 s0)])]) (.k0 [false] [.tmp 2 false] [1,2,6,12]) ?_))))
 replace hm:=Ag hm;rcases hm with⟨h1,hm⟩ | ⟨h1,hm⟩
 ·refine C8 (nt (Bd x1 (0:Int))) h1 ?_
  refine .then (.rK (.ghs (fr 63 [(4,(.slice none 0 0)),(5,zI x1)]) Bq (.k0 [false] [] [4,5]) ?_))
  refine .ghs (Fr.puts (fr 63 [(4,(.slice none 0 0)),(5,zI x1)]) [(4,(Sl.v 1 (Sl.mk 0 2 [])))]) Bq (.freeze 1 4 1 (by kernel_rfl) (by kernel_rfl) (E9.id _ _)) ?_
  refine .ret ?_
  exact Bp (.tuple ⟨[(Sl.v 1 (Sl.mk 0 2 [])),zI x1]⟩) hm
 ·refine Dn (nt (Bd x1 (0:Int))) h1 ?_
  refine .then (.rK (.ghs (fr 63 [(1,Sl.v 1 s1),(2,pt 1 0),(16,(zB (nt (Bd (Int.ofNat (Sl.n s1)) x0))))]) (hT 2 [(oC [zI x0,(Sl.v 2 s0)])]) (.k0 [false] [.tmp 2 false] [1,2,16]) ?_))
  replace hm:=Ag hm;rcases hm with⟨h2,hm⟩ | ⟨h2,hm⟩
  ·refine C8 (nt (Bd (Int.ofNat (Sl.n s1)) x0)) h2 ?_
   refine .then (.rK (.ghs (fr 63 [(4,(.slice none 0 0)),(5,(zI (5:Int)))]) Bq (.k0 [false] [] [4,5]) ?_))
   refine .ghs (Fr.puts (fr 63 [(4,(.slice none 0 0)),(5,(zI (5:Int)))]) [(4,(Sl.v 1 (Sl.mk 0 2 [])))]) Bq (.freeze 1 4 1 (by kernel_rfl) (by kernel_rfl) (E9.id _ _)) ?_
   refine .ret ?_
   exact Bp (.tuple ⟨[(Sl.v 1 (Sl.mk 0 2 [])),(zI (5:Int))]⟩) hm
  ·refine Dn (nt (Bd (Int.ofNat (Sl.n s1)) x0)) h2 ?_
   refine .skip (.ghs (fr 63 [(1,Sl.v 1 s1),(2,pt 1 0)]) (hT 2 [(oC [zI x0,(Sl.v 2 s0)])]) (.k0 [false] [.tmp 2 false] [1,2]) ?_)
   refine .then ?_
   replace hm:=Ae hm;obtain⟨h3,hm⟩:=hm
   refine .reg (eC 1 (bb (EQ (0+(Sl.n s1)) 8) (some ((sc 3 0 1 (Sl.n s1) (d2 (Sl.n s1))),(hT 4 [(oC [zI x0,(Sl.v 2 s0)]),(oC []),(oC (Aq ((Sl.n s1)*1) (Sl.cs s1)))]))) none) (kH h3) (eE)) ?_
   replace hm:=Ae hm;obtain⟨h4,hm⟩:=hm
   refine .ghs (fr 63 [(2,pt 1 0),(7,(sc 2 0 1 (Sl.n s1) (d2 (Sl.n s1))))]) (hT 3 [(oC [zI x0,(Sl.v 2 s0)]),(oC (Aq ((Sl.n s1)*1) (Sl.cs s1)))]) (.k [3] [false] [.tmp 2 false,.tmp 7 false] [2,7] ⟨BI h4,trivial⟩) ?_
   refine .join (v:=v) (fun y:Nat×Nat×LV=>((fr 63 [(7,(sc 1 0 1 y.1 y.2.1))]),(hT 2 [(oC y.2.2)]))) (fun y=>Jj pu n y.1 y.2.1 y.2.2) ?_ ?_
   ·rintro⟨n0,c0,q0⟩ hm
    exact Yy pu n n0 c0 q0 hm
   ·refine .then (.rK (.ghs (fr 63 [(7,(sc 1 0 1 (Sl.n s1) (d2 (Sl.n s1)))),(25,(Sl.v 2 s0)),(26,(zI (Int.ofNat (Sl.n s0)))),(27,(zI (0:Int)))]) (hT 2 [(oC (Aq ((Sl.n s1)*1) (Sl.cs s1)))]) (.k [2] [false] [.tmp 7 false] [7,25,26,27] ⟨BI h4,trivial⟩) ?_))
    refine .block (.loopM (v:=v) (fun y:Nat×Nat×Sl×Int×Int×LV=>((fr 63 [(7,(sc 1 0 1 y.1 y.2.1)),(25,(Sl.v 2 y.2.2.1)),(26,(zI y.2.2.2.1)),(27,(zI y.2.2.2.2.1))]),(hT 2 [(oC y.2.2.2.2.2)]))) (fun w y=>LJ pu n w y.1 y.2.1 y.2.2.1 y.2.2.2.1 y.2.2.2.2.1 y.2.2.2.2.2) n ⟨((Sl.n s1),(d2 (Sl.n s1)),s0,(Int.ofNat (Sl.n s0)),(0:Int),(Aq ((Sl.n s1)*1) (Sl.cs s1))),hm,(.k [1] [false] [.tmp 7 false] [7,25,26,27] ⟨BI h4,trivial⟩)⟩ (fun _=>rfl) ?_)
    rintro w0 ⟨n1,c1,s2,z0,z1,q1⟩ hm
    replace hm:K9 pu n (LJ pu n w0) n1 c1 s2 z0 z1 q1=some v:=hm
    unfold K9 at hm
    refine .then (.rK ?_)
    replace hm:=Ae hm;obtain⟨h5,hm⟩:=hm
    refine .ghs (fr 63 [(7,sc 1 0 1 n1 c1),(25,(Sl.v 2 s2)),(26,zI z0),(27,zI z1),(28,(zB (AY z1 z0)))]) (hT 2 [oC q1]) (.k [1] [false] [.tmp 7 false] [7,25,26,27,28] ⟨BI h5,trivial⟩) ?_
    refine .then ?_
    replace hm:=Ag hm;rcases hm with⟨h6,hm⟩ | ⟨h6,hm⟩
    ·refine C8 (AY z1 z0) h6 ?_
     refine .skip (.ghs (fr 63 [(7,sc 1 0 1 n1 c1),(25,(Sl.v 2 s2)),(26,zI z0),(27,zI z1)]) (hT 2 [oC q1]) (.k [1] [false] [.tmp 7 false] [7,25,26,27] ⟨BI h5,trivial⟩) ?_)
     refine .then (.block (.then ?_))
     replace hm:=Ab hm;obtain⟨k1,h7,hm⟩:=hm
     obtain rfl:=AR h7
     replace hm:=Ae hm;obtain⟨h8,hm⟩:=hm
     replace hm:=Ae hm;obtain⟨h9,hm⟩:=hm
     replace hm:=Jg hm;obtain⟨x2,h10,hm⟩:=hm
     replace hm:=Jg hm;obtain⟨x3,h11,hm⟩:=hm
     refine .reg (eD (keep (hT 2 [oC q1]) (bb (an (Nat.blt k1 (Sl.n s2)) true) (some (Cv (k1*2) (Sl.cs s2))) none)) (AX h8) (eD (keep (hT 2 [oC q1]) (bb (Nat.ble ((k1*2)+2) (len (Sl.cs s2))) (some (.agg ⟨Aq 2 (Am (k1*2) (Sl.cs s2))⟩)) none)) (Pd h9 (Ca h10 (Ca h11 rfl))) (eE))) ?_
     refine .ghs (fr 63 [(7,sc 1 0 1 n1 c1),(9,(pt 2 0)),(25,(Sl.v 2 s2)),(26,zI z0),(27,(zI (Int.ofNat k1)))]) (hT 3 [oC q1,(oC [zI x2,zI x3])]) (.k [1] [false] [.tmp 7 false,.tmp 9 false] [7,9,25,26,27] ⟨BI h5,trivial⟩) ?_
     replace hm:=Ab hm;obtain⟨k2,h12,hm⟩:=hm
     obtain rfl:=AR h12
     replace hm:=Ae hm;obtain⟨h13,hm⟩:=hm
     replace hm:=Jg hm;obtain⟨x4,h14,hm⟩:=hm
     replace hm:=Ab hm;obtain⟨k3,h15,hm⟩:=hm
     obtain rfl:=AR h15
     replace hm:=Ae hm;obtain⟨h16,hm⟩:=hm
     replace hm:=Jg hm;obtain⟨x5,h17,hm⟩:=hm
     replace hm:=Ae hm;obtain⟨h18,hm⟩:=hm
     replace hm:=Jg hm;obtain⟨x6,h19,hm⟩:=hm
     replace hm:=Ae hm;obtain⟨h20,hm⟩:=hm
     replace hm:=Jg hm;obtain⟨x7,h21,hm⟩:=hm
     replace hm:=Ae hm;obtain⟨h22,hm⟩:=hm
     replace hm:=Ae hm;obtain⟨h23,hm⟩:=hm
     replace hm:=Ae hm;obtain⟨h24,hm⟩:=hm
     replace hm:=Ae hm;obtain⟨h25,hm⟩:=hm
     refine .reg (eN 15 (Fr.puts (fr 63 [(7,sc 1 0 1 n1 c1),(9,(pt 2 0)),(25,(Sl.v 2 s2)),(26,zI z0),(27,(zI (Int.ofNat k1)))]) [(31,sc 1 0 1 n1 c1),(32,(pt 2 0)),(33,(zI (Int.ofNat k2))),(34,sc 1 0 1 n1 c1),(35,(pt 2 1)),(36,(zI (Int.ofNat k3))),(37,sc 1 0 1 n1 c1),(38,(pt 2 0)),(39,(zI (Int.ofNat k2))),(40,(.pointer (some ⟨1,(0+k2*1),none⟩))),(41,zI x4),(42,sc 1 0 1 n1 c1),(43,(pt 2 1)),(44,(zI (Int.ofNat k3))),(45,(.pointer (some ⟨1,(0+k3*1),none⟩)))]) (hT 3 [oC q1,(oC [(zI (Int.ofNat k2)),(zI (Int.ofNat k3))])]) (eC 9 (keep (hT 3 [oC q1,(oC [(zI (Int.ofNat k2)),(zI (Int.ofNat k3))])]) (bb (an (Nat.blt k2 n1) true) (some (.pointer (some ⟨1,(0+k2*1),none⟩))) none)) (AX h13) (eD (keep (hT 3 [oC q1,(oC [(zI (Int.ofNat k2)),(zI (Int.ofNat k3))])]) (AL q1 (0+k2*1))) (AZ h14) (eC 3 (keep (hT 3 [oC q1,(oC [(zI (Int.ofNat k2)),(zI (Int.ofNat k3))])]) (bb (an (Nat.blt k3 n1) true) (some (.pointer (some ⟨1,(0+k3*1),none⟩))) none)) (AX h16) (by kernel_rfl)))) (eN 7 (Fr.puts (fr 63 [(7,sc 1 0 1 n1 c1),(9,(pt 2 0)),(25,(Sl.v 2 s2)),(26,zI z0),(27,(zI (Int.ofNat k1)))]) [(31,sc 1 0 1 n1 c1),(32,(pt 2 0)),(33,(zI (Int.ofNat k2))),(34,sc 1 0 1 n1 c1),(35,(pt 2 1)),(36,(zI (Int.ofNat k3))),(37,sc 1 0 1 n1 c1),(38,(pt 2 0)),(39,(zI (Int.ofNat k2))),(40,(.pointer (some ⟨1,(0+k2*1),none⟩))),(41,zI x4),(42,sc 1 0 1 n1 c1),(43,(pt 2 1)),(44,(zI (Int.ofNat k3))),(45,(.pointer (some ⟨1,(0+k3*1),none⟩))),(46,zI x5),(47,(zI (bb (AY x5 x4) x5 x4))),(48,sc 1 0 1 n1 c1),(49,(pt 2 0)),(50,(zI (Int.ofNat k2))),(51,(.pointer (some ⟨1,(0+k2*1),none⟩))),(52,zI x6)]) (hT 3 [oC q1,(oC [(zI (Int.ofNat k2)),(zI (Int.ofNat k3))])]) (eD (keep (hT 3 [oC q1,(oC [(zI (Int.ofNat k2)),(zI (Int.ofNat k3))])]) (AL q1 (0+k3*1))) (AZ h17) (eC 4 (keep (hT 3 [oC q1,(oC [(zI (Int.ofNat k2)),(zI (Int.ofNat k3))])]) (bb (an (Nat.blt k2 n1) true) (some (.pointer (some ⟨1,(0+k2*1),none⟩))) none)) (AX h18) (eD (keep (hT 3 [oC q1,(oC [(zI (Int.ofNat k2)),(zI (Int.ofNat k3))])]) (AL q1 (0+k2*1))) (AZ h19) (by kernel_rfl)))) (eN 7 (Fr.puts (fr 63 [(7,sc 1 0 1 n1 c1),(9,(pt 2 0)),(25,(Sl.v 2 s2)),(26,zI z0),(27,(zI (Int.ofNat k1)))]) [(31,sc 1 0 1 n1 c1),(32,(pt 2 0)),(33,(zI (Int.ofNat k2))),(34,sc 1 0 1 n1 c1),(35,(pt 2 1)),(36,(zI (Int.ofNat k3))),(37,sc 1 0 1 n1 c1),(38,(pt 2 0)),(39,(zI (Int.ofNat k2))),(40,(.pointer (some ⟨1,(0+k2*1),none⟩))),(41,zI x4),(42,sc 1 0 1 n1 c1),(43,(pt 2 1)),(44,(zI (Int.ofNat k3))),(45,(.pointer (some ⟨1,(0+k3*1),none⟩))),(46,zI x5),(47,(zI (bb (AY x5 x4) x5 x4))),(48,sc 1 0 1 n1 c1),(49,(pt 2 0)),(50,(zI (Int.ofNat k2))),(51,(.pointer (some ⟨1,(0+k2*1),none⟩))),(52,zI x6),(53,sc 1 0 1 n1 c1),(54,(pt 2 1)),(55,(zI (Int.ofNat k3))),(56,(.pointer (some ⟨1,(0+k3*1),none⟩))),(57,zI x7),(58,(zI (bb (AY x6 x7) x7 x6))),(59,(.pointer (some ⟨1,(0+k2*1),none⟩)))]) (hT 3 [oC q1,(oC [(zI (Int.ofNat k2)),(zI (Int.ofNat k3))])]) (eC 3 (keep (hT 3 [oC q1,(oC [(zI (Int.ofNat k2)),(zI (Int.ofNat k3))])]) (bb (an (Nat.blt k3 n1) true) (some (.pointer (some ⟨1,(0+k3*1),none⟩))) none)) (AX h20) (eD (keep (hT 3 [oC q1,(oC [(zI (Int.ofNat k2)),(zI (Int.ofNat k3))])]) (AL q1 (0+k3*1))) (AZ h21) (eC 1 (keep (hT 3 [oC q1,(oC [(zI (Int.ofNat k2)),(zI (Int.ofNat k3))])]) (bb (an (Nat.blt k2 n1) true) (some (.pointer (some ⟨1,(0+k2*1),none⟩))) none)) (AX h22) (by kernel_rfl)))) (eD (done (bb (an (Nat.ble ((0+k2*1)+1) (len q1)) true) (some (hT 3 [(oC (BM ([(zI (bb (AY x5 x4) x5 x4))]:LV) (0+k2*1) q1)),(oC [(zI (Int.ofNat k2)),(zI (Int.ofNat k3))])])) none) undef) (Js h23) (eD (keep (hT 3 [(oC (BM ([(zI (bb (AY x5 x4) x5 x4))]:LV) (0+k2*1) q1)),(oC [(zI (Int.ofNat k2)),(zI (Int.ofNat k3))])]) (bb (an (Nat.blt k3 n1) true) (some (.pointer (some ⟨1,(0+k3*1),none⟩))) none)) (AX h24) (eD (done (bb (an (Nat.ble ((0+k3*1)+1) (len (BM ([(zI (bb (AY x5 x4) x5 x4))]:LV) (0+k2*1) q1))) true) (some (hT 3 [(oC (BM ([(zI (bb (AY x6 x7) x7 x6))]:LV) (0+k3*1) (BM ([(zI (bb (AY x5 x4) x5 x4))]:LV) (0+k2*1) q1))),(oC [(zI (Int.ofNat k2)),(zI (Int.ofNat k3))])])) none) undef) (Js h25) (eE))))))) ?_
     replace hm:=Ae hm;obtain⟨h26,hm⟩:=hm
     refine .ghs (fr 63 [(7,sc 1 0 1 n1 c1),(25,(Sl.v 2 s2)),(26,zI z0),(27,(zI (Int.ofNat k1)))]) (hT 2 [(oC (BM ([(zI (bb (AY x6 x7) x7 x6))]:LV) (0+k3*1) (BM ([(zI (bb (AY x5 x4) x5 x4))]:LV) (0+k2*1) q1)))]) (.k [1] [false] [.tmp 7 false] [7,25,26,27] ⟨BI h26,trivial⟩) ?_
     refine .rK ?_
     exact⟨(n1,c1,s2,z0,(Aj .i64 (Int.add (Int.ofNat k1) (1:Int))),(BM ([(zI (bb (AY x6 x7) x7 x6))]:LV) (0+k3*1) (BM ([(zI (bb (AY x5 x4) x5 x4))]:LV) (0+k2*1) q1))),hm,(.k [1] [false] [.tmp 7 false] [7,25,26,27] ⟨BI h26,trivial⟩)⟩
    ·refine Dn (AY z1 z0) h6 ?_
     refine .exit ?_
     exact⟨(n1,c1,q1),hm,(.k [1] [false] [.tmp 7 false] [7] ⟨BI h5,trivial⟩)⟩
def Jv (pu:Af) (n:Nat) (b0:Bool):OV:=
 (some (.bool b0))
def Qw (pu:Af) (n:Nat) (x0 x1:Int):OV:=
 (oo (pu 53 [.int .i64 x0]) none fun v0=>(oo (Bf v0) none fun b0=>(bb b0 (oo (pu 53 [.int .i64 x1]) none fun v1=>(oo (Bf v1) none fun b1=>(bb (nt b1) (Jv pu n true) (Jv pu n (AY x0 x1))))) (Jv pu n (AY x0 x1)))))
def iK (pu:Af) (n:Nat) (args:LV):OV:=
 (ll args none fun a0 args=>(ll args none fun a1 args=>(ll args (oo (Bi .i64 a0) none fun x0=>(oo (Bi .i64 a1) none fun x1=>(Qw pu n x0 x1))) fun _ _=>none)))
theorem Yz (pu:Af) (n:Nat) (b0:Bool) {v:Value} (hm:Jv pu n b0=some v):BN tt (Bb tabs Eo pu (inl pu)) 1 .ret (fr 17 [(4,zB b0)]) Bq (Fin tt 1 [.tmp 4] v):=by
 unfold Jv at hm
 refine .ret ?_
 exact Bp (zB b0) hm
theorem rH {call:A8} (pu:Af) (n:Nat) (hcall:call=Bb tabs Eo pu (inl pu)) {args:LV} {v:Value} (hm:iK pu n args=some v) (_:∀ x∈args,closed2 x=true):args.length≤17∧BN tt call 1 Ow (Fr.made 17 args) (Ao tabs) (Fin tt 1 [.tmp 4] v):=by
 subst hcall
 unfold iK at hm
 replace hm:=Ad hm;obtain⟨a0,args_0,rfl,hm⟩:=hm
 replace hm:=Ad hm;obtain⟨a1,args_1,rfl,hm⟩:=hm
 replace hm:=AC hm;obtain⟨rfl,hm⟩:=hm
 replace hm:=Ai hm;obtain⟨x0,rfl,hm⟩:=hm
 replace hm:=Ai hm;obtain⟨x1,rfl,hm⟩:=hm
 unfold Qw at hm
 refine⟨by simp,?_⟩
 refine .same (F':=(fr 17 [(0,zI x0),(1,zI x1)])) (H':=Bq) (by kernel_rfl) (by kernel_rfl) ?_
 refine .then (.rK (.ghs (fr 17 [(0,zI x0),(1,zI x1)]) Bq (.k0 [false] [] [0,1]) ?_))
 refine .join (v:=v) (fun y:Bool=>((fr 17 [(4,zB y)]),Bq)) (fun y=>Jv pu n y) ?_ ?_
 ·rintro b0 hm
  exact Yz pu n b0 hm
 ·replace hm:=O3 hm;obtain⟨b1,h0,hm⟩:=hm
  replace hm:=Ag hm;rcases hm with⟨h1,hm⟩ | ⟨h1,hm⟩
  ·replace hm:=O3 hm;obtain⟨b2,h2,hm⟩:=hm
   replace hm:=Ag hm;rcases hm with⟨h3,hm⟩ | ⟨h3,hm⟩
   ·refine .reg (eC 1 ((oo (pu 53 [zI x0]) none fun v=>some (v,Bq))) (show _=some ((zB true),_) from (by have hz:(oo (pu 53 [zI x0]) none fun v=>some (v,Bq))=some ((zB b1),Bq):=(AB h0);rw[h1] at hz;exact hz)) (eC 2 ((oo (pu 53 [zI x1]) none fun v=>some (v,Bq))) (AB h2) (eD (some ((zB (nt b2)),Bq)) (show _=some ((zB true),_) from (by rw[show (nt b2)=true from h3])) (eE)))) ?_
    exact⟨true,hm,(.k0 [false] [] [4])⟩
   ·refine .reg (eC 1 ((oo (pu 53 [zI x0]) none fun v=>some (v,Bq))) (show _=some ((zB true),_) from (by have hz:(oo (pu 53 [zI x0]) none fun v=>some (v,Bq))=some ((zB b1),Bq):=(AB h0);rw[h1] at hz;exact hz)) (eC 2 ((oo (pu 53 [zI x1]) none fun v=>some (v,Bq))) (AB h2) (eD (some ((zB (nt b2)),Bq)) (show _=some ((zB false),_) from (by rw[show (nt b2)=false from h3])) (eE)))) ?_
    exact⟨(AY x0 x1),hm,(.k0 [false] [] [4])⟩
  ·refine .reg (eC 1 ((oo (pu 53 [zI x0]) none fun v=>some (v,Bq))) (show _=some ((zB false),_) from (by have hz:(oo (pu 53 [zI x0]) none fun v=>some (v,Bq))=some ((zB b1),Bq):=(AB h0);rw[h1] at hz;exact hz)) (eE)) ?_
   exact⟨(AY x0 x1),hm,(.k0 [false] [] [4])⟩
def OA (pu:Af) (n:Nat):OV:=
 (some (.int .i64 (0:Int)))
def LK (pu:Af) (n:Nat) (ih0:Sl→Int→Int→Int→Sl→OV) (s0:Sl) (z0 z1:Int) (b0:Bool) (z2:Int) (s1:Sl) (z3 z4:Int):OV:=
 (bb b0 (some (.int .i64 (2:Int))) (bb (nt (AY z3 z4)) (some (.int .i64 (7:Int))) (ih0 s0 z0 (Aj .i64 (Int.add z1 (1:Int))) z2 s1)))
def LM (pu:Af) (n:Nat) (ih0:Sl→Int→Int→Int→Sl→OV) (s0:Sl) (z0 z1 z2:Int) (s1:Sl):OV:=
 (bb (AY z1 z0) (oo (EA z1) none fun k1=>(bb (an (Nat.blt k1 (Sl.n s0)) true) (bb (Nat.ble ((k1*2)+2) (len (Sl.cs s0))) (oo (AL (Sl.cs s0) (k1*2)) none fun v0=>(oo (Bi .i64 v0) none fun x0=>(oo (AL (Sl.cs s0) ((k1*2)+1)) none fun v1=>(oo (Bi .i64 v1) none fun x1=>(bb (AY (bb (AY x1 x0) x1 x0) (0:Int)) (LK pu n ih0 s0 z0 (Int.ofNat k1) true z2 s1 x0 x1) (LK pu n ih0 s0 z0 (Int.ofNat k1) (nt (AY (bb (AY x0 x1) x1 x0) z2)) z2 s1 x0 x1)))))) none) none)) (OA pu n))
def HY (pu:Af) (n w:Nat):Sl→Int→Int→Int→Sl→OV:=
 Nat.rec (motive:=fun _=>Sl→Int→Int→Int→Sl→OV) (fun _ _ _ _ _=>none) (fun _ ih0=>LM pu n ih0) w
def YA (pu:Af) (n:Nat) (x0:Int) (s0:Sl):OV:=
 (oo (pu 20 [(.int .i64 (1:Int)),.int .i64 x0,(.int .i64 (7:Int))]) none fun v0=>(oo (Bf v0) none fun b0=>(bb (nt b0) (some (.int .i64 (1:Int))) (bb (AY (24:Int) (Int.ofNat (Sl.n s0))) (some (.int .i64 (3:Int))) (HY pu n n s0 (Int.ofNat (Sl.n s0)) (0:Int) x0 s0)))))
def iL (pu:Af) (n:Nat) (args:LV):OV:=
 (ll args none fun a0 args=>(ll args (oo (Bt a0) none fun l0=>(ll l0 none fun v0 l0=>(ll l0 none fun v1 l0=>(ll l0 (oo (Bi .i64 v0) none fun x0=>(oo (Bj 2 v1) none fun s0=>(YA pu n x0 s0))) fun _ _=>none)))) fun _ _=>none))
theorem YB (pu:Af) (n:Nat) {v:Value} (hm:OA pu n=some v):BN tt (Bb tabs Eo pu (inl pu)) 1 OX (fr 46 []) Bq (Fin tt 1 [.tmp 2] v):=by
 unfold OA at hm
 refine .then (.rK (.ghs (fr 46 [(2,(zI (0:Int)))]) Bq (.k0 [false] [] [2]) ?_))
 refine .ret ?_
 exact Bp (zI (0:Int)) hm
theorem rJ {call:A8} (pu:Af) (n:Nat) (hcall:call=Bb tabs Eo pu (inl pu)) {args:LV} {v:Value} (hm:iL pu n args=some v) (_:∀ x∈args,closed2 x=true):args.length≤46∧BN tt call 1 Ke (Fr.made 46 args) (Ao tabs) (Fin tt 1 [.tmp 2] v):=by
 subst hcall
 unfold iL at hm
 replace hm:=Ad hm;obtain⟨a0,args_0,rfl,hm⟩:=hm
 replace hm:=AC hm;obtain⟨rfl,hm⟩:=hm
 replace hm:=BG hm;obtain⟨l0,rfl,hm⟩:=hm
 replace hm:=Ad hm;obtain⟨v0,l4974_0,rfl,hm⟩:=hm
 replace hm:=Ad hm;obtain⟨v1,l4974_1,rfl,hm⟩:=hm
 replace hm:=AC hm;obtain⟨rfl,hm⟩:=hm
 replace hm:=Ai hm;obtain⟨x0,rfl,hm⟩:=hm
 replace hm:=Al hm;obtain⟨s0,rfl,hm⟩:=hm
 unfold YA at hm
 refine⟨by simp,?_⟩
 refine .same (F':=(fr 46 [(0,(.agg ⟨[zI x0,(Sl.v 2 s0)]⟩))])) (H':=Bq) (by kernel_rfl) (by kernel_rfl) ?_
 refine .then (.rK (.ghs (fr 46 [(1,pt 1 0)]) (hT 2 [(oC [zI x0,(Sl.v 2 s0)])]) (.k0 [false] [.tmp 1 false] [1]) ?_))
 refine .then (.block (.then ?_))
 replace hm:=O3 hm;obtain⟨b0,h0,hm⟩:=hm
 refine .reg (eC 2 ((oo (pu 20 [(zI (1:Int)),zI x0,(zI (7:Int))]) none fun v=>some (v,(hT 2 [(oC [zI x0,(Sl.v 2 s0)])])))) (AB h0) (eE)) ?_
 refine .ghs (fr 46 [(1,pt 1 0),(5,(zB (nt b0)))]) (hT 2 [(oC [zI x0,(Sl.v 2 s0)])]) (.k0 [false] [.tmp 1 false] [1,5]) ?_
 replace hm:=Ag hm;rcases hm with⟨h1,hm⟩ | ⟨h1,hm⟩
 ·refine C8 (nt b0) h1 ?_
  refine .then (.rK (.ghs (fr 46 [(2,(zI (1:Int)))]) Bq (.k0 [false] [] [2]) ?_))
  refine .ret ?_
  exact Bp (zI (1:Int)) hm
 ·refine Dn (nt b0) h1 ?_
  refine .then (.rK (.ghs (fr 46 [(1,pt 1 0),(10,(zB (AY (24:Int) (Int.ofNat (Sl.n s0)))))]) (hT 2 [(oC [zI x0,(Sl.v 2 s0)])]) (.k0 [false] [.tmp 1 false] [1,10]) ?_))
  replace hm:=Ag hm;rcases hm with⟨h2,hm⟩ | ⟨h2,hm⟩
  ·refine C8 (AY (24:Int) (Int.ofNat (Sl.n s0))) h2 ?_
   refine .then (.rK (.ghs (fr 46 [(2,(zI (3:Int)))]) Bq (.k0 [false] [] [2]) ?_))
   refine .ret ?_
   exact Bp (zI (3:Int)) hm
  ·refine Dn (AY (24:Int) (Int.ofNat (Sl.n s0))) h2 ?_
   refine .skip (.ghs (fr 46 [(1,pt 1 0)]) (hT 2 [(oC [zI x0,(Sl.v 2 s0)])]) (.k0 [false] [.tmp 1 false] [1]) ?_)
   refine .join (v:=v) (fun y:Unit=>((fr 46 []),Bq)) (fun y=>OA pu n) ?_ ?_
   ·rintro _ hm
    exact YB pu n hm
   ·refine .then (.rK (.ghs (fr 46 [(1,pt 1 0),(16,(Sl.v 2 s0)),(17,(zI (Int.ofNat (Sl.n s0)))),(18,(zI (0:Int)))]) (hT 2 [(oC [zI x0,(Sl.v 2 s0)])]) (.k0 [false] [.tmp 1 false] [1,16,17,18]) ?_))
    refine .block (.loopM (v:=v) (fun y:Sl×Int×Int×Int×Sl=>((fr 46 [(1,pt 1 0),(16,(Sl.v 2 y.1)),(17,(zI y.2.1)),(18,(zI y.2.2.1))]),(hT 2 [(oC [(zI y.2.2.2.1),(Sl.v 2 y.2.2.2.2)])]))) (fun w y=>HY pu n w y.1 y.2.1 y.2.2.1 y.2.2.2.1 y.2.2.2.2) n ⟨(s0,(Int.ofNat (Sl.n s0)),(0:Int),x0,s0),hm,(.k0 [false] [.tmp 1 false] [1,16,17,18])⟩ (fun _=>rfl) ?_)
    rintro w0 ⟨s1,z0,z1,z2,s2⟩ hm
    replace hm:LM pu n (HY pu n w0) s1 z0 z1 z2 s2=some v:=hm
    unfold LM at hm
    refine .then (.rK (.ghs (fr 46 [(1,pt 1 0),(16,(Sl.v 2 s1)),(17,zI z0),(18,zI z1),(19,(zB (AY z1 z0)))]) (hT 2 [(oC [zI z2,(Sl.v 2 s2)])]) (.k0 [false] [.tmp 1 false] [1,16,17,18,19]) ?_))
    refine .then ?_
    replace hm:=Ag hm;rcases hm with⟨h3,hm⟩ | ⟨h3,hm⟩
    ·refine C8 (AY z1 z0) h3 ?_
     refine .skip (.ghs (fr 46 [(1,pt 1 0),(16,(Sl.v 2 s1)),(17,zI z0),(18,zI z1)]) (hT 2 [(oC [zI z2,(Sl.v 2 s2)])]) (.k0 [false] [.tmp 1 false] [1,16,17,18]) ?_)
     refine .then (.block (.then ?_))
     replace hm:=Ab hm;obtain⟨k1,h4,hm⟩:=hm
     obtain rfl:=AR h4
     replace hm:=Ae hm;obtain⟨h5,hm⟩:=hm
     replace hm:=Ae hm;obtain⟨h6,hm⟩:=hm
     replace hm:=Jg hm;obtain⟨x1,h7,hm⟩:=hm
     replace hm:=Jg hm;obtain⟨x2,h8,hm⟩:=hm
     refine .reg (eD (keep (hT 2 [(oC [zI z2,(Sl.v 2 s2)])]) (bb (an (Nat.blt k1 (Sl.n s1)) true) (some (Cv (k1*2) (Sl.cs s1))) none)) (AX h5) (eD (keep (hT 2 [(oC [zI z2,(Sl.v 2 s2)])]) (bb (Nat.ble ((k1*2)+2) (len (Sl.cs s1))) (some (.agg ⟨Aq 2 (Am (k1*2) (Sl.cs s1))⟩)) none)) (Pd h6 (Ca h7 (Ca h8 rfl))) (eE))) ?_
     refine .ghs (fr 46 [(1,pt 1 0),(4,(pt 2 0)),(16,(Sl.v 2 s1)),(17,zI z0),(18,(zI (Int.ofNat k1)))]) (hT 3 [(oC [zI z2,(Sl.v 2 s2)]),(oC [zI x1,zI x2])]) (.k0 [false] [.tmp 1 false,.tmp 4 false] [1,4,16,17,18]) ?_
     refine .block (.join (v:=v) (fun y:Sl×Int×Int×Bool×Int×Sl×Int×Int=>((fr 46 [(1,pt 1 0),(4,(pt 2 0)),(16,(Sl.v 2 y.1)),(17,(zI y.2.1)),(18,(zI y.2.2.1)),(22,(zB y.2.2.2.1))]),(hT 3 [(oC [(zI y.2.2.2.2.1),(Sl.v 2 y.2.2.2.2.2.1)]),(oC [(zI y.2.2.2.2.2.2.1),(zI y.2.2.2.2.2.2.2)])]))) (fun y=>LK pu n (HY pu n w0) y.1 y.2.1 y.2.2.1 y.2.2.2.1 y.2.2.2.2.1 y.2.2.2.2.2.1 y.2.2.2.2.2.2.1 y.2.2.2.2.2.2.2) ?_ ?_)
     ·rintro⟨s3,z3,z4,b1,z5,s4,z6,z7⟩ hm
      unfold LK at hm
      replace hm:=Ag hm;rcases hm with⟨h9,hm⟩ | ⟨h9,hm⟩
      ·refine .ifT b1 (by kernel_rfl) h9 ?_
       refine .then (.rK (.ghs (fr 46 [(2,(zI (2:Int)))]) Bq (.k0 [false] [] [2]) ?_))
       refine .ret ?_
       exact Bp (zI (2:Int)) hm
      ·refine .ifF b1 (by kernel_rfl) h9 ?_
       refine .then (.rK (.ghs (fr 46 [(1,pt 1 0),(16,(Sl.v 2 s3)),(17,zI z3),(18,zI z4),(39,(zB (nt (AY z6 z7))))]) (hT 2 [(oC [zI z5,(Sl.v 2 s4)])]) (.k0 [false] [.tmp 1 false] [1,16,17,18,39]) ?_))
       replace hm:=Ag hm;rcases hm with⟨h10,hm⟩ | ⟨h10,hm⟩
       ·refine C8 (nt (AY z6 z7)) h10 ?_
        refine .then (.rK (.ghs (fr 46 [(2,(zI (7:Int)))]) Bq (.k0 [false] [] [2]) ?_))
        refine .ret ?_
        exact Bp (zI (7:Int)) hm
       ·refine Dn (nt (AY z6 z7)) h10 ?_
        refine .skip (.ghs (fr 46 [(1,pt 1 0),(16,(Sl.v 2 s3)),(17,zI z3),(18,zI z4)]) (hT 2 [(oC [zI z5,(Sl.v 2 s4)])]) (.k0 [false] [.tmp 1 false] [1,16,17,18]) ?_)
        refine .rK ?_
        exact⟨(s3,z3,(Aj .i64 (Int.add z4 (1:Int))),z5,s4),hm,(.k0 [false] [.tmp 1 false] [1,16,17,18])⟩
     ·replace hm:=Ag hm;rcases hm with⟨h11,hm⟩ | ⟨h11,hm⟩
      ·refine .reg (eC 5 (some ((zB (AY (bb (AY x2 x1) x2 x1) (0:Int))),(hT 3 [(oC [zI z2,(Sl.v 2 s2)]),(oC [zI x1,zI x2])]))) (show _=some ((zB true),_) from (by rw[show (AY (bb (AY x2 x1) x2 x1) (0:Int))=true from h11])) (eE)) ?_
       exact⟨(s1,z0,(Int.ofNat k1),true,z2,s2,x1,x2),hm,(.k0 [false] [.tmp 1 false,.tmp 4 false] [1,4,16,17,18,22])⟩
      ·refine .reg (eC 5 (some ((zB (AY (bb (AY x2 x1) x2 x1) (0:Int))),(hT 3 [(oC [zI z2,(Sl.v 2 s2)]),(oC [zI x1,zI x2])]))) (show _=some ((zB false),_) from (by rw[show (AY (bb (AY x2 x1) x2 x1) (0:Int))=false from h11])) (eE)) ?_
       exact⟨(s1,z0,(Int.ofNat k1),(nt (AY (bb (AY x1 x2) x2 x1) z2)),z2,s2,x1,x2),hm,(.k0 [false] [.tmp 1 false,.tmp 4 false] [1,4,16,17,18,22])⟩
    ·refine Dn (AY z1 z0) h3 ?_
     refine .exit ?_
     exact⟨(),hm,(.k0 [false] [] [])⟩
end
end Go.TbGM
