/- Made from wip. -/
import Derived.Test.YtokbaaeimejjlaaGreatDoorBkVMod1x

set_option maxRecDepth 100000
set_option maxHeartbeats 20000000
set_option linter.unusedVariables false
namespace Go.BkVM
open Go.Sp Go.BkV
noncomputable section
def Yb (pu:Af) (n:Nat):OV:=
 (some (.int .i64 (0:Int)))
def fK (pu:Af) (n:Nat) (ih0:Int→Int→Int→Int→Sl→OV) (z0 z1 z2 z3:Int) (s0:Sl):OV:=
 (ih0 (Aj .i64 (Int.add z0 (1:Int))) z1 z2 z3 s0)
def fM (pu:Af) (n:Nat) (ih0:Int→Int→Int→Int→Sl→OV) (ih1:Int→Int→Int→Int→Int→Sl→OV) (z0 z1 z2 z3 z4:Int) (s0:Sl):OV:=
 (bb (AY z1 (Int.ofNat (Sl.n s0))) (oo (EA z0) none fun k1=>(bb (an (Nat.blt k1 (Sl.n s0)) true) (oo (AL (Sl.cs s0) (k1*1)) none fun v0=>(oo (Bi .i64 v0) none fun x0=>(oo (EA z1) none fun k2=>(bb (an (Nat.blt k2 (Sl.n s0)) true) (oo (AL (Sl.cs s0) (k2*1)) none fun v1=>(oo (Bi .i64 v1) none fun x1=>(oo (pu 34 [.int .i64 x0,.int .i64 x1]) none fun v2=>(oo (CQ v2) none fun l0=>(ll l0 none fun v3 l0=>(ll l0 none fun v4 l0=>(ll l0 (oo (Bi .i64 v3) none fun x2=>(oo (Bi .i64 v4) none fun x3=>(oo (pu 47 [Sl.v 1 s0,.int .i64 x2]) none fun v5=>(oo (Bf v5) none fun b0=>(bb (nt b0) (some (.int .i64 (21:Int))) (ih1 (Int.ofNat k1) (Aj .i64 (Int.add (Int.ofNat k2) (1:Int))) z2 z3 z4 s0)))))) fun _ _=>none))))))) none)))) none)) (fK pu n ih0 z0 z2 z3 z4 s0))
def fO (pu:Af) (n:Nat) (ih0:Int→Int→Int→Int→Sl→OV) (w:Nat):Int→Int→Int→Int→Int→Sl→OV:=
 Nat.rec (motive:=fun _=>Int→Int→Int→Int→Int→Sl→OV) (fun _ _ _ _ _ _=>none) (fun _ ih1=>fM pu n ih0 ih1) w
def fP (pu:Af) (n:Nat) (ih0:Int→Int→Int→Int→Sl→OV) (z0 z1 z2 z3:Int) (s0:Sl):OV:=
 (bb (AY z0 (Int.ofNat (Sl.n s0))) (fO pu n ih0 n z0 (0:Int) z1 z2 z3 s0) (Yb pu n))
def Qp (pu:Af) (n w:Nat):Int→Int→Int→Int→Sl→OV:=
 Nat.rec (motive:=fun _=>Int→Int→Int→Int→Sl→OV) (fun _ _ _ _ _=>none) (fun _ ih0=>fP pu n ih0) w
def Yc (pu:Af) (n:Nat) (z0 z1 z2:Int) (s0:Sl):OV:=
 (oo (pu 47 [Sl.v 1 s0,(.int .i64 (0:Int))]) none fun v0=>(oo (Bf v0) none fun b0=>(bb (nt b0) (some (.int .i64 (21:Int))) (Qp pu n n (0:Int) z0 z1 z2 s0))))
def OW (pu:Af) (n:Nat) (ih0:Int→Int→Int→Int→Sl→OV) (z0:Int) (b0:Bool) (z1 z2 z3:Int) (s0:Sl):OV:=
 (bb b0 (some (.int .i64 (7:Int))) (ih0 (Aj .i64 (Int.add z0 (1:Int))) z1 z2 z3 s0))
def Jj (pu:Af) (n:Nat) (ih0:Int→Int→Int→Int→Sl→OV) (z0 z1:Int) (b0:Bool) (z2 z3 z4:Int) (s0:Sl):OV:=
 (bb b0 (some (.int .i64 (8:Int))) (bb (AY (0:Int) z0) (oo (EA (Aj .i64 (Int.sub z0 (1:Int)))) none fun k1=>(bb (an (Nat.blt k1 (Sl.n s0)) true) (oo (AL (Sl.cs s0) (k1*1)) none fun v0=>(oo (Bi .i64 v0) none fun x0=>(OW pu n ih0 z0 (nt (AY x0 z1)) z2 z3 z4 s0))) none)) (OW pu n ih0 z0 false z2 z3 z4 s0)))
def VY (pu:Af) (n:Nat) (ih0:Int→Int→Int→Int→Sl→OV) (z0 z1 z2 z3:Int) (s0:Sl):OV:=
 (bb (AY z0 (Int.ofNat (Sl.n s0))) (oo (EA z0) none fun k1=>(bb (an (Nat.blt k1 (Sl.n s0)) true) (oo (AL (Sl.cs s0) (k1*1)) none fun v0=>(oo (Bi .i64 v0) none fun x0=>(oo (pu 62 [.int .i64 x0,(.int .i64 (0:Int)),(.int .i64 (7:Int))]) none fun v1=>(oo (Bf v1) none fun b0=>(bb (nt b0) (some (.int .i64 (2:Int))) (bb (nt (Bd z1 z2)) (bb (Bd x0 (1:Int)) (Jj pu n ih0 (Int.ofNat k1) x0 true z1 z2 z3 s0) (bb (Bd x0 (3:Int)) (Jj pu n ih0 (Int.ofNat k1) x0 true z1 z2 z3 s0) (Jj pu n ih0 (Int.ofNat k1) x0 (AY (5:Int) x0) z1 z2 z3 s0))) (Jj pu n ih0 (Int.ofNat k1) x0 false z1 z2 z3 s0))))))) none)) (Yc pu n z1 z2 z3 s0))
def Gv (pu:Af) (n w:Nat):Int→Int→Int→Int→Sl→OV:=
 Nat.rec (motive:=fun _=>Int→Int→Int→Int→Sl→OV) (fun _ _ _ _ _=>none) (fun _ ih0=>VY pu n ih0) w
def Kg (pu:Af) (n:Nat) (b0:Bool) (z0 z1 z2:Int) (s0:Sl):OV:=
 (bb b0 (some (.int .i64 (1:Int))) (Gv pu n n (0:Int) z0 z1 z2 s0))
def Af9 (pu:Af) (n:Nat) (x0 x1 x2:Int) (s0:Sl):OV:=
 (oo (pu 62 [.int .i64 x0,(.int .i64 (1:Int)),(.int .i64 (4:Int))]) none fun v0=>(oo (Bf v0) none fun b0=>(bb (nt b0) (Kg pu n true x0 x1 x2 s0) (oo (pu 62 [.int .i64 x1,(.int .i64 (1:Int)),(.int .i64 (4:Int))]) none fun v1=>(oo (Bf v1) none fun b1=>(bb (nt b1) (Kg pu n true x0 x1 x2 s0) (oo (pu 62 [.int .i64 x2,(.int .i64 (1:Int)),(.int .i64 (4:Int))]) none fun v2=>(oo (Bf v2) none fun b2=>(Kg pu n (nt b2) x0 x1 x2 s0)))))))))
def m36 (pu:Af) (n:Nat) (args:LV):OV:=
 (ll args none fun a0 args=>(ll args (oo (Bt a0) none fun l0=>(ll l0 none fun v0 l0=>(ll l0 none fun v1 l0=>(ll l0 none fun v2 l0=>(ll l0 none fun v3 l0=>(ll l0 (oo (Bi .i64 v0) none fun x0=>(oo (Bi .i64 v1) none fun x1=>(oo (Bi .i64 v2) none fun x2=>(oo (Bj 1 v3) none fun s0=>(Af9 pu n x0 x1 x2 s0))))) fun _ _=>none)))))) fun _ _=>none))
theorem Agb (pu:Af) (n:Nat) {v:Value} (hm:Yb pu n=some v):BN tt (Bb tabs isP pu (inl pu)) 1 dS (fr 106 []) AO (Fin tt 1 [.tmp 2] v):=by
 unfold Yb at hm
 refine .then (.rK (.ghs (fr 106 [(2,(zI (0:Int)))]) AO (.k0 [false] [] [2]) ?_))
 refine .ret ?_
 exact A7 (zI (0:Int)) hm
theorem Agc (pu:Af) (n:Nat) (z0 z1 z2:Int) (s0:Sl) {v:Value} (hm:Yc pu n z0 z1 z2 s0=some v):BN tt (Bb tabs isP pu (inl pu)) 1 dU (fr 106 [(1,pt 1 0)]) (hT 2 [(oC [zI z0,zI z1,zI z2,Sl.v 1 s0])]) (Fin tt 1 [.tmp 2] v):=by
 unfold Yc at hm
 refine .then (.then ?_)
 replace hm:=OT hm;obtain⟨b0,h0,hm⟩:=hm
 refine .reg (eC 2 ((oo (pu 47 [Sl.v 1 s0,(zI (0:Int))]) none fun v=>some (v,(hT 2 [(oC [zI z0,zI z1,zI z2,Sl.v 1 s0])])))) (AB h0) (eE)) ?_
 refine .ghs (fr 106 [(1,pt 1 0),(72,(zB (nt b0)))]) (hT 2 [(oC [zI z0,zI z1,zI z2,Sl.v 1 s0])]) (.k0 [false] [.tmp 1 false] [1,72]) ?_
 replace hm:=Ag hm;rcases hm with⟨h1,hm⟩ | ⟨h1,hm⟩
 ·refine Bq (nt b0) h1 ?_
  refine .then (.rK (.ghs (fr 106 [(2,(zI (21:Int)))]) AO (.k0 [false] [] [2]) ?_))
  refine .ret ?_
  exact A7 (zI (21:Int)) hm
 ·refine BB (nt b0) h1 ?_
  refine .skip (.ghs (fr 106 [(1,pt 1 0)]) (hT 2 [(oC [zI z0,zI z1,zI z2,Sl.v 1 s0])]) (.k0 [false] [.tmp 1 false] [1]) ?_)
  refine .join (v:=v) (fun y:Unit=>((fr 106 []),AO)) (fun y=>Yb pu n) ?_ ?_
  ·rintro _ hm
   exact Agb pu n hm
  ·refine .then (.rK (.ghs (fr 106 [(1,pt 1 0),(5,(zI (0:Int)))]) (hT 2 [(oC [zI z0,zI z1,zI z2,Sl.v 1 s0])]) (.k0 [false] [.tmp 1 false] [1,5]) ?_))
   refine .block (.loopM (v:=v) (fun y:Int×Int×Int×Int×Sl=>((fr 106 [(1,pt 1 0),(5,(zI y.1))]),(hT 2 [(oC [(zI y.2.1),(zI y.2.2.1),(zI y.2.2.2.1),(Sl.v 1 y.2.2.2.2)])]))) (fun w y=>Qp pu n w y.1 y.2.1 y.2.2.1 y.2.2.2.1 y.2.2.2.2) n ⟨((0:Int),z0,z1,z2,s0),hm,(.k0 [false] [.tmp 1 false] [1,5])⟩ (fun _=>rfl) ?_)
   rintro w0 ⟨z3,z4,z5,z6,s1⟩ hm
   replace hm:fP pu n (Qp pu n w0) z3 z4 z5 z6 s1=some v:=hm
   unfold fP at hm
   refine .then (.then (.rK (.ghs (fr 106 [(1,pt 1 0),(5,zI z3),(77,(zB (AY z3 (Int.ofNat (Sl.n s1)))))]) (hT 2 [(oC [zI z4,zI z5,zI z6,Sl.v 1 s1])]) (.k0 [false] [.tmp 1 false] [1,5,77]) ?_)))
   replace hm:=Ag hm;rcases hm with⟨h2,hm⟩ | ⟨h2,hm⟩
   ·refine Bq (AY z3 (Int.ofNat (Sl.n s1))) h2 ?_
    refine .skip (.ghs (fr 106 [(1,pt 1 0),(5,zI z3)]) (hT 2 [(oC [zI z4,zI z5,zI z6,Sl.v 1 s1])]) (.k0 [false] [.tmp 1 false] [1,5]) ?_)
    refine .join (v:=v) (fun y:Int×Int×Int×Int×Sl=>((fr 106 [(1,pt 1 0),(5,(zI y.1))]),(hT 2 [(oC [(zI y.2.1),(zI y.2.2.1),(zI y.2.2.2.1),(Sl.v 1 y.2.2.2.2)])]))) (fun y=>fK pu n (Qp pu n w0) y.1 y.2.1 y.2.2.1 y.2.2.2.1 y.2.2.2.2) ?_ ?_
    ·rintro⟨z7,z8,z9,z10,s2⟩ hm
     unfold fK at hm
     refine .rK ?_
     exact⟨((Aj .i64 (Int.add z7 (1:Int))),z8,z9,z10,s2),hm,(.k0 [false] [.tmp 1 false] [1,5])⟩
    ·refine .block (.then (.rK (.ghs (fr 106 [(1,pt 1 0),(5,zI z3),(6,(zI (0:Int)))]) (hT 2 [(oC [zI z4,zI z5,zI z6,Sl.v 1 s1])]) (.k0 [false] [.tmp 1 false] [1,5,6]) ?_)))
     refine .block (.loopM (v:=v) (fun y:Int×Int×Int×Int×Int×Sl=>((fr 106 [(1,pt 1 0),(5,(zI y.1)),(6,(zI y.2.1))]),(hT 2 [(oC [(zI y.2.2.1),(zI y.2.2.2.1),(zI y.2.2.2.2.1),(Sl.v 1 y.2.2.2.2.2)])]))) (fun w y=>fO pu n (Qp pu n w0) w y.1 y.2.1 y.2.2.1 y.2.2.2.1 y.2.2.2.2.1 y.2.2.2.2.2) n ⟨(z3,(0:Int),z4,z5,z6,s1),hm,(.k0 [false] [.tmp 1 false] [1,5,6])⟩ (fun _=>rfl) ?_)
     rintro w1 ⟨z11,z12,z13,z14,z15,s3⟩ hm
     replace hm:fM pu n (Qp pu n w0) (fO pu n (Qp pu n w0) w1) z11 z12 z13 z14 z15 s3=some v:=hm
     unfold fM at hm
     refine .then (.then (.rK (.ghs (fr 106 [(1,pt 1 0),(5,zI z11),(6,zI z12),(84,(zB (AY z12 (Int.ofNat (Sl.n s3)))))]) (hT 2 [(oC [zI z13,zI z14,zI z15,Sl.v 1 s3])]) (.k0 [false] [.tmp 1 false] [1,5,6,84]) ?_)))
     replace hm:=Ag hm;rcases hm with⟨h3,hm⟩ | ⟨h3,hm⟩
     ·refine Bq (AY z12 (Int.ofNat (Sl.n s3))) h3 ?_
      refine .skip (.ghs (fr 106 [(1,pt 1 0),(5,zI z11),(6,zI z12)]) (hT 2 [(oC [zI z13,zI z14,zI z15,Sl.v 1 s3])]) (.k0 [false] [.tmp 1 false] [1,5,6]) ?_)
      refine .then (.block (.then ?_))
      replace hm:=Ab hm;obtain⟨k1,h4,hm⟩:=hm
      obtain rfl:=AR h4
      replace hm:=Ae hm;obtain⟨h5,hm⟩:=hm
      replace hm:=Gt hm;obtain⟨x0,h6,hm⟩:=hm
      replace hm:=Ab hm;obtain⟨k2,h7,hm⟩:=hm
      obtain rfl:=AR h7
      replace hm:=Ae hm;obtain⟨h8,hm⟩:=hm
      replace hm:=Gt hm;obtain⟨x1,h9,hm⟩:=hm
      replace hm:=Ab hm;obtain⟨v0,h10,hm⟩:=hm
      replace hm:=Ch hm;obtain⟨l0,rfl,hm⟩:=hm
      replace hm:=Ad hm;obtain⟨v1,l4952_0,rfl,hm⟩:=hm
      replace hm:=Ad hm;obtain⟨v2,l4952_1,rfl,hm⟩:=hm
      replace hm:=AC hm;obtain⟨rfl,hm⟩:=hm
      replace hm:=Ai hm;obtain⟨x2,rfl,hm⟩:=hm
      replace hm:=Ai hm;obtain⟨x3,rfl,hm⟩:=hm
      refine .reg (eC 3 (keep (hT 2 [(oC [zI z13,zI z14,zI z15,Sl.v 1 s3])]) (bb (an (Nat.blt k1 (Sl.n s3)) true) (some (Cv (k1*1) (Sl.cs s3))) none)) (AX h5) (eD (keep (hT 2 [(oC [zI z13,zI z14,zI z15,Sl.v 1 s3])]) (AL (Sl.cs s3) (k1*1))) (AZ h6) (eC 3 (keep (hT 2 [(oC [zI z13,zI z14,zI z15,Sl.v 1 s3])]) (bb (an (Nat.blt k2 (Sl.n s3)) true) (some (Cv (k2*1) (Sl.cs s3))) none)) (AX h8) (eD (keep (hT 2 [(oC [zI z13,zI z14,zI z15,Sl.v 1 s3])]) (AL (Sl.cs s3) (k2*1))) (AZ h9) (eD ((oo (pu 34 [zI x0,zI x1]) none fun v=>some (v,(hT 2 [(oC [zI z13,zI z14,zI z15,Sl.v 1 s3])])))) (AB h10) (eE)))))) ?_
      refine .ghs (fr 106 [(1,pt 1 0),(5,(zI (Int.ofNat k1))),(6,(zI (Int.ofNat k2))),(7,zI x2)]) (hT 2 [(oC [zI z13,zI z14,zI z15,Sl.v 1 s3])]) (.k0 [false] [.tmp 1 false] [1,5,6,7]) ?_
      refine .then ?_
      replace hm:=OT hm;obtain⟨b1,h11,hm⟩:=hm
      refine .reg (eC 3 ((oo (pu 47 [Sl.v 1 s3,zI x2]) none fun v=>some (v,(hT 2 [(oC [zI z13,zI z14,zI z15,Sl.v 1 s3])])))) (AB h11) (eE)) ?_
      refine .ghs (fr 106 [(1,pt 1 0),(5,(zI (Int.ofNat k1))),(6,(zI (Int.ofNat k2))),(105,(zB (nt b1)))]) (hT 2 [(oC [zI z13,zI z14,zI z15,Sl.v 1 s3])]) (.k0 [false] [.tmp 1 false] [1,5,6,105]) ?_
      replace hm:=Ag hm;rcases hm with⟨h12,hm⟩ | ⟨h12,hm⟩
      ·refine Bq (nt b1) h12 ?_
       refine .then (.rK (.ghs (fr 106 [(2,(zI (21:Int)))]) AO (.k0 [false] [] [2]) ?_))
       refine .ret ?_
       exact A7 (zI (21:Int)) hm
      ·refine BB (nt b1) h12 ?_
       refine .skip (.ghs (fr 106 [(1,pt 1 0),(5,(zI (Int.ofNat k1))),(6,(zI (Int.ofNat k2)))]) (hT 2 [(oC [zI z13,zI z14,zI z15,Sl.v 1 s3])]) (.k0 [false] [.tmp 1 false] [1,5,6]) ?_)
       refine .rK ?_
       exact⟨((Int.ofNat k1),(Aj .i64 (Int.add (Int.ofNat k2) (1:Int))),z13,z14,z15,s3),hm,(.k0 [false] [.tmp 1 false] [1,5,6])⟩
     ·refine BB (AY z12 (Int.ofNat (Sl.n s3))) h3 ?_
      refine .exit ?_
      exact⟨(z11,z13,z14,z15,s3),hm,(.k0 [false] [.tmp 1 false] [1,5])⟩
   ·refine BB (AY z3 (Int.ofNat (Sl.n s1))) h2 ?_
    refine .exit ?_
    exact⟨(),hm,(.k0 [false] [] [])⟩
theorem r36 {call:A8} (pu:Af) (n:Nat) (hcall:call=Bb tabs isP pu (inl pu)) {args:LV} {v:Value} (hm:m36 pu n args=some v) (_:∀ x∈args,closed2 x=true):args.length≤106∧BN tt call 1 Uf (Fr.made 106 args) (Ao tabs) (Fin tt 1 [.tmp 2] v):=by
 subst hcall
 unfold m36 at hm
 replace hm:=Ad hm;obtain⟨a0,args_0,rfl,hm⟩:=hm
 replace hm:=AC hm;obtain⟨rfl,hm⟩:=hm
 replace hm:=BG hm;obtain⟨l0,rfl,hm⟩:=hm
 replace hm:=Ad hm;obtain⟨v0,l4051_0,rfl,hm⟩:=hm
 replace hm:=Ad hm;obtain⟨v1,l4051_1,rfl,hm⟩:=hm
 replace hm:=Ad hm;obtain⟨v2,l4051_2,rfl,hm⟩:=hm
 replace hm:=Ad hm;obtain⟨v3,l4051_3,rfl,hm⟩:=hm
 replace hm:=AC hm;obtain⟨rfl,hm⟩:=hm
 replace hm:=Ai hm;obtain⟨x0,rfl,hm⟩:=hm
 replace hm:=Ai hm;obtain⟨x1,rfl,hm⟩:=hm
 replace hm:=Ai hm;obtain⟨x2,rfl,hm⟩:=hm
 replace hm:=Al hm;obtain⟨s0,rfl,hm⟩:=hm
 unfold Af9 at hm
 refine⟨by simp,?_⟩
 refine .same (F':=(fr 106 [(0,(.agg ⟨[zI x0,zI x1,zI x2,Sl.v 1 s0]⟩))])) (H':=AO) (by kernel_rfl) (by kernel_rfl) ?_
 refine .then (.rK (.ghs (fr 106 [(1,pt 1 0)]) (hT 2 [(oC [zI x0,zI x1,zI x2,Sl.v 1 s0])]) (.k0 [false] [.tmp 1 false] [1]) ?_))
 refine .then (.join (v:=v) (fun y:Bool×Int×Int×Int×Sl=>((fr 106 [(1,pt 1 0),(24,(zB y.1))]),(hT 2 [(oC [(zI y.2.1),(zI y.2.2.1),(zI y.2.2.2.1),(Sl.v 1 y.2.2.2.2)])]))) (fun y=>Kg pu n y.1 y.2.1 y.2.2.1 y.2.2.2.1 y.2.2.2.2) ?_ ?_)
 ·rintro⟨b0,z0,z1,z2,s1⟩ hm
  unfold Kg at hm
  replace hm:=Ag hm;rcases hm with⟨h0,hm⟩ | ⟨h0,hm⟩
  ·refine .ifT b0 (by kernel_rfl) h0 ?_
   refine .then (.rK (.ghs (fr 106 [(2,(zI (1:Int)))]) AO (.k0 [false] [] [2]) ?_))
   refine .ret ?_
   exact A7 (zI (1:Int)) hm
  ·refine .ifF b0 (by kernel_rfl) h0 ?_
   refine .skip (.ghs (fr 106 [(1,pt 1 0)]) (hT 2 [(oC [zI z0,zI z1,zI z2,Sl.v 1 s1])]) (.k0 [false] [.tmp 1 false] [1]) ?_)
   refine .join (v:=v) (fun y:Int×Int×Int×Sl=>((fr 106 [(1,pt 1 0)]),(hT 2 [(oC [(zI y.1),(zI y.2.1),(zI y.2.2.1),(Sl.v 1 y.2.2.2)])]))) (fun y=>Yc pu n y.1 y.2.1 y.2.2.1 y.2.2.2) ?_ ?_
   ·rintro⟨z3,z4,z5,s2⟩ hm
    exact Agc pu n z3 z4 z5 s2 hm
   ·refine .then (.rK (.ghs (fr 106 [(1,pt 1 0),(3,(zI (0:Int)))]) (hT 2 [(oC [zI z0,zI z1,zI z2,Sl.v 1 s1])]) (.k0 [false] [.tmp 1 false] [1,3]) ?_))
    refine .block (.loopM (v:=v) (fun y:Int×Int×Int×Int×Sl=>((fr 106 [(1,pt 1 0),(3,(zI y.1))]),(hT 2 [(oC [(zI y.2.1),(zI y.2.2.1),(zI y.2.2.2.1),(Sl.v 1 y.2.2.2.2)])]))) (fun w y=>Gv pu n w y.1 y.2.1 y.2.2.1 y.2.2.2.1 y.2.2.2.2) n ⟨((0:Int),z0,z1,z2,s1),hm,(.k0 [false] [.tmp 1 false] [1,3])⟩ (fun _=>rfl) ?_)
    rintro w0 ⟨z6,z7,z8,z9,s3⟩ hm
    replace hm:VY pu n (Gv pu n w0) z6 z7 z8 z9 s3=some v:=hm
    unfold VY at hm
    refine .then (.then (.rK (.ghs (fr 106 [(1,pt 1 0),(3,zI z6),(29,(zB (AY z6 (Int.ofNat (Sl.n s3)))))]) (hT 2 [(oC [zI z7,zI z8,zI z9,Sl.v 1 s3])]) (.k0 [false] [.tmp 1 false] [1,3,29]) ?_)))
    replace hm:=Ag hm;rcases hm with⟨h1,hm⟩ | ⟨h1,hm⟩
    ·refine Bq (AY z6 (Int.ofNat (Sl.n s3))) h1 ?_
     refine .skip (.ghs (fr 106 [(1,pt 1 0),(3,zI z6)]) (hT 2 [(oC [zI z7,zI z8,zI z9,Sl.v 1 s3])]) (.k0 [false] [.tmp 1 false] [1,3]) ?_)
     refine .then (.block (.then ?_))
     replace hm:=Ab hm;obtain⟨k1,h2,hm⟩:=hm
     obtain rfl:=AR h2
     replace hm:=Ae hm;obtain⟨h3,hm⟩:=hm
     replace hm:=Gt hm;obtain⟨x3,h4,hm⟩:=hm
     refine .reg (eC 3 (keep (hT 2 [(oC [zI z7,zI z8,zI z9,Sl.v 1 s3])]) (bb (an (Nat.blt k1 (Sl.n s3)) true) (some (Cv (k1*1) (Sl.cs s3))) none)) (AX h3) (eD (keep (hT 2 [(oC [zI z7,zI z8,zI z9,Sl.v 1 s3])]) (AL (Sl.cs s3) (k1*1))) (AZ h4) (eE))) ?_
     refine .ghs (fr 106 [(1,pt 1 0),(3,(zI (Int.ofNat k1))),(4,zI x3)]) (hT 2 [(oC [zI z7,zI z8,zI z9,Sl.v 1 s3])]) (.k0 [false] [.tmp 1 false] [1,3,4]) ?_
     refine .then (.then ?_)
     replace hm:=OT hm;obtain⟨b1,h5,hm⟩:=hm
     refine .reg (eC 1 ((oo (pu 62 [zI x3,(zI (0:Int)),(zI (7:Int))]) none fun v=>some (v,(hT 2 [(oC [zI z7,zI z8,zI z9,Sl.v 1 s3])])))) (AB h5) (eE)) ?_
     refine .ghs (fr 106 [(1,pt 1 0),(3,(zI (Int.ofNat k1))),(4,zI x3),(39,(zB (nt b1)))]) (hT 2 [(oC [zI z7,zI z8,zI z9,Sl.v 1 s3])]) (.k0 [false] [.tmp 1 false] [1,3,4,39]) ?_
     replace hm:=Ag hm;rcases hm with⟨h6,hm⟩ | ⟨h6,hm⟩
     ·refine Bq (nt b1) h6 ?_
      refine .then (.rK (.ghs (fr 106 [(2,(zI (2:Int)))]) AO (.k0 [false] [] [2]) ?_))
      refine .ret ?_
      exact A7 (zI (2:Int)) hm
     ·refine BB (nt b1) h6 ?_
      refine .skip (.ghs (fr 106 [(1,pt 1 0),(3,(zI (Int.ofNat k1))),(4,zI x3)]) (hT 2 [(oC [zI z7,zI z8,zI z9,Sl.v 1 s3])]) (.k0 [false] [.tmp 1 false] [1,3,4]) ?_)
      refine .then (.join (v:=v) (fun y:Int×Int×Bool×Int×Int×Int×Sl=>((fr 106 [(1,pt 1 0),(3,(zI y.1)),(4,(zI y.2.1)),(56,(zB y.2.2.1))]),(hT 2 [(oC [(zI y.2.2.2.1),(zI y.2.2.2.2.1),(zI y.2.2.2.2.2.1),(Sl.v 1 y.2.2.2.2.2.2)])]))) (fun y=>Jj pu n (Gv pu n w0) y.1 y.2.1 y.2.2.1 y.2.2.2.1 y.2.2.2.2.1 y.2.2.2.2.2.1 y.2.2.2.2.2.2) ?_ ?_)
      ·rintro⟨z10,z11,b2,z12,z13,z14,s4⟩ hm
       unfold Jj at hm
       replace hm:=Ag hm;rcases hm with⟨h7,hm⟩ | ⟨h7,hm⟩
       ·refine .ifT b2 (by kernel_rfl) h7 ?_
        refine .then (.rK (.ghs (fr 106 [(2,(zI (8:Int)))]) AO (.k0 [false] [] [2]) ?_))
        refine .ret ?_
        exact A7 (zI (8:Int)) hm
       ·refine .ifF b2 (by kernel_rfl) h7 ?_
        refine .skip (.ghs (fr 106 [(1,pt 1 0),(3,zI z10),(4,zI z11)]) (hT 2 [(oC [zI z12,zI z13,zI z14,Sl.v 1 s4])]) (.k0 [false] [.tmp 1 false] [1,3,4]) ?_)
        refine .join (v:=v) (fun y:Int×Bool×Int×Int×Int×Sl=>((fr 106 [(1,pt 1 0),(3,(zI y.1)),(68,(zB y.2.1))]),(hT 2 [(oC [(zI y.2.2.1),(zI y.2.2.2.1),(zI y.2.2.2.2.1),(Sl.v 1 y.2.2.2.2.2)])]))) (fun y=>OW pu n (Gv pu n w0) y.1 y.2.1 y.2.2.1 y.2.2.2.1 y.2.2.2.2.1 y.2.2.2.2.2) ?_ ?_
        ·rintro⟨z15,b3,z16,z17,z18,s5⟩ hm
         unfold OW at hm
         replace hm:=Ag hm;rcases hm with⟨h8,hm⟩ | ⟨h8,hm⟩
         ·refine .ifT b3 (by kernel_rfl) h8 ?_
          refine .then (.rK (.ghs (fr 106 [(2,(zI (7:Int)))]) AO (.k0 [false] [] [2]) ?_))
          refine .ret ?_
          exact A7 (zI (7:Int)) hm
         ·refine .ifF b3 (by kernel_rfl) h8 ?_
          refine .skip (.ghs (fr 106 [(1,pt 1 0),(3,zI z15)]) (hT 2 [(oC [zI z16,zI z17,zI z18,Sl.v 1 s5])]) (.k0 [false] [.tmp 1 false] [1,3]) ?_)
          refine .rK ?_
          exact⟨((Aj .i64 (Int.add z15 (1:Int))),z16,z17,z18,s5),hm,(.k0 [false] [.tmp 1 false] [1,3])⟩
        ·replace hm:=Ag hm;rcases hm with⟨h9,hm⟩ | ⟨h9,hm⟩
         ·replace hm:=Ab hm;obtain⟨k2,h10,hm⟩:=hm
          replace hm:=Ae hm;obtain⟨h11,hm⟩:=hm
          replace hm:=Gt hm;obtain⟨x4,h12,hm⟩:=hm
          refine .reg (eC 1 (some ((zB (AY (0:Int) z10)),(hT 2 [(oC [zI z12,zI z13,zI z14,Sl.v 1 s4])]))) (show _=some ((zB true),_) from (by rw[show (AY (0:Int) z10)=true from h9])) (eC 5 (some ((zI (Aj .i64 (Int.sub z10 (1:Int)))),(hT 2 [(oC [zI z12,zI z13,zI z14,Sl.v 1 s4])]))) (show _=some ((zI (Int.ofNat k2)),_) from (by rw[AR h10])) (eD (keep (hT 2 [(oC [zI z12,zI z13,zI z14,Sl.v 1 s4])]) (bb (an (Nat.blt k2 (Sl.n s4)) true) (some (Cv (k2*1) (Sl.cs s4))) none)) (AX h11) (eD (keep (hT 2 [(oC [zI z12,zI z13,zI z14,Sl.v 1 s4])]) (AL (Sl.cs s4) (k2*1))) (AZ h12) (eE))))) ?_
          exact⟨(z10,(nt (AY x4 z11)),z12,z13,z14,s4),hm,(.k0 [false] [.tmp 1 false] [1,3,68])⟩
         ·refine .reg (eC 1 (some ((zB (AY (0:Int) z10)),(hT 2 [(oC [zI z12,zI z13,zI z14,Sl.v 1 s4])]))) (show _=some ((zB false),_) from (by rw[show (AY (0:Int) z10)=false from h9])) (eE)) ?_
          exact⟨(z10,false,z12,z13,z14,s4),hm,(.k0 [false] [.tmp 1 false] [1,3,68])⟩
      ·replace hm:=Ag hm;rcases hm with⟨h13,hm⟩ | ⟨h13,hm⟩
       ·replace hm:=Ag hm;rcases hm with⟨h14,hm⟩ | ⟨h14,hm⟩
        ·refine .reg (eC 4 (some ((zB (nt (Bd z7 z8))),(hT 2 [(oC [zI z7,zI z8,zI z9,Sl.v 1 s3])]))) (show _=some ((zB true),_) from (by rw[show (nt (Bd z7 z8))=true from h13])) (eC 2 (some ((zB (Bd x3 (1:Int))),(hT 2 [(oC [zI z7,zI z8,zI z9,Sl.v 1 s3])]))) (show _=some ((zB true),_) from (by rw[show (Bd x3 (1:Int))=true from h14])) (eE))) ?_
         exact⟨((Int.ofNat k1),x3,true,z7,z8,z9,s3),hm,(.k0 [false] [.tmp 1 false] [1,3,4,56])⟩
        ·replace hm:=Ag hm;rcases hm with⟨h15,hm⟩ | ⟨h15,hm⟩
         ·refine .reg (eC 4 (some ((zB (nt (Bd z7 z8))),(hT 2 [(oC [zI z7,zI z8,zI z9,Sl.v 1 s3])]))) (show _=some ((zB true),_) from (by rw[show (nt (Bd z7 z8))=true from h13])) (eC 2 (some ((zB (Bd x3 (1:Int))),(hT 2 [(oC [zI z7,zI z8,zI z9,Sl.v 1 s3])]))) (show _=some ((zB false),_) from (by rw[show (Bd x3 (1:Int))=false from h14])) (eC 2 (some ((zB (Bd x3 (3:Int))),(hT 2 [(oC [zI z7,zI z8,zI z9,Sl.v 1 s3])]))) (show _=some ((zB true),_) from (by rw[show (Bd x3 (3:Int))=true from h15])) (eE)))) ?_
          exact⟨((Int.ofNat k1),x3,true,z7,z8,z9,s3),hm,(.k0 [false] [.tmp 1 false] [1,3,4,56])⟩
         ·refine .reg (eC 4 (some ((zB (nt (Bd z7 z8))),(hT 2 [(oC [zI z7,zI z8,zI z9,Sl.v 1 s3])]))) (show _=some ((zB true),_) from (by rw[show (nt (Bd z7 z8))=true from h13])) (eC 2 (some ((zB (Bd x3 (1:Int))),(hT 2 [(oC [zI z7,zI z8,zI z9,Sl.v 1 s3])]))) (show _=some ((zB false),_) from (by rw[show (Bd x3 (1:Int))=false from h14])) (eC 2 (some ((zB (Bd x3 (3:Int))),(hT 2 [(oC [zI z7,zI z8,zI z9,Sl.v 1 s3])]))) (show _=some ((zB false),_) from (by rw[show (Bd x3 (3:Int))=false from h15])) (eE)))) ?_
          exact⟨((Int.ofNat k1),x3,(AY (5:Int) x3),z7,z8,z9,s3),hm,(.k0 [false] [.tmp 1 false] [1,3,4,56])⟩
       ·refine .reg (eC 4 (some ((zB (nt (Bd z7 z8))),(hT 2 [(oC [zI z7,zI z8,zI z9,Sl.v 1 s3])]))) (show _=some ((zB false),_) from (by rw[show (nt (Bd z7 z8))=false from h13])) (eE)) ?_
        exact⟨((Int.ofNat k1),x3,false,z7,z8,z9,s3),hm,(.k0 [false] [.tmp 1 false] [1,3,4,56])⟩
    ·refine BB (AY z6 (Int.ofNat (Sl.n s3))) h1 ?_
     refine .exit ?_
     exact⟨(z7,z8,z9,s3),hm,(.k0 [false] [.tmp 1 false] [1])⟩
 ·replace hm:=OT hm;obtain⟨b4,h16,hm⟩:=hm
  replace hm:=Ag hm;rcases hm with⟨h17,hm⟩ | ⟨h17,hm⟩
  ·refine .reg (eC 2 ((oo (pu 62 [zI x0,(zI (1:Int)),(zI (4:Int))]) none fun v=>some (v,(hT 2 [(oC [zI x0,zI x1,zI x2,Sl.v 1 s0])])))) (AB h16) (eD (some ((zB (nt b4)),(hT 2 [(oC [zI x0,zI x1,zI x2,Sl.v 1 s0])]))) (show _=some ((zB true),_) from (by rw[show (nt b4)=true from h17])) (eE))) ?_
   exact⟨(true,x0,x1,x2,s0),hm,(.k0 [false] [.tmp 1 false] [1,24])⟩
  ·replace hm:=OT hm;obtain⟨b5,h18,hm⟩:=hm
   replace hm:=Ag hm;rcases hm with⟨h19,hm⟩ | ⟨h19,hm⟩
   ·refine .reg (eC 2 ((oo (pu 62 [zI x0,(zI (1:Int)),(zI (4:Int))]) none fun v=>some (v,(hT 2 [(oC [zI x0,zI x1,zI x2,Sl.v 1 s0])])))) (AB h16) (eD (some ((zB (nt b4)),(hT 2 [(oC [zI x0,zI x1,zI x2,Sl.v 1 s0])]))) (show _=some ((zB false),_) from (by rw[show (nt b4)=false from h17])) (eC 3 ((oo (pu 62 [zI x1,(zI (1:Int)),(zI (4:Int))]) none fun v=>some (v,(hT 2 [(oC [zI x0,zI x1,zI x2,Sl.v 1 s0])])))) (AB h18) (eD (some ((zB (nt b5)),(hT 2 [(oC [zI x0,zI x1,zI x2,Sl.v 1 s0])]))) (show _=some ((zB true),_) from (by rw[show (nt b5)=true from h19])) (eE))))) ?_
    exact⟨(true,x0,x1,x2,s0),hm,(.k0 [false] [.tmp 1 false] [1,24])⟩
   ·replace hm:=OT hm;obtain⟨b7,h20,hm⟩:=hm
    refine .reg (eC 2 ((oo (pu 62 [zI x0,(zI (1:Int)),(zI (4:Int))]) none fun v=>some (v,(hT 2 [(oC [zI x0,zI x1,zI x2,Sl.v 1 s0])])))) (AB h16) (eD (some ((zB (nt b4)),(hT 2 [(oC [zI x0,zI x1,zI x2,Sl.v 1 s0])]))) (show _=some ((zB false),_) from (by rw[show (nt b4)=false from h17])) (eC 3 ((oo (pu 62 [zI x1,(zI (1:Int)),(zI (4:Int))]) none fun v=>some (v,(hT 2 [(oC [zI x0,zI x1,zI x2,Sl.v 1 s0])])))) (AB h18) (eD (some ((zB (nt b5)),(hT 2 [(oC [zI x0,zI x1,zI x2,Sl.v 1 s0])]))) (show _=some ((zB false),_) from (by rw[show (nt b5)=false from h19])) (eC 4 ((oo (pu 62 [zI x2,(zI (1:Int)),(zI (4:Int))]) none fun v=>some (v,(hT 2 [(oC [zI x0,zI x1,zI x2,Sl.v 1 s0])])))) (AB h20) (eE)))))) ?_
    exact⟨((nt b7),x0,x1,x2,s0),hm,(.k0 [false] [.tmp 1 false] [1,24])⟩
def Yd (pu:Af) (n n0:Nat) (q0:LV):OV:=
 (some (.tuple ⟨[(Cv n0 q0),(.int .i64 (0:Int))]⟩))
def Qq (pu:Af) (n:Nat) (ih0:Nat→LV→Sl→Int→Int→OV) (n0:Nat) (q0:LV) (s0:Sl) (z0 z1:Int):OV:=
 (bb (AY z1 z0) (oo (EA z1) none fun k1=>(bb (an (Nat.blt k1 (Sl.n s0)) true) (oo (AL (Sl.cs s0) (k1*1)) none fun v0=>(oo (Bj 1 v0) none fun s1=>(oo (pu 80 [(Cv n0 q0),Sl.v 1 s1]) none fun v1=>(oo (Bi .i64 v1) none fun x0=>(bb (nt (Bd x0 (0:Int))) (some (.tuple ⟨[(.pointer none),.int .i64 x0]⟩)) (ih0 n0 q0 s0 z0 (Aj .i64 (Int.add (Int.ofNat k1) (1:Int))))))))) none)) (Yd pu n n0 q0))
def MR (pu:Af) (n w:Nat):Nat→LV→Sl→Int→Int→OV:=
 Nat.rec (motive:=fun _=>Nat→LV→Sl→Int→Int→OV) (fun _ _ _ _ _=>none) (fun _ ih0=>Qq pu n ih0) w
def Ye (pu:Af) (n:Nat):OV:=
 (some (.tuple ⟨[(.pointer none),(.int .i64 (0:Int))]⟩))
def fQ (pu:Af) (n:Nat) (ih0:Sl→Int→Int→OV) (s0:Sl) (z0 z1:Int):OV:=
 (bb (AY z1 z0) (oo (EA z1) none fun k1=>(bb (an (Nat.blt k1 (Sl.n s0)) true) (oo (AL (Sl.cs s0) (k1*1)) none fun v0=>(oo (Bj 1 v0) none fun s1=>(oo (pu 80 [(.pointer none),Sl.v 1 s1]) none fun v1=>(oo (Bi .i64 v1) none fun x0=>(bb (nt (Bd x0 (0:Int))) (some (.tuple ⟨[(.pointer none),.int .i64 x0]⟩)) (ih0 s0 z0 (Aj .i64 (Int.add (Int.ofNat k1) (1:Int))))))))) none)) (Ye pu n))
def Yf (pu:Af) (n w:Nat):Sl→Int→Int→OV:=
 Nat.rec (motive:=fun _=>Sl→Int→Int→OV) (fun _ _ _=>none) (fun _ ih0=>fQ pu n ih0) w
def Agd (pu:Af) (n:Nat) (x0 x1 x2:Int) (s0 s1:Sl):OV:=
 (oo (pu 55 [(.agg ⟨[.int .i64 x0,.int .i64 x1,.int .i64 x2,Sl.v 1 s0]⟩)]) none fun v0=>(oo (CQ v0) none fun l0=>(ll l0 none fun v1 l0=>(ll l0 none fun v2 l0=>(ll l0 (bb (isS (Pv v1)) (oo (Pv v1) none fun p0=>(oo (Bi .i64 v2) none fun x3=>(bb (nt (Bd x3 (0:Int))) (some (.tuple ⟨[(.pointer none),.int .i64 x3]⟩)) (MR pu n n (Db.off p0) (Db.cs p0) s1 (Int.ofNat (Sl.n s1)) (0:Int))))) (bb (WQ v1) (oo (Bi .i64 v2) none fun x4=>(bb (nt (Bd x4 (0:Int))) (some (.tuple ⟨[(.pointer none),.int .i64 x4]⟩)) (Yf pu n n s1 (Int.ofNat (Sl.n s1)) (0:Int)))) none)) fun _ _=>none)))))
def m43 (pu:Af) (n:Nat) (args:LV):OV:=
 (ll args none fun a0 args=>(ll args none fun a1 args=>(ll args (oo (Bt a0) none fun l0=>(ll l0 none fun v0 l0=>(ll l0 none fun v1 l0=>(ll l0 none fun v2 l0=>(ll l0 none fun v3 l0=>(ll l0 (oo (Bi .i64 v0) none fun x0=>(oo (Bi .i64 v1) none fun x1=>(oo (Bi .i64 v2) none fun x2=>(oo (Bj 1 v3) none fun s0=>(oo (Bj 1 a1) none fun s1=>(Agd pu n x0 x1 x2 s0 s1)))))) fun _ _=>none)))))) fun _ _=>none)))
theorem Agf (pu:Af) (n n0:Nat) (q0:LV) {v:Value} (hm:Yd pu n n0 q0=some v):BN tt (Bb tabs isP pu (inl pu)) 1 WV (fr 33 [(6,(Cv n0 q0))]) AO (Fin tt 1 [.tmp 4,.tmp 5] v):=by
 unfold Yd at hm
 refine .then (.rK (.ghs (fr 33 [(4,(Cv n0 q0)),(5,(zI (0:Int)))]) AO (.k0 [false] [] [4,5]) ?_))
 refine .ret ?_
 exact A7 (.tuple ⟨[(Cv n0 q0),(zI (0:Int))]⟩) hm
theorem Agg (pu:Af) (n:Nat) {v:Value} (hm:Ye pu n=some v):BN tt (Bb tabs isP pu (inl pu)) 1 WV (fr 33 [(6,(.pointer none))]) AO (Fin tt 1 [.tmp 4,.tmp 5] v):=by
 unfold Ye at hm
 refine .then (.rK (.ghs (fr 33 [(4,(.pointer none)),(5,(zI (0:Int)))]) AO (.k0 [false] [] [4,5]) ?_))
 refine .ret ?_
 exact A7 (.tuple ⟨[(.pointer none),(zI (0:Int))]⟩) hm
theorem r43 {call:A8} (pu:Af) (n:Nat) (hcall:call=Bb tabs isP pu (inl pu)) {args:LV} {v:Value} (hm:m43 pu n args=some v) (_:∀ x∈args,closed2 x=true):args.length≤33∧BN tt call 1 Ug (Fr.made 33 args) (Ao tabs) (Fin tt 1 [.tmp 4,.tmp 5] v):=by
 subst hcall
 unfold m43 at hm
 replace hm:=Ad hm;obtain⟨a0,args_0,rfl,hm⟩:=hm
 replace hm:=Ad hm;obtain⟨a1,args_1,rfl,hm⟩:=hm
 replace hm:=AC hm;obtain⟨rfl,hm⟩:=hm
 replace hm:=BG hm;obtain⟨l0,rfl,hm⟩:=hm
 replace hm:=Ad hm;obtain⟨v0,l5107_0,rfl,hm⟩:=hm
 replace hm:=Ad hm;obtain⟨v1,l5107_1,rfl,hm⟩:=hm
 replace hm:=Ad hm;obtain⟨v2,l5107_2,rfl,hm⟩:=hm
 replace hm:=Ad hm;obtain⟨v3,l5107_3,rfl,hm⟩:=hm
 replace hm:=AC hm;obtain⟨rfl,hm⟩:=hm
 replace hm:=Ai hm;obtain⟨x0,rfl,hm⟩:=hm
 replace hm:=Ai hm;obtain⟨x1,rfl,hm⟩:=hm
 replace hm:=Ai hm;obtain⟨x2,rfl,hm⟩:=hm
 replace hm:=Al hm;obtain⟨s0,rfl,hm⟩:=hm
 replace hm:=Al hm;obtain⟨s1,rfl,hm⟩:=hm
 unfold Agd at hm
 refine⟨by simp,?_⟩
 refine .same (F':=(fr 33 [(0,(.agg ⟨[zI x0,zI x1,zI x2,Sl.v 1 s0]⟩)),(1,Sl.v 1 s1)])) (H':=AO) (by kernel_rfl) (by kernel_rfl) ?_
 refine .then (.rK (.ghs (fr 33 [(1,Sl.v 1 s1),(2,pt 1 0)]) (hT 2 [(oC [zI x0,zI x1,zI x2,Sl.v 1 s0])]) (.k0 [false] [.tmp 2 false] [1,2]) ?_))
 refine .then ?_
 replace hm:=Ab hm;obtain⟨v4,h0,hm⟩:=hm
 replace hm:=Ch hm;obtain⟨l1,rfl,hm⟩:=hm
 replace hm:=Ad hm;obtain⟨v5,l5136_0,rfl,hm⟩:=hm
 replace hm:=Ad hm;obtain⟨v6,l5136_1,rfl,hm⟩:=hm
 replace hm:=AC hm;obtain⟨rfl,hm⟩:=hm
 replace hm:=Ag hm;rcases hm with⟨h1,hm⟩ | ⟨h1,hm⟩
 ·replace hm:=Ab hm;obtain⟨p0,h2,hm⟩:=hm
  obtain rfl:=F7 h2
  replace hm:=Ai hm;obtain⟨x3,rfl,hm⟩:=hm
  refine .reg (eC 1 ((oo (pu 55 [(.agg ⟨[zI x0,zI x1,zI x2,Sl.v 1 s0]⟩)]) none fun v=>some (v,(hT 2 [(oC [zI x0,zI x1,zI x2,Sl.v 1 s0])])))) (AB h0) (eE)) ?_
  refine .ghs (fr 33 [(1,Sl.v 1 s1),(6,(Cv (Db.off p0) (Db.cs p0))),(7,zI x3)]) AO (.k0 [false] [] [1,6,7]) ?_
  refine .then (.then (.rK (.ghs (fr 33 [(1,Sl.v 1 s1),(6,(Cv (Db.off p0) (Db.cs p0))),(7,zI x3),(17,(zB (nt (Bd x3 (0:Int)))))]) AO (.k0 [false] [] [1,6,7,17]) ?_)))
  replace hm:=Ag hm;rcases hm with⟨h3,hm⟩ | ⟨h3,hm⟩
  ·refine Bq (nt (Bd x3 (0:Int))) h3 ?_
   refine .then (.rK (.ghs (fr 33 [(4,(.pointer none)),(5,zI x3)]) AO (.k0 [false] [] [4,5]) ?_))
   refine .ret ?_
   exact A7 (.tuple ⟨[(.pointer none),zI x3]⟩) hm
  ·refine BB (nt (Bd x3 (0:Int))) h3 ?_
   refine .skip (.ghs (fr 33 [(1,Sl.v 1 s1),(6,(Cv (Db.off p0) (Db.cs p0)))]) AO (.k0 [false] [] [1,6]) ?_)
   refine .join (v:=v) (fun y:Nat×LV=>((fr 33 [(6,(Cv y.1 y.2))]),AO)) (fun y=>Yd pu n y.1 y.2) ?_ ?_
   ·rintro⟨n0,q0⟩ hm
    exact Agf pu n n0 q0 hm
   ·refine .then (.rK (.ghs (fr 33 [(6,(Cv (Db.off p0) (Db.cs p0))),(19,Sl.v 1 s1),(20,(zI (Int.ofNat (Sl.n s1)))),(21,(zI (0:Int)))]) AO (.k0 [false] [] [6,19,20,21]) ?_))
    refine .block (.loopM (v:=v) (fun y:Nat×LV×Sl×Int×Int=>((fr 33 [(6,(Cv y.1 y.2.1)),(19,(Sl.v 1 y.2.2.1)),(20,(zI y.2.2.2.1)),(21,(zI y.2.2.2.2))]),AO)) (fun w y=>MR pu n w y.1 y.2.1 y.2.2.1 y.2.2.2.1 y.2.2.2.2) n ⟨((Db.off p0),(Db.cs p0),s1,(Int.ofNat (Sl.n s1)),(0:Int)),hm,(.k0 [false] [] [6,19,20,21])⟩ (fun _=>rfl) ?_)
    rintro w0 ⟨n1,q1,s2,z0,z1⟩ hm
    replace hm:Qq pu n (MR pu n w0) n1 q1 s2 z0 z1=some v:=hm
    unfold Qq at hm
    refine .then (.rK (.ghs (fr 33 [(6,(Cv n1 q1)),(19,Sl.v 1 s2),(20,zI z0),(21,zI z1),(22,(zB (AY z1 z0)))]) AO (.k0 [false] [] [6,19,20,21,22]) ?_))
    refine .then ?_
    replace hm:=Ag hm;rcases hm with⟨h4,hm⟩ | ⟨h4,hm⟩
    ·refine Bq (AY z1 z0) h4 ?_
     refine .skip (.ghs (fr 33 [(6,(Cv n1 q1)),(19,Sl.v 1 s2),(20,zI z0),(21,zI z1)]) AO (.k0 [false] [] [6,19,20,21]) ?_)
     refine .then (.block (.then ?_))
     replace hm:=Ab hm;obtain⟨k1,h5,hm⟩:=hm
     obtain rfl:=AR h5
     replace hm:=Ae hm;obtain⟨h6,hm⟩:=hm
     replace hm:=fE hm;obtain⟨s3,h7,hm⟩:=hm
     refine .reg (eD (keep AO (bb (an (Nat.blt k1 (Sl.n s2)) true) (some (Cv (k1*1) (Sl.cs s2))) none)) (AX h6) (eD (keep AO (AL (Sl.cs s2) (k1*1))) (AZ h7) (eE))) ?_
     refine .ghs (fr 33 [(6,(Cv n1 q1)),(9,Sl.v 1 s3),(19,Sl.v 1 s2),(20,zI z0),(21,(zI (Int.ofNat k1)))]) AO (.k0 [false] [] [6,9,19,20,21]) ?_
     refine .then ?_
     replace hm:=Gt hm;obtain⟨x4,h8,hm⟩:=hm
     refine .reg (eC 2 ((oo (pu 80 [(Cv n1 q1),Sl.v 1 s3]) none fun v=>some (v,AO))) (AB h8) (eE)) ?_
     refine .ghs (fr 33 [(6,(Cv n1 q1)),(10,zI x4),(19,Sl.v 1 s2),(20,zI z0),(21,(zI (Int.ofNat k1)))]) AO (.k0 [false] [] [6,10,19,20,21]) ?_
     refine .then (.rK (.ghs (fr 33 [(6,(Cv n1 q1)),(10,zI x4),(19,Sl.v 1 s2),(20,zI z0),(21,(zI (Int.ofNat k1))),(29,(zB (nt (Bd x4 (0:Int)))))]) AO (.k0 [false] [] [6,10,19,20,21,29]) ?_))
     replace hm:=Ag hm;rcases hm with⟨h9,hm⟩ | ⟨h9,hm⟩
     ·refine Bq (nt (Bd x4 (0:Int))) h9 ?_
      refine .then (.rK (.ghs (fr 33 [(4,(.pointer none)),(5,zI x4)]) AO (.k0 [false] [] [4,5]) ?_))
      refine .ret ?_
      exact A7 (.tuple ⟨[(.pointer none),zI x4]⟩) hm
     ·refine BB (nt (Bd x4 (0:Int))) h9 ?_
      refine .skip (.ghs (fr 33 [(6,(Cv n1 q1)),(19,Sl.v 1 s2),(20,zI z0),(21,(zI (Int.ofNat k1)))]) AO (.k0 [false] [] [6,19,20,21]) ?_)
      refine .rK ?_
      exact⟨(n1,q1,s2,z0,(Aj .i64 (Int.add (Int.ofNat k1) (1:Int)))),hm,(.k0 [false] [] [6,19,20,21])⟩
    ·refine BB (AY z1 z0) h4 ?_
     refine .exit ?_
     exact⟨(n1,q1),hm,(.k0 [false] [] [6])⟩
 ·replace hm:=Ae hm;obtain⟨h10,hm⟩:=hm
  obtain rfl:=TY h10
  replace hm:=Ai hm;obtain⟨x5,rfl,hm⟩:=hm
  refine .reg (eC 1 ((oo (pu 55 [(.agg ⟨[zI x0,zI x1,zI x2,Sl.v 1 s0]⟩)]) none fun v=>some (v,(hT 2 [(oC [zI x0,zI x1,zI x2,Sl.v 1 s0])])))) (AB h0) (eE)) ?_
  refine .ghs (fr 33 [(1,Sl.v 1 s1),(6,(.pointer none)),(7,zI x5)]) AO (.k0 [false] [] [1,6,7]) ?_
  refine .then (.then (.rK (.ghs (fr 33 [(1,Sl.v 1 s1),(6,(.pointer none)),(7,zI x5),(17,(zB (nt (Bd x5 (0:Int)))))]) AO (.k0 [false] [] [1,6,7,17]) ?_)))
  replace hm:=Ag hm;rcases hm with⟨h11,hm⟩ | ⟨h11,hm⟩
  ·refine Bq (nt (Bd x5 (0:Int))) h11 ?_
   refine .then (.rK (.ghs (fr 33 [(4,(.pointer none)),(5,zI x5)]) AO (.k0 [false] [] [4,5]) ?_))
   refine .ret ?_
   exact A7 (.tuple ⟨[(.pointer none),zI x5]⟩) hm
  ·refine BB (nt (Bd x5 (0:Int))) h11 ?_
   refine .skip (.ghs (fr 33 [(1,Sl.v 1 s1),(6,(.pointer none))]) AO (.k0 [false] [] [1,6]) ?_)
   refine .join (v:=v) (fun y:Unit=>((fr 33 [(6,(.pointer none))]),AO)) (fun y=>Ye pu n) ?_ ?_
   ·rintro _ hm
    exact Agg pu n hm
   ·refine .then (.rK (.ghs (fr 33 [(6,(.pointer none)),(19,Sl.v 1 s1),(20,(zI (Int.ofNat (Sl.n s1)))),(21,(zI (0:Int)))]) AO (.k0 [false] [] [6,19,20,21]) ?_))
    refine .block (.loopM (v:=v) (fun y:Sl×Int×Int=>((fr 33 [(6,(.pointer none)),(19,(Sl.v 1 y.1)),(20,(zI y.2.1)),(21,(zI y.2.2))]),AO)) (fun w y=>Yf pu n w y.1 y.2.1 y.2.2) n ⟨(s1,(Int.ofNat (Sl.n s1)),(0:Int)),hm,(.k0 [false] [] [6,19,20,21])⟩ (fun _=>rfl) ?_)
    rintro w0 ⟨s4,z2,z3⟩ hm
    replace hm:fQ pu n (Yf pu n w0) s4 z2 z3=some v:=hm
    unfold fQ at hm
    refine .then (.rK (.ghs (fr 33 [(6,(.pointer none)),(19,Sl.v 1 s4),(20,zI z2),(21,zI z3),(22,(zB (AY z3 z2)))]) AO (.k0 [false] [] [6,19,20,21,22]) ?_))
    refine .then ?_
    replace hm:=Ag hm;rcases hm with⟨h12,hm⟩ | ⟨h12,hm⟩
    ·refine Bq (AY z3 z2) h12 ?_
     refine .skip (.ghs (fr 33 [(6,(.pointer none)),(19,Sl.v 1 s4),(20,zI z2),(21,zI z3)]) AO (.k0 [false] [] [6,19,20,21]) ?_)
     refine .then (.block (.then ?_))
     replace hm:=Ab hm;obtain⟨k2,h13,hm⟩:=hm
     obtain rfl:=AR h13
     replace hm:=Ae hm;obtain⟨h14,hm⟩:=hm
     replace hm:=fE hm;obtain⟨s5,h15,hm⟩:=hm
     refine .reg (eD (keep AO (bb (an (Nat.blt k2 (Sl.n s4)) true) (some (Cv (k2*1) (Sl.cs s4))) none)) (AX h14) (eD (keep AO (AL (Sl.cs s4) (k2*1))) (AZ h15) (eE))) ?_
     refine .ghs (fr 33 [(6,(.pointer none)),(9,Sl.v 1 s5),(19,Sl.v 1 s4),(20,zI z2),(21,(zI (Int.ofNat k2)))]) AO (.k0 [false] [] [6,9,19,20,21]) ?_
     refine .then ?_
     replace hm:=Gt hm;obtain⟨x6,h16,hm⟩:=hm
     refine .reg (eC 2 ((oo (pu 80 [(.pointer none),Sl.v 1 s5]) none fun v=>some (v,AO))) (AB h16) (eE)) ?_
     refine .ghs (fr 33 [(6,(.pointer none)),(10,zI x6),(19,Sl.v 1 s4),(20,zI z2),(21,(zI (Int.ofNat k2)))]) AO (.k0 [false] [] [6,10,19,20,21]) ?_
     refine .then (.rK (.ghs (fr 33 [(6,(.pointer none)),(10,zI x6),(19,Sl.v 1 s4),(20,zI z2),(21,(zI (Int.ofNat k2))),(29,(zB (nt (Bd x6 (0:Int)))))]) AO (.k0 [false] [] [6,10,19,20,21,29]) ?_))
     replace hm:=Ag hm;rcases hm with⟨h17,hm⟩ | ⟨h17,hm⟩
     ·refine Bq (nt (Bd x6 (0:Int))) h17 ?_
      refine .then (.rK (.ghs (fr 33 [(4,(.pointer none)),(5,zI x6)]) AO (.k0 [false] [] [4,5]) ?_))
      refine .ret ?_
      exact A7 (.tuple ⟨[(.pointer none),zI x6]⟩) hm
     ·refine BB (nt (Bd x6 (0:Int))) h17 ?_
      refine .skip (.ghs (fr 33 [(6,(.pointer none)),(19,Sl.v 1 s4),(20,zI z2),(21,(zI (Int.ofNat k2)))]) AO (.k0 [false] [] [6,19,20,21]) ?_)
      refine .rK ?_
      exact⟨(s4,z2,(Aj .i64 (Int.add (Int.ofNat k2) (1:Int)))),hm,(.k0 [false] [] [6,19,20,21])⟩
    ·refine BB (AY z3 z2) h12 ?_
     refine .exit ?_
     exact⟨(),hm,(.k0 [false] [] [6])⟩
def Yg (pu:Af) (n:Nat) (z0:Int):OV:=
 (some (.int .i64 z0))
def Yh (pu:Af) (n:Nat) (ih0:Sl→Int→Int→Int→Int→Int→Sl→OV) (s0:Sl) (z0 z1 z2 z3 z4:Int) (s1:Sl):OV:=
 (ih0 s0 z0 (Aj .i64 (Int.add z1 (1:Int))) z2 z3 z4 s1)
def VZ (pu:Af) (n:Nat) (ih0:Sl→Int→Int→Int→Int→Int→Sl→OV) (s0:Sl) (z0 z1:Int) (b0:Bool) (z2 z3 z4:Int) (s1:Sl):OV:=
 (bb b0 (oo (EA z1) none fun k1=>(bb (an (Nat.blt k1 (Sl.n s0)) true) (oo (AL (Sl.cs s0) (k1*1)) none fun v0=>(oo (Bi .i64 v0) none fun x0=>(oo (pu 62 [.int .i64 x0,(.int .i64 (0:Int)),(.int .i64 (Aj .i64 (Int.sub z4 (1:Int))))]) none fun v1=>(oo (Bf v1) none fun b1=>(bb (nt b1) (Yh pu n ih0 s0 (1:Int) (Int.ofNat k1) z2 z3 z4 s1) (Yh pu n ih0 s0 z0 (Int.ofNat k1) z2 z3 z4 s1)))))) none)) (Yg pu n z0))
def V3 (pu:Af) (n:Nat) (ih0:Sl→Int→Int→Int→Int→Int→Sl→OV) (s0:Sl) (z0 z1 z2 z3 z4:Int) (s1:Sl):OV:=
 (bb (AY z1 (Int.ofNat (Sl.n s0))) (VZ pu n ih0 s0 z0 z1 (Bd z0 (0:Int)) z2 z3 z4 s1) (VZ pu n ih0 s0 z0 z1 false z2 z3 z4 s1))
def KV (pu:Af) (n w:Nat):Sl→Int→Int→Int→Int→Int→Sl→OV:=
 Nat.rec (motive:=fun _=>Sl→Int→Int→Int→Int→Int→Sl→OV) (fun _ _ _ _ _ _ _=>none) (fun _ ih0=>V3 pu n ih0) w
def V4 (pu:Af) (n:Nat) (s0:Sl) (z0 z1 z2 z3:Int) (s1:Sl):OV:=
 (KV pu n n s0 z0 (0:Int) z1 z2 z3 s1)
def Qr (pu:Af) (n:Nat) (s0:Sl) (z0:Int) (b0:Bool) (z1 z2 z3:Int) (s1:Sl):OV:=
 (bb b0 (V4 pu n s0 (5:Int) z1 z2 z3 s1) (V4 pu n s0 z0 z1 z2 z3 s1))
def Agh (pu:Af) (n:Nat) (x0 x1 x2:Int) (s0 s1:Sl):OV:=
 (oo (pu 36 [(.agg ⟨[.int .i64 x0,.int .i64 x1,.int .i64 x2,Sl.v 1 s0]⟩)]) none fun v0=>(oo (Bi .i64 v0) none fun x3=>(bb (Bd x3 (0:Int)) (Qr pu n s1 x3 (nt (Bd (Int.ofNat (Sl.n s1)) (Aj .i64 (Int.mul x0 x1)))) x0 x1 x2 s0) (Qr pu n s1 x3 false x0 x1 x2 s0))))
def m46 (pu:Af) (n:Nat) (args:LV):OV:=
 (ll args none fun a0 args=>(ll args none fun a1 args=>(ll args (oo (Bt a0) none fun l0=>(ll l0 none fun v0 l0=>(ll l0 none fun v1 l0=>(ll l0 none fun v2 l0=>(ll l0 none fun v3 l0=>(ll l0 (oo (Bi .i64 v0) none fun x0=>(oo (Bi .i64 v1) none fun x1=>(oo (Bi .i64 v2) none fun x2=>(oo (Bj 1 v3) none fun s0=>(oo (Bj 1 a1) none fun s1=>(Agh pu n x0 x1 x2 s0 s1)))))) fun _ _=>none)))))) fun _ _=>none)))
theorem Agj (pu:Af) (n:Nat) (z0:Int) {v:Value} (hm:Yg pu n z0=some v):BN tt (Bb tabs isP pu (inl pu)) 1 dV (fr 41 [(5,zI z0)]) AO (Fin tt 1 [.tmp 4] v):=by
 unfold Yg at hm
 refine .then (.rK (.ghs (fr 41 [(4,zI z0)]) AO (.k0 [false] [] [4]) ?_))
 refine .ret ?_
 exact A7 (zI z0) hm
theorem Agk (pu:Af) (n:Nat) (s0:Sl) (z0 z1 z2 z3:Int) (s1:Sl) {v:Value} (hm:V4 pu n s0 z0 z1 z2 z3 s1=some v):BN tt (Bb tabs isP pu (inl pu)) 1 dX (fr 41 [(1,Sl.v 1 s0),(2,pt 1 0),(5,zI z0)]) (hT 2 [(oC [zI z1,zI z2,zI z3,Sl.v 1 s1])]) (Fin tt 1 [.tmp 4] v):=by
 unfold V4 at hm
 refine .join (v:=v) (fun y:Int=>((fr 41 [(5,zI y)]),AO)) (fun y=>Yg pu n y) ?_ ?_
 ·rintro z4 hm
  exact Agj pu n z4 hm
 ·refine .then (.rK (.ghs (fr 41 [(1,Sl.v 1 s0),(2,pt 1 0),(5,zI z0),(6,(zI (0:Int)))]) (hT 2 [(oC [zI z1,zI z2,zI z3,Sl.v 1 s1])]) (.k0 [false] [.tmp 2 false] [1,2,5,6]) ?_))
  refine .block (.loopM (v:=v) (fun y:Sl×Int×Int×Int×Int×Int×Sl=>((fr 41 [(1,(Sl.v 1 y.1)),(2,pt 1 0),(5,(zI y.2.1)),(6,(zI y.2.2.1))]),(hT 2 [(oC [(zI y.2.2.2.1),(zI y.2.2.2.2.1),(zI y.2.2.2.2.2.1),(Sl.v 1 y.2.2.2.2.2.2)])]))) (fun w y=>KV pu n w y.1 y.2.1 y.2.2.1 y.2.2.2.1 y.2.2.2.2.1 y.2.2.2.2.2.1 y.2.2.2.2.2.2) n ⟨(s0,z0,(0:Int),z1,z2,z3,s1),hm,(.k0 [false] [.tmp 2 false] [1,2,5,6])⟩ (fun _=>rfl) ?_)
  rintro w0 ⟨s2,z5,z6,z7,z8,z9,s3⟩ hm
  replace hm:V3 pu n (KV pu n w0) s2 z5 z6 z7 z8 z9 s3=some v:=hm
  unfold V3 at hm
  refine .then (.join (v:=v) (fun y:Sl×Int×Int×Bool×Int×Int×Int×Sl=>((fr 41 [(1,(Sl.v 1 y.1)),(2,pt 1 0),(5,(zI y.2.1)),(6,(zI y.2.2.1)),(28,(zB y.2.2.2.1))]),(hT 2 [(oC [(zI y.2.2.2.2.1),(zI y.2.2.2.2.2.1),(zI y.2.2.2.2.2.2.1),(Sl.v 1 y.2.2.2.2.2.2.2)])]))) (fun y=>VZ pu n (KV pu n w0) y.1 y.2.1 y.2.2.1 y.2.2.2.1 y.2.2.2.2.1 y.2.2.2.2.2.1 y.2.2.2.2.2.2.1 y.2.2.2.2.2.2.2) ?_ ?_)
  ·rintro⟨s4,z10,z11,b0,z12,z13,z14,s5⟩ hm
   unfold VZ at hm
   replace hm:=Ag hm;rcases hm with⟨h0,hm⟩ | ⟨h0,hm⟩
   ·refine .ifT b0 (by kernel_rfl) h0 ?_
    refine .skip (.ghs (fr 41 [(1,Sl.v 1 s4),(2,pt 1 0),(5,zI z10),(6,zI z11)]) (hT 2 [(oC [zI z12,zI z13,zI z14,Sl.v 1 s5])]) (.k0 [false] [.tmp 2 false] [1,2,5,6]) ?_)
    refine .join (v:=v) (fun y:Sl×Int×Int×Int×Int×Int×Sl=>((fr 41 [(1,(Sl.v 1 y.1)),(2,pt 1 0),(5,(zI y.2.1)),(6,(zI y.2.2.1))]),(hT 2 [(oC [(zI y.2.2.2.1),(zI y.2.2.2.2.1),(zI y.2.2.2.2.2.1),(Sl.v 1 y.2.2.2.2.2.2)])]))) (fun y=>Yh pu n (KV pu n w0) y.1 y.2.1 y.2.2.1 y.2.2.2.1 y.2.2.2.2.1 y.2.2.2.2.2.1 y.2.2.2.2.2.2) ?_ ?_
    ·rintro⟨s6,z15,z16,z17,z18,z19,s7⟩ hm
     unfold Yh at hm
     refine .rK ?_
     exact⟨(s6,z15,(Aj .i64 (Int.add z16 (1:Int))),z17,z18,z19,s7),hm,(.k0 [false] [.tmp 2 false] [1,2,5,6])⟩
    ·refine .block (.then ?_)
     replace hm:=Ab hm;obtain⟨k1,h1,hm⟩:=hm
     obtain rfl:=AR h1
     replace hm:=Ae hm;obtain⟨h2,hm⟩:=hm
     replace hm:=Gt hm;obtain⟨x0,h3,hm⟩:=hm
     replace hm:=OT hm;obtain⟨b1,h4,hm⟩:=hm
     refine .reg (eC 2 (keep (hT 2 [(oC [zI z12,zI z13,zI z14,Sl.v 1 s5])]) (bb (an (Nat.blt k1 (Sl.n s4)) true) (some (Cv (k1*1) (Sl.cs s4))) none)) (AX h2) (eD (keep (hT 2 [(oC [zI z12,zI z13,zI z14,Sl.v 1 s5])]) (AL (Sl.cs s4) (k1*1))) (AZ h3) (eC 3 ((oo (pu 62 [zI x0,(zI (0:Int)),(zI (Aj .i64 (Int.sub z14 (1:Int))))]) none fun v=>some (v,(hT 2 [(oC [zI z12,zI z13,zI z14,Sl.v 1 s5])])))) (AB h4) (eE)))) ?_
     refine .ghs (fr 41 [(1,Sl.v 1 s4),(2,pt 1 0),(5,zI z10),(6,(zI (Int.ofNat k1))),(39,(zB (nt b1)))]) (hT 2 [(oC [zI z12,zI z13,zI z14,Sl.v 1 s5])]) (.k0 [false] [.tmp 2 false] [1,2,5,6,39]) ?_
     replace hm:=Ag hm;rcases hm with⟨h5,hm⟩ | ⟨h5,hm⟩
     ·refine Bq (nt b1) h5 ?_
      refine .rK ?_
      exact⟨(s4,(1:Int),(Int.ofNat k1),z12,z13,z14,s5),hm,(.k0 [false] [.tmp 2 false] [1,2,5,6])⟩
     ·refine BB (nt b1) h5 ?_
      refine .skip ?_
      exact⟨(s4,z10,(Int.ofNat k1),z12,z13,z14,s5),hm,(.k0 [false] [.tmp 2 false] [1,2,5,6])⟩
   ·refine .ifF b0 (by kernel_rfl) h0 ?_
    refine .exit ?_
    exact⟨z10,hm,(.k0 [false] [] [5])⟩
  ·replace hm:=Ag hm;rcases hm with⟨h6,hm⟩ | ⟨h6,hm⟩
   ·refine .reg (eC 3 (some ((zB (AY z6 (Int.ofNat (Sl.n s2)))),(hT 2 [(oC [zI z7,zI z8,zI z9,Sl.v 1 s3])]))) (show _=some ((zB true),_) from (by rw[show (AY z6 (Int.ofNat (Sl.n s2)))=true from h6])) (eE)) ?_
    exact⟨(s2,z5,z6,(Bd z5 (0:Int)),z7,z8,z9,s3),hm,(.k0 [false] [.tmp 2 false] [1,2,5,6,28])⟩
   ·refine .reg (eC 3 (some ((zB (AY z6 (Int.ofNat (Sl.n s2)))),(hT 2 [(oC [zI z7,zI z8,zI z9,Sl.v 1 s3])]))) (show _=some ((zB false),_) from (by rw[show (AY z6 (Int.ofNat (Sl.n s2)))=false from h6])) (eE)) ?_
    exact⟨(s2,z5,z6,false,z7,z8,z9,s3),hm,(.k0 [false] [.tmp 2 false] [1,2,5,6,28])⟩
theorem r46 {call:A8} (pu:Af) (n:Nat) (hcall:call=Bb tabs isP pu (inl pu)) {args:LV} {v:Value} (hm:m46 pu n args=some v) (_:∀ x∈args,closed2 x=true):args.length≤41∧BN tt call 1 Uh (Fr.made 41 args) (Ao tabs) (Fin tt 1 [.tmp 4] v):=by
 subst hcall
 unfold m46 at hm
 replace hm:=Ad hm;obtain⟨a0,args_0,rfl,hm⟩:=hm
 replace hm:=Ad hm;obtain⟨a1,args_1,rfl,hm⟩:=hm
 replace hm:=AC hm;obtain⟨rfl,hm⟩:=hm
 replace hm:=BG hm;obtain⟨l0,rfl,hm⟩:=hm
 replace hm:=Ad hm;obtain⟨v0,l5317_0,rfl,hm⟩:=hm
 replace hm:=Ad hm;obtain⟨v1,l5317_1,rfl,hm⟩:=hm
 replace hm:=Ad hm;obtain⟨v2,l5317_2,rfl,hm⟩:=hm
 replace hm:=Ad hm;obtain⟨v3,l5317_3,rfl,hm⟩:=hm
 replace hm:=AC hm;obtain⟨rfl,hm⟩:=hm
 replace hm:=Ai hm;obtain⟨x0,rfl,hm⟩:=hm
 replace hm:=Ai hm;obtain⟨x1,rfl,hm⟩:=hm
 replace hm:=Ai hm;obtain⟨x2,rfl,hm⟩:=hm
 replace hm:=Al hm;obtain⟨s0,rfl,hm⟩:=hm
 replace hm:=Al hm;obtain⟨s1,rfl,hm⟩:=hm
 unfold Agh at hm
 refine⟨by simp,?_⟩
 refine .same (F':=(fr 41 [(0,(.agg ⟨[zI x0,zI x1,zI x2,Sl.v 1 s0]⟩)),(1,Sl.v 1 s1)])) (H':=AO) (by kernel_rfl) (by kernel_rfl) ?_
 refine .then (.rK (.ghs (fr 41 [(1,Sl.v 1 s1),(2,pt 1 0)]) (hT 2 [(oC [zI x0,zI x1,zI x2,Sl.v 1 s0])]) (.k0 [false] [.tmp 2 false] [1,2]) ?_))
 refine .then ?_
 replace hm:=Gt hm;obtain⟨x3,h0,hm⟩:=hm
 refine .reg (eC 1 ((oo (pu 36 [(.agg ⟨[zI x0,zI x1,zI x2,Sl.v 1 s0]⟩)]) none fun v=>some (v,(hT 2 [(oC [zI x0,zI x1,zI x2,Sl.v 1 s0])])))) (AB h0) (eE)) ?_
 refine .ghs (fr 41 [(1,Sl.v 1 s1),(2,pt 1 0),(5,zI x3)]) (hT 2 [(oC [zI x0,zI x1,zI x2,Sl.v 1 s0])]) (.k0 [false] [.tmp 2 false] [1,2,5]) ?_
 refine .join (v:=v) (fun y:Sl×Int×Int×Int×Int×Sl=>((fr 41 [(1,(Sl.v 1 y.1)),(2,pt 1 0),(5,(zI y.2.1))]),(hT 2 [(oC [(zI y.2.2.1),(zI y.2.2.2.1),(zI y.2.2.2.2.1),(Sl.v 1 y.2.2.2.2.2)])]))) (fun y=>V4 pu n y.1 y.2.1 y.2.2.1 y.2.2.2.1 y.2.2.2.2.1 y.2.2.2.2.2) ?_ ?_
 ·rintro⟨s2,z0,z1,z2,z3,s3⟩ hm
  exact Agk pu n s2 z0 z1 z2 z3 s3 hm
 ·refine .join (v:=v) (fun y:Sl×Int×Bool×Int×Int×Int×Sl=>((fr 41 [(1,(Sl.v 1 y.1)),(2,pt 1 0),(5,(zI y.2.1)),(20,(zB y.2.2.1))]),(hT 2 [(oC [(zI y.2.2.2.1),(zI y.2.2.2.2.1),(zI y.2.2.2.2.2.1),(Sl.v 1 y.2.2.2.2.2.2)])]))) (fun y=>Qr pu n y.1 y.2.1 y.2.2.1 y.2.2.2.1 y.2.2.2.2.1 y.2.2.2.2.2.1 y.2.2.2.2.2.2) ?_ ?_
  ·rintro⟨s4,z4,b0,z5,z6,z7,s5⟩ hm
   unfold Qr at hm
   replace hm:=Ag hm;rcases hm with⟨h1,hm⟩ | ⟨h1,hm⟩
   ·refine .ifT b0 (by kernel_rfl) h1 ?_
    refine .rK ?_
    exact⟨(s4,(5:Int),z5,z6,z7,s5),hm,(.k0 [false] [.tmp 2 false] [1,2,5])⟩
   ·refine .ifF b0 (by kernel_rfl) h1 ?_
    refine .skip ?_
    exact⟨(s4,z4,z5,z6,z7,s5),hm,(.k0 [false] [.tmp 2 false] [1,2,5])⟩
  ·replace hm:=Ag hm;rcases hm with⟨h2,hm⟩ | ⟨h2,hm⟩
   ·refine .reg (eC 1 (some ((zB (Bd x3 (0:Int))),(hT 2 [(oC [zI x0,zI x1,zI x2,Sl.v 1 s0])]))) (show _=some ((zB true),_) from (by rw[show (Bd x3 (0:Int))=true from h2])) (eE)) ?_
    exact⟨(s1,x3,(nt (Bd (Int.ofNat (Sl.n s1)) (Aj .i64 (Int.mul x0 x1)))),x0,x1,x2,s0),hm,(.k0 [false] [.tmp 2 false] [1,2,5,20])⟩
   ·refine .reg (eC 1 (some ((zB (Bd x3 (0:Int))),(hT 2 [(oC [zI x0,zI x1,zI x2,Sl.v 1 s0])]))) (show _=some ((zB false),_) from (by rw[show (Bd x3 (0:Int))=false from h2])) (eE)) ?_
    exact⟨(s1,x3,false,x0,x1,x2,s0),hm,(.k0 [false] [.tmp 2 false] [1,2,5,20])⟩
end
end Go.BkVM
