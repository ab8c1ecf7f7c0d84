/- Made from wip. -/
import Derived.Test.YtciohfkjabeooaaGreatDoorBaAMod1x

set_option maxRecDepth 100000
set_option maxHeartbeats 20000000
set_option linter.unusedVariables false
namespace Go.BaAM
open Go.Sp Go.BaA
noncomputable section
def XL (pu:Af) (n:Nat):OV:=
 (some (.bool true))
def UI (pu:Af) (n:Nat) (ih0:Sl→Sl→Int→OV) (s0 s1:Sl) (z0:Int):OV:=
 (bb (AY z0 (Int.ofNat (Sl.n s0))) (oo (EA z0) none fun k1=>(bb (an (Nat.blt k1 (Sl.n s0)) true) (oo (AL (Sl.cs s0) (k1*1)) none fun v0=>(oo (Bi .i64 v0) none fun x0=>(bb (an (Nat.blt k1 (Sl.n s1)) true) (oo (AL (Sl.cs s1) (k1*1)) none fun v1=>(oo (Bi .i64 v1) none fun x1=>(bb (nt (Bd x0 x1)) (some (.bool false)) (ih0 s0 s1 (Aj .i64 (Int.add (Int.ofNat k1) (1:Int))))))) none))) none)) (XL pu n))
def UJ (pu:Af) (n w:Nat):Sl→Sl→Int→OV:=
 Nat.rec (motive:=fun _=>Sl→Sl→Int→OV) (fun _ _ _=>none) (fun _ ih0=>UI pu n ih0) w
def Adh (pu:Af) (n:Nat) (s0 s1:Sl):OV:=
 (UJ pu n n s0 s1 (0:Int))
def m32 (pu:Af) (n:Nat) (args:LV):OV:=
 (ll args none fun a0 args=>(ll args none fun a1 args=>(ll args (oo (Bj 1 a0) none fun s0=>(oo (Bj 1 a1) none fun s1=>(Adh pu n s0 s1))) fun _ _=>none)))
theorem Adi (pu:Af) (n:Nat) {v:Value} (hm:XL pu n=some v):BN tt (Bb tabs isP pu (inl pu)) 1 ZM (fr 21 []) AO (Fin tt 1 [.tmp 4] v):=by
 unfold XL at hm
 refine .then (.rK (.ghs (fr 21 [(4,zB true)]) AO (.k0 [false] [] [4]) ?_))
 refine .ret ?_
 exact Ay (zB true) hm
theorem r32 {call:A8} (pu:Af) (n:Nat) (hcall:call=Bb tabs isP pu (inl pu)) {args:LV} {v:Value} (hm:m32 pu n args=some v) (_:∀ x∈args,closed2 x=true):args.length≤21∧BN tt call 1 Sm (Fr.made 21 args) (Ao tabs) (Fin tt 1 [.tmp 4] v):=by
 subst hcall
 unfold m32 at hm
 replace hm:=Ad hm;obtain⟨a0,args_0,rfl,hm⟩:=hm
 replace hm:=Ad hm;obtain⟨a1,args_1,rfl,hm⟩:=hm
 replace hm:=AC hm;obtain⟨rfl,hm⟩:=hm
 replace hm:=Al hm;obtain⟨s0,rfl,hm⟩:=hm
 replace hm:=Al hm;obtain⟨s1,rfl,hm⟩:=hm
 unfold Adh at hm
 refine⟨by simp,?_⟩
 refine .same (F':=(fr 21 [(0,Sl.v 1 s0),(1,Sl.v 1 s1)])) (H':=AO) (by kernel_rfl) (by kernel_rfl) ?_
 refine .then (.rK (.ghs (fr 21 [(0,Sl.v 1 s0),(1,Sl.v 1 s1)]) AO (.k0 [false] [] [0,1]) ?_))
 refine .join (v:=v) (fun y:Unit=>((fr 21 []),AO)) (fun y=>XL pu n) ?_ ?_
 ·rintro _ hm
  exact Adi pu n hm
 ·refine .then (.rK (.ghs (fr 21 [(0,Sl.v 1 s0),(1,Sl.v 1 s1),(5,(zI (0:Int)))]) AO (.k0 [false] [] [0,1,5]) ?_))
  refine .block (.loopM (v:=v) (fun y:Sl×Sl×Int=>((fr 21 [(0,(Sl.v 1 y.1)),(1,(Sl.v 1 y.2.1)),(5,(zI y.2.2))]),AO)) (fun w y=>UJ pu n w y.1 y.2.1 y.2.2) n ⟨(s0,s1,(0:Int)),hm,(.k0 [false] [] [0,1,5])⟩ (fun _=>rfl) ?_)
  rintro w0 ⟨s2,s3,z0⟩ hm
  replace hm:UI pu n (UJ pu n w0) s2 s3 z0=some v:=hm
  unfold UI at hm
  refine .then (.then (.rK (.ghs (fr 21 [(0,Sl.v 1 s2),(1,Sl.v 1 s3),(5,zI z0),(9,(zB (AY z0 (Int.ofNat (Sl.n s2)))))]) AO (.k0 [false] [] [0,1,5,9]) ?_)))
  replace hm:=Ag hm;rcases hm with⟨h0,hm⟩ | ⟨h0,hm⟩
  ·refine C8 (AY z0 (Int.ofNat (Sl.n s2))) h0 ?_
   refine .skip (.ghs (fr 21 [(0,Sl.v 1 s2),(1,Sl.v 1 s3),(5,zI z0)]) AO (.k0 [false] [] [0,1,5]) ?_)
   refine .then (.block (.then ?_))
   replace hm:=Ab hm;obtain⟨k1,h1,hm⟩:=hm
   obtain rfl:=AR h1
   replace hm:=Ae hm;obtain⟨h2,hm⟩:=hm
   replace hm:=Kc hm;obtain⟨x0,h3,hm⟩:=hm
   replace hm:=Ae hm;obtain⟨h4,hm⟩:=hm
   replace hm:=Kc hm;obtain⟨x1,h5,hm⟩:=hm
   refine .reg (eC 2 (keep AO (bb (an (Nat.blt k1 (Sl.n s2)) true) (some (Cv (k1*1) (Sl.cs s2))) none)) (AX h2) (eD (keep AO (AL (Sl.cs s2) (k1*1))) (AZ h3) (eC 2 (keep AO (bb (an (Nat.blt k1 (Sl.n s3)) true) (some (Cv (k1*1) (Sl.cs s3))) none)) (AX h4) (eD (keep AO (AL (Sl.cs s3) (k1*1))) (AZ h5) (eE))))) ?_
   refine .ghs (fr 21 [(0,Sl.v 1 s2),(1,Sl.v 1 s3),(5,(zI (Int.ofNat k1))),(20,(zB (nt (Bd x0 x1))))]) AO (.k0 [false] [] [0,1,5,20]) ?_
   replace hm:=Ag hm;rcases hm with⟨h6,hm⟩ | ⟨h6,hm⟩
   ·refine C8 (nt (Bd x0 x1)) h6 ?_
    refine .then (.rK (.ghs (fr 21 [(4,zB false)]) AO (.k0 [false] [] [4]) ?_))
    refine .ret ?_
    exact Ay (zB false) hm
   ·refine Dn (nt (Bd x0 x1)) h6 ?_
    refine .skip (.ghs (fr 21 [(0,Sl.v 1 s2),(1,Sl.v 1 s3),(5,(zI (Int.ofNat k1)))]) AO (.k0 [false] [] [0,1,5]) ?_)
    refine .rK ?_
    exact⟨(s2,s3,(Aj .i64 (Int.add (Int.ofNat k1) (1:Int)))),hm,(.k0 [false] [] [0,1,5])⟩
  ·refine Dn (AY z0 (Int.ofNat (Sl.n s2))) h0 ?_
   refine .exit ?_
   exact⟨(),hm,(.k0 [false] [] [])⟩
def UK (pu:Af) (n:Nat) (s0:Sl):OV:=
 (bb (Nat.beq (Sl.n s0) 0) (bb (an (Nat.ble (0+0*1) (len ([]:LV))) (Au Ah (Aq (0*1) (Am 0 ([]:LV))))) (some (Sl.v 1 (Sl.mk 0 0 (Aq (0*1) (Am 0 ([]:LV)))))) none) (bb (EQ (0+(Sl.n s0)) 8) (bb (Au Ah (Aq ((Sl.n s0)*1) (Sl.cs s0))) (bb (an (Nat.ble (0+(0+(Sl.n s0))*1) (len (Aq ((Sl.n s0)*1) (Sl.cs s0)))) (Au Ah (Aq ((0+(Sl.n s0))*1) (Am 0 (Aq ((Sl.n s0)*1) (Sl.cs s0)))))) (some (Sl.v 1 (Sl.mk (0+(Sl.n s0)) 0 (Aq ((0+(Sl.n s0))*1) (Am 0 (Aq ((Sl.n s0)*1) (Sl.cs s0))))))) none) none) none))
def UL (pu:Af) (n:Nat) (ih0:Sl→Sl→Int→Int→Int→Int→Sl→OV) (s0 s1:Sl) (z0 z1 z2 z3:Int) (s2:Sl):OV:=
 (ih0 s0 s1 (Aj .i64 (Int.add z0 (1:Int))) z1 z2 z3 s2)
def Pt (pu:Af) (n:Nat) (ih0:Sl→Sl→Int→Int→Int→Int→Sl→OV) (s0 s1:Sl) (z0 z1 z2 z3:Int) (s2:Sl):OV:=
 (bb (AY z0 (Int.ofNat (Sl.n s2))) (oo (EA z0) none fun k1=>(bb (an (Nat.blt k1 (Sl.n s2)) true) (oo (AL (Sl.cs s2) (k1*1)) none fun v0=>(oo (Bi .i64 v0) none fun x0=>(oo (pu 10590 [(.agg ⟨[.int .i64 z1,.int .i64 z2,.int .i64 z3,Sl.v 1 s2]⟩),Sl.v 1 s0,.int .i64 x0]) none fun v1=>(oo (CQ v1) none fun l0=>(ll l0 none fun v2 l0=>(ll l0 (oo (Bj 1 v2) none fun s3=>(oo (pu 58 [Sl.v 1 s3,Sl.v 1 s1]) none fun v3=>(oo (Bf v3) none fun b0=>(bb b0 (bb (an (Nat.blt k1 (Sl.n s2)) true) (oo (AL (Sl.cs s2) (k1*1)) none fun v4=>(oo (Bi .i64 v4) none fun x1=>(oo (pu 10590 [(.agg ⟨[.int .i64 z1,.int .i64 z2,.int .i64 z3,Sl.v 1 s2]⟩),Sl.v 1 s0,.int .i64 x1]) none fun v5=>(oo (CQ v5) none fun l1=>(ll l1 none fun v6 l1=>(ll l1 (oo (Bj 1 v6) none fun s4=>(UL pu n ih0 s0 s4 (Int.ofNat k1) z1 z2 z3 s2)) fun _ _=>none)))))) none) (UL pu n ih0 s0 s1 (Int.ofNat k1) z1 z2 z3 s2))))) fun _ _=>none)))))) none)) (UK pu n s1))
def PI (pu:Af) (n w:Nat):Sl→Sl→Int→Int→Int→Int→Sl→OV:=
 Nat.rec (motive:=fun _=>Sl→Sl→Int→Int→Int→Int→Sl→OV) (fun _ _ _ _ _ _ _=>none) (fun _ ih0=>Pt pu n ih0) w
def Adj (pu:Af) (n:Nat) (x0 x1 x2:Int) (s0 s1:Sl):OV:=
 (PI pu n n s1 s1 (0:Int) x0 x1 x2 s0)
def m33 (pu:Af) (n:Nat) (args:LV):OV:=
 (ll args none fun a0 args=>(ll args none fun a1 args=>(ll args (oo (Bt a0) none fun l0=>(ll l0 none fun v0 l0=>(ll l0 none fun v1 l0=>(ll l0 none fun v2 l0=>(ll l0 none fun v3 l0=>(ll l0 (oo (Bi .i64 v0) none fun x0=>(oo (Bi .i64 v1) none fun x1=>(oo (Bi .i64 v2) none fun x2=>(oo (Bj 1 v3) none fun s0=>(oo (Bj 1 a1) none fun s1=>(Adj pu n x0 x1 x2 s0 s1)))))) fun _ _=>none)))))) fun _ _=>none)))
theorem Adl (pu:Af) (n:Nat) (s0:Sl) {v:Value} (hm:UK pu n s0=some v):BN tt (Bb tabs isP pu (inl pu)) 1 ZN (fr 36 [(5,Sl.v 1 s0)]) AO (SK tt 1 1 [.tmp 4] v):=by
 unfold UK at hm
 refine .then ?_
 replace hm:=Ag hm;rcases hm with⟨h0,hm⟩ | ⟨h0,hm⟩
 ·refine .reg (eC 2 (Ql (hT 2 [(oC [])]) 1 8 (sc 1 0 1 0 1) s0) (Ze h0) (eE)) ?_
  refine .ghs (fr 36 [(4,sc 1 0 1 0 1)]) (hT 2 [(oC [])]) (.k0 [false] [.tmp 4 false] [4]) ?_
  refine .ret ?_
  replace hm:=Ae hm;obtain⟨h1,hm⟩:=hm
  exact Ng 1 0 1 0 [] ([]:LV) (by kernel_rfl) (by kernel_rfl) (by kernel_rfl) h1 hm
 ·replace hm:=Ae hm;obtain⟨h2,hm⟩:=hm
  refine .reg (eC 2 (Ql (hT 2 [(oC [])]) 1 8 (sc 1 0 1 0 1) s0) (Zf h0 h2 (by kernel_rfl)) (eE)) ?_
  replace hm:=Ae hm;obtain⟨h3,hm⟩:=hm
  refine .ghs (fr 36 [(4,(sc 1 0 1 (0+(Sl.n s0)) (d2 (0+(Sl.n s0)))))]) (hT 2 [(oC (Aq ((Sl.n s0)*1) (Sl.cs s0)))]) (.k [2] [false] [.tmp 4 false] [4] ⟨BO h3,trivial⟩) ?_
  refine .ret ?_
  replace hm:=Ae hm;obtain⟨h4,hm⟩:=hm
  exact Ng 1 0 (d2 (0+(Sl.n s0))) (0+(Sl.n s0)) [] (Aq ((Sl.n s0)*1) (Sl.cs s0)) (by kernel_rfl) (by kernel_rfl) (by kernel_rfl) h4 hm
theorem r33 {call:A8} (pu:Af) (n:Nat) (hcall:call=Bb tabs isP pu (inl pu)) {args:LV} {v:Value} (hm:m33 pu n args=some v) (_:∀ x∈args,closed2 x=true):args.length≤36∧BN tt call 1 Sn (Fr.made 36 args) (Ao tabs) (SK tt 1 1 [.tmp 4] v):=by
 subst hcall
 unfold m33 at hm
 replace hm:=Ad hm;obtain⟨a0,args_0,rfl,hm⟩:=hm
 replace hm:=Ad hm;obtain⟨a1,args_1,rfl,hm⟩:=hm
 replace hm:=AC hm;obtain⟨rfl,hm⟩:=hm
 replace hm:=BG hm;obtain⟨l0,rfl,hm⟩:=hm
 replace hm:=Ad hm;obtain⟨v0,l6122_0,rfl,hm⟩:=hm
 replace hm:=Ad hm;obtain⟨v1,l6122_1,rfl,hm⟩:=hm
 replace hm:=Ad hm;obtain⟨v2,l6122_2,rfl,hm⟩:=hm
 replace hm:=Ad hm;obtain⟨v3,l6122_3,rfl,hm⟩:=hm
 replace hm:=AC hm;obtain⟨rfl,hm⟩:=hm
 replace hm:=Ai hm;obtain⟨x0,rfl,hm⟩:=hm
 replace hm:=Ai hm;obtain⟨x1,rfl,hm⟩:=hm
 replace hm:=Ai hm;obtain⟨x2,rfl,hm⟩:=hm
 replace hm:=Al hm;obtain⟨s0,rfl,hm⟩:=hm
 replace hm:=Al hm;obtain⟨s1,rfl,hm⟩:=hm
 unfold Adj at hm
 refine⟨by simp,?_⟩
 refine .same (F':=(fr 36 [(0,(.agg ⟨[zI x0,zI x1,zI x2,Sl.v 1 s0]⟩)),(1,Sl.v 1 s1)])) (H':=AO) (by kernel_rfl) (by kernel_rfl) ?_
 refine .then (.rK (.ghs (fr 36 [(1,Sl.v 1 s1),(2,pt 1 0)]) (hT 2 [(oC [zI x0,zI x1,zI x2,Sl.v 1 s0])]) (.k0 [false] [.tmp 2 false] [1,2]) ?_))
 refine .then (.rK (.ghs (fr 36 [(1,Sl.v 1 s1),(2,pt 1 0),(5,Sl.v 1 s1)]) (hT 2 [(oC [zI x0,zI x1,zI x2,Sl.v 1 s0])]) (.k0 [false] [.tmp 2 false] [1,2,5]) ?_))
 refine .join (v:=v) (fun y:Sl=>((fr 36 [(5,Sl.v 1 y)]),AO)) (fun y=>UK pu n y) ?_ ?_
 ·rintro s2 hm
  exact Adl pu n s2 hm
 ·refine .then (.rK (.ghs (fr 36 [(1,Sl.v 1 s1),(2,pt 1 0),(5,Sl.v 1 s1),(6,(zI (0:Int)))]) (hT 2 [(oC [zI x0,zI x1,zI x2,Sl.v 1 s0])]) (.k0 [false] [.tmp 2 false] [1,2,5,6]) ?_))
  refine .block (.loopM (v:=v) (fun y:Sl×Sl×Int×Int×Int×Int×Sl=>((fr 36 [(1,(Sl.v 1 y.1)),(2,pt 1 0),(5,(Sl.v 1 y.2.1)),(6,(zI y.2.2.1))]),(hT 2 [(oC [(zI y.2.2.2.1),(zI y.2.2.2.2.1),(zI y.2.2.2.2.2.1),(Sl.v 1 y.2.2.2.2.2.2)])]))) (fun w y=>PI pu n w y.1 y.2.1 y.2.2.1 y.2.2.2.1 y.2.2.2.2.1 y.2.2.2.2.2.1 y.2.2.2.2.2.2) n ⟨(s1,s1,(0:Int),x0,x1,x2,s0),hm,(.k0 [false] [.tmp 2 false] [1,2,5,6])⟩ (fun _=>rfl) ?_)
  rintro w0 ⟨s3,s4,z0,z1,z2,z3,s5⟩ hm
  replace hm:Pt pu n (PI pu n w0) s3 s4 z0 z1 z2 z3 s5=some v:=hm
  unfold Pt at hm
  refine .then (.then (.rK (.ghs (fr 36 [(1,Sl.v 1 s3),(2,pt 1 0),(5,Sl.v 1 s4),(6,zI z0),(12,(zB (AY z0 (Int.ofNat (Sl.n s5)))))]) (hT 2 [(oC [zI z1,zI z2,zI z3,Sl.v 1 s5])]) (.k0 [false] [.tmp 2 false] [1,2,5,6,12]) ?_)))
  replace hm:=Ag hm;rcases hm with⟨h0,hm⟩ | ⟨h0,hm⟩
  ·refine C8 (AY z0 (Int.ofNat (Sl.n s5))) h0 ?_
   refine .skip (.ghs (fr 36 [(1,Sl.v 1 s3),(2,pt 1 0),(5,Sl.v 1 s4),(6,zI z0)]) (hT 2 [(oC [zI z1,zI z2,zI z3,Sl.v 1 s5])]) (.k0 [false] [.tmp 2 false] [1,2,5,6]) ?_)
   refine .join (v:=v) (fun y:Sl×Sl×Int×Int×Int×Int×Sl=>((fr 36 [(1,(Sl.v 1 y.1)),(2,pt 1 0),(5,(Sl.v 1 y.2.1)),(6,(zI y.2.2.1))]),(hT 2 [(oC [(zI y.2.2.2.1),(zI y.2.2.2.2.1),(zI y.2.2.2.2.2.1),(Sl.v 1 y.2.2.2.2.2.2)])]))) (fun y=>UL pu n (PI pu n w0) y.1 y.2.1 y.2.2.1 y.2.2.2.1 y.2.2.2.2.1 y.2.2.2.2.2.1 y.2.2.2.2.2.2) ?_ ?_
   ·rintro⟨s6,s7,z4,z5,z6,z7,s8⟩ hm
    unfold UL at hm
    refine .rK ?_
    exact⟨(s6,s7,(Aj .i64 (Int.add z4 (1:Int))),z5,z6,z7,s8),hm,(.k0 [false] [.tmp 2 false] [1,2,5,6])⟩
   ·refine .block (.then ?_)
    replace hm:=Ab hm;obtain⟨k1,h1,hm⟩:=hm
    obtain rfl:=AR h1
    replace hm:=Ae hm;obtain⟨h2,hm⟩:=hm
    replace hm:=Kc hm;obtain⟨x3,h3,hm⟩:=hm
    replace hm:=Ab hm;obtain⟨v4,h4,hm⟩:=hm
    replace hm:=Ch hm;obtain⟨l1,rfl,hm⟩:=hm
    replace hm:=Ad hm;obtain⟨v5,l7045_0,rfl,hm⟩:=hm
    replace hm:=AC hm;obtain⟨rfl,hm⟩:=hm
    replace hm:=Al hm;obtain⟨s9,rfl,hm⟩:=hm
    replace hm:=QF hm;obtain⟨b0,h5,hm⟩:=hm
    refine .reg (eC 5 (keep (hT 2 [(oC [zI z1,zI z2,zI z3,Sl.v 1 s5])]) (bb (an (Nat.blt k1 (Sl.n s5)) true) (some (Cv (k1*1) (Sl.cs s5))) none)) (AX h2) (eD (keep (hT 2 [(oC [zI z1,zI z2,zI z3,Sl.v 1 s5])]) (AL (Sl.cs s5) (k1*1))) (AZ h3) (eC 1 (Jg tabs [[none,none,none,some 1],[some 1],[none]] 3 [] [] (pu 10590) [(.agg ⟨[zI z1,zI z2,zI z3,Sl.v 1 s5]⟩),Sl.v 1 s3,zI x3] (hT 2 [(oC [zI z1,zI z2,zI z3,Sl.v 1 s5])])) (Hy (as:=[(.agg ⟨[zI z1,zI z2,zI z3,Sl.v 1 s5]⟩),Sl.v 1 s3,zI x3]) (H1:=(hT 2 [(oC [zI z1,zI z2,zI z3,Sl.v 1 s5])])) (Cs (QO (FX FL (FX FL (FX FL (FX (Ni (CV (z:=1) (v:=(Sl.v 1 s5)) (H:=(hT 2 [(oC [zI z1,zI z2,zI z3,Sl.v 1 s5])])) (by kernel_rfl) (by kernel_rfl) (by kernel_rfl))) QN))))) (Cs (Fp (Ni (CV (z:=1) (v:=(Sl.v 1 s3)) (H:=(hT 2 [(oC [zI z1,zI z2,zI z3,Sl.v 1 s5])])) (by kernel_rfl) (by kernel_rfl) (by kernel_rfl)))) (Cs (Fp FL) JN))) (Hw (H2:=(hT 2 [(oC [zI z1,zI z2,zI z3,Sl.v 1 s5])])) (v:=(Sl.v 1 s9)) (v':=(Sl.v 1 s9)) [some 0] [] [] [(.agg ⟨[zI z1,zI z2,zI z3,Sl.v 1 s5]⟩),Sl.v 1 s3,zI x3] [] [] [some 0,none] [] [] (by kernel_rfl) Dy (Eq.trans (by kernel_rfl) h4) Dy Dy)) (eD ((oo (pu 58 [Sl.v 1 s9,Sl.v 1 s4]) none fun v=>some (v,(hT 2 [(oC [zI z1,zI z2,zI z3,Sl.v 1 s5])])))) (AB h5) (eE))))) ?_
    refine .ghs (fr 36 [(1,Sl.v 1 s3),(2,pt 1 0),(5,Sl.v 1 s4),(6,(zI (Int.ofNat k1))),(24,zB b0)]) (hT 2 [(oC [zI z1,zI z2,zI z3,Sl.v 1 s5])]) (.k0 [false] [.tmp 2 false] [1,2,5,6,24]) ?_
    replace hm:=Ag hm;rcases hm with⟨h6,hm⟩ | ⟨h6,hm⟩
    ·refine .ifT b0 (by kernel_rfl) h6 ?_
     replace hm:=Ae hm;obtain⟨h7,hm⟩:=hm
     replace hm:=Kc hm;obtain⟨x4,h8,hm⟩:=hm
     replace hm:=Ab hm;obtain⟨v6,h9,hm⟩:=hm
     replace hm:=Ch hm;obtain⟨l2,rfl,hm⟩:=hm
     replace hm:=Ad hm;obtain⟨v7,l7086_0,rfl,hm⟩:=hm
     replace hm:=AC hm;obtain⟨rfl,hm⟩:=hm
     replace hm:=Al hm;obtain⟨s10,rfl,hm⟩:=hm
     refine .reg (eC 5 (keep (hT 2 [(oC [zI z1,zI z2,zI z3,Sl.v 1 s5])]) (bb (an (Nat.blt k1 (Sl.n s5)) true) (some (Cv (k1*1) (Sl.cs s5))) none)) (AX h7) (eD (keep (hT 2 [(oC [zI z1,zI z2,zI z3,Sl.v 1 s5])]) (AL (Sl.cs s5) (k1*1))) (AZ h8) (eD (Jg tabs [[none,none,none,some 1],[some 1],[none]] 3 [] [] (pu 10590) [(.agg ⟨[zI z1,zI z2,zI z3,Sl.v 1 s5]⟩),Sl.v 1 s3,zI x4] (hT 2 [(oC [zI z1,zI z2,zI z3,Sl.v 1 s5])])) (Hy (as:=[(.agg ⟨[zI z1,zI z2,zI z3,Sl.v 1 s5]⟩),Sl.v 1 s3,zI x4]) (H1:=(hT 2 [(oC [zI z1,zI z2,zI z3,Sl.v 1 s5])])) (Cs (QO (FX FL (FX FL (FX FL (FX (Ni (CV (z:=1) (v:=(Sl.v 1 s5)) (H:=(hT 2 [(oC [zI z1,zI z2,zI z3,Sl.v 1 s5])])) (by kernel_rfl) (by kernel_rfl) (by kernel_rfl))) QN))))) (Cs (Fp (Ni (CV (z:=1) (v:=(Sl.v 1 s3)) (H:=(hT 2 [(oC [zI z1,zI z2,zI z3,Sl.v 1 s5])])) (by kernel_rfl) (by kernel_rfl) (by kernel_rfl)))) (Cs (Fp FL) JN))) (Hw (H2:=(hT 2 [(oC [zI z1,zI z2,zI z3,Sl.v 1 s5])])) (v:=(Sl.v 1 s10)) (v':=(Sl.v 1 s10)) [some 0] [] [] [(.agg ⟨[zI z1,zI z2,zI z3,Sl.v 1 s5]⟩),Sl.v 1 s3,zI x4] [] [] [some 0,none] [] [] (by kernel_rfl) Dy (Eq.trans (by kernel_rfl) h9) Dy Dy)) (eE)))) ?_
     exact⟨(s3,s10,(Int.ofNat k1),z1,z2,z3,s5),hm,(.k0 [false] [.tmp 2 false] [1,2,5,6])⟩
    ·refine .ifF b0 (by kernel_rfl) h6 ?_
     refine .skip ?_
     exact⟨(s3,s4,(Int.ofNat k1),z1,z2,z3,s5),hm,(.k0 [false] [.tmp 2 false] [1,2,5,6])⟩
  ·refine Dn (AY z0 (Int.ofNat (Sl.n s5))) h0 ?_
   refine .exit ?_
   exact⟨s4,hm,(.k0 [false] [] [5])⟩
def UM (pu:Af) (n:Nat) (b0:Bool):OV:=
 (some (.bool b0))
def Adm (pu:Af) (n:Nat) (x0 x1 x2:Int):OV:=
 (bb (nt (AY x1 x0)) (UM pu n (nt (AY x2 x1))) (UM pu n false))
def m34 (pu:Af) (n:Nat) (args:LV):OV:=
 (ll args none fun a0 args=>(ll args none fun a1 args=>(ll args none fun a2 args=>(ll args (oo (Bi .i64 a0) none fun x0=>(oo (Bi .i64 a1) none fun x1=>(oo (Bi .i64 a2) none fun x2=>(Adm pu n x0 x1 x2)))) fun _ _=>none))))
theorem Ado (pu:Af) (n:Nat) (b0:Bool) {v:Value} (hm:UM pu n b0=some v):BN tt (Bb tabs isP pu (inl pu)) 1 .ret (fr 15 [(6,zB b0)]) AO (Fin tt 1 [.tmp 6] v):=by
 unfold UM at hm
 refine .ret ?_
 exact Ay (zB b0) hm
theorem r34 {call:A8} (pu:Af) (n:Nat) (hcall:call=Bb tabs isP pu (inl pu)) {args:LV} {v:Value} (hm:m34 pu n args=some v) (_:∀ x∈args,closed2 x=true):args.length≤15∧BN tt call 1 WT (Fr.made 15 args) (Ao tabs) (Fin tt 1 [.tmp 6] v):=by
 subst hcall
 unfold m34 at hm
 replace hm:=Ad hm;obtain⟨a0,args_0,rfl,hm⟩:=hm
 replace hm:=Ad hm;obtain⟨a1,args_1,rfl,hm⟩:=hm
 replace hm:=Ad hm;obtain⟨a2,args_2,rfl,hm⟩:=hm
 replace hm:=AC hm;obtain⟨rfl,hm⟩:=hm
 replace hm:=Ai hm;obtain⟨x0,rfl,hm⟩:=hm
 replace hm:=Ai hm;obtain⟨x1,rfl,hm⟩:=hm
 replace hm:=Ai hm;obtain⟨x2,rfl,hm⟩:=hm
 unfold Adm at hm
 refine⟨by simp,?_⟩
 refine .same (F':=(fr 15 [(0,zI x0),(1,zI x1),(2,zI x2)])) (H':=AO) (by kernel_rfl) (by kernel_rfl) ?_
 refine .then (.rK (.ghs (fr 15 [(0,zI x0),(1,zI x1),(2,zI x2)]) AO (.k0 [false] [] [0,1,2]) ?_))
 refine .join (v:=v) (fun y:Bool=>((fr 15 [(6,zB y)]),AO)) (fun y=>UM pu n y) ?_ ?_
 ·rintro b0 hm
  exact Ado pu n b0 hm
 ·replace hm:=Ag hm;rcases hm with⟨h0,hm⟩ | ⟨h0,hm⟩
  ·refine .reg (eC 2 (some ((zB (nt (AY x1 x0))),AO)) (show _=some ((zB true),_) from (by rw[show (nt (AY x1 x0))=true from h0])) (eE)) ?_
   exact⟨(nt (AY x2 x1)),hm,(.k0 [false] [] [6])⟩
  ·refine .reg (eC 2 (some ((zB (nt (AY x1 x0))),AO)) (show _=some ((zB false),_) from (by rw[show (nt (AY x1 x0))=false from h0])) (eE)) ?_
   exact⟨false,hm,(.k0 [false] [] [6])⟩

def Adp (pu:Af) (n:Nat) (x0:Int):OV:=
 (bb (Bd x0 (4:Int)) (some (.agg ⟨[(.int .i64 (0:Int)),(.bool true)]⟩)) (bb (Bd x0 (5:Int)) (some (.agg ⟨[(.int .i64 (2:Int)),(.bool true)]⟩)) (bb (Bd x0 (6:Int)) (some (.agg ⟨[(.int .i64 (1:Int)),(.bool true)]⟩)) (bb (Bd x0 (7:Int)) (some (.agg ⟨[(.int .i64 (3:Int)),(.bool true)]⟩)) (some (.agg ⟨[.int .i64 x0,(.bool false)]⟩))))))
def m35 (pu:Af) (n:Nat) (args:LV):OV:=
 (ll args none fun a0 args=>(ll args (oo (Bi .i64 a0) none fun x0=>(Adp pu n x0)) fun _ _=>none))
theorem r35 {call:A8} (pu:Af) (n:Nat) (hcall:call=Bb tabs isP pu (inl pu)) {args:LV} {v:Value} (hm:m35 pu n args=some v) (_:∀ x∈args,closed2 x=true):args.length≤18∧BN tt call 1 Sq (Fr.made 18 args) (Ao tabs) (Fin tt 1 [.cell 2 64] v):=by
 subst hcall
 unfold m35 at hm
 replace hm:=Ad hm;obtain⟨a0,args_0,rfl,hm⟩:=hm
 replace hm:=AC hm;obtain⟨rfl,hm⟩:=hm
 replace hm:=Ai hm;obtain⟨x0,rfl,hm⟩:=hm
 unfold Adp at hm
 refine⟨by simp,?_⟩
 refine .same (F':=(fr 18 [(0,zI x0)])) (H':=AO) (by kernel_rfl) (by kernel_rfl) ?_
 refine .then (.rK (.ghs (fr 18 [(0,zI x0),(2,pt 1 0)]) (hT 2 [(oC [(zI (0:Int)),zB false])]) (.k0 [false] [.tmp 2 false] [0,2]) ?_))
 refine .then (.then (.rK (.ghs (fr 18 [(0,zI x0),(2,pt 1 0),(3,zI x0)]) (hT 2 [(oC [(zI (0:Int)),zB false])]) (.k0 [false] [.tmp 2 false] [0,2,3]) ?_)))
 refine .block (.then (.rK (.ghs (fr 18 [(0,zI x0),(2,pt 1 0),(3,zI x0),(4,(zB (Bd x0 (4:Int))))]) (hT 2 [(oC [(zI (0:Int)),zB false])]) (.k0 [false] [.tmp 2 false] [0,2,3,4]) ?_)))
 replace hm:=Ag hm;rcases hm with⟨h0,hm⟩ | ⟨h0,hm⟩
 ·refine C8 (Bd x0 (4:Int)) h0 ?_
  refine .then (.rK (.ghs (fr 18 [(2,pt 1 0)]) (hT 2 [(oC [(zI (0:Int)),zB true])]) (.k0 [false] [.tmp 2 false] [2]) ?_))
  refine .ret ?_
  exact Ay (.agg ⟨[(zI (0:Int)),zB true]⟩) hm
 ·refine Dn (Bd x0 (4:Int)) h0 ?_
  refine .then (.rK (.ghs (fr 18 [(0,zI x0),(2,pt 1 0),(3,zI x0),(7,(zB (Bd x0 (5:Int))))]) (hT 2 [(oC [(zI (0:Int)),zB false])]) (.k0 [false] [.tmp 2 false] [0,2,3,7]) ?_))
  replace hm:=Ag hm;rcases hm with⟨h1,hm⟩ | ⟨h1,hm⟩
  ·refine C8 (Bd x0 (5:Int)) h1 ?_
   refine .then (.rK (.ghs (fr 18 [(2,pt 1 0)]) (hT 2 [(oC [(zI (2:Int)),zB true])]) (.k0 [false] [.tmp 2 false] [2]) ?_))
   refine .ret ?_
   exact Ay (.agg ⟨[(zI (2:Int)),zB true]⟩) hm
  ·refine Dn (Bd x0 (5:Int)) h1 ?_
   refine .then (.rK (.ghs (fr 18 [(0,zI x0),(2,pt 1 0),(3,zI x0),(10,(zB (Bd x0 (6:Int))))]) (hT 2 [(oC [(zI (0:Int)),zB false])]) (.k0 [false] [.tmp 2 false] [0,2,3,10]) ?_))
   replace hm:=Ag hm;rcases hm with⟨h2,hm⟩ | ⟨h2,hm⟩
   ·refine C8 (Bd x0 (6:Int)) h2 ?_
    refine .then (.rK (.ghs (fr 18 [(2,pt 1 0)]) (hT 2 [(oC [(zI (1:Int)),zB true])]) (.k0 [false] [.tmp 2 false] [2]) ?_))
    refine .ret ?_
    exact Ay (.agg ⟨[(zI (1:Int)),zB true]⟩) hm
   ·refine Dn (Bd x0 (6:Int)) h2 ?_
    refine .then (.rK (.ghs (fr 18 [(0,zI x0),(2,pt 1 0),(13,(zB (Bd x0 (7:Int))))]) (hT 2 [(oC [(zI (0:Int)),zB false])]) (.k0 [false] [.tmp 2 false] [0,2,13]) ?_))
    replace hm:=Ag hm;rcases hm with⟨h3,hm⟩ | ⟨h3,hm⟩
    ·refine C8 (Bd x0 (7:Int)) h3 ?_
     refine .then (.rK (.ghs (fr 18 [(2,pt 1 0)]) (hT 2 [(oC [(zI (3:Int)),zB true])]) (.k0 [false] [.tmp 2 false] [2]) ?_))
     refine .ret ?_
     exact Ay (.agg ⟨[(zI (3:Int)),zB true]⟩) hm
    ·refine Dn (Bd x0 (7:Int)) h3 ?_
     refine .skip (.ghs (fr 18 [(0,zI x0),(2,pt 1 0)]) (hT 2 [(oC [(zI (0:Int)),zB false])]) (.k0 [false] [.tmp 2 false] [0,2]) ?_)
     refine .then (.rK (.ghs (fr 18 [(2,pt 1 0)]) (hT 2 [(oC [zI x0,zB false])]) (.k0 [false] [.tmp 2 false] [2]) ?_))
     refine .ret ?_
     exact Ay (.agg ⟨[zI x0,zB false]⟩) hm
def UN (pu:Af) (n:Nat) (z0:Int) (b0:Bool) (z1:Int) (b1:Bool) (z2:Int) (b2:Bool):OV:=
 (some (.agg ⟨[(.int .i64 (Aj .i64 (Int.add z0 z1))),(.bool (bq false (bq b0 b1)))]⟩))
def Adq (pu:Af) (n:Nat) (x0:Int) (b0:Bool) (x1:Int) (b1:Bool):OV:=
 (bb b0 (UN pu n x0 b0 (Aj .i64 (Int.sub (.ofNat 0) x1)) b1 (0:Int) false) (UN pu n x0 b0 x1 b1 (0:Int) false))
def m36 (pu:Af) (n:Nat) (args:LV):OV:=
 (ll args none fun a0 args=>(ll args none fun a1 args=>(ll args (oo (Bt a0) none fun l0=>(ll l0 none fun v0 l0=>(ll l0 none fun v1 l0=>(ll l0 (oo (Bi .i64 v0) none fun x0=>(oo (Bf v1) none fun b0=>(oo (Bt a1) none fun l1=>(ll l1 none fun v2 l1=>(ll l1 none fun v3 l1=>(ll l1 (oo (Bi .i64 v2) none fun x1=>(oo (Bf v3) none fun b1=>(Adq pu n x0 b0 x1 b1))) fun _ _=>none)))))) fun _ _=>none)))) fun _ _=>none)))
theorem Adr (pu:Af) (n:Nat) (z0:Int) (b0:Bool) (z1:Int) (b1:Bool) (z2:Int) (b2:Bool) {v:Value} (hm:UN pu n z0 b0 z1 b1 z2 b2=some v):BN tt (Bb tabs isP pu (inl pu)) 1 lW (fr 22 [(2,pt 1 0),(3,(pt 2 0)),(4,(pt 3 0))]) (hT 4 [(oC [zI z0,zB b0]),(oC [zI z1,zB b1]),(oC [zI z2,zB b2])]) (Fin tt 1 [.cell 4 64] v):=by
 unfold UN at hm
 refine .then (.rK (.ghs (fr 22 [(4,pt 1 0)]) (hT 2 [(oC [(zI (Aj .i64 (Int.add z0 z1))),(zB (bq false (bq b0 b1)))])]) (.k0 [false] [.tmp 4 false] [4]) ?_))
 refine .ret ?_
 exact Ay (.agg ⟨[(zI (Aj .i64 (Int.add z0 z1))),(zB (bq false (bq b0 b1)))]⟩) hm
theorem r36 {call:A8} (pu:Af) (n:Nat) (hcall:call=Bb tabs isP pu (inl pu)) {args:LV} {v:Value} (hm:m36 pu n args=some v) (_:∀ x∈args,closed2 x=true):args.length≤22∧BN tt call 1 WV (Fr.made 22 args) (Ao tabs) (Fin tt 1 [.cell 4 64] v):=by
 subst hcall
 unfold m36 at hm
 replace hm:=Ad hm;obtain⟨a0,args_0,rfl,hm⟩:=hm
 replace hm:=Ad hm;obtain⟨a1,args_1,rfl,hm⟩:=hm
 replace hm:=AC hm;obtain⟨rfl,hm⟩:=hm
 replace hm:=BG hm;obtain⟨l0,rfl,hm⟩:=hm
 replace hm:=Ad hm;obtain⟨v0,l7110_0,rfl,hm⟩:=hm
 replace hm:=Ad hm;obtain⟨v1,l7110_1,rfl,hm⟩:=hm
 replace hm:=AC hm;obtain⟨rfl,hm⟩:=hm
 replace hm:=Ai hm;obtain⟨x0,rfl,hm⟩:=hm
 replace hm:=Be hm;obtain⟨b0,rfl,hm⟩:=hm
 replace hm:=BG hm;obtain⟨l1,rfl,hm⟩:=hm
 replace hm:=Ad hm;obtain⟨v2,l7118_0,rfl,hm⟩:=hm
 replace hm:=Ad hm;obtain⟨v3,l7118_1,rfl,hm⟩:=hm
 replace hm:=AC hm;obtain⟨rfl,hm⟩:=hm
 replace hm:=Ai hm;obtain⟨x1,rfl,hm⟩:=hm
 replace hm:=Be hm;obtain⟨b1,rfl,hm⟩:=hm
 unfold Adq at hm
 refine⟨by simp,?_⟩
 refine .same (F':=(fr 22 [(0,(.agg ⟨[zI x0,zB b0]⟩)),(1,(.agg ⟨[zI x1,zB b1]⟩))])) (H':=AO) (by kernel_rfl) (by kernel_rfl) ?_
 refine .then (.rK (.ghs (fr 22 [(2,pt 1 0),(3,(pt 2 0)),(4,(pt 3 0))]) (hT 4 [(oC [zI x0,zB b0]),(oC [zI x1,zB b1]),(oC [(zI (0:Int)),zB false])]) (.k0 [false] [.tmp 2 false,.tmp 3 false,.tmp 4 false] [2,3,4]) ?_))
 refine .join (v:=v) (fun y:Int×Bool×Int×Bool×Int×Bool=>((fr 22 [(2,pt 1 0),(3,(pt 2 0)),(4,(pt 3 0))]),(hT 4 [(oC [(zI y.1),(zB y.2.1)]),(oC [(zI y.2.2.1),(zB y.2.2.2.1)]),(oC [(zI y.2.2.2.2.1),(zB y.2.2.2.2.2)])]))) (fun y=>UN pu n y.1 y.2.1 y.2.2.1 y.2.2.2.1 y.2.2.2.2.1 y.2.2.2.2.2) ?_ ?_
 ·rintro⟨z0,b2,z1,b70,z2,b77⟩ hm
  exact Adr pu n z0 b2 z1 b70 z2 b77 hm
 ·refine .then (.rK (.ghs (fr 22 [(2,pt 1 0),(3,(pt 2 0)),(4,(pt 3 0)),(6,zB b0)]) (hT 4 [(oC [zI x0,zB b0]),(oC [zI x1,zB b1]),(oC [(zI (0:Int)),zB false])]) (.k0 [false] [.tmp 2 false,.tmp 3 false,.tmp 4 false] [2,3,4,6]) ?_))
  replace hm:=Ag hm;rcases hm with⟨h0,hm⟩ | ⟨h0,hm⟩
  ·refine .ifT b0 (by kernel_rfl) h0 ?_
   refine .rK ?_
   exact⟨(x0,b0,(Aj .i64 (Int.sub (.ofNat 0) x1)),b1,(0:Int),false),hm,(.k0 [false] [.tmp 2 false,.tmp 3 false,.tmp 4 false] [2,3,4])⟩
  ·refine .ifF b0 (by kernel_rfl) h0 ?_
   refine .skip ?_
   exact⟨(x0,b0,x1,b1,(0:Int),false),hm,(.k0 [false] [.tmp 2 false,.tmp 3 false,.tmp 4 false] [2,3,4])⟩

def Ads (pu:Af) (n:Nat) (x0:Int) (b0:Bool):OV:=
 (bb (nt b0) (some (.int .i64 (Int.tmod (Aj .i64 (Int.add x0 (4:Int))) (4:Int)))) (bb (Bd (Int.tmod (Aj .i64 (Int.add x0 (4:Int))) (4:Int)) (0:Int)) (some (.int .i64 (4:Int))) (bb (Bd (Int.tmod (Aj .i64 (Int.add x0 (4:Int))) (4:Int)) (1:Int)) (some (.int .i64 (6:Int))) (bb (Bd (Int.tmod (Aj .i64 (Int.add x0 (4:Int))) (4:Int)) (2:Int)) (some (.int .i64 (5:Int))) (some (.int .i64 (7:Int)))))))
def m37 (pu:Af) (n:Nat) (args:LV):OV:=
 (ll args none fun a0 args=>(ll args (oo (Bt a0) none fun l0=>(ll l0 none fun v0 l0=>(ll l0 none fun v1 l0=>(ll l0 (oo (Bi .i64 v0) none fun x0=>(oo (Bf v1) none fun b0=>(Ads pu n x0 b0))) fun _ _=>none)))) fun _ _=>none))
theorem r37 {call:A8} (pu:Af) (n:Nat) (hcall:call=Bb tabs isP pu (inl pu)) {args:LV} {v:Value} (hm:m37 pu n args=some v) (_:∀ x∈args,closed2 x=true):args.length≤22∧BN tt call 1 Sz (Fr.made 22 args) (Ao tabs) (Fin tt 1 [.tmp 2] v):=by
 subst hcall
 unfold m37 at hm
 replace hm:=Ad hm;obtain⟨a0,args_0,rfl,hm⟩:=hm
 replace hm:=AC hm;obtain⟨rfl,hm⟩:=hm
 replace hm:=BG hm;obtain⟨l0,rfl,hm⟩:=hm
 replace hm:=Ad hm;obtain⟨v0,l7135_0,rfl,hm⟩:=hm
 replace hm:=Ad hm;obtain⟨v1,l7135_1,rfl,hm⟩:=hm
 replace hm:=AC hm;obtain⟨rfl,hm⟩:=hm
 replace hm:=Ai hm;obtain⟨x0,rfl,hm⟩:=hm
 replace hm:=Be hm;obtain⟨b0,rfl,hm⟩:=hm
 unfold Ads at hm
 refine⟨by simp,?_⟩
 refine .same (F':=(fr 22 [(0,(.agg ⟨[zI x0,zB b0]⟩))])) (H':=AO) (by kernel_rfl) (by kernel_rfl) ?_
 refine .then (.rK (.ghs (fr 22 [(1,pt 1 0)]) (hT 2 [(oC [zI x0,zB b0])]) (.k0 [false] [.tmp 1 false] [1]) ?_))
 refine .then (.rK (.ghs (fr 22 [(1,pt 1 0),(3,(zI (Int.tmod (Aj .i64 (Int.add x0 (4:Int))) (4:Int))))]) (hT 2 [(oC [zI x0,zB b0])]) (.k0 [false] [.tmp 1 false] [1,3]) ?_))
 refine .then (.block (.then (.rK (.ghs (fr 22 [(3,(zI (Int.tmod (Aj .i64 (Int.add x0 (4:Int))) (4:Int)))),(8,(zB (nt b0)))]) AO (.k0 [false] [] [3,8]) ?_))))
 replace hm:=Ag hm;rcases hm with⟨h0,hm⟩ | ⟨h0,hm⟩
 ·refine C8 (nt b0) h0 ?_
  refine .then (.rK (.ghs (fr 22 [(2,(zI (Int.tmod (Aj .i64 (Int.add x0 (4:Int))) (4:Int))))]) AO (.k0 [false] [] [2]) ?_))
  refine .ret ?_
  exact Ay (zI (Int.tmod (Aj .i64 (Int.add x0 (4:Int))) (4:Int))) hm
 ·refine Dn (nt b0) h0 ?_
  refine .then (.rK (.ghs (fr 22 [(3,(zI (Int.tmod (Aj .i64 (Int.add x0 (4:Int))) (4:Int)))),(13,(zB (Bd (Int.tmod (Aj .i64 (Int.add x0 (4:Int))) (4:Int)) (0:Int))))]) AO (.k0 [false] [] [3,13]) ?_))
  replace hm:=Ag hm;rcases hm with⟨h1,hm⟩ | ⟨h1,hm⟩
  ·refine C8 (Bd (Int.tmod (Aj .i64 (Int.add x0 (4:Int))) (4:Int)) (0:Int)) h1 ?_
   refine .then (.rK (.ghs (fr 22 [(2,(zI (4:Int)))]) AO (.k0 [false] [] [2]) ?_))
   refine .ret ?_
   exact Ay (zI (4:Int)) hm
  ·refine Dn (Bd (Int.tmod (Aj .i64 (Int.add x0 (4:Int))) (4:Int)) (0:Int)) h1 ?_
   refine .then (.rK (.ghs (fr 22 [(3,(zI (Int.tmod (Aj .i64 (Int.add x0 (4:Int))) (4:Int)))),(16,(zB (Bd (Int.tmod (Aj .i64 (Int.add x0 (4:Int))) (4:Int)) (1:Int))))]) AO (.k0 [false] [] [3,16]) ?_))
   replace hm:=Ag hm;rcases hm with⟨h2,hm⟩ | ⟨h2,hm⟩
   ·refine C8 (Bd (Int.tmod (Aj .i64 (Int.add x0 (4:Int))) (4:Int)) (1:Int)) h2 ?_
    refine .then (.rK (.ghs (fr 22 [(2,(zI (6:Int)))]) AO (.k0 [false] [] [2]) ?_))
    refine .ret ?_
    exact Ay (zI (6:Int)) hm
   ·refine Dn (Bd (Int.tmod (Aj .i64 (Int.add x0 (4:Int))) (4:Int)) (1:Int)) h2 ?_
    refine .then (.rK (.ghs (fr 22 [(19,(zB (Bd (Int.tmod (Aj .i64 (Int.add x0 (4:Int))) (4:Int)) (2:Int))))]) AO (.k0 [false] [] [19]) ?_))
    replace hm:=Ag hm;rcases hm with⟨h3,hm⟩ | ⟨h3,hm⟩
    ·refine C8 (Bd (Int.tmod (Aj .i64 (Int.add x0 (4:Int))) (4:Int)) (2:Int)) h3 ?_
     refine .then (.rK (.ghs (fr 22 [(2,(zI (5:Int)))]) AO (.k0 [false] [] [2]) ?_))
     refine .ret ?_
     exact Ay (zI (5:Int)) hm
    ·refine Dn (Bd (Int.tmod (Aj .i64 (Int.add x0 (4:Int))) (4:Int)) (2:Int)) h3 ?_
     refine .skip (.ghs (fr 22 []) AO (.k0 [false] [] []) ?_)
     refine .then (.rK (.ghs (fr 22 [(2,(zI (7:Int)))]) AO (.k0 [false] [] [2]) ?_))
     refine .ret ?_
     exact Ay (zI (7:Int)) hm

def wW (pu:Af) (n:Nat) (x0 x1:Int):OV:=
 (oo (pu 71 [.int .i64 x0]) none fun v0=>(oo (Bf v0) none fun b0=>(oo (pu 71 [.int .i64 x1]) none fun v1=>(oo (Bf v1) none fun b1=>(bb b0 (bb b1 (some (.int .i64 (0:Int))) (some (.int .i64 (-1:Int)))) (bb b1 (some (.int .i64 (1:Int))) (bb (AY x0 x1) (some (.int .i64 (-1:Int))) (bb (AY x1 x0) (some (.int .i64 (1:Int))) (some (.int .i64 (0:Int)))))))))))
def zH (pu:Af) (n:Nat) (args:LV):OV:=
 (ll args none fun a0 args=>(ll args none fun a1 args=>(ll args (oo (Bi .i64 a0) none fun x0=>(oo (Bi .i64 a1) none fun x1=>(wW pu n x0 x1))) fun _ _=>none)))
theorem r54 {call:A8} (pu:Af) (n:Nat) (hcall:call=Bb tabs isP pu (inl pu)) {args:LV} {v:Value} (hm:zH pu n args=some v) (_:∀ x∈args,closed2 x=true):args.length≤20∧BN tt call 1 SA (Fr.made 20 args) (Ao tabs) (Fin tt 1 [.tmp 4] v):=by
 subst hcall
 unfold zH at hm
 replace hm:=Ad hm;obtain⟨a0,args_0,rfl,hm⟩:=hm
 replace hm:=Ad hm;obtain⟨a1,args_1,rfl,hm⟩:=hm
 replace hm:=AC hm;obtain⟨rfl,hm⟩:=hm
 replace hm:=Ai hm;obtain⟨x0,rfl,hm⟩:=hm
 replace hm:=Ai hm;obtain⟨x1,rfl,hm⟩:=hm
 unfold wW at hm
 refine⟨by simp,?_⟩
 refine .same (F':=(fr 20 [(0,zI x0),(1,zI x1)])) (H':=AO) (by kernel_rfl) (by kernel_rfl) ?_
 refine .then (.rK (.ghs (fr 20 [(0,zI x0),(1,zI x1)]) AO (.k0 [false] [] [0,1]) ?_))
 refine .then ?_
 replace hm:=QF hm;obtain⟨b0,h0,hm⟩:=hm
 refine .reg (eC 1 ((oo (pu 71 [zI x0]) none fun v=>some (v,AO))) (AB h0) (eE)) ?_
 refine .ghs (fr 20 [(0,zI x0),(1,zI x1),(5,zB b0)]) AO (.k0 [false] [] [0,1,5]) ?_
 refine .then ?_
 replace hm:=QF hm;obtain⟨b1,h1,hm⟩:=hm
 refine .reg (eC 1 ((oo (pu 71 [zI x1]) none fun v=>some (v,AO))) (AB h1) (eE)) ?_
 refine .ghs (fr 20 [(0,zI x0),(1,zI x1),(5,zB b0),(6,zB b1)]) AO (.k0 [false] [] [0,1,5,6]) ?_
 refine .then (.then (.rK (.ghs (fr 20 [(0,zI x0),(1,zI x1),(6,zB b1),(11,zB b0)]) AO (.k0 [false] [] [0,1,6,11]) ?_)))
 replace hm:=Ag hm;rcases hm with⟨h2,hm⟩ | ⟨h2,hm⟩
 ·refine .ifT b0 (by kernel_rfl) h2 ?_
  refine .then (.then (.rK (.ghs (fr 20 [(12,zB b1)]) AO (.k0 [false] [] [12]) ?_)))
  replace hm:=Ag hm;rcases hm with⟨h3,hm⟩ | ⟨h3,hm⟩
  ·refine .ifT b1 (by kernel_rfl) h3 ?_
   refine .then (.rK (.ghs (fr 20 [(4,(zI (0:Int)))]) AO (.k0 [false] [] [4]) ?_))
   refine .ret ?_
   exact Ay (zI (0:Int)) hm
  ·refine .ifF b1 (by kernel_rfl) h3 ?_
   refine .skip (.ghs (fr 20 []) AO (.k0 [false] [] []) ?_)
   refine .then (.rK (.ghs (fr 20 [(4,(zI (-1:Int)))]) AO (.k0 [false] [] [4]) ?_))
   refine .ret ?_
   exact Ay (zI (-1:Int)) hm
 ·refine .ifF b0 (by kernel_rfl) h2 ?_
  refine .skip (.ghs (fr 20 [(0,zI x0),(1,zI x1),(6,zB b1)]) AO (.k0 [false] [] [0,1,6]) ?_)
  refine .then (.then (.rK (.ghs (fr 20 [(0,zI x0),(1,zI x1),(13,zB b1)]) AO (.k0 [false] [] [0,1,13]) ?_)))
  replace hm:=Ag hm;rcases hm with⟨h4,hm⟩ | ⟨h4,hm⟩
  ·refine .ifT b1 (by kernel_rfl) h4 ?_
   refine .then (.rK (.ghs (fr 20 [(4,(zI (1:Int)))]) AO (.k0 [false] [] [4]) ?_))
   refine .ret ?_
   exact Ay (zI (1:Int)) hm
  ·refine .ifF b1 (by kernel_rfl) h4 ?_
   refine .skip (.ghs (fr 20 [(0,zI x0),(1,zI x1)]) AO (.k0 [false] [] [0,1]) ?_)
   refine .then (.then (.rK (.ghs (fr 20 [(0,zI x0),(1,zI x1),(16,(zB (AY x0 x1)))]) AO (.k0 [false] [] [0,1,16]) ?_)))
   replace hm:=Ag hm;rcases hm with⟨h5,hm⟩ | ⟨h5,hm⟩
   ·refine C8 (AY x0 x1) h5 ?_
    refine .then (.rK (.ghs (fr 20 [(4,(zI (-1:Int)))]) AO (.k0 [false] [] [4]) ?_))
    refine .ret ?_
    exact Ay (zI (-1:Int)) hm
   ·refine Dn (AY x0 x1) h5 ?_
    refine .skip (.ghs (fr 20 [(0,zI x0),(1,zI x1)]) AO (.k0 [false] [] [0,1]) ?_)
    refine .then (.then (.rK (.ghs (fr 20 [(19,(zB (AY x1 x0)))]) AO (.k0 [false] [] [19]) ?_)))
    replace hm:=Ag hm;rcases hm with⟨h6,hm⟩ | ⟨h6,hm⟩
    ·refine C8 (AY x1 x0) h6 ?_
     refine .then (.rK (.ghs (fr 20 [(4,(zI (1:Int)))]) AO (.k0 [false] [] [4]) ?_))
     refine .ret ?_
     exact Ay (zI (1:Int)) hm
    ·refine Dn (AY x1 x0) h6 ?_
     refine .skip (.ghs (fr 20 []) AO (.k0 [false] [] []) ?_)
     refine .then (.rK (.ghs (fr 20 [(4,(zI (0:Int)))]) AO (.k0 [false] [] [4]) ?_))
     refine .ret ?_
     exact Ay (zI (0:Int)) hm
def UO (pu:Af) (n:Nat) (b0:Bool):OV:=
 (some (.bool b0))
def Adt (pu:Af) (n:Nat) (x0 x1 x2:Int):OV:=
 (bb (nt (AY x0 x1)) (UO pu n (nt (AY x2 x0))) (UO pu n false))
def wZ (pu:Af) (n:Nat) (args:LV):OV:=
 (ll args none fun a0 args=>(ll args none fun a1 args=>(ll args none fun a2 args=>(ll args (oo (Bi .i64 a0) none fun x0=>(oo (Bi .i64 a1) none fun x1=>(oo (Bi .i64 a2) none fun x2=>(Adt pu n x0 x1 x2)))) fun _ _=>none))))
theorem Adu (pu:Af) (n:Nat) (b0:Bool) {v:Value} (hm:UO pu n b0=some v):BN tt (Bb tabs isP pu (inl pu)) 1 .ret (fr 15 [(6,zB b0)]) AO (Fin tt 1 [.tmp 6] v):=by
 unfold UO at hm
 refine .ret ?_
 exact Ay (zB b0) hm
theorem r55 {call:A8} (pu:Af) (n:Nat) (hcall:call=Bb tabs isP pu (inl pu)) {args:LV} {v:Value} (hm:wZ pu n args=some v) (_:∀ x∈args,closed2 x=true):args.length≤15∧BN tt call 1 WW (Fr.made 15 args) (Ao tabs) (Fin tt 1 [.tmp 6] v):=by
 subst hcall
 unfold wZ at hm
 replace hm:=Ad hm;obtain⟨a0,args_0,rfl,hm⟩:=hm
 replace hm:=Ad hm;obtain⟨a1,args_1,rfl,hm⟩:=hm
 replace hm:=Ad hm;obtain⟨a2,args_2,rfl,hm⟩:=hm
 replace hm:=AC hm;obtain⟨rfl,hm⟩:=hm
 replace hm:=Ai hm;obtain⟨x0,rfl,hm⟩:=hm
 replace hm:=Ai hm;obtain⟨x1,rfl,hm⟩:=hm
 replace hm:=Ai hm;obtain⟨x2,rfl,hm⟩:=hm
 unfold Adt at hm
 refine⟨by simp,?_⟩
 refine .same (F':=(fr 15 [(0,zI x0),(1,zI x1),(2,zI x2)])) (H':=AO) (by kernel_rfl) (by kernel_rfl) ?_
 refine .then (.rK (.ghs (fr 15 [(0,zI x0),(1,zI x1),(2,zI x2)]) AO (.k0 [false] [] [0,1,2]) ?_))
 refine .join (v:=v) (fun y:Bool=>((fr 15 [(6,zB y)]),AO)) (fun y=>UO pu n y) ?_ ?_
 ·rintro b0 hm
  exact Adu pu n b0 hm
 ·replace hm:=Ag hm;rcases hm with⟨h0,hm⟩ | ⟨h0,hm⟩
  ·refine .reg (eC 2 (some ((zB (nt (AY x0 x1))),AO)) (show _=some ((zB true),_) from (by rw[show (nt (AY x0 x1))=true from h0])) (eE)) ?_
   exact⟨(nt (AY x2 x0)),hm,(.k0 [false] [] [6])⟩
  ·refine .reg (eC 2 (some ((zB (nt (AY x0 x1))),AO)) (show _=some ((zB false),_) from (by rw[show (nt (AY x0 x1))=false from h0])) (eE)) ?_
   exact⟨false,hm,(.k0 [false] [] [6])⟩
def XM (pu:Af) (n:Nat):OV:=
 (some (.bool false))
def dC (pu:Af) (n:Nat) (ih0:Sl→Int→Int→OV) (s0:Sl) (z0 z1:Int):OV:=
 (bb (AY z1 (Int.ofNat (Sl.n s0))) (oo (EA z1) none fun k1=>(bb (an (Nat.blt k1 (Sl.n s0)) true) (oo (AL (Sl.cs s0) (k1*1)) none fun v0=>(oo (Bi .i64 v0) none fun x0=>(bb (Bd x0 z0) (some (.bool true)) (ih0 s0 z0 (Aj .i64 (Int.add (Int.ofNat k1) (1:Int))))))) none)) (XM pu n))
def dP (pu:Af) (n w:Nat):Sl→Int→Int→OV:=
 Nat.rec (motive:=fun _=>Sl→Int→Int→OV) (fun _ _ _=>none) (fun _ ih0=>dC pu n ih0) w
def Adv (pu:Af) (n:Nat) (s0:Sl) (x0:Int):OV:=
 (dP pu n n s0 x0 (0:Int))
def m56 (pu:Af) (n:Nat) (args:LV):OV:=
 (ll args none fun a0 args=>(ll args none fun a1 args=>(ll args (oo (Bj 1 a0) none fun s0=>(oo (Bi .i64 a1) none fun x0=>(Adv pu n s0 x0))) fun _ _=>none)))
theorem Adx (pu:Af) (n:Nat) {v:Value} (hm:XM pu n=some v):BN tt (Bb tabs isP pu (inl pu)) 1 ZO (fr 18 []) AO (Fin tt 1 [.tmp 4] v):=by
 unfold XM at hm
 refine .then (.rK (.ghs (fr 18 [(4,zB false)]) AO (.k0 [false] [] [4]) ?_))
 refine .ret ?_
 exact Ay (zB false) hm
theorem r56 {call:A8} (pu:Af) (n:Nat) (hcall:call=Bb tabs isP pu (inl pu)) {args:LV} {v:Value} (hm:m56 pu n args=some v) (_:∀ x∈args,closed2 x=true):args.length≤18∧BN tt call 1 SB (Fr.made 18 args) (Ao tabs) (Fin tt 1 [.tmp 4] v):=by
 subst hcall
 unfold m56 at hm
 replace hm:=Ad hm;obtain⟨a0,args_0,rfl,hm⟩:=hm
 replace hm:=Ad hm;obtain⟨a1,args_1,rfl,hm⟩:=hm
 replace hm:=AC hm;obtain⟨rfl,hm⟩:=hm
 replace hm:=Al hm;obtain⟨s0,rfl,hm⟩:=hm
 replace hm:=Ai hm;obtain⟨x0,rfl,hm⟩:=hm
 unfold Adv at hm
 refine⟨by simp,?_⟩
 refine .same (F':=(fr 18 [(0,Sl.v 1 s0),(1,zI x0)])) (H':=AO) (by kernel_rfl) (by kernel_rfl) ?_
 refine .then (.rK (.ghs (fr 18 [(0,Sl.v 1 s0),(1,zI x0)]) AO (.k0 [false] [] [0,1]) ?_))
 refine .join (v:=v) (fun y:Unit=>((fr 18 []),AO)) (fun y=>XM pu n) ?_ ?_
 ·rintro _ hm
  exact Adx pu n hm
 ·refine .then (.rK (.ghs (fr 18 [(0,Sl.v 1 s0),(1,zI x0),(5,(zI (0:Int)))]) AO (.k0 [false] [] [0,1,5]) ?_))
  refine .block (.loopM (v:=v) (fun y:Sl×Int×Int=>((fr 18 [(0,(Sl.v 1 y.1)),(1,(zI y.2.1)),(5,(zI y.2.2))]),AO)) (fun w y=>dP pu n w y.1 y.2.1 y.2.2) n ⟨(s0,x0,(0:Int)),hm,(.k0 [false] [] [0,1,5])⟩ (fun _=>rfl) ?_)
  rintro w0 ⟨s1,z0,z1⟩ hm
  replace hm:dC pu n (dP pu n w0) s1 z0 z1=some v:=hm
  unfold dC at hm
  refine .then (.then (.rK (.ghs (fr 18 [(0,Sl.v 1 s1),(1,zI z0),(5,zI z1),(9,(zB (AY z1 (Int.ofNat (Sl.n s1)))))]) AO (.k0 [false] [] [0,1,5,9]) ?_)))
  replace hm:=Ag hm;rcases hm with⟨h0,hm⟩ | ⟨h0,hm⟩
  ·refine C8 (AY z1 (Int.ofNat (Sl.n s1))) h0 ?_
   refine .skip (.ghs (fr 18 [(0,Sl.v 1 s1),(1,zI z0),(5,zI z1)]) AO (.k0 [false] [] [0,1,5]) ?_)
   refine .then (.block (.then ?_))
   replace hm:=Ab hm;obtain⟨k1,h1,hm⟩:=hm
   obtain rfl:=AR h1
   replace hm:=Ae hm;obtain⟨h2,hm⟩:=hm
   replace hm:=Kc hm;obtain⟨x1,h3,hm⟩:=hm
   refine .reg (eC 2 (keep AO (bb (an (Nat.blt k1 (Sl.n s1)) true) (some (Cv (k1*1) (Sl.cs s1))) none)) (AX h2) (eD (keep AO (AL (Sl.cs s1) (k1*1))) (AZ h3) (eE))) ?_
   refine .ghs (fr 18 [(0,Sl.v 1 s1),(1,zI z0),(5,(zI (Int.ofNat k1))),(17,(zB (Bd x1 z0)))]) AO (.k0 [false] [] [0,1,5,17]) ?_
   replace hm:=Ag hm;rcases hm with⟨h4,hm⟩ | ⟨h4,hm⟩
   ·refine C8 (Bd x1 z0) h4 ?_
    refine .then (.rK (.ghs (fr 18 [(4,zB true)]) AO (.k0 [false] [] [4]) ?_))
    refine .ret ?_
    exact Ay (zB true) hm
   ·refine Dn (Bd x1 z0) h4 ?_
    refine .skip (.ghs (fr 18 [(0,Sl.v 1 s1),(1,zI z0),(5,(zI (Int.ofNat k1)))]) AO (.k0 [false] [] [0,1,5]) ?_)
    refine .rK ?_
    exact⟨(s1,z0,(Aj .i64 (Int.add (Int.ofNat k1) (1:Int)))),hm,(.k0 [false] [] [0,1,5])⟩
  ·refine Dn (AY z1 (Int.ofNat (Sl.n s1))) h0 ?_
   refine .exit ?_
   exact⟨(),hm,(.k0 [false] [] [])⟩
def XN (pu:Af) (n:Nat) (z0:Int):OV:=
 (some (.tuple ⟨[.int .i64 z0,(.int .i64 (0:Int))]⟩))
def dQ (pu:Af) (n:Nat) (ih0:Sl→Sl→Int→Int→Int→Int→OV) (s0 s1:Sl) (z0 z1 z2 z3:Int):OV:=
 (oo (pu 10590 [(.agg ⟨[.int .i64 z1,.int .i64 z2,.int .i64 z3,(Sl.v 1 (Sl.mk 0 2 []))]⟩),Sl.v 1 s0,.int .i64 z0]) none fun v0=>(oo (CQ v0) none fun l0=>(ll l0 none fun v1 l0=>(ll l0 (oo (Bj 1 v1) none fun s2=>(oo (pu 32 [Sl.v 1 s2,Sl.v 1 s1]) none fun v2=>(oo (Bf v2) none fun b0=>(bb (nt b0) (ih0 s0 s1 (Aj .i64 (Int.add z0 (1:Int))) z1 z2 z3) (XN pu n z0))))) fun _ _=>none))))
def dR (pu:Af) (n w:Nat):Sl→Sl→Int→Int→Int→Int→OV:=
 Nat.rec (motive:=fun _=>Sl→Sl→Int→Int→Int→Int→OV) (fun _ _ _ _ _ _=>none) (fun _ ih0=>dQ pu n ih0) w
def RP (pu:Af) (n:Nat) (z0 z1:Int) (b0:Bool):OV:=
 (bb b0 (some (.tuple ⟨[(.int .i64 (0:Int)),(.int .i64 (2:Int))]⟩)) (oo (pu 10590 [(.agg ⟨[(.int .i64 (2:Int)),(.int .i64 (2:Int)),(.int .i64 (0:Int)),(Sl.v 1 (Sl.mk 0 2 []))]⟩),(Sl.v 1 (Sl.mk 4 0 (Aq (4*1) (Am 0 ([(.int .i64 (0:Int)),(.int .i64 (1:Int)),(.int .i64 (2:Int)),(.int .i64 (3:Int))]:LV))))),.int .i64 z0]) none fun v0=>(oo (CQ v0) none fun l0=>(ll l0 none fun v1 l0=>(ll l0 (oo (Bj 1 v1) none fun s0=>(oo (pu 10590 [(.agg ⟨[(.int .i64 (2:Int)),(.int .i64 (2:Int)),(.int .i64 (0:Int)),(Sl.v 1 (Sl.mk 0 2 []))]⟩),Sl.v 1 s0,.int .i64 z1]) none fun v2=>(oo (CQ v2) none fun l1=>(ll l1 none fun v3 l1=>(ll l1 (oo (Bj 1 v3) none fun s1=>(dR pu n n (Sl.mk 4 0 (Aq (4*1) (Am 0 ([(.int .i64 (0:Int)),(.int .i64 (1:Int)),(.int .i64 (2:Int)),(.int .i64 (3:Int))]:LV)))) s1 (0:Int) (2:Int) (2:Int) (0:Int))) fun _ _=>none))))) fun _ _=>none)))))
def Ady (pu:Af) (n:Nat) (x0 x1:Int):OV:=
 (oo (pu 55 [.int .i64 x0,(.int .i64 (0:Int)),(.int .i64 (7:Int))]) none fun v0=>(oo (Bf v0) none fun b0=>(bb (nt b0) (RP pu n x0 x1 true) (oo (pu 55 [.int .i64 x1,(.int .i64 (0:Int)),(.int .i64 (7:Int))]) none fun v1=>(oo (Bf v1) none fun b1=>(RP pu n x0 x1 (nt b1)))))))
def m57 (pu:Af) (n:Nat) (args:LV):OV:=
 (ll args none fun a0 args=>(ll args none fun a1 args=>(ll args (oo (Bi .i64 a0) none fun x0=>(oo (Bi .i64 a1) none fun x1=>(Ady pu n x0 x1))) fun _ _=>none)))
theorem AdA (pu:Af) (n:Nat) (z0:Int) {v:Value} (hm:XN pu n z0=some v):BN tt (Bb tabs isP pu (inl pu)) 1 ZP (fr 37 [(9,zI z0)]) AO (Fin tt 1 [.tmp 4,.tmp 5] v):=by
 unfold XN at hm
 refine .then (.rK (.ghs (fr 37 [(4,zI z0),(5,(zI (0:Int)))]) AO (.k0 [false] [] [4,5]) ?_))
 refine .ret ?_
 exact Ay (.tuple ⟨[zI z0,(zI (0:Int))]⟩) hm
theorem r57 {call:A8} (pu:Af) (n:Nat) (hcall:call=Bb tabs isP pu (inl pu)) {args:LV} {v:Value} (hm:m57 pu n args=some v) (_:∀ x∈args,closed2 x=true):args.length≤37∧BN tt call 1 SE (Fr.made 37 args) (Ao tabs) (Fin tt 1 [.tmp 4,.tmp 5] v):=by
 subst hcall
 unfold m57 at hm
 replace hm:=Ad hm;obtain⟨a0,args_0,rfl,hm⟩:=hm
 replace hm:=Ad hm;obtain⟨a1,args_1,rfl,hm⟩:=hm
 replace hm:=AC hm;obtain⟨rfl,hm⟩:=hm
 replace hm:=Ai hm;obtain⟨x0,rfl,hm⟩:=hm
 replace hm:=Ai hm;obtain⟨x1,rfl,hm⟩:=hm
 unfold Ady at hm
 refine⟨by simp,?_⟩
 refine .same (F':=(fr 37 [(0,zI x0),(1,zI x1)])) (H':=AO) (by kernel_rfl) (by kernel_rfl) ?_
 refine .then (.rK (.ghs (fr 37 [(0,zI x0),(1,zI x1)]) AO (.k0 [false] [] [0,1]) ?_))
 refine .then (.join (v:=v) (fun y:Int×Int×Bool=>((fr 37 [(0,(zI y.1)),(1,(zI y.2.1)),(17,(zB y.2.2))]),AO)) (fun y=>RP pu n y.1 y.2.1 y.2.2) ?_ ?_)
 ·rintro⟨z0,z1,b0⟩ hm
  unfold RP at hm
  replace hm:=Ag hm;rcases hm with⟨h0,hm⟩ | ⟨h0,hm⟩
  ·refine .ifT b0 (by kernel_rfl) h0 ?_
   refine .then (.rK (.ghs (fr 37 [(4,(zI (0:Int))),(5,(zI (2:Int)))]) AO (.k0 [false] [] [4,5]) ?_))
   refine .ret ?_
   exact Ay (.tuple ⟨[(zI (0:Int)),(zI (2:Int))]⟩) hm
  ·refine .ifF b0 (by kernel_rfl) h0 ?_
   refine .skip (.ghs (fr 37 [(0,zI z0),(1,zI z1)]) AO (.k0 [false] [] [0,1]) ?_)
   refine .then (.rK (.ghs (fr 37 [(0,zI z0),(1,zI z1),(6,pt 1 0)]) (hT 2 [(oC [(zI (2:Int)),(zI (2:Int)),(zI (0:Int)),(.slice none 0 0)])]) (.k0 [false] [.tmp 6 false] [0,1,6]) ?_))
   refine .then (.rK (.ghs (fr 37 [(0,zI z0),(1,zI z1),(6,pt 1 0),(7,sc 2 0 1 4 9)]) (hT 3 [(oC [(zI (2:Int)),(zI (2:Int)),(zI (0:Int)),(.slice none 0 0)]),(oC [(zI (0:Int)),(zI (1:Int)),(zI (2:Int)),(zI (3:Int))])]) (.k0 [false] [.tmp 6 false,.tmp 7 false] [0,1,6,7]) ?_))
   refine .then (.ghs (Fr.puts (fr 37 [(0,zI z0),(1,zI z1),(6,pt 1 0),(7,sc 2 0 1 4 9)]) [(7,(Sl.v 1 (Sl.mk 4 0 (Aq (4*1) (Am 0 ([(zI (0:Int)),(zI (1:Int)),(zI (2:Int)),(zI (3:Int))]:LV))))))]) (hT 3 [(oC [(zI (2:Int)),(zI (2:Int)),(zI (0:Int)),(.slice none 0 0)]),.dead]) (.freeze 1 7 1 (by kernel_rfl) (by kernel_rfl) (E9.id _ _)) ?_)
   replace hm:=Ab hm;obtain⟨v0,h1,hm⟩:=hm
   replace hm:=Ch hm;obtain⟨l0,rfl,hm⟩:=hm
   replace hm:=Ad hm;obtain⟨v1,l7324_0,rfl,hm⟩:=hm
   replace hm:=AC hm;obtain⟨rfl,hm⟩:=hm
   replace hm:=Al hm;obtain⟨s0,rfl,hm⟩:=hm
   replace hm:=Ab hm;obtain⟨v2,h2,hm⟩:=hm
   replace hm:=Ch hm;obtain⟨l1,rfl,hm⟩:=hm
   replace hm:=Ad hm;obtain⟨v3,l7337_0,rfl,hm⟩:=hm
   replace hm:=AC hm;obtain⟨rfl,hm⟩:=hm
   replace hm:=Al hm;obtain⟨s1,rfl,hm⟩:=hm
   refine .reg (eC 5 (Jg tabs [[none,none,none,some 1],[some 1],[none]] 3 [] [] (pu 10590) [(.agg ⟨[(zI (2:Int)),(zI (2:Int)),(zI (0:Int)),(.slice none 0 0)]⟩),(Sl.v 1 (Sl.mk 4 0 (Aq (4*1) (Am 0 ([(zI (0:Int)),(zI (1:Int)),(zI (2:Int)),(zI (3:Int))]:LV))))),zI z0] (hT 3 [(oC [(zI (2:Int)),(zI (2:Int)),(zI (0:Int)),(.slice none 0 0)]),.dead])) (Hy (as:=[(.agg ⟨[(zI (2:Int)),(zI (2:Int)),(zI (0:Int)),(Sl.v 1 (Sl.mk 0 2 []))]⟩),(Sl.v 1 (Sl.mk 4 0 (Aq (4*1) (Am 0 ([(zI (0:Int)),(zI (1:Int)),(zI (2:Int)),(zI (3:Int))]:LV))))),zI z0]) (H1:=(hT 3 [(oC [(zI (2:Int)),(zI (2:Int)),(zI (0:Int)),(.slice none 0 0)]),.dead])) (Cs (QO (FX FL (FX FL (FX FL (FX (Ni (Ju (z:=1) (H:=(hT 3 [(oC [(zI (2:Int)),(zI (2:Int)),(zI (0:Int)),(.slice none 0 0)]),.dead])))) QN))))) (Cs (Fp (Ni (CV (z:=1) (v:=(Sl.v 1 (Sl.mk 4 0 (Aq (4*1) (Am 0 ([(zI (0:Int)),(zI (1:Int)),(zI (2:Int)),(zI (3:Int))]:LV)))))) (H:=(hT 3 [(oC [(zI (2:Int)),(zI (2:Int)),(zI (0:Int)),(.slice none 0 0)]),.dead])) (by kernel_rfl) (by kernel_rfl) (by kernel_rfl)))) (Cs (Fp FL) JN))) (Hw (H2:=(hT 3 [(oC [(zI (2:Int)),(zI (2:Int)),(zI (0:Int)),(.slice none 0 0)]),.dead])) (v:=(Sl.v 1 s0)) (v':=(Sl.v 1 s0)) [some 0] [] [] [(.agg ⟨[(zI (2:Int)),(zI (2:Int)),(zI (0:Int)),(Sl.v 1 (Sl.mk 0 2 []))]⟩),(Sl.v 1 (Sl.mk 4 0 (Aq (4*1) (Am 0 ([(zI (0:Int)),(zI (1:Int)),(zI (2:Int)),(zI (3:Int))]:LV))))),zI z0] [] [] [some 0,none,none] [] [] (by kernel_rfl) Dy (Eq.trans (by kernel_rfl) h1) Dy Dy)) (eD (Jg tabs [[none,none,none,some 1],[some 1],[none]] 3 [] [] (pu 10590) [(.agg ⟨[(zI (2:Int)),(zI (2:Int)),(zI (0:Int)),(.slice none 0 0)]⟩),Sl.v 1 s0,zI z1] (hT 3 [(oC [(zI (2:Int)),(zI (2:Int)),(zI (0:Int)),(.slice none 0 0)]),.dead])) (Hy (as:=[(.agg ⟨[(zI (2:Int)),(zI (2:Int)),(zI (0:Int)),(Sl.v 1 (Sl.mk 0 2 []))]⟩),Sl.v 1 s0,zI z1]) (H1:=(hT 3 [(oC [(zI (2:Int)),(zI (2:Int)),(zI (0:Int)),(.slice none 0 0)]),.dead])) (Cs (QO (FX FL (FX FL (FX FL (FX (Ni (Ju (z:=1) (H:=(hT 3 [(oC [(zI (2:Int)),(zI (2:Int)),(zI (0:Int)),(.slice none 0 0)]),.dead])))) QN))))) (Cs (Fp (Ni (CV (z:=1) (v:=(Sl.v 1 s0)) (H:=(hT 3 [(oC [(zI (2:Int)),(zI (2:Int)),(zI (0:Int)),(.slice none 0 0)]),.dead])) (by kernel_rfl) (by kernel_rfl) (by kernel_rfl)))) (Cs (Fp FL) JN))) (Hw (H2:=(hT 3 [(oC [(zI (2:Int)),(zI (2:Int)),(zI (0:Int)),(.slice none 0 0)]),.dead])) (v:=(Sl.v 1 s1)) (v':=(Sl.v 1 s1)) [some 0] [] [] [(.agg ⟨[(zI (2:Int)),(zI (2:Int)),(zI (0:Int)),(Sl.v 1 (Sl.mk 0 2 []))]⟩),Sl.v 1 s0,zI z1] [] [] [some 0,none,none] [] [] (by kernel_rfl) Dy (Eq.trans (by kernel_rfl) h2) Dy Dy)) (eE))) ?_
   refine .ghs (fr 37 [(6,pt 1 0),(7,(Sl.v 1 (Sl.mk 4 0 (Aq (4*1) (Am 0 ([(zI (0:Int)),(zI (1:Int)),(zI (2:Int)),(zI (3:Int))]:LV)))))),(8,Sl.v 1 s1)]) (hT 2 [(oC [(zI (2:Int)),(zI (2:Int)),(zI (0:Int)),(.slice none 0 0)])]) (.k0 [false] [.tmp 6 false] [6,7,8]) ?_
   refine .then (.rK (.ghs (fr 37 [(6,pt 1 0),(7,(Sl.v 1 (Sl.mk 4 0 (Aq (4*1) (Am 0 ([(zI (0:Int)),(zI (1:Int)),(zI (2:Int)),(zI (3:Int))]:LV)))))),(8,Sl.v 1 s1),(9,(zI (0:Int)))]) (hT 2 [(oC [(zI (2:Int)),(zI (2:Int)),(zI (0:Int)),(.slice none 0 0)])]) (.k0 [false] [.tmp 6 false] [6,7,8,9]) ?_))
   refine .join (v:=v) (fun y:Int=>((fr 37 [(9,zI y)]),AO)) (fun y=>XN pu n y) ?_ ?_
   ·rintro z2 hm
    exact AdA pu n z2 hm
   ·refine .block (.loopM (v:=v) (fun y:Sl×Sl×Int×Int×Int×Int=>((fr 37 [(6,pt 1 0),(7,(Sl.v 1 y.1)),(8,(Sl.v 1 y.2.1)),(9,(zI y.2.2.1))]),(hT 2 [(oC [(zI y.2.2.2.1),(zI y.2.2.2.2.1),(zI y.2.2.2.2.2),(.slice none 0 0)])]))) (fun w y=>dR pu n w y.1 y.2.1 y.2.2.1 y.2.2.2.1 y.2.2.2.2.1 y.2.2.2.2.2) n ⟨((Sl.mk 4 0 (Aq (4*1) (Am 0 ([(zI (0:Int)),(zI (1:Int)),(zI (2:Int)),(zI (3:Int))]:LV)))),s1,(0:Int),(2:Int),(2:Int),(0:Int)),hm,(.k0 [false] [.tmp 6 false] [6,7,8,9])⟩ (fun _=>rfl) ?_)
    rintro w0 ⟨s2,s3,z3,z4,z5,z6⟩ hm
    replace hm:dQ pu n (dR pu n w0) s2 s3 z3 z4 z5 z6=some v:=hm
    unfold dQ at hm
    refine .then (.then ?_)
    replace hm:=Ab hm;obtain⟨v4,h3,hm⟩:=hm
    replace hm:=Ch hm;obtain⟨l2,rfl,hm⟩:=hm
    replace hm:=Ad hm;obtain⟨v5,l7456_0,rfl,hm⟩:=hm
    replace hm:=AC hm;obtain⟨rfl,hm⟩:=hm
    replace hm:=Al hm;obtain⟨s4,rfl,hm⟩:=hm
    replace hm:=QF hm;obtain⟨b1,h4,hm⟩:=hm
    refine .reg (eC 3 (Jg tabs [[none,none,none,some 1],[some 1],[none]] 3 [] [] (pu 10590) [(.agg ⟨[zI z4,zI z5,zI z6,(.slice none 0 0)]⟩),Sl.v 1 s2,zI z3] (hT 2 [(oC [zI z4,zI z5,zI z6,(.slice none 0 0)])])) (Hy (as:=[(.agg ⟨[zI z4,zI z5,zI z6,(Sl.v 1 (Sl.mk 0 2 []))]⟩),Sl.v 1 s2,zI z3]) (H1:=(hT 2 [(oC [zI z4,zI z5,zI z6,(.slice none 0 0)])])) (Cs (QO (FX FL (FX FL (FX FL (FX (Ni (Ju (z:=1) (H:=(hT 2 [(oC [zI z4,zI z5,zI z6,(.slice none 0 0)])])))) QN))))) (Cs (Fp (Ni (CV (z:=1) (v:=(Sl.v 1 s2)) (H:=(hT 2 [(oC [zI z4,zI z5,zI z6,(.slice none 0 0)])])) (by kernel_rfl) (by kernel_rfl) (by kernel_rfl)))) (Cs (Fp FL) JN))) (Hw (H2:=(hT 2 [(oC [zI z4,zI z5,zI z6,(.slice none 0 0)])])) (v:=(Sl.v 1 s4)) (v':=(Sl.v 1 s4)) [some 0] [] [] [(.agg ⟨[zI z4,zI z5,zI z6,(Sl.v 1 (Sl.mk 0 2 []))]⟩),Sl.v 1 s2,zI z3] [] [] [some 0,none] [] [] (by kernel_rfl) Dy (Eq.trans (by kernel_rfl) h3) Dy Dy)) (eC 1 ((oo (pu 32 [Sl.v 1 s4,Sl.v 1 s3]) none fun v=>some (v,(hT 2 [(oC [zI z4,zI z5,zI z6,(.slice none 0 0)])])))) (AB h4) (eE))) ?_
    refine .ghs (fr 37 [(6,pt 1 0),(7,Sl.v 1 s2),(8,Sl.v 1 s3),(9,zI z3),(33,(zB (nt b1)))]) (hT 2 [(oC [zI z4,zI z5,zI z6,(.slice none 0 0)])]) (.k0 [false] [.tmp 6 false] [6,7,8,9,33]) ?_
    replace hm:=Ag hm;rcases hm with⟨h5,hm⟩ | ⟨h5,hm⟩
    ·refine C8 (nt b1) h5 ?_
     refine .skip (.ghs (fr 37 [(6,pt 1 0),(7,Sl.v 1 s2),(8,Sl.v 1 s3),(9,zI z3)]) (hT 2 [(oC [zI z4,zI z5,zI z6,(.slice none 0 0)])]) (.k0 [false] [.tmp 6 false] [6,7,8,9]) ?_)
     refine .block (.rK ?_)
     exact⟨(s2,s3,(Aj .i64 (Int.add z3 (1:Int))),z4,z5,z6),hm,(.k0 [false] [.tmp 6 false] [6,7,8,9])⟩
    ·refine Dn (nt b1) h5 ?_
     refine .exit ?_
     exact⟨z3,hm,(.k0 [false] [] [9])⟩
 ·replace hm:=QF hm;obtain⟨b2,h6,hm⟩:=hm
  replace hm:=Ag hm;rcases hm with⟨h7,hm⟩ | ⟨h7,hm⟩
  ·refine .reg (eC 1 ((oo (pu 55 [zI x0,(zI (0:Int)),(zI (7:Int))]) none fun v=>some (v,AO))) (AB h6) (eD (some ((zB (nt b2)),AO)) (show _=some ((zB true),_) from (by rw[show (nt b2)=true from h7])) (eE))) ?_
   exact⟨(x0,x1,true),hm,(.k0 [false] [] [0,1,17])⟩
  ·replace hm:=QF hm;obtain⟨b70,h8,hm⟩:=hm
   refine .reg (eC 1 ((oo (pu 55 [zI x0,(zI (0:Int)),(zI (7:Int))]) none fun v=>some (v,AO))) (AB h6) (eD (some ((zB (nt b2)),AO)) (show _=some ((zB false),_) from (by rw[show (nt b2)=false from h7])) (eC 2 ((oo (pu 55 [zI x1,(zI (0:Int)),(zI (7:Int))]) none fun v=>some (v,AO))) (AB h8) (eE)))) ?_
   exact⟨(x0,x1,(nt b70)),hm,(.k0 [false] [] [0,1,17])⟩
end
end Go.BaAM
