/- Made from wip. -/
import Derived.Test.YtlgmapibifphaaaDoorMdTMod0x

set_option maxRecDepth 100000
set_option maxHeartbeats 20000000
set_option linter.unusedVariables false
namespace Go.MdTM
open Go.Sp Go.MdT
noncomputable section
def Sz (pu:Af) (n:Nat) (z0:Int):OV:=
 (some (.tuple ⟨[.int .i64 z0,(.int .i64 (0:Int))]⟩))
def SA (pu:Af) (n:Nat) (ih0:Sl→Int→Sl→Int→Int→OV) (s0:Sl) (z0:Int) (s1:Sl) (z1 z2:Int):OV:=
 (ih0 s0 z0 s1 z1 (Aj .i64 (Int.add z2 (1:Int))))
def PO (pu:Af) (n:Nat) (ih0:Sl→Int→Sl→Int→Int→OV) (ih1:Sl→Int→Int→Sl→Int→Int→Sl→Int→Int→OV) (s0:Sl) (z0 z1:Int) (s1:Sl) (z2 z3:Int) (s2:Sl) (z4 z5:Int):OV:=
 (ih1 s0 z0 z1 s1 z2 z3 s2 z4 (Aj .i64 (Int.add z5 (1:Int))))
def PP (pu:Af) (n:Nat) (ih0:Sl→Int→Sl→Int→Int→OV) (ih1:Sl→Int→Int→Sl→Int→Int→Sl→Int→Int→OV) (s0:Sl) (z0 z1:Int) (s1:Sl) (z2 z3:Int) (s2:Sl) (z4 z5:Int):OV:=
 (bb (AY z5 z4) (oo (EA z5) none fun k1=>(bb (an (Nat.blt k1 (Sl.n s2)) true) (oo (AL (Sl.cs s2) (k1*1)) none fun v0=>(oo (Bi .i64 v0) none fun x0=>(bb (AY x0 z1) (PO pu n ih0 ih1 s0 (Aj .i64 (Int.add z0 (1:Int))) z1 s1 z2 z3 s2 z4 (Int.ofNat k1)) (PO pu n ih0 ih1 s0 z0 z1 s1 z2 z3 s2 z4 (Int.ofNat k1))))) none)) (SA pu n ih0 s0 z0 s1 z2 z3))
def OG (pu:Af) (n:Nat) (ih0:Sl→Int→Sl→Int→Int→OV) (w:Nat):Sl→Int→Int→Sl→Int→Int→Sl→Int→Int→OV:=
 Nat.rec (motive:=fun _=>Sl→Int→Int→Sl→Int→Int→Sl→Int→Int→OV) (fun _ _ _ _ _ _ _ _ _=>none) (fun _ ih1=>PP pu n ih0 ih1) w
def PQ (pu:Af) (n:Nat) (ih0:Sl→Int→Sl→Int→Int→OV) (s0:Sl) (z0:Int) (s1:Sl) (z1 z2:Int):OV:=
 (bb (AY z2 z1) (oo (EA z2) none fun k1=>(bb (an (Nat.blt k1 (Sl.n s1)) true) (oo (AL (Sl.cs s1) (k1*1)) none fun v0=>(oo (Bi .i64 v0) none fun x0=>(oo (EA (Aj .i64 (Int.add (Int.ofNat k1) (1:Int)))) none fun k2=>(bb (nt (Nat.beq (Sl.fl s0) 2)) (bb (Nat.ble k2 (Sl.n s0)) (OG pu n ih0 n s0 z0 x0 s1 z1 (Int.ofNat k1) (Sl.mk ((Sl.n s0) - k2) (bb (an (Nat.beq (Sl.n s0) (Sl.n s0)) (Dp false (Nat.beq (Sl.fl s0) 1))) 1 0) (Aq (((Sl.n s0) - k2)*1) (Am (k2*1) (Sl.cs s0)))) (Int.ofNat (Sl.n (Sl.mk ((Sl.n s0) - k2) (bb (an (Nat.beq (Sl.n s0) (Sl.n s0)) (Dp false (Nat.beq (Sl.fl s0) 1))) 1 0) (Aq (((Sl.n s0) - k2)*1) (Am (k2*1) (Sl.cs s0)))))) (0:Int)) none) none)))) none)) (Sz pu n z0))
def IV (pu:Af) (n w:Nat):Sl→Int→Sl→Int→Int→OV:=
 Nat.rec (motive:=fun _=>Sl→Int→Sl→Int→Int→OV) (fun _ _ _ _ _=>none) (fun _ ih0=>PQ pu n ih0) w
def WF (pu:Af) (n:Nat) (x0:Int) (s0 s1:Sl):OV:=
 (oo (pu 47 [(.agg ⟨[.int .i64 x0,Sl.v 1 s0,Sl.v 1 s1]⟩)]) none fun v0=>(oo (Bi .i64 v0) none fun x1=>(bb (nt (Bd x1 (0:Int))) (some (.tuple ⟨[(.int .i64 (0:Int)),.int .i64 x1]⟩)) (oo (pu 58 [(.agg ⟨[.int .i64 x0,Sl.v 1 s0,Sl.v 1 s1]⟩)]) none fun v1=>(oo (Bj 1 v1) none fun s2=>(IV pu n n s2 (0:Int) s2 (Int.ofNat (Sl.n s2)) (0:Int)))))))
def kU (pu:Af) (n:Nat) (args:LV):OV:=
 (ll args none fun a0 args=>(ll args (oo (Bt a0) none fun l0=>(ll l0 none fun v0 l0=>(ll l0 none fun v1 l0=>(ll l0 none fun v2 l0=>(ll l0 (oo (Bi .i64 v0) none fun x0=>(oo (Bj 1 v1) none fun s0=>(oo (Bj 1 v2) none fun s1=>(WF pu n x0 s0 s1)))) fun _ _=>none))))) fun _ _=>none))
theorem sM (pu:Af) (n:Nat) (z0:Int) {v:Value} (hm:Sz pu n z0=some v):BN tt (Bb tabs Gy pu (inl pu)) 1 UB (fr 44 [(7,zI z0)]) Eb (Fin tt 1 [.tmp 2,.tmp 3] v):=by
 unfold Sz at hm
 refine .then (.rK (.ghs (fr 44 [(2,zI z0),(3,(zI (0:Int)))]) Eb (.k0 [false] [] [2,3]) ?_))
 refine .ret ?_
 exact Fb (.tuple ⟨[zI z0,(zI (0:Int))]⟩) hm
theorem r30 {call:A8} (pu:Af) (n:Nat) (hcall:call=Bb tabs Gy pu (inl pu)) {args:LV} {v:Value} (hm:kU pu n args=some v) (_:∀ x∈args,closed2 x=true):args.length≤44∧BN tt call 1 O6 (Fr.made 44 args) (Ao tabs) (Fin tt 1 [.tmp 2,.tmp 3] v):=by
 subst hcall
 unfold kU at hm
 replace hm:=Ad hm;obtain⟨a0,args_0,rfl,hm⟩:=hm
 replace hm:=AC hm;obtain⟨rfl,hm⟩:=hm
 replace hm:=BG hm;obtain⟨l0,rfl,hm⟩:=hm
 replace hm:=Ad hm;obtain⟨v0,l7789_0,rfl,hm⟩:=hm
 replace hm:=Ad hm;obtain⟨v1,l7789_1,rfl,hm⟩:=hm
 replace hm:=Ad hm;obtain⟨v2,l7789_2,rfl,hm⟩:=hm
 replace hm:=AC hm;obtain⟨rfl,hm⟩:=hm
 replace hm:=Ai hm;obtain⟨x0,rfl,hm⟩:=hm
 replace hm:=Al hm;obtain⟨s0,rfl,hm⟩:=hm
 replace hm:=Al hm;obtain⟨s1,rfl,hm⟩:=hm
 unfold WF at hm
 refine⟨by simp,?_⟩
 refine .same (F':=(fr 44 [(0,(.agg ⟨[zI x0,Sl.v 1 s0,Sl.v 1 s1]⟩))])) (H':=Eb) (by kernel_rfl) (by kernel_rfl) ?_
 refine .then (.rK (.ghs (fr 44 [(1,pt 1 0)]) (hT 2 [(oC [zI x0,Sl.v 1 s0,Sl.v 1 s1])]) (.k0 [false] [.tmp 1 false] [1]) ?_))
 refine .then (.then ?_)
 replace hm:=Gt hm;obtain⟨x1,h0,hm⟩:=hm
 refine .reg (eC 1 ((oo (pu 47 [(.agg ⟨[zI x0,Sl.v 1 s0,Sl.v 1 s1]⟩)]) none fun v=>some (v,(hT 2 [(oC [zI x0,Sl.v 1 s0,Sl.v 1 s1])])))) (AB h0) (eE)) ?_
 refine .ghs (fr 44 [(1,pt 1 0),(4,zI x1)]) (hT 2 [(oC [zI x0,Sl.v 1 s0,Sl.v 1 s1])]) (.k0 [false] [.tmp 1 false] [1,4]) ?_
 refine .then (.rK (.ghs (fr 44 [(1,pt 1 0),(4,zI x1),(15,(zB (nt (Bd x1 (0:Int)))))]) (hT 2 [(oC [zI x0,Sl.v 1 s0,Sl.v 1 s1])]) (.k0 [false] [.tmp 1 false] [1,4,15]) ?_))
 replace hm:=Ag hm;rcases hm with⟨h1,hm⟩ | ⟨h1,hm⟩
 ·refine FX (nt (Bd x1 (0:Int))) h1 ?_
  refine .then (.rK (.ghs (fr 44 [(2,(zI (0:Int))),(3,zI x1)]) Eb (.k0 [false] [] [2,3]) ?_))
  refine .ret ?_
  exact Fb (.tuple ⟨[(zI (0:Int)),zI x1]⟩) hm
 ·refine FY (nt (Bd x1 (0:Int))) h1 ?_
  refine .skip (.ghs (fr 44 [(1,pt 1 0)]) (hT 2 [(oC [zI x0,Sl.v 1 s0,Sl.v 1 s1])]) (.k0 [false] [.tmp 1 false] [1]) ?_)
  refine .then (.rK (.ghs (fr 44 [(1,pt 1 0),(5,(.func (.func 58) ⟨[]⟩ ⟨[]⟩))]) (hT 2 [(oC [zI x0,Sl.v 1 s0,Sl.v 1 s1])]) (.k0 [false] [.tmp 1 false] [1,5]) ?_))
  refine .then ?_
  replace hm:=sH hm;obtain⟨s2,h2,hm⟩:=hm
  refine .reg (eC 2 ((oo (pu 58 [(.agg ⟨[zI x0,Sl.v 1 s0,Sl.v 1 s1]⟩)]) none fun v=>some (v,(hT 2 [(oC [zI x0,Sl.v 1 s0,Sl.v 1 s1])])))) (AB h2) (eE)) ?_
  refine .ghs (fr 44 [(6,Sl.v 1 s2)]) Eb (.k0 [false] [] [6]) ?_
  refine .then (.rK (.ghs (fr 44 [(6,Sl.v 1 s2),(7,(zI (0:Int)))]) Eb (.k0 [false] [] [6,7]) ?_))
  refine .join (v:=v) (fun y:Int=>((fr 44 [(7,zI y)]),Eb)) (fun y=>Sz pu n y) ?_ ?_
  ·rintro z0 hm
   exact sM pu n z0 hm
  ·refine .then (.rK (.ghs (fr 44 [(6,Sl.v 1 s2),(7,(zI (0:Int))),(20,Sl.v 1 s2),(21,(zI (Int.ofNat (Sl.n s2)))),(22,(zI (0:Int)))]) Eb (.k0 [false] [] [6,7,20,21,22]) ?_))
   refine .block (.loopM (v:=v) (fun y:Sl×Int×Sl×Int×Int=>((fr 44 [(6,(Sl.v 1 y.1)),(7,(zI y.2.1)),(20,(Sl.v 1 y.2.2.1)),(21,(zI y.2.2.2.1)),(22,(zI y.2.2.2.2))]),Eb)) (fun w y=>IV pu n w y.1 y.2.1 y.2.2.1 y.2.2.2.1 y.2.2.2.2) n ⟨(s2,(0:Int),s2,(Int.ofNat (Sl.n s2)),(0:Int)),hm,(.k0 [false] [] [6,7,20,21,22])⟩ (fun _=>rfl) ?_)
   rintro w0 ⟨s3,z1,s4,z2,z3⟩ hm
   replace hm:PQ pu n (IV pu n w0) s3 z1 s4 z2 z3=some v:=hm
   unfold PQ at hm
   refine .then (.rK (.ghs (fr 44 [(6,Sl.v 1 s3),(7,zI z1),(20,Sl.v 1 s4),(21,zI z2),(22,zI z3),(23,(zB (AY z3 z2)))]) Eb (.k0 [false] [] [6,7,20,21,22,23]) ?_))
   refine .then ?_
   replace hm:=Ag hm;rcases hm with⟨h3,hm⟩ | ⟨h3,hm⟩
   ·refine FX (AY z3 z2) h3 ?_
    refine .skip (.ghs (fr 44 [(6,Sl.v 1 s3),(7,zI z1),(20,Sl.v 1 s4),(21,zI z2),(22,zI z3)]) Eb (.k0 [false] [] [6,7,20,21,22]) ?_)
    refine .join (v:=v) (fun y:Sl×Int×Sl×Int×Int=>((fr 44 [(6,(Sl.v 1 y.1)),(7,(zI y.2.1)),(20,(Sl.v 1 y.2.2.1)),(21,(zI y.2.2.2.1)),(22,(zI y.2.2.2.2))]),Eb)) (fun y=>SA pu n (IV pu n w0) y.1 y.2.1 y.2.2.1 y.2.2.2.1 y.2.2.2.2) ?_ ?_
    ·rintro⟨s5,z4,s6,z5,z6⟩ hm
     unfold SA at hm
     refine .rK ?_
     exact⟨(s5,z4,s6,z5,(Aj .i64 (Int.add z6 (1:Int)))),hm,(.k0 [false] [] [6,7,20,21,22])⟩
    ·refine .block (.then ?_)
     replace hm:=Ab hm;obtain⟨k1,h4,hm⟩:=hm
     obtain rfl:=AR h4
     replace hm:=Ae hm;obtain⟨h5,hm⟩:=hm
     replace hm:=Gt hm;obtain⟨x2,h6,hm⟩:=hm
     refine .reg (eC 1 (keep Eb (bb (an (Nat.blt k1 (Sl.n s4)) true) (some (Cv (k1*1) (Sl.cs s4))) none)) (AX h5) (eD (keep Eb (AL (Sl.cs s4) (k1*1))) (AZ h6) (eE))) ?_
     refine .ghs (fr 44 [(6,Sl.v 1 s3),(7,zI z1),(8,(zI (Int.ofNat k1))),(9,zI x2),(20,Sl.v 1 s4),(21,zI z2),(22,(zI (Int.ofNat k1)))]) Eb (.k0 [false] [] [6,7,8,9,20,21,22]) ?_
     refine .then ?_
     replace hm:=Ab hm;obtain⟨k2,h7,hm⟩:=hm
     replace hm:=Ae hm;obtain⟨h8,hm⟩:=hm
     replace hm:=Ae hm;obtain⟨h9,hm⟩:=hm
     refine .reg (eC 2 (some ((zI (Aj .i64 (Int.add (Int.ofNat k1) (1:Int)))),Eb)) (show _=some ((zI (Int.ofNat k2)),_) from (by rw[AR h7])) (eD (keep Eb (Ns xC ⟨1,(Sl.n s3),(Sl.fl s3),(Sl.cs s3)⟩ (some (zI (Int.ofNat k2))) none none)) (ME (c1:=true) (c2:=(Nat.ble k2 (Sl.n s3))) (l:=k2) (h:=(Sl.n s3)) h8 (by kernel_rfl) (by kernel_rfl) rfl (by kernel_rfl) h9) (eE))) ?_
     refine .ghs (fr 44 [(6,Sl.v 1 s3),(7,zI z1),(9,zI x2),(20,Sl.v 1 s4),(21,zI z2),(22,(zI (Int.ofNat k1))),(30,(Sl.v 1 (Sl.mk ((Sl.n s3) - k2) (bb (an (Nat.beq (Sl.n s3) (Sl.n s3)) (Dp false (Nat.beq (Sl.fl s3) 1))) 1 0) (Aq (((Sl.n s3) - k2)*1) (Am (k2*1) (Sl.cs s3)))))),(31,(zI (Int.ofNat (Sl.n (Sl.mk ((Sl.n s3) - k2) (bb (an (Nat.beq (Sl.n s3) (Sl.n s3)) (Dp false (Nat.beq (Sl.fl s3) 1))) 1 0) (Aq (((Sl.n s3) - k2)*1) (Am (k2*1) (Sl.cs s3)))))))),(32,(zI (0:Int)))]) Eb (.k0 [false] [] [6,7,9,20,21,22,30,31,32]) ?_
     refine .block (.loopM (v:=v) (fun y:Sl×Int×Int×Sl×Int×Int×Sl×Int×Int=>((fr 44 [(6,(Sl.v 1 y.1)),(7,(zI y.2.1)),(9,(zI y.2.2.1)),(20,(Sl.v 1 y.2.2.2.1)),(21,(zI y.2.2.2.2.1)),(22,(zI y.2.2.2.2.2.1)),(30,(Sl.v 1 y.2.2.2.2.2.2.1)),(31,(zI y.2.2.2.2.2.2.2.1)),(32,(zI y.2.2.2.2.2.2.2.2))]),Eb)) (fun w y=>OG pu n (IV pu n w0) w y.1 y.2.1 y.2.2.1 y.2.2.2.1 y.2.2.2.2.1 y.2.2.2.2.2.1 y.2.2.2.2.2.2.1 y.2.2.2.2.2.2.2.1 y.2.2.2.2.2.2.2.2) n ⟨(s3,z1,x2,s4,z2,(Int.ofNat k1),(Sl.mk ((Sl.n s3) - k2) (bb (an (Nat.beq (Sl.n s3) (Sl.n s3)) (Dp false (Nat.beq (Sl.fl s3) 1))) 1 0) (Aq (((Sl.n s3) - k2)*1) (Am (k2*1) (Sl.cs s3)))),(Int.ofNat (Sl.n (Sl.mk ((Sl.n s3) - k2) (bb (an (Nat.beq (Sl.n s3) (Sl.n s3)) (Dp false (Nat.beq (Sl.fl s3) 1))) 1 0) (Aq (((Sl.n s3) - k2)*1) (Am (k2*1) (Sl.cs s3)))))),(0:Int)),hm,(.k0 [false] [] [6,7,9,20,21,22,30,31,32])⟩ (fun _=>rfl) ?_)
     rintro w1 ⟨s7,z7,z8,s8,z9,z10,s9,z11,z12⟩ hm
     replace hm:PP pu n (IV pu n w0) (OG pu n (IV pu n w0) w1) s7 z7 z8 s8 z9 z10 s9 z11 z12=some v:=hm
     unfold PP at hm
     refine .then (.rK (.ghs (fr 44 [(6,Sl.v 1 s7),(7,zI z7),(9,zI z8),(20,Sl.v 1 s8),(21,zI z9),(22,zI z10),(30,Sl.v 1 s9),(31,zI z11),(32,zI z12),(33,(zB (AY z12 z11)))]) Eb (.k0 [false] [] [6,7,9,20,21,22,30,31,32,33]) ?_))
     refine .then ?_
     replace hm:=Ag hm;rcases hm with⟨h10,hm⟩ | ⟨h10,hm⟩
     ·refine FX (AY z12 z11) h10 ?_
      refine .skip (.ghs (fr 44 [(6,Sl.v 1 s7),(7,zI z7),(9,zI z8),(20,Sl.v 1 s8),(21,zI z9),(22,zI z10),(30,Sl.v 1 s9),(31,zI z11),(32,zI z12)]) Eb (.k0 [false] [] [6,7,9,20,21,22,30,31,32]) ?_)
      refine .join (v:=v) (fun y:Sl×Int×Int×Sl×Int×Int×Sl×Int×Int=>((fr 44 [(6,(Sl.v 1 y.1)),(7,(zI y.2.1)),(9,(zI y.2.2.1)),(20,(Sl.v 1 y.2.2.2.1)),(21,(zI y.2.2.2.2.1)),(22,(zI y.2.2.2.2.2.1)),(30,(Sl.v 1 y.2.2.2.2.2.2.1)),(31,(zI y.2.2.2.2.2.2.2.1)),(32,(zI y.2.2.2.2.2.2.2.2))]),Eb)) (fun y=>PO pu n (IV pu n w0) (OG pu n (IV pu n w0) w1) y.1 y.2.1 y.2.2.1 y.2.2.2.1 y.2.2.2.2.1 y.2.2.2.2.2.1 y.2.2.2.2.2.2.1 y.2.2.2.2.2.2.2.1 y.2.2.2.2.2.2.2.2) ?_ ?_
      ·rintro⟨s10,z13,z14,s11,z15,z16,s12,z17,z18⟩ hm
       unfold PO at hm
       refine .rK ?_
       exact⟨(s10,z13,z14,s11,z15,z16,s12,z17,(Aj .i64 (Int.add z18 (1:Int)))),hm,(.k0 [false] [] [6,7,9,20,21,22,30,31,32])⟩
      ·refine .block (.then ?_)
       replace hm:=Ab hm;obtain⟨k3,h11,hm⟩:=hm
       obtain rfl:=AR h11
       replace hm:=Ae hm;obtain⟨h12,hm⟩:=hm
       replace hm:=Gt hm;obtain⟨x3,h13,hm⟩:=hm
       refine .reg (eD (keep Eb (bb (an (Nat.blt k3 (Sl.n s9)) true) (some (Cv (k3*1) (Sl.cs s9))) none)) (AX h12) (eD (keep Eb (AL (Sl.cs s9) (k3*1))) (AZ h13) (eE))) ?_
       refine .ghs (fr 44 [(6,Sl.v 1 s7),(7,zI z7),(9,zI z8),(11,zI x3),(20,Sl.v 1 s8),(21,zI z9),(22,zI z10),(30,Sl.v 1 s9),(31,zI z11),(32,(zI (Int.ofNat k3)))]) Eb (.k0 [false] [] [6,7,9,11,20,21,22,30,31,32]) ?_
       refine .then (.rK (.ghs (fr 44 [(6,Sl.v 1 s7),(7,zI z7),(9,zI z8),(20,Sl.v 1 s8),(21,zI z9),(22,zI z10),(30,Sl.v 1 s9),(31,zI z11),(32,(zI (Int.ofNat k3))),(38,(zB (AY x3 z8)))]) Eb (.k0 [false] [] [6,7,9,20,21,22,30,31,32,38]) ?_))
       replace hm:=Ag hm;rcases hm with⟨h14,hm⟩ | ⟨h14,hm⟩
       ·refine FX (AY x3 z8) h14 ?_
        refine .rK ?_
        exact⟨(s7,(Aj .i64 (Int.add z7 (1:Int))),z8,s8,z9,z10,s9,z11,(Int.ofNat k3)),hm,(.k0 [false] [] [6,7,9,20,21,22,30,31,32])⟩
       ·refine FY (AY x3 z8) h14 ?_
        refine .skip ?_
        exact⟨(s7,z7,z8,s8,z9,z10,s9,z11,(Int.ofNat k3)),hm,(.k0 [false] [] [6,7,9,20,21,22,30,31,32])⟩
     ·refine FY (AY z12 z11) h10 ?_
      refine .exit ?_
      exact⟨(s7,z7,s8,z9,z10),hm,(.k0 [false] [] [6,7,20,21,22])⟩
   ·refine FY (AY z3 z2) h3 ?_
    refine .exit ?_
    exact⟨z1,hm,(.k0 [false] [] [7])⟩

def WG (pu:Af) (n:Nat) (x0:Int) (s0 s1:Sl):OV:=
 (oo (pu 51 [(.agg ⟨[.int .i64 x0,Sl.v 1 s0,Sl.v 1 s1]⟩)]) none fun v0=>(oo (Bi .u16 v0) none fun x1=>(oo (pu 64 [.int .u16 x1]) none fun v1=>(oo (Bi .i64 v1) none fun x2=>(oo (pu 10650 [(.agg ⟨[.int .i64 x0,Sl.v 1 s0,Sl.v 1 s1]⟩)]) none fun v2=>(oo (CQ v2) none fun l0=>(ll l0 none fun v3 l0=>(ll l0 none fun v4 l0=>(ll l0 none fun v5 l0=>(ll l0 (bb (MK v3 1 0) (oo (Bt v4) none fun l1=>(ll l1 none fun v6 l1=>(ll l1 none fun v7 l1=>(ll l1 none fun v8 l1=>(ll l1 none fun v9 l1=>(ll l1 (oo (Bi .i64 v6) none fun x3=>(oo (Bj 1 v7) none fun s2=>(oo (Bj 1 v8) none fun s3=>(bb (FC v9 2) (oo (Fj v5) none fun y0=>(bb (Au F4 (Akd.es y0)) (bb (Au F4 (Akd.es y0)) (oo (pu 10660 [(.pointer (some ⟨1,0,none⟩)),.int .u16 x1,(.agg ⟨[.int .i64 x3,Sl.v 1 s2,Sl.v 1 s3,(.map (some 2))]⟩),(Ef (.map (Akd.es y0) (Akd.clock y0)))]) none fun v10=>(oo (CQ v10) none fun l2=>(ll l2 none fun v11 l2=>(ll l2 none fun v12 l2=>(ll l2 none fun v13 l2=>(ll l2 (oo (Bi .i64 v11) none fun x4=>(oo (Bt v12) none fun l3=>(ll l3 none fun v14 l3=>(ll l3 none fun v15 l3=>(ll l3 none fun v16 l3=>(ll l3 none fun v17 l3=>(ll l3 (oo (Bi .i64 v14) none fun x5=>(oo (Bj 1 v15) none fun s4=>(oo (Bj 1 v16) none fun s5=>(bb (FC v17 2) (oo (Fj v13) none fun y1=>(bb (Au F4 (Akd.es y1)) (some (.int .i64 (Aj .i64 (Int.sub x2 x4)))) none)) none)))) fun _ _=>none))))))) fun _ _=>none)))))) none) none)) none)))) fun _ _=>none)))))) none) fun _ _=>none))))))))))
def xE (pu:Af) (n:Nat) (args:LV):OV:=
 (ll args none fun a0 args=>(ll args (oo (Bt a0) none fun l0=>(ll l0 none fun v0 l0=>(ll l0 none fun v1 l0=>(ll l0 none fun v2 l0=>(ll l0 (oo (Bi .i64 v0) none fun x0=>(oo (Bj 1 v1) none fun s0=>(oo (Bj 1 v2) none fun s1=>(WG pu n x0 s0 s1)))) fun _ _=>none))))) fun _ _=>none))
theorem r44 {call:A8} (pu:Af) (n:Nat) (hcall:call=Bb tabs Gy pu (inl pu)) {args:LV} {v:Value} (hm:xE pu n args=some v) (_:∀ x∈args,closed2 x=true):args.length≤13∧BN tt call 1 Sj (Fr.made 13 args) (Ao tabs) (Fin tt 1 [.tmp 2] v):=by
 subst hcall
 unfold xE at hm
 replace hm:=Ad hm;obtain⟨a0,args_0,rfl,hm⟩:=hm
 replace hm:=AC hm;obtain⟨rfl,hm⟩:=hm
 replace hm:=BG hm;obtain⟨l0,rfl,hm⟩:=hm
 replace hm:=Ad hm;obtain⟨v0,l8625_0,rfl,hm⟩:=hm
 replace hm:=Ad hm;obtain⟨v1,l8625_1,rfl,hm⟩:=hm
 replace hm:=Ad hm;obtain⟨v2,l8625_2,rfl,hm⟩:=hm
 replace hm:=AC hm;obtain⟨rfl,hm⟩:=hm
 replace hm:=Ai hm;obtain⟨x0,rfl,hm⟩:=hm
 replace hm:=Al hm;obtain⟨s0,rfl,hm⟩:=hm
 replace hm:=Al hm;obtain⟨s1,rfl,hm⟩:=hm
 unfold WG at hm
 refine⟨by simp,?_⟩
 refine .same (F':=(fr 13 [(0,(.agg ⟨[zI x0,Sl.v 1 s0,Sl.v 1 s1]⟩))])) (H':=Eb) (by kernel_rfl) (by kernel_rfl) ?_
 refine .then (.rK (.ghs (fr 13 [(1,pt 1 0)]) (hT 2 [(oC [zI x0,Sl.v 1 s0,Sl.v 1 s1])]) (.k0 [false] [.tmp 1 false] [1]) ?_))
 refine .then ?_
 replace hm:=Gt hm;obtain⟨x1,h0,hm⟩:=hm
 refine .reg (eC 1 ((oo (pu 51 [(.agg ⟨[zI x0,Sl.v 1 s0,Sl.v 1 s1]⟩)]) none fun v=>some (v,(hT 2 [(oC [zI x0,Sl.v 1 s0,Sl.v 1 s1])])))) (AB h0) (eE)) ?_
 refine .ghs (fr 13 [(1,pt 1 0),(3,.int .u16 x1)]) (hT 2 [(oC [zI x0,Sl.v 1 s0,Sl.v 1 s1])]) (.k0 [false] [.tmp 1 false] [1,3]) ?_
 refine .then ?_
 replace hm:=Gt hm;obtain⟨x2,h1,hm⟩:=hm
 replace hm:=Ab hm;obtain⟨v3,h2,hm⟩:=hm
 replace hm:=Ch hm;obtain⟨l1,rfl,hm⟩:=hm
 replace hm:=Ad hm;obtain⟨v4,l9135_0,rfl,hm⟩:=hm
 replace hm:=Ad hm;obtain⟨v5,l9135_1,rfl,hm⟩:=hm
 replace hm:=Ad hm;obtain⟨v6,l9135_2,rfl,hm⟩:=hm
 replace hm:=AC hm;obtain⟨rfl,hm⟩:=hm
 replace hm:=Ae hm;obtain⟨h3,hm⟩:=hm
 obtain rfl:=KR h3
 replace hm:=BG hm;obtain⟨l2,rfl,hm⟩:=hm
 replace hm:=Ad hm;obtain⟨v7,l9141_0,rfl,hm⟩:=hm
 replace hm:=Ad hm;obtain⟨v8,l9141_1,rfl,hm⟩:=hm
 replace hm:=Ad hm;obtain⟨v9,l9141_2,rfl,hm⟩:=hm
 replace hm:=Ad hm;obtain⟨v10,l9141_3,rfl,hm⟩:=hm
 replace hm:=AC hm;obtain⟨rfl,hm⟩:=hm
 replace hm:=Ai hm;obtain⟨x3,rfl,hm⟩:=hm
 replace hm:=Al hm;obtain⟨s2,rfl,hm⟩:=hm
 replace hm:=Al hm;obtain⟨s3,rfl,hm⟩:=hm
 replace hm:=Ae hm;obtain⟨h4,hm⟩:=hm
 obtain rfl:=Ey h4
 replace hm:=Ab hm;obtain⟨y0,h5,hm⟩:=hm
 replace hm:=Ae hm;obtain⟨h6,hm⟩:=hm
 replace hm:=Ae hm;obtain⟨h7,hm⟩:=hm
 replace hm:=Ab hm;obtain⟨v11,h8,hm⟩:=hm
 replace hm:=Ch hm;obtain⟨l3,rfl,hm⟩:=hm
 replace hm:=Ad hm;obtain⟨v12,l9166_0,rfl,hm⟩:=hm
 replace hm:=Ad hm;obtain⟨v13,l9166_1,rfl,hm⟩:=hm
 replace hm:=Ad hm;obtain⟨v14,l9166_2,rfl,hm⟩:=hm
 replace hm:=AC hm;obtain⟨rfl,hm⟩:=hm
 replace hm:=Ai hm;obtain⟨x4,rfl,hm⟩:=hm
 replace hm:=BG hm;obtain⟨l4,rfl,hm⟩:=hm
 replace hm:=Ad hm;obtain⟨v15,l9173_0,rfl,hm⟩:=hm
 replace hm:=Ad hm;obtain⟨v16,l9173_1,rfl,hm⟩:=hm
 replace hm:=Ad hm;obtain⟨v17,l9173_2,rfl,hm⟩:=hm
 replace hm:=Ad hm;obtain⟨v18,l9173_3,rfl,hm⟩:=hm
 replace hm:=AC hm;obtain⟨rfl,hm⟩:=hm
 replace hm:=Ai hm;obtain⟨x5,rfl,hm⟩:=hm
 replace hm:=Al hm;obtain⟨s4,rfl,hm⟩:=hm
 replace hm:=Al hm;obtain⟨s5,rfl,hm⟩:=hm
 replace hm:=Ae hm;obtain⟨h9,hm⟩:=hm
 obtain rfl:=Ey h9
 replace hm:=Ab hm;obtain⟨y1,h10,hm⟩:=hm
 replace hm:=Ae hm;obtain⟨h11,hm⟩:=hm
 refine .reg (eC 3 ((oo (pu 64 [.int .u16 x1]) none fun v=>some (v,(hT 2 [(oC [zI x0,Sl.v 1 s0,Sl.v 1 s1])])))) (AB h1) (eD (EK tabs [[none,some 1,some 1]] 1 [] [true,false] (pu 10650) [(.agg ⟨[zI x0,Sl.v 1 s0,Sl.v 1 s1]⟩)] (hT 2 [(oC [zI x0,Sl.v 1 s0,Sl.v 1 s1])])) (EL (as:=[(.agg ⟨[zI x0,Sl.v 1 s0,Sl.v 1 s1]⟩)]) (H1:=(hT 2 [(oC [zI x0,Sl.v 1 s0,Sl.v 1 s1])])) (BS (Ot (Da Dk (Da (KQ (CV (z:=1) (v:=(Sl.v 1 s0)) (H:=(hT 2 [(oC [zI x0,Sl.v 1 s0,Sl.v 1 s1])])) (by kernel_rfl) (by kernel_rfl) (by kernel_rfl))) (Da (KQ (CV (z:=1) (v:=(Sl.v 1 s1)) (H:=(hT 2 [(oC [zI x0,Sl.v 1 s0,Sl.v 1 s1])])) (by kernel_rfl) (by kernel_rfl) (by kernel_rfl))) Oq)))) Gj) (EI (H2:=(hT 4 [(oC [zI x0,Sl.v 1 s0,Sl.v 1 s1]),(oC [zI x3,Sl.v 1 s2,Sl.v 1 s3,(.map (some 3))]),(.map (Akd.es y0) (Akd.clock y0))])) (v:=(pt 1 0)) (v':=(pt 2 0)) [some 0] [] [] [(.agg ⟨[zI x0,Sl.v 1 s0,Sl.v 1 s1]⟩)] [(.agg ⟨[zI x3,Sl.v 1 s2,Sl.v 1 s3,(.map (some 2))]⟩),v6] [(oC [zI x3,Sl.v 1 s2,Sl.v 1 s3,(.map (some 2))]),(.map (Akd.es y0) (Akd.clock y0))] [some 0,none,some 1,some 2] [(true,(oC [zI x3,Sl.v 1 s2,Sl.v 1 s3,(.map (some 2))])),(false,(.map (Akd.es y0) (Akd.clock y0)))] [(oC [zI x3,Sl.v 1 s2,Sl.v 1 s3,(.map (some 3))]),(.map (Akd.es y0) (Akd.clock y0))] (by kernel_rfl) BX (Eq.trans (by kernel_rfl) h2) (En rfl (En (CK h5) BX)) (En (by kernel_rfl) (En (GZ h6) BX)))) (eD (EK tabs [[none],[none]] 2 [.tmp 0 true,.cell 1 3 false] [true,false] (pu 10660) [(pt 2 0),.int .u16 x1] (hT 4 [(oC [zI x0,Sl.v 1 s0,Sl.v 1 s1]),(oC [zI x3,Sl.v 1 s2,Sl.v 1 s3,(.map (some 3))]),(.map (Akd.es y0) (Akd.clock y0))])) (EL (as:=[(pt 2 0),.int .u16 x1]) (H1:=(hT 4 [(oC [zI x0,Sl.v 1 s0,Sl.v 1 s1]),(oC [zI x3,Sl.v 1 s2,Sl.v 1 s3,(.map (some 3))]),(.map (Akd.es y0) (Akd.clock y0))])) (BS (Dm Dk) (BS (Dm Dk) Gj)) (EI (H2:=(hT 4 [(oC [zI x0,Sl.v 1 s0,Sl.v 1 s1]),(oC [zI x5,Sl.v 1 s4,Sl.v 1 s5,(.map (some 3))]),(.map (Akd.es y1) (Akd.clock y1))])) (v:=(zI x4)) (v':=(zI x4)) [some 0,some 2,some 3] [(true,some 2),(false,some 3)] [(oC [zI x3,Sl.v 1 s2,Sl.v 1 s3,(.map (some 2))]),(.map (Akd.es y0) (Akd.clock y0))] [pt 1 0,.int .u16 x1] [(.agg ⟨[zI x5,Sl.v 1 s4,Sl.v 1 s5,(.map (some 2))]⟩),v14] [(oC [zI x5,Sl.v 1 s4,Sl.v 1 s5,(.map (some 2))]),(.map (Akd.es y1) (Akd.clock y1))] [some 0,none,some 1,some 2] [(true,(oC [zI x5,Sl.v 1 s4,Sl.v 1 s5,(.map (some 2))])),(false,(.map (Akd.es y1) (Akd.clock y1)))] [(oC [zI x5,Sl.v 1 s4,Sl.v 1 s5,(.map (some 3))]),(.map (Akd.es y1) (Akd.clock y1))] (by kernel_rfl) (En (by kernel_rfl) (En (Ka h7) BX)) (Eq.trans (by kernel_rfl) h8) (En rfl (En (CK h10) BX)) (En (by kernel_rfl) (En (GZ h11) BX)))) (eE)))) ?_
 refine .ghs (fr 13 [(2,(zI (Aj .i64 (Int.sub x2 x4))))]) Eb (.k0 [false] [] [2]) ?_
 refine .ret ?_
 exact Fb (zI (Aj .i64 (Int.sub x2 x4))) hm
def Qp (pu:Af) (n:Nat) (q0:LV):OV:=
 (bb (Nat.ble (0+5) (len q0)) (oo (AL q0 0) none fun v0=>(oo (Bi .i64 v0) none fun x0=>(oo (AL q0 (0+1)) none fun v1=>(oo (Bi .i64 v1) none fun x1=>(oo (AL q0 ((0+1)+1)) none fun v2=>(oo (Bi .i64 v2) none fun x2=>(oo (AL q0 (((0+1)+1)+1)) none fun v3=>(oo (Bi .i64 v3) none fun x3=>(oo (AL q0 ((((0+1)+1)+1)+1)) none fun v4=>(oo (Bi .i64 v4) none fun x4=>(bb (bq false (an (Bd x0 (0:Int)) (an (Bd x1 (0:Int)) (an (Bd x2 (0:Int)) (an (Bd x3 (0:Int)) (an (Bd x4 (0:Int)) true)))))) (some (.int .i64 (17:Int))) (some (.int .i64 (0:Int)))))))))))))) none)
def OH (pu:Af) (n:Nat) (ih0:Sl→Int→Int→Int→Sl→Sl→LV→OV) (z0 z1:Int) (s0:Sl) (z2 z3:Int) (b0:Bool) (z4:Int) (s1 s2:Sl) (q0:LV):OV:=
 (bb b0 (some (.int .i64 (2:Int))) (bb (Au Ah q0) (oo (EA z0) none fun k1=>(bb (Nat.blt k1 5) (oo (AL q0 (0+k1*1)) none fun v0=>(oo (Bi .i64 v0) none fun x0=>(bb (Nat.blt k1 5) (bb (an (Nat.ble ((0+k1*1)+1) (len q0)) true) (bb (Au Ah (BM ([(.int .i64 (Aj .i64 (Int.add x0 (1:Int))))]:LV) (0+k1*1) q0)) (oo (EA z1) none fun k2=>(bb (Nat.blt k2 5) (oo (AL (BM ([(.int .i64 (Aj .i64 (Int.add x0 (1:Int))))]:LV) (0+k1*1) q0) (0+k2*1)) none fun v1=>(oo (Bi .i64 v1) none fun x1=>(bb (Nat.blt k2 5) (bb (an (Nat.ble ((0+k2*1)+1) (len (BM ([(.int .i64 (Aj .i64 (Int.add x0 (1:Int))))]:LV) (0+k1*1) q0))) true) (bb (Au Ah (BM ([(.int .i64 (Aj .i64 (Int.sub x1 (1:Int))))]:LV) (0+k2*1) (BM ([(.int .i64 (Aj .i64 (Int.add x0 (1:Int))))]:LV) (0+k1*1) q0))) (ih0 s0 z2 (Aj .i64 (Int.add z3 (1:Int))) z4 s1 s2 (BM ([(.int .i64 (Aj .i64 (Int.sub x1 (1:Int))))]:LV) (0+k2*1) (BM ([(.int .i64 (Aj .i64 (Int.add x0 (1:Int))))]:LV) (0+k1*1) q0))) none) none) none))) none)) none) none) none))) none)) none))
def Qq (pu:Af) (n:Nat) (ih0:Sl→Int→Int→Int→Sl→Sl→LV→OV) (s0:Sl) (z0 z1 z2:Int) (s1 s2:Sl) (q0:LV):OV:=
 (bb (Au Ah q0) (bb (AY z1 z0) (oo (EA z1) none fun k1=>(bb (an (Nat.blt k1 (Sl.n s0)) true) (oo (AL (Sl.cs s0) (k1*1)) none fun v0=>(oo (Bi .i64 v0) none fun x0=>(bb (an (Nat.blt k1 (Sl.n s2)) true) (oo (AL (Sl.cs s2) (k1*1)) none fun v1=>(oo (Bi .i64 v1) none fun x1=>(oo (pu 52 [(.int .i64 (0:Int)),(.int .i64 (bb (AY x1 x0) x1 x0)),(.int .i64 (Aj .i64 (Int.sub z2 (1:Int))))]) none fun v2=>(oo (Bf v2) none fun b0=>(bb (nt b0) (OH pu n ih0 x0 x1 s0 z0 (Int.ofNat k1) true z2 s1 s2 q0) (OH pu n ih0 x0 x1 s0 z0 (Int.ofNat k1) (nt (AY (bb (AY x0 x1) x1 x0) z2)) z2 s1 s2 q0)))))) none))) none)) (Qp pu n q0)) none)
def MF (pu:Af) (n w:Nat):Sl→Int→Int→Int→Sl→Sl→LV→OV:=
 Nat.rec (motive:=fun _=>Sl→Int→Int→Int→Sl→Sl→LV→OV) (fun _ _ _ _ _ _ _=>none) (fun _ ih0=>Qq pu n ih0) w
def sN (pu:Af) (n:Nat) (x0:Int) (s0 s1:Sl):OV:=
 (oo (pu 52 [(.int .i64 (1:Int)),.int .i64 x0,(.int .i64 (5:Int))]) none fun v0=>(oo (Bf v0) none fun b0=>(bb (nt b0) (some (.int .i64 (1:Int))) (bb (Bd (Int.ofNat (Sl.n s0)) (0:Int)) (some (.int .i64 (4:Int))) (bb (AY (10:Int) (Int.ofNat (Sl.n s0))) (some (.int .i64 (3:Int))) (bb (nt (Bd (Int.ofNat (Sl.n s1)) (Int.ofNat (Sl.n s0)))) (some (.int .i64 (5:Int))) (MF pu n n s0 (Int.ofNat (Sl.n s0)) (0:Int) x0 s0 s1 ([(.int .i64 (0:Int)),(.int .i64 (0:Int)),(.int .i64 (0:Int)),(.int .i64 (0:Int)),(.int .i64 (0:Int))]:LV))))))))
def xG (pu:Af) (n:Nat) (args:LV):OV:=
 (ll args none fun a0 args=>(ll args (oo (Bt a0) none fun l0=>(ll l0 none fun v0 l0=>(ll l0 none fun v1 l0=>(ll l0 none fun v2 l0=>(ll l0 (oo (Bi .i64 v0) none fun x0=>(oo (Bj 1 v1) none fun s0=>(oo (Bj 1 v2) none fun s1=>(sN pu n x0 s0 s1)))) fun _ _=>none))))) fun _ _=>none))
theorem sO (pu:Af) (n:Nat) (q0:LV) {v:Value} (hm:Qp pu n q0=some v):BN tt (Bb tabs Gy pu (inl pu)) 1 UC (fr 73 [(3,pt 1 0)]) (hT 2 [oC q0]) (Fin tt 1 [.tmp 2] v):=by
 unfold Qp at hm
 refine .then (.then ?_)
 replace hm:=Ae hm;obtain⟨h0,hm⟩:=hm
 replace hm:=Gt hm;obtain⟨x0,h1,hm⟩:=hm
 replace hm:=Gt hm;obtain⟨x1,h2,hm⟩:=hm
 replace hm:=Gt hm;obtain⟨x2,h3,hm⟩:=hm
 replace hm:=Gt hm;obtain⟨x3,h4,hm⟩:=hm
 replace hm:=Gt hm;obtain⟨x4,h5,hm⟩:=hm
 refine .reg (eD (keep (hT 2 [oC q0]) (bb (Nat.ble (0+5) (len q0)) (some (.agg ⟨Aq 5 (Am 0 q0)⟩)) none)) (Pd h0 (Ca h1 (Ca h2 (Ca h3 (Ca h4 (Ca h5 rfl)))))) (eE)) ?_
 refine .ghs (fr 73 [(72,(zB (bq false (an (Bd x0 (0:Int)) (an (Bd x1 (0:Int)) (an (Bd x2 (0:Int)) (an (Bd x3 (0:Int)) (an (Bd x4 (0:Int)) true))))))))]) Eb (.k0 [false] [] [72]) ?_
 replace hm:=Ag hm;rcases hm with⟨h6,hm⟩ | ⟨h6,hm⟩
 ·refine FX (bq false (an (Bd x0 (0:Int)) (an (Bd x1 (0:Int)) (an (Bd x2 (0:Int)) (an (Bd x3 (0:Int)) (an (Bd x4 (0:Int)) true)))))) h6 ?_
  refine .then (.rK (.ghs (fr 73 [(2,(zI (17:Int)))]) Eb (.k0 [false] [] [2]) ?_))
  refine .ret ?_
  exact Fb (zI (17:Int)) hm
 ·refine FY (bq false (an (Bd x0 (0:Int)) (an (Bd x1 (0:Int)) (an (Bd x2 (0:Int)) (an (Bd x3 (0:Int)) (an (Bd x4 (0:Int)) true)))))) h6 ?_
  refine .skip (.ghs (fr 73 []) Eb (.k0 [false] [] []) ?_)
  refine .then (.rK (.ghs (fr 73 [(2,(zI (0:Int)))]) Eb (.k0 [false] [] [2]) ?_))
  refine .ret ?_
  exact Fb (zI (0:Int)) hm
theorem r47 {call:A8} (pu:Af) (n:Nat) (hcall:call=Bb tabs Gy pu (inl pu)) {args:LV} {v:Value} (hm:xG pu n args=some v) (_:∀ x∈args,closed2 x=true):args.length≤73∧BN tt call 1 O7 (Fr.made 73 args) (Ao tabs) (Fin tt 1 [.tmp 2] v):=by
 subst hcall
 unfold xG at hm
 replace hm:=Ad hm;obtain⟨a0,args_0,rfl,hm⟩:=hm
 replace hm:=AC hm;obtain⟨rfl,hm⟩:=hm
 replace hm:=BG hm;obtain⟨l0,rfl,hm⟩:=hm
 replace hm:=Ad hm;obtain⟨v0,l9189_0,rfl,hm⟩:=hm
 replace hm:=Ad hm;obtain⟨v1,l9189_1,rfl,hm⟩:=hm
 replace hm:=Ad hm;obtain⟨v2,l9189_2,rfl,hm⟩:=hm
 replace hm:=AC hm;obtain⟨rfl,hm⟩:=hm
 replace hm:=Ai hm;obtain⟨x0,rfl,hm⟩:=hm
 replace hm:=Al hm;obtain⟨s0,rfl,hm⟩:=hm
 replace hm:=Al hm;obtain⟨s1,rfl,hm⟩:=hm
 unfold sN at hm
 refine⟨by simp,?_⟩
 refine .same (F':=(fr 73 [(0,(.agg ⟨[zI x0,Sl.v 1 s0,Sl.v 1 s1]⟩))])) (H':=Eb) (by kernel_rfl) (by kernel_rfl) ?_
 refine .then (.rK (.ghs (fr 73 [(1,pt 1 0)]) (hT 2 [(oC [zI x0,Sl.v 1 s0,Sl.v 1 s1])]) (.k0 [false] [.tmp 1 false] [1]) ?_))
 refine .then (.block (.then ?_))
 replace hm:=kR hm;obtain⟨b0,h0,hm⟩:=hm
 refine .reg (eC 2 ((oo (pu 52 [(zI (1:Int)),zI x0,(zI (5:Int))]) none fun v=>some (v,(hT 2 [(oC [zI x0,Sl.v 1 s0,Sl.v 1 s1])])))) (AB h0) (eE)) ?_
 refine .ghs (fr 73 [(1,pt 1 0),(7,(zB (nt b0)))]) (hT 2 [(oC [zI x0,Sl.v 1 s0,Sl.v 1 s1])]) (.k0 [false] [.tmp 1 false] [1,7]) ?_
 replace hm:=Ag hm;rcases hm with⟨h1,hm⟩ | ⟨h1,hm⟩
 ·refine FX (nt b0) h1 ?_
  refine .then (.rK (.ghs (fr 73 [(2,(zI (1:Int)))]) Eb (.k0 [false] [] [2]) ?_))
  refine .ret ?_
  exact Fb (zI (1:Int)) hm
 ·refine FY (nt b0) h1 ?_
  refine .then (.rK (.ghs (fr 73 [(1,pt 1 0),(12,(zB (Bd (Int.ofNat (Sl.n s0)) (0:Int))))]) (hT 2 [(oC [zI x0,Sl.v 1 s0,Sl.v 1 s1])]) (.k0 [false] [.tmp 1 false] [1,12]) ?_))
  replace hm:=Ag hm;rcases hm with⟨h2,hm⟩ | ⟨h2,hm⟩
  ·refine FX (Bd (Int.ofNat (Sl.n s0)) (0:Int)) h2 ?_
   refine .then (.rK (.ghs (fr 73 [(2,(zI (4:Int)))]) Eb (.k0 [false] [] [2]) ?_))
   refine .ret ?_
   exact Fb (zI (4:Int)) hm
  ·refine FY (Bd (Int.ofNat (Sl.n s0)) (0:Int)) h2 ?_
   refine .then (.rK (.ghs (fr 73 [(1,pt 1 0),(17,(zB (AY (10:Int) (Int.ofNat (Sl.n s0)))))]) (hT 2 [(oC [zI x0,Sl.v 1 s0,Sl.v 1 s1])]) (.k0 [false] [.tmp 1 false] [1,17]) ?_))
   replace hm:=Ag hm;rcases hm with⟨h3,hm⟩ | ⟨h3,hm⟩
   ·refine FX (AY (10:Int) (Int.ofNat (Sl.n s0))) h3 ?_
    refine .then (.rK (.ghs (fr 73 [(2,(zI (3:Int)))]) Eb (.k0 [false] [] [2]) ?_))
    refine .ret ?_
    exact Fb (zI (3:Int)) hm
   ·refine FY (AY (10:Int) (Int.ofNat (Sl.n s0))) h3 ?_
    refine .then (.rK (.ghs (fr 73 [(1,pt 1 0),(22,(zB (nt (Bd (Int.ofNat (Sl.n s1)) (Int.ofNat (Sl.n s0))))))]) (hT 2 [(oC [zI x0,Sl.v 1 s0,Sl.v 1 s1])]) (.k0 [false] [.tmp 1 false] [1,22]) ?_))
    replace hm:=Ag hm;rcases hm with⟨h4,hm⟩ | ⟨h4,hm⟩
    ·refine FX (nt (Bd (Int.ofNat (Sl.n s1)) (Int.ofNat (Sl.n s0)))) h4 ?_
     refine .then (.rK (.ghs (fr 73 [(2,(zI (5:Int)))]) Eb (.k0 [false] [] [2]) ?_))
     refine .ret ?_
     exact Fb (zI (5:Int)) hm
    ·refine FY (nt (Bd (Int.ofNat (Sl.n s1)) (Int.ofNat (Sl.n s0)))) h4 ?_
     refine .skip (.ghs (fr 73 [(1,pt 1 0)]) (hT 2 [(oC [zI x0,Sl.v 1 s0,Sl.v 1 s1])]) (.k0 [false] [.tmp 1 false] [1]) ?_)
     refine .then (.rK (.ghs (fr 73 [(1,pt 1 0),(3,(pt 2 0))]) (hT 3 [(oC [zI x0,Sl.v 1 s0,Sl.v 1 s1]),(oC [(zI (0:Int)),(zI (0:Int)),(zI (0:Int)),(zI (0:Int)),(zI (0:Int))])]) (.k0 [false] [.tmp 1 false,.tmp 3 false] [1,3]) ?_))
     refine .join (v:=v) (fun y:LV=>((fr 73 [(3,pt 1 0)]),(hT 2 [oC y]))) (fun y=>Qp pu n y) ?_ ?_
     ·rintro q0 hm
      exact sO pu n q0 hm
     ·refine .then (.rK (.ghs (fr 73 [(1,pt 1 0),(3,(pt 2 0)),(31,Sl.v 1 s0),(32,(zI (Int.ofNat (Sl.n s0)))),(33,(zI (0:Int)))]) (hT 3 [(oC [zI x0,Sl.v 1 s0,Sl.v 1 s1]),(oC [(zI (0:Int)),(zI (0:Int)),(zI (0:Int)),(zI (0:Int)),(zI (0:Int))])]) (.k0 [false] [.tmp 1 false,.tmp 3 false] [1,3,31,32,33]) ?_))
      refine .block (.loopM (v:=v) (fun y:Sl×Int×Int×Int×Sl×Sl×LV=>((fr 73 [(1,pt 1 0),(3,(pt 2 0)),(31,(Sl.v 1 y.1)),(32,(zI y.2.1)),(33,(zI y.2.2.1))]),(hT 3 [(oC [(zI y.2.2.2.1),(Sl.v 1 y.2.2.2.2.1),(Sl.v 1 y.2.2.2.2.2.1)]),(oC y.2.2.2.2.2.2)]))) (fun w y=>MF pu n w y.1 y.2.1 y.2.2.1 y.2.2.2.1 y.2.2.2.2.1 y.2.2.2.2.2.1 y.2.2.2.2.2.2) n ⟨(s0,(Int.ofNat (Sl.n s0)),(0:Int),x0,s0,s1,([(zI (0:Int)),(zI (0:Int)),(zI (0:Int)),(zI (0:Int)),(zI (0:Int))]:LV)),hm,(.k0 [false] [.tmp 1 false,.tmp 3 false] [1,3,31,32,33])⟩ (fun _=>rfl) ?_)
      rintro w0 ⟨s2,z0,z1,z2,s3,s4,q1⟩ hm
      replace hm:Qq pu n (MF pu n w0) s2 z0 z1 z2 s3 s4 q1=some v:=hm
      unfold Qq at hm
      refine .then (.rK ?_)
      replace hm:=Ae hm;obtain⟨h5,hm⟩:=hm
      refine .ghs (fr 73 [(1,pt 1 0),(3,(pt 2 0)),(31,Sl.v 1 s2),(32,zI z0),(33,zI z1),(34,(zB (AY z1 z0)))]) (hT 3 [(oC [zI z2,Sl.v 1 s3,Sl.v 1 s4]),oC q1]) (.k [2] [false] [.tmp 1 false,.tmp 3 false] [1,3,31,32,33,34] ⟨Dy h5,trivial⟩) ?_
      refine .then ?_
      replace hm:=Ag hm;rcases hm with⟨h6,hm⟩ | ⟨h6,hm⟩
      ·refine FX (AY z1 z0) h6 ?_
       refine .skip (.ghs (fr 73 [(1,pt 1 0),(3,(pt 2 0)),(31,Sl.v 1 s2),(32,zI z0),(33,zI z1)]) (hT 3 [(oC [zI z2,Sl.v 1 s3,Sl.v 1 s4]),oC q1]) (.k [2] [false] [.tmp 1 false,.tmp 3 false] [1,3,31,32,33] ⟨Dy h5,trivial⟩) ?_)
       refine .then (.block (.then ?_))
       replace hm:=Ab hm;obtain⟨k1,h7,hm⟩:=hm
       obtain rfl:=AR h7
       replace hm:=Ae hm;obtain⟨h8,hm⟩:=hm
       replace hm:=Gt hm;obtain⟨x1,h9,hm⟩:=hm
       refine .reg (eC 1 (keep (hT 3 [(oC [zI z2,Sl.v 1 s3,Sl.v 1 s4]),oC q1]) (bb (an (Nat.blt k1 (Sl.n s2)) true) (some (Cv (k1*1) (Sl.cs s2))) none)) (AX h8) (eD (keep (hT 3 [(oC [zI z2,Sl.v 1 s3,Sl.v 1 s4]),oC q1]) (AL (Sl.cs s2) (k1*1))) (AZ h9) (eE))) ?_
       refine .ghs (fr 73 [(1,pt 1 0),(3,(pt 2 0)),(4,(zI (Int.ofNat k1))),(5,zI x1),(31,Sl.v 1 s2),(32,zI z0),(33,(zI (Int.ofNat k1)))]) (hT 3 [(oC [zI z2,Sl.v 1 s3,Sl.v 1 s4]),oC q1]) (.k [2] [false] [.tmp 1 false,.tmp 3 false] [1,3,4,5,31,32,33] ⟨Dy h5,trivial⟩) ?_
       refine .then ?_
       replace hm:=Ae hm;obtain⟨h10,hm⟩:=hm
       replace hm:=Gt hm;obtain⟨x2,h11,hm⟩:=hm
       refine .reg (eC 3 (keep (hT 3 [(oC [zI z2,Sl.v 1 s3,Sl.v 1 s4]),oC q1]) (bb (an (Nat.blt k1 (Sl.n s4)) true) (some (Cv (k1*1) (Sl.cs s4))) none)) (AX h10) (eD (keep (hT 3 [(oC [zI z2,Sl.v 1 s3,Sl.v 1 s4]),oC q1]) (AL (Sl.cs s4) (k1*1))) (AZ h11) (eE))) ?_
       refine .ghs (fr 73 [(1,pt 1 0),(3,(pt 2 0)),(5,zI x1),(6,zI x2),(31,Sl.v 1 s2),(32,zI z0),(33,(zI (Int.ofNat k1)))]) (hT 3 [(oC [zI z2,Sl.v 1 s3,Sl.v 1 s4]),oC q1]) (.k [2] [false] [.tmp 1 false,.tmp 3 false] [1,3,5,6,31,32,33] ⟨Dy h5,trivial⟩) ?_
       refine .then (.join (v:=v) (fun y:Int×Int×Sl×Int×Int×Bool×Int×Sl×Sl×LV=>((fr 73 [(1,pt 1 0),(3,(pt 2 0)),(5,(zI y.1)),(6,(zI y.2.1)),(31,(Sl.v 1 y.2.2.1)),(32,(zI y.2.2.2.1)),(33,(zI y.2.2.2.2.1)),(58,(zB y.2.2.2.2.2.1))]),(hT 3 [(oC [(zI y.2.2.2.2.2.2.1),(Sl.v 1 y.2.2.2.2.2.2.2.1),(Sl.v 1 y.2.2.2.2.2.2.2.2.1)]),(oC y.2.2.2.2.2.2.2.2.2)]))) (fun y=>OH pu n (MF pu n w0) y.1 y.2.1 y.2.2.1 y.2.2.2.1 y.2.2.2.2.1 y.2.2.2.2.2.1 y.2.2.2.2.2.2.1 y.2.2.2.2.2.2.2.1 y.2.2.2.2.2.2.2.2.1 y.2.2.2.2.2.2.2.2.2) ?_ ?_)
       ·rintro⟨z3,z4,s5,z5,z6,b3,z7,s6,s7,q2⟩ hm
        unfold OH at hm
        replace hm:=Ag hm;rcases hm with⟨h12,hm⟩ | ⟨h12,hm⟩
        ·refine .ifT b3 (by kernel_rfl) h12 ?_
         refine .then (.rK (.ghs (fr 73 [(2,(zI (2:Int)))]) Eb (.k0 [false] [] [2]) ?_))
         refine .ret ?_
         exact Fb (zI (2:Int)) hm
        ·refine .ifF b3 (by kernel_rfl) h12 ?_
         refine .skip ?_
         replace hm:=Ae hm;obtain⟨h13,hm⟩:=hm
         refine .ghs (fr 73 [(1,pt 1 0),(3,(pt 2 0)),(5,zI z3),(6,zI z4),(31,Sl.v 1 s5),(32,zI z5),(33,zI z6)]) (hT 3 [(oC [zI z7,Sl.v 1 s6,Sl.v 1 s7]),oC q2]) (.k [2] [false] [.tmp 1 false,.tmp 3 false] [1,3,5,6,31,32,33] ⟨Dy h13,trivial⟩) ?_
         refine .then ?_
         replace hm:=Ab hm;obtain⟨k2,h14,hm⟩:=hm
         obtain rfl:=AR h14
         replace hm:=Ae hm;obtain⟨h15,hm⟩:=hm
         replace hm:=Gt hm;obtain⟨x3,h16,hm⟩:=hm
         replace hm:=Ae hm;obtain⟨h17,hm⟩:=hm
         replace hm:=Ae hm;obtain⟨h18,hm⟩:=hm
         refine .reg (eC 1 (keep (hT 3 [(oC [zI z7,Sl.v 1 s6,Sl.v 1 s7]),oC q2]) (bb (Nat.blt k2 5) (some (.pointer (some ⟨2,(0+k2*1),none⟩))) none)) (AX h15) (eD (keep (hT 3 [(oC [zI z7,Sl.v 1 s6,Sl.v 1 s7]),oC q2]) (AL q2 (0+k2*1))) (AZ h16) (eC 1 (keep (hT 3 [(oC [zI z7,Sl.v 1 s6,Sl.v 1 s7]),oC q2]) (bb (Nat.blt k2 5) (some (.pointer (some ⟨2,(0+k2*1),none⟩))) none)) (AX h17) (eD (done (bb (an (Nat.ble ((0+k2*1)+1) (len q2)) true) (some (hT 3 [(oC [zI z7,Sl.v 1 s6,Sl.v 1 s7]),(oC (BM ([(zI (Aj .i64 (Int.add x3 (1:Int))))]:LV) (0+k2*1) q2))])) none) undef) (Js h18) (eE))))) ?_
         replace hm:=Ae hm;obtain⟨h19,hm⟩:=hm
         refine .ghs (fr 73 [(1,pt 1 0),(3,(pt 2 0)),(6,zI z4),(31,Sl.v 1 s5),(32,zI z5),(33,zI z6)]) (hT 3 [(oC [zI z7,Sl.v 1 s6,Sl.v 1 s7]),(oC (BM ([(zI (Aj .i64 (Int.add x3 (1:Int))))]:LV) (0+k2*1) q2))]) (.k [2] [false] [.tmp 1 false,.tmp 3 false] [1,3,6,31,32,33] ⟨Dy h19,trivial⟩) ?_
         replace hm:=Ab hm;obtain⟨k3,h20,hm⟩:=hm
         obtain rfl:=AR h20
         replace hm:=Ae hm;obtain⟨h21,hm⟩:=hm
         replace hm:=Gt hm;obtain⟨x4,h22,hm⟩:=hm
         replace hm:=Ae hm;obtain⟨h23,hm⟩:=hm
         replace hm:=Ae hm;obtain⟨h24,hm⟩:=hm
         refine .reg (eC 1 (keep (hT 3 [(oC [zI z7,Sl.v 1 s6,Sl.v 1 s7]),(oC (BM ([(zI (Aj .i64 (Int.add x3 (1:Int))))]:LV) (0+k2*1) q2))]) (bb (Nat.blt k3 5) (some (.pointer (some ⟨2,(0+k3*1),none⟩))) none)) (AX h21) (eD (keep (hT 3 [(oC [zI z7,Sl.v 1 s6,Sl.v 1 s7]),(oC (BM ([(zI (Aj .i64 (Int.add x3 (1:Int))))]:LV) (0+k2*1) q2))]) (AL (BM ([(zI (Aj .i64 (Int.add x3 (1:Int))))]:LV) (0+k2*1) q2) (0+k3*1))) (AZ h22) (eC 1 (keep (hT 3 [(oC [zI z7,Sl.v 1 s6,Sl.v 1 s7]),(oC (BM ([(zI (Aj .i64 (Int.add x3 (1:Int))))]:LV) (0+k2*1) q2))]) (bb (Nat.blt k3 5) (some (.pointer (some ⟨2,(0+k3*1),none⟩))) none)) (AX h23) (eD (done (bb (an (Nat.ble ((0+k3*1)+1) (len (BM ([(zI (Aj .i64 (Int.add x3 (1:Int))))]:LV) (0+k2*1) q2))) true) (some (hT 3 [(oC [zI z7,Sl.v 1 s6,Sl.v 1 s7]),(oC (BM ([(zI (Aj .i64 (Int.sub x4 (1:Int))))]:LV) (0+k3*1) (BM ([(zI (Aj .i64 (Int.add x3 (1:Int))))]:LV) (0+k2*1) q2)))])) none) undef) (Js h24) (eE))))) ?_
         replace hm:=Ae hm;obtain⟨h25,hm⟩:=hm
         refine .ghs (fr 73 [(1,pt 1 0),(3,(pt 2 0)),(31,Sl.v 1 s5),(32,zI z5),(33,zI z6)]) (hT 3 [(oC [zI z7,Sl.v 1 s6,Sl.v 1 s7]),(oC (BM ([(zI (Aj .i64 (Int.sub x4 (1:Int))))]:LV) (0+k3*1) (BM ([(zI (Aj .i64 (Int.add x3 (1:Int))))]:LV) (0+k2*1) q2)))]) (.k [2] [false] [.tmp 1 false,.tmp 3 false] [1,3,31,32,33] ⟨Dy h25,trivial⟩) ?_
         refine .rK ?_
         exact⟨(s5,z5,(Aj .i64 (Int.add z6 (1:Int))),z7,s6,s7,(BM ([(zI (Aj .i64 (Int.sub x4 (1:Int))))]:LV) (0+k3*1) (BM ([(zI (Aj .i64 (Int.add x3 (1:Int))))]:LV) (0+k2*1) q2))),hm,(.k [2] [false] [.tmp 1 false,.tmp 3 false] [1,3,31,32,33] ⟨Dy h25,trivial⟩)⟩
       ·replace hm:=kR hm;obtain⟨b4,h26,hm⟩:=hm
        replace hm:=Ag hm;rcases hm with⟨h27,hm⟩ | ⟨h27,hm⟩
        ·refine .reg (eC 6 ((oo (pu 52 [(zI (0:Int)),(zI (bb (AY x2 x1) x2 x1)),(zI (Aj .i64 (Int.sub z2 (1:Int))))]) none fun v=>some (v,(hT 3 [(oC [zI z2,Sl.v 1 s3,Sl.v 1 s4]),oC q1])))) (AB h26) (eD (some ((zB (nt b4)),(hT 3 [(oC [zI z2,Sl.v 1 s3,Sl.v 1 s4]),oC q1]))) (show _=some ((zB true),_) from (by rw[show (nt b4)=true from h27])) (eE))) ?_
         exact⟨(x1,x2,s2,z0,(Int.ofNat k1),true,z2,s3,s4,q1),hm,(.k [2] [false] [.tmp 1 false,.tmp 3 false] [1,3,5,6,31,32,33,58] ⟨Dy h5,trivial⟩)⟩
        ·refine .reg (eC 6 ((oo (pu 52 [(zI (0:Int)),(zI (bb (AY x2 x1) x2 x1)),(zI (Aj .i64 (Int.sub z2 (1:Int))))]) none fun v=>some (v,(hT 3 [(oC [zI z2,Sl.v 1 s3,Sl.v 1 s4]),oC q1])))) (AB h26) (eD (some ((zB (nt b4)),(hT 3 [(oC [zI z2,Sl.v 1 s3,Sl.v 1 s4]),oC q1]))) (show _=some ((zB false),_) from (by rw[show (nt b4)=false from h27])) (eE))) ?_
         exact⟨(x1,x2,s2,z0,(Int.ofNat k1),(nt (AY (bb (AY x1 x2) x2 x1) z2)),z2,s3,s4,q1),hm,(.k [2] [false] [.tmp 1 false,.tmp 3 false] [1,3,5,6,31,32,33,58] ⟨Dy h5,trivial⟩)⟩
      ·refine FY (AY z1 z0) h6 ?_
       refine .exit ?_
       exact⟨q1,hm,(.k [2] [false] [.tmp 3 false] [3] ⟨Dy h5,trivial⟩)⟩
def Qt (pu:Af) (n n0 c0:Nat) (q0:LV):OV:=
 (bb (Au Ah q0) (bb (an (Nat.ble (0+n0*1) (len q0)) (Au Ah (Aq (n0*1) (Am 0 q0)))) (some (Sl.v 1 (Sl.mk n0 0 (Aq (n0*1) (Am 0 q0))))) none) none)
def Qu (pu:Af) (n:Nat) (ih0:Nat→Nat→Int→Int→Sl→Sl→LV→List EO→Nat→OV) (ih1:Nat→Nat→Int→Sl→Int→Int→Int→Sl→Sl→LV→List EO→Nat→OV) (n0 c0:Nat) (z0:Int) (s0:Sl) (z1 z2 z3:Int) (s1 s2:Sl) (q0:LV) (e0:List EO) (k1:Nat):OV:=
 (bb (Au Ah q0) (bb (Au F4 e0) (bb (AY z2 z1) (oo (EA z2) none fun k2=>(bb (an (Nat.blt k2 (Sl.n s0)) true) (oo (AL (Sl.cs s0) (k2*1)) none fun v0=>(oo (Bi .i64 v0) none fun x0=>(oo (EA x0) none fun k3=>(ih1 n0 c0 (QV .u16 z0 (QW .u16 (1:Int) k3)) s0 z1 (Aj .i64 (Int.add (Int.ofNat k2) (1:Int))) z3 s1 s2 q0 e0 k1)))) none)) (ih0 n0 c0 z0 z3 s1 s2 q0 e0 k1)) none) none)
def Qv (pu:Af) (n:Nat) (ih0:Nat→Nat→Int→Int→Sl→Sl→LV→List EO→Nat→OV) (w:Nat):Nat→Nat→Int→Sl→Int→Int→Int→Sl→Sl→LV→List EO→Nat→OV:=
 Nat.rec (motive:=fun _=>Nat→Nat→Int→Sl→Int→Int→Int→Sl→Sl→LV→List EO→Nat→OV) (fun _ _ _ _ _ _ _ _ _ _ _ _=>none) (fun _ ih1=>Qu pu n ih0 ih1) w
def MG (pu:Af) (n:Nat) (ih0:Nat→Nat→Int→Int→Sl→Sl→LV→List EO→Nat→OV) (n0 c0:Nat) (z0 z1:Int) (s0 s1:Sl) (q0:LV) (e0:List EO) (k1:Nat):OV:=
 (bb (Au Ah q0) (bb (Au F4 e0) (bb (nt (Bd z0 (0:Int))) (oo (pu 67 [.int .u16 z0]) none fun v0=>(oo (Bi .i64 v0) none fun x0=>(oo (EA x0) none fun k2=>(bb (Au F4 e0) (oo (pu 10660 [(.pointer (some ⟨1,0,none⟩)),.int .u16 z0,(.agg ⟨[.int .i64 z1,Sl.v 1 s0,Sl.v 1 s1,(.map (some 2))]⟩),(Ef (.map e0 k1))]) none fun v1=>(oo (CQ v1) none fun l0=>(ll l0 none fun v2 l0=>(ll l0 none fun v3 l0=>(ll l0 none fun v4 l0=>(ll l0 (oo (Bi .i64 v2) none fun x1=>(oo (Bt v3) none fun l1=>(ll l1 none fun v5 l1=>(ll l1 none fun v6 l1=>(ll l1 none fun v7 l1=>(ll l1 none fun v8 l1=>(ll l1 (oo (Bi .i64 v5) none fun x2=>(oo (Bj 1 v6) none fun s2=>(oo (Bj 1 v7) none fun s3=>(bb (FC v8 2) (oo (Fj v4) none fun y0=>(bb (Au F4 (Akd.es y0)) (bb (Au F4 (Akd.es y0)) (oo (pu 10680 [(.pointer (some ⟨1,0,none⟩)),(Sl.v 1 (Sl.mk 1 0 (Aq (1*1) (Am 0 ([(.int .i64 (Int.ofNat k2))]:LV))))),(.int .u16 (QV .u16 z0 (QW .u16 (1:Int) k2))),(.int .i64 (Aj .i64 (Int.sub x1 (1:Int)))),(.agg ⟨[.int .i64 x2,Sl.v 1 s2,Sl.v 1 s3,(.map (some 2))]⟩),(Ef (.map (Akd.es y0) (Akd.clock y0)))]) none fun v9=>(oo (CQ v9) none fun l2=>(ll l2 none fun v10 l2=>(ll l2 none fun v11 l2=>(ll l2 none fun v12 l2=>(ll l2 (oo (Bj 1 v10) none fun s4=>(oo (Bt v11) none fun l3=>(ll l3 none fun v13 l3=>(ll l3 none fun v14 l3=>(ll l3 none fun v15 l3=>(ll l3 none fun v16 l3=>(ll l3 (oo (Bi .i64 v13) none fun x3=>(oo (Bj 1 v14) none fun s5=>(oo (Bj 1 v15) none fun s6=>(bb (FC v16 2) (oo (Fj v12) none fun y1=>(bb (Au F4 (Akd.es y1)) (bb (Au F4 (Akd.es y1)) (bb (GV 1 24 n0 c0 1 q0) (bb (Au Ah (Br (Am 0 q0) [Sl.v 1 s4])) (Qv pu n ih0 n (n0+1) (2*(n0+1)+bb false 1 0) z0 s4 (Int.ofNat (Sl.n s4)) (0:Int) x3 s5 s6 (Br (Am 0 q0) [Sl.v 1 s4]) (Akd.es y1) (Akd.clock y1)) none) none) none) none)) none)))) fun _ _=>none))))))) fun _ _=>none)))))) none) none)) none)))) fun _ _=>none))))))) fun _ _=>none)))))) none)))) (Qt pu n n0 c0 q0)) none) none)
def Kg (pu:Af) (n w:Nat):Nat→Nat→Int→Int→Sl→Sl→LV→List EO→Nat→OV:=
 Nat.rec (motive:=fun _=>Nat→Nat→Int→Int→Sl→Sl→LV→List EO→Nat→OV) (fun _ _ _ _ _ _ _ _ _=>none) (fun _ ih0=>MG pu n ih0) w
def WH (pu:Af) (n:Nat) (x0:Int) (s0 s1:Sl):OV:=
 (oo (pu 10650 [(.agg ⟨[.int .i64 x0,Sl.v 1 s0,Sl.v 1 s1]⟩)]) none fun v0=>(oo (CQ v0) none fun l0=>(ll l0 none fun v1 l0=>(ll l0 none fun v2 l0=>(ll l0 none fun v3 l0=>(ll l0 (bb (MK v1 1 0) (oo (Bt v2) none fun l1=>(ll l1 none fun v4 l1=>(ll l1 none fun v5 l1=>(ll l1 none fun v6 l1=>(ll l1 none fun v7 l1=>(ll l1 (oo (Bi .i64 v4) none fun x1=>(oo (Bj 1 v5) none fun s2=>(oo (Bj 1 v6) none fun s3=>(bb (FC v7 2) (oo (Fj v3) none fun y0=>(bb (Au F4 (Akd.es y0)) (bb (Au F4 (Akd.es y0)) (oo (pu 51 [(.agg ⟨[.int .i64 x0,Sl.v 1 s0,Sl.v 1 s1]⟩)]) none fun v8=>(oo (Bi .u16 v8) none fun x2=>(Kg pu n n 0 0 x2 x1 s2 s3 ([]:LV) (Akd.es y0) (Akd.clock y0)))) none) none)) none)))) fun _ _=>none)))))) none) fun _ _=>none))))))
def kV (pu:Af) (n:Nat) (args:LV):OV:=
 (ll args none fun a0 args=>(ll args (oo (Bt a0) none fun l0=>(ll l0 none fun v0 l0=>(ll l0 none fun v1 l0=>(ll l0 none fun v2 l0=>(ll l0 (oo (Bi .i64 v0) none fun x0=>(oo (Bj 1 v1) none fun s0=>(oo (Bj 1 v2) none fun s1=>(WH pu n x0 s0 s1)))) fun _ _=>none))))) fun _ _=>none))
theorem sP (pu:Af) (n n0 c0:Nat) (q0:LV) {v:Value} (hm:Qt pu n n0 c0 q0=some v):BN tt (Bb tabs Gy pu (inl pu)) 1 UD (fr 46 [(4,sc 1 0 1 n0 c0)]) (hT 2 [oC q0]) (Fin tt 1 [.tmp 2] v):=by
 unfold Qt at hm
 refine .then (.rK ?_)
 replace hm:=Ae hm;obtain⟨h0,hm⟩:=hm
 refine .ghs (fr 46 [(2,sc 1 0 1 n0 c0)]) (hT 2 [oC q0]) (.k [1] [false] [.tmp 2 false] [2] ⟨Dy h0,trivial⟩) ?_
 replace hm:=Ae hm;obtain⟨h1,hm⟩:=hm
 refine .ghs (Fr.puts (fr 46 [(2,sc 1 0 1 n0 c0)]) [(2,(Sl.v 1 (Sl.mk n0 0 (Aq (n0*1) (Am 0 q0)))))]) (hT 2 [.dead]) (.freezeC 1 2 1 (an (Nat.ble (0+n0*1) (len q0)) (Au Ah (Aq (n0*1) (Am 0 q0)))) (F1:=(Fr.puts (fr 46 [(2,sc 1 0 1 n0 c0)]) [(2,(Sl.v 1 (Sl.mk n0 0 (Aq (n0*1) (Am 0 q0)))))])) (H1:=(hT 2 [.dead])) (by kernel_rfl) (by kernel_rfl) h1 (E9.id _ _)) ?_
 refine .ret ?_
 exact Fb (Sl.v 1 (Sl.mk n0 0 (Aq (n0*1) (Am 0 q0)))) hm
theorem r48 {call:A8} (pu:Af) (n:Nat) (hcall:call=Bb tabs Gy pu (inl pu)) {args:LV} {v:Value} (hm:kV pu n args=some v) (_:∀ x∈args,closed2 x=true):args.length≤46∧BN tt call 1 O8 (Fr.made 46 args) (Ao tabs) (Fin tt 1 [.tmp 2] v):=by
 subst hcall
 unfold kV at hm
 replace hm:=Ad hm;obtain⟨a0,args_0,rfl,hm⟩:=hm
 replace hm:=AC hm;obtain⟨rfl,hm⟩:=hm
 replace hm:=BG hm;obtain⟨l0,rfl,hm⟩:=hm
 replace hm:=Ad hm;obtain⟨v0,l9922_0,rfl,hm⟩:=hm
 replace hm:=Ad hm;obtain⟨v1,l9922_1,rfl,hm⟩:=hm
 replace hm:=Ad hm;obtain⟨v2,l9922_2,rfl,hm⟩:=hm
 replace hm:=AC hm;obtain⟨rfl,hm⟩:=hm
 replace hm:=Ai hm;obtain⟨x0,rfl,hm⟩:=hm
 replace hm:=Al hm;obtain⟨s0,rfl,hm⟩:=hm
 replace hm:=Al hm;obtain⟨s1,rfl,hm⟩:=hm
 unfold WH at hm
 refine⟨by simp,?_⟩
 refine .same (F':=(fr 46 [(0,(.agg ⟨[zI x0,Sl.v 1 s0,Sl.v 1 s1]⟩))])) (H':=Eb) (by kernel_rfl) (by kernel_rfl) ?_
 refine .then (.rK (.ghs (fr 46 [(1,pt 1 0)]) (hT 2 [(oC [zI x0,Sl.v 1 s0,Sl.v 1 s1])]) (.k0 [false] [.tmp 1 false] [1]) ?_))
 refine .then ?_
 replace hm:=Ab hm;obtain⟨v3,h0,hm⟩:=hm
 replace hm:=Ch hm;obtain⟨l1,rfl,hm⟩:=hm
 replace hm:=Ad hm;obtain⟨v4,l9965_0,rfl,hm⟩:=hm
 replace hm:=Ad hm;obtain⟨v5,l9965_1,rfl,hm⟩:=hm
 replace hm:=Ad hm;obtain⟨v6,l9965_2,rfl,hm⟩:=hm
 replace hm:=AC hm;obtain⟨rfl,hm⟩:=hm
 replace hm:=Ae hm;obtain⟨h1,hm⟩:=hm
 obtain rfl:=KR h1
 replace hm:=BG hm;obtain⟨l2,rfl,hm⟩:=hm
 replace hm:=Ad hm;obtain⟨v7,l9971_0,rfl,hm⟩:=hm
 replace hm:=Ad hm;obtain⟨v8,l9971_1,rfl,hm⟩:=hm
 replace hm:=Ad hm;obtain⟨v9,l9971_2,rfl,hm⟩:=hm
 replace hm:=Ad hm;obtain⟨v10,l9971_3,rfl,hm⟩:=hm
 replace hm:=AC hm;obtain⟨rfl,hm⟩:=hm
 replace hm:=Ai hm;obtain⟨x1,rfl,hm⟩:=hm
 replace hm:=Al hm;obtain⟨s2,rfl,hm⟩:=hm
 replace hm:=Al hm;obtain⟨s3,rfl,hm⟩:=hm
 replace hm:=Ae hm;obtain⟨h2,hm⟩:=hm
 obtain rfl:=Ey h2
 replace hm:=Ab hm;obtain⟨y0,h3,hm⟩:=hm
 replace hm:=Ae hm;obtain⟨h4,hm⟩:=hm
 refine .reg (eC 1 (EK tabs [[none,some 1,some 1]] 1 [] [true,false] (pu 10650) [(.agg ⟨[zI x0,Sl.v 1 s0,Sl.v 1 s1]⟩)] (hT 2 [(oC [zI x0,Sl.v 1 s0,Sl.v 1 s1])])) (EL (as:=[(.agg ⟨[zI x0,Sl.v 1 s0,Sl.v 1 s1]⟩)]) (H1:=(hT 2 [(oC [zI x0,Sl.v 1 s0,Sl.v 1 s1])])) (BS (Ot (Da Dk (Da (KQ (CV (z:=1) (v:=(Sl.v 1 s0)) (H:=(hT 2 [(oC [zI x0,Sl.v 1 s0,Sl.v 1 s1])])) (by kernel_rfl) (by kernel_rfl) (by kernel_rfl))) (Da (KQ (CV (z:=1) (v:=(Sl.v 1 s1)) (H:=(hT 2 [(oC [zI x0,Sl.v 1 s0,Sl.v 1 s1])])) (by kernel_rfl) (by kernel_rfl) (by kernel_rfl))) Oq)))) Gj) (EI (H2:=(hT 4 [(oC [zI x0,Sl.v 1 s0,Sl.v 1 s1]),(oC [zI x1,Sl.v 1 s2,Sl.v 1 s3,(.map (some 3))]),(.map (Akd.es y0) (Akd.clock y0))])) (v:=(pt 1 0)) (v':=(pt 2 0)) [some 0] [] [] [(.agg ⟨[zI x0,Sl.v 1 s0,Sl.v 1 s1]⟩)] [(.agg ⟨[zI x1,Sl.v 1 s2,Sl.v 1 s3,(.map (some 2))]⟩),v6] [(oC [zI x1,Sl.v 1 s2,Sl.v 1 s3,(.map (some 2))]),(.map (Akd.es y0) (Akd.clock y0))] [some 0,none,some 1,some 2] [(true,(oC [zI x1,Sl.v 1 s2,Sl.v 1 s3,(.map (some 2))])),(false,(.map (Akd.es y0) (Akd.clock y0)))] [(oC [zI x1,Sl.v 1 s2,Sl.v 1 s3,(.map (some 3))]),(.map (Akd.es y0) (Akd.clock y0))] (by kernel_rfl) BX (Eq.trans (by kernel_rfl) h0) (En rfl (En (CK h3) BX)) (En (by kernel_rfl) (En (GZ h4) BX)))) (eE)) ?_
 replace hm:=Ae hm;obtain⟨h5,hm⟩:=hm
 refine .ghs (fr 46 [(1,pt 1 0),(3,(pt 2 0))]) (hT 4 [(oC [zI x0,Sl.v 1 s0,Sl.v 1 s1]),(oC [zI x1,Sl.v 1 s2,Sl.v 1 s3,(.map (some 3))]),(.map (Akd.es y0) (Akd.clock y0))]) (.k [3] [false] [.tmp 1 false,.tmp 3 true,.cell 2 3 false] [1,3] ⟨Dy h5,trivial⟩) ?_
 refine .then (.rK (.ghs (fr 46 [(1,pt 1 0),(3,(pt 2 0)),(4,(.slice none 0 0))]) (hT 4 [(oC [zI x0,Sl.v 1 s0,Sl.v 1 s1]),(oC [zI x1,Sl.v 1 s2,Sl.v 1 s3,(.map (some 3))]),(.map (Akd.es y0) (Akd.clock y0))]) (.k [3] [false] [.tmp 1 false,.tmp 3 true,.cell 2 3 false] [1,3,4] ⟨Dy h5,trivial⟩) ?_))
 refine .join (v:=v) (fun y:Nat×Nat×LV=>((fr 46 [(4,(sc 1 0 1 y.1 y.2.1))]),(hT 2 [(oC y.2.2)]))) (fun y=>Qt pu n y.1 y.2.1 y.2.2) ?_ ?_
 ·rintro⟨n0,c0,q0⟩ hm
  exact sP pu n n0 c0 q0 hm
 ·refine .then ?_
  replace hm:=Gt hm;obtain⟨x2,h6,hm⟩:=hm
  refine .reg (eC 1 ((oo (pu 51 [(.agg ⟨[zI x0,Sl.v 1 s0,Sl.v 1 s1]⟩)]) none fun v=>some (v,(hT 4 [(oC [zI x0,Sl.v 1 s0,Sl.v 1 s1]),(oC [zI x1,Sl.v 1 s2,Sl.v 1 s3,(.map (some 3))]),(.map (Akd.es y0) (Akd.clock y0))])))) (AB h6) (eE)) ?_
  refine .ghs (fr 46 [(3,pt 1 0),(4,(.slice none 0 0)),(5,.int .u16 x2)]) (hT 3 [(oC [zI x1,Sl.v 1 s2,Sl.v 1 s3,(.map (some 2))]),(.map (Akd.es y0) (Akd.clock y0))]) (.k [3] [false] [.tmp 3 true,.cell 1 3 false] [3,4,5] ⟨Dy h5,trivial⟩) ?_
  refine .block (.loopM (v:=v) (fun y:Nat×Nat×Int×Int×Sl×Sl×LV×List EO×Nat=>((fr 46 [(3,pt 1 0),(4,(sc 2 0 1 y.1 y.2.1)),(5,(.int .u16 y.2.2.1))]),(hT 4 [(oC [(zI y.2.2.2.1),(Sl.v 1 y.2.2.2.2.1),(Sl.v 1 y.2.2.2.2.2.1),(.map (some 3))]),(oC y.2.2.2.2.2.2.1),(.map y.2.2.2.2.2.2.2.1 y.2.2.2.2.2.2.2.2)]))) (fun w y=>Kg pu n w y.1 y.2.1 y.2.2.1 y.2.2.2.1 y.2.2.2.2.1 y.2.2.2.2.2.1 y.2.2.2.2.2.2.1 y.2.2.2.2.2.2.2.1 y.2.2.2.2.2.2.2.2) n ⟨(0,0,x2,x1,s2,s3,([]:LV),(Akd.es y0),(Akd.clock y0)),hm,(.thaw 4 1 (by kernel_rfl) (.k [2] [false] [.tmp 3 true,.tmp 4 false,.cell 1 3 false] [3,4,5] ⟨Dy h5,trivial⟩))⟩ (fun _=>rfl) ?_)
  rintro w0 ⟨n1,c1,z0,z1,s4,s5,q1,e0,k1⟩ hm
  replace hm:MG pu n (Kg pu n w0) n1 c1 z0 z1 s4 s5 q1 e0 k1=some v:=hm
  unfold MG at hm
  refine .then (.then (.rK ?_))
  replace hm:=Ae hm;obtain⟨h7,hm⟩:=hm
  replace hm:=Ae hm;obtain⟨h8,hm⟩:=hm
  refine .ghs (fr 46 [(3,pt 1 0),(4,sc 2 0 1 n1 c1),(5,.int .u16 z0),(15,(zB (nt (Bd z0 (0:Int)))))]) (hT 4 [(oC [zI z1,Sl.v 1 s4,Sl.v 1 s5,(.map (some 3))]),oC q1,(.map e0 k1)]) (.k [2,3] [false] [.tmp 3 true,.tmp 4 false,.cell 1 3 false] [3,4,5,15] ⟨Dy h7,Dy h8,trivial⟩) ?_
  replace hm:=Ag hm;rcases hm with⟨h9,hm⟩ | ⟨h9,hm⟩
  ·refine FX (nt (Bd z0 (0:Int))) h9 ?_
   refine .skip (.ghs (fr 46 [(3,pt 1 0),(4,sc 2 0 1 n1 c1),(5,.int .u16 z0)]) (hT 4 [(oC [zI z1,Sl.v 1 s4,Sl.v 1 s5,(.map (some 3))]),oC q1,(.map e0 k1)]) (.k [2,3] [false] [.tmp 3 true,.tmp 4 false,.cell 1 3 false] [3,4,5] ⟨Dy h7,Dy h8,trivial⟩) ?_)
   refine .block (.then ?_)
   replace hm:=Gt hm;obtain⟨x3,h10,hm⟩:=hm
   refine .reg (eC 1 ((oo (pu 67 [.int .u16 z0]) none fun v=>some (v,(hT 4 [(oC [zI z1,Sl.v 1 s4,Sl.v 1 s5,(.map (some 3))]),oC q1,(.map e0 k1)])))) (AB h10) (eE)) ?_
   refine .ghs (fr 46 [(3,pt 1 0),(4,sc 2 0 1 n1 c1),(5,.int .u16 z0),(6,zI x3)]) (hT 4 [(oC [zI z1,Sl.v 1 s4,Sl.v 1 s5,(.map (some 3))]),oC q1,(.map e0 k1)]) (.k [2,3] [false] [.tmp 3 true,.tmp 4 false,.cell 1 3 false] [3,4,5,6] ⟨Dy h7,Dy h8,trivial⟩) ?_
   refine .then ?_
   replace hm:=Ab hm;obtain⟨k2,h11,hm⟩:=hm
   obtain rfl:=AR h11
   replace hm:=Ae hm;obtain⟨h12,hm⟩:=hm
   replace hm:=Ab hm;obtain⟨v11,h13,hm⟩:=hm
   replace hm:=Ch hm;obtain⟨l3,rfl,hm⟩:=hm
   replace hm:=Ad hm;obtain⟨v12,l12168_0,rfl,hm⟩:=hm
   replace hm:=Ad hm;obtain⟨v13,l12168_1,rfl,hm⟩:=hm
   replace hm:=Ad hm;obtain⟨v14,l12168_2,rfl,hm⟩:=hm
   replace hm:=AC hm;obtain⟨rfl,hm⟩:=hm
   replace hm:=Ai hm;obtain⟨x4,rfl,hm⟩:=hm
   replace hm:=BG hm;obtain⟨l4,rfl,hm⟩:=hm
   replace hm:=Ad hm;obtain⟨v15,l12175_0,rfl,hm⟩:=hm
   replace hm:=Ad hm;obtain⟨v16,l12175_1,rfl,hm⟩:=hm
   replace hm:=Ad hm;obtain⟨v17,l12175_2,rfl,hm⟩:=hm
   replace hm:=Ad hm;obtain⟨v18,l12175_3,rfl,hm⟩:=hm
   replace hm:=AC hm;obtain⟨rfl,hm⟩:=hm
   replace hm:=Ai hm;obtain⟨x5,rfl,hm⟩:=hm
   replace hm:=Al hm;obtain⟨s6,rfl,hm⟩:=hm
   replace hm:=Al hm;obtain⟨s7,rfl,hm⟩:=hm
   replace hm:=Ae hm;obtain⟨h14,hm⟩:=hm
   obtain rfl:=Ey h14
   replace hm:=Ab hm;obtain⟨y1,h15,hm⟩:=hm
   replace hm:=Ae hm;obtain⟨h16,hm⟩:=hm
   replace hm:=Ae hm;obtain⟨h17,hm⟩:=hm
   replace hm:=Ab hm;obtain⟨v19,h18,hm⟩:=hm
   replace hm:=Ch hm;obtain⟨l5,rfl,hm⟩:=hm
   replace hm:=Ad hm;obtain⟨v20,l12202_0,rfl,hm⟩:=hm
   replace hm:=Ad hm;obtain⟨v21,l12202_1,rfl,hm⟩:=hm
   replace hm:=Ad hm;obtain⟨v22,l12202_2,rfl,hm⟩:=hm
   replace hm:=AC hm;obtain⟨rfl,hm⟩:=hm
   replace hm:=Al hm;obtain⟨s8,rfl,hm⟩:=hm
   replace hm:=BG hm;obtain⟨l6,rfl,hm⟩:=hm
   replace hm:=Ad hm;obtain⟨v23,l12209_0,rfl,hm⟩:=hm
   replace hm:=Ad hm;obtain⟨v24,l12209_1,rfl,hm⟩:=hm
   replace hm:=Ad hm;obtain⟨v25,l12209_2,rfl,hm⟩:=hm
   replace hm:=Ad hm;obtain⟨v26,l12209_3,rfl,hm⟩:=hm
   replace hm:=AC hm;obtain⟨rfl,hm⟩:=hm
   replace hm:=Ai hm;obtain⟨x6,rfl,hm⟩:=hm
   replace hm:=Al hm;obtain⟨s9,rfl,hm⟩:=hm
   replace hm:=Al hm;obtain⟨s10,rfl,hm⟩:=hm
   replace hm:=Ae hm;obtain⟨h19,hm⟩:=hm
   obtain rfl:=Ey h19
   replace hm:=Ab hm;obtain⟨y2,h20,hm⟩:=hm
   replace hm:=Ae hm;obtain⟨h21,hm⟩:=hm
   refine .reg (eC 9 (EK tabs [[none],[none]] 2 [.tmp 0 true,.cell 1 3 false] [true,false] (pu 10660) [pt 1 0,.int .u16 z0] (hT 5 [(oC [zI z1,Sl.v 1 s4,Sl.v 1 s5,(.map (some 3))]),oC q1,(.map e0 k1),(oC [(zI (Int.ofNat k2))])])) (EL (as:=[pt 1 0,.int .u16 z0]) (H1:=(hT 5 [(oC [zI z1,Sl.v 1 s4,Sl.v 1 s5,(.map (some 3))]),oC q1,(.map e0 k1),(oC [(zI (Int.ofNat k2))])])) (BS (Dm Dk) (BS (Dm Dk) Gj)) (EI (H2:=(hT 5 [(oC [zI x5,Sl.v 1 s6,Sl.v 1 s7,(.map (some 3))]),oC q1,(.map (Akd.es y1) (Akd.clock y1)),(oC [(zI (Int.ofNat k2))])])) (v:=(zI x4)) (v':=(zI x4)) [some 0,some 1,some 3] [(true,some 1),(false,some 3)] [(oC [zI z1,Sl.v 1 s4,Sl.v 1 s5,(.map (some 2))]),(.map e0 k1)] [pt 1 0,.int .u16 z0] [(.agg ⟨[zI x5,Sl.v 1 s6,Sl.v 1 s7,(.map (some 2))]⟩),v14] [(oC [zI x5,Sl.v 1 s6,Sl.v 1 s7,(.map (some 2))]),(.map (Akd.es y1) (Akd.clock y1))] [some 0,some 1,none,some 2,none] [(true,(oC [zI x5,Sl.v 1 s6,Sl.v 1 s7,(.map (some 2))])),(false,(.map (Akd.es y1) (Akd.clock y1)))] [(oC [zI x5,Sl.v 1 s6,Sl.v 1 s7,(.map (some 3))]),(.map (Akd.es y1) (Akd.clock y1))] (by kernel_rfl) (En (by kernel_rfl) (En (Ka h12) BX)) (Eq.trans (by kernel_rfl) h13) (En rfl (En (CK h15) BX)) (En (by kernel_rfl) (En (GZ h16) BX)))) (eC 1 (EK tabs [[none],[some 1],[none],[none]] 4 [.tmp 0 true,.cell 1 3 false] [true,false] (pu 10680) [pt 1 0,sc 4 0 1 1 3,(.int .u16 (QV .u16 z0 (QW .u16 (1:Int) k2))),(zI (Aj .i64 (Int.sub x4 (1:Int))))] (hT 5 [(oC [zI x5,Sl.v 1 s6,Sl.v 1 s7,(.map (some 3))]),oC q1,(.map (Akd.es y1) (Akd.clock y1)),(oC [(zI (Int.ofNat k2))])])) (EL (as:=[pt 1 0,(Sl.v 1 (Sl.mk 1 0 (Aq (1*1) (Am 0 ([(zI (Int.ofNat k2))]:LV))))),(.int .u16 (QV .u16 z0 (QW .u16 (1:Int) k2))),(zI (Aj .i64 (Int.sub x4 (1:Int))))]) (H1:=(hT 5 [(oC [zI x5,Sl.v 1 s6,Sl.v 1 s7,(.map (some 3))]),oC q1,(.map (Akd.es y1) (Akd.clock y1)),.dead])) (BS (Dm Dk) (BS (Dm (KQ (show ER 1 (sc 4 0 1 1 3) (hT 5 [(oC [zI x5,Sl.v 1 s6,Sl.v 1 s7,(.map (some 3))]),oC q1,(.map (Akd.es y1) (Akd.clock y1)),(oC [(zI (Int.ofNat k2))])])=some ((Sl.v 1 (Sl.mk 1 0 (Aq (1*1) (Am 0 ([(zI (Int.ofNat k2))]:LV))))),(hT 5 [(oC [zI x5,Sl.v 1 s6,Sl.v 1 s7,(.map (some 3))]),oC q1,(.map (Akd.es y1) (Akd.clock y1)),.dead])) from KH 4 0 1 1 3 ([(zI (Int.ofNat k2))]:LV) [] (by kernel_rfl) (by kernel_rfl) (by kernel_rfl)))) (BS (Dm Dk) (BS (Dm Dk) Gj)))) (EI (H2:=(hT 5 [(oC [zI x6,Sl.v 1 s9,Sl.v 1 s10,(.map (some 3))]),oC q1,(.map (Akd.es y2) (Akd.clock y2)),.dead])) (v:=(Sl.v 1 s8)) (v':=(Sl.v 1 s8)) [some 0,some 1,some 3] [(true,some 1),(false,some 3)] [(oC [zI x5,Sl.v 1 s6,Sl.v 1 s7,(.map (some 2))]),(.map (Akd.es y1) (Akd.clock y1))] [pt 1 0,(Sl.v 1 (Sl.mk 1 0 (Aq (1*1) (Am 0 ([(zI (Int.ofNat k2))]:LV))))),(.int .u16 (QV .u16 z0 (QW .u16 (1:Int) k2))),(zI (Aj .i64 (Int.sub x4 (1:Int))))] [(.agg ⟨[zI x6,Sl.v 1 s9,Sl.v 1 s10,(.map (some 2))]⟩),v22] [(oC [zI x6,Sl.v 1 s9,Sl.v 1 s10,(.map (some 2))]),(.map (Akd.es y2) (Akd.clock y2))] [some 0,some 1,none,some 2,none] [(true,(oC [zI x6,Sl.v 1 s9,Sl.v 1 s10,(.map (some 2))])),(false,(.map (Akd.es y2) (Akd.clock y2)))] [(oC [zI x6,Sl.v 1 s9,Sl.v 1 s10,(.map (some 3))]),(.map (Akd.es y2) (Akd.clock y2))] (by kernel_rfl) (En (by kernel_rfl) (En (Ka h17) BX)) (Eq.trans (by kernel_rfl) h18) (En rfl (En (CK h20) BX)) (En (by kernel_rfl) (En (GZ h21) BX)))) (eE))) ?_
   replace hm:=Ae hm;obtain⟨h22,hm⟩:=hm
   refine .ghs (fr 46 [(3,pt 1 0),(4,sc 2 0 1 n1 c1),(5,.int .u16 z0),(7,Sl.v 1 s8)]) (hT 4 [(oC [zI x6,Sl.v 1 s9,Sl.v 1 s10,(.map (some 3))]),oC q1,(.map (Akd.es y2) (Akd.clock y2))]) (.k [2,3] [false] [.tmp 3 true,.tmp 4 false,.cell 1 3 false] [3,4,5,7] ⟨Dy h7,Dy h22,trivial⟩) ?_
   refine .then ?_
   replace hm:=Ae hm;obtain⟨h23,hm⟩:=hm
   refine .reg (eC 3 (Oc 1 24 n1 c1 1 2 q1 [Sl.v 1 s8] [] (hT 5 [(oC [zI x6,Sl.v 1 s9,Sl.v 1 s10,(.map (some 3))]),oC q1,(.map (Akd.es y2) (Akd.clock y2)),(oC [Sl.v 1 s8])])) (I1 h23) (eE)) ?_
   replace hm:=Ae hm;obtain⟨h24,hm⟩:=hm
   refine .ghs (fr 46 [(3,pt 1 0),(4,(sc 2 0 1 (n1+1) (d2 (n1+1)))),(5,.int .u16 z0),(7,Sl.v 1 s8)]) (hT 4 [(oC [zI x6,Sl.v 1 s9,Sl.v 1 s10,(.map (some 3))]),(oC (Br (Am 0 q1) [Sl.v 1 s8])),(.map (Akd.es y2) (Akd.clock y2))]) (.k [5,3] [false] [.tmp 3 true,.tmp 4 false,.cell 1 3 false] [3,4,5,7] ⟨Dy h24,Dy h22,trivial⟩) ?_
   refine .then (.rK (.ghs (fr 46 [(3,pt 1 0),(4,(sc 2 0 1 (n1+1) (d2 (n1+1)))),(5,.int .u16 z0),(34,Sl.v 1 s8),(35,(zI (Int.ofNat (Sl.n s8)))),(36,(zI (0:Int)))]) (hT 4 [(oC [zI x6,Sl.v 1 s9,Sl.v 1 s10,(.map (some 3))]),(oC (Br (Am 0 q1) [Sl.v 1 s8])),(.map (Akd.es y2) (Akd.clock y2))]) (.k [2,3] [false] [.tmp 3 true,.tmp 4 false,.cell 1 3 false] [3,4,5,34,35,36] ⟨Dy h24,Dy h22,trivial⟩) ?_))
   refine .block (.loopM (v:=v) (fun y:Nat×Nat×Int×Sl×Int×Int×Int×Sl×Sl×LV×List EO×Nat=>((fr 46 [(3,pt 1 0),(4,(sc 2 0 1 y.1 y.2.1)),(5,(.int .u16 y.2.2.1)),(34,(Sl.v 1 y.2.2.2.1)),(35,(zI y.2.2.2.2.1)),(36,(zI y.2.2.2.2.2.1))]),(hT 4 [(oC [(zI y.2.2.2.2.2.2.1),(Sl.v 1 y.2.2.2.2.2.2.2.1),(Sl.v 1 y.2.2.2.2.2.2.2.2.1),(.map (some 3))]),(oC y.2.2.2.2.2.2.2.2.2.1),(.map y.2.2.2.2.2.2.2.2.2.2.1 y.2.2.2.2.2.2.2.2.2.2.2)]))) (fun w y=>Qv pu n (Kg pu n w0) w y.1 y.2.1 y.2.2.1 y.2.2.2.1 y.2.2.2.2.1 y.2.2.2.2.2.1 y.2.2.2.2.2.2.1 y.2.2.2.2.2.2.2.1 y.2.2.2.2.2.2.2.2.1 y.2.2.2.2.2.2.2.2.2.1 y.2.2.2.2.2.2.2.2.2.2.1 y.2.2.2.2.2.2.2.2.2.2.2) n ⟨((n1+1),(d2 (n1+1)),z0,s8,(Int.ofNat (Sl.n s8)),(0:Int),x6,s9,s10,(Br (Am 0 q1) [Sl.v 1 s8]),(Akd.es y2),(Akd.clock y2)),hm,(.k [2,3] [false] [.tmp 3 true,.tmp 4 false,.cell 1 3 false] [3,4,5,34,35,36] ⟨Dy h24,Dy h22,trivial⟩)⟩ (fun _=>rfl) ?_)
   rintro w1 ⟨n2,c2,z2,s11,z3,z4,z5,s12,s13,q2,e1,k3⟩ hm
   replace hm:Qu pu n (Kg pu n w0) (Qv pu n (Kg pu n w0) w1) n2 c2 z2 s11 z3 z4 z5 s12 s13 q2 e1 k3=some v:=hm
   unfold Qu at hm
   refine .then (.rK ?_)
   replace hm:=Ae hm;obtain⟨h25,hm⟩:=hm
   replace hm:=Ae hm;obtain⟨h26,hm⟩:=hm
   refine .ghs (fr 46 [(3,pt 1 0),(4,sc 2 0 1 n2 c2),(5,.int .u16 z2),(34,Sl.v 1 s11),(35,zI z3),(36,zI z4),(37,(zB (AY z4 z3)))]) (hT 4 [(oC [zI z5,Sl.v 1 s12,Sl.v 1 s13,(.map (some 3))]),oC q2,(.map e1 k3)]) (.k [2,3] [false] [.tmp 3 true,.tmp 4 false,.cell 1 3 false] [3,4,5,34,35,36,37] ⟨Dy h25,Dy h26,trivial⟩) ?_
   refine .then ?_
   replace hm:=Ag hm;rcases hm with⟨h27,hm⟩ | ⟨h27,hm⟩
   ·refine FX (AY z4 z3) h27 ?_
    refine .skip (.ghs (fr 46 [(3,pt 1 0),(4,sc 2 0 1 n2 c2),(5,.int .u16 z2),(34,Sl.v 1 s11),(35,zI z3),(36,zI z4)]) (hT 4 [(oC [zI z5,Sl.v 1 s12,Sl.v 1 s13,(.map (some 3))]),oC q2,(.map e1 k3)]) (.k [2,3] [false] [.tmp 3 true,.tmp 4 false,.cell 1 3 false] [3,4,5,34,35,36] ⟨Dy h25,Dy h26,trivial⟩) ?_)
    refine .then (.block (.then ?_))
    replace hm:=Ab hm;obtain⟨k4,h28,hm⟩:=hm
    obtain rfl:=AR h28
    replace hm:=Ae hm;obtain⟨h29,hm⟩:=hm
    replace hm:=Gt hm;obtain⟨x7,h30,hm⟩:=hm
    refine .reg (eD (keep (hT 4 [(oC [zI z5,Sl.v 1 s12,Sl.v 1 s13,(.map (some 3))]),oC q2,(.map e1 k3)]) (bb (an (Nat.blt k4 (Sl.n s11)) true) (some (Cv (k4*1) (Sl.cs s11))) none)) (AX h29) (eD (keep (hT 4 [(oC [zI z5,Sl.v 1 s12,Sl.v 1 s13,(.map (some 3))]),oC q2,(.map e1 k3)]) (AL (Sl.cs s11) (k4*1))) (AZ h30) (eE))) ?_
    refine .ghs (fr 46 [(3,pt 1 0),(4,sc 2 0 1 n2 c2),(5,.int .u16 z2),(9,zI x7),(34,Sl.v 1 s11),(35,zI z3),(36,(zI (Int.ofNat k4)))]) (hT 4 [(oC [zI z5,Sl.v 1 s12,Sl.v 1 s13,(.map (some 3))]),oC q2,(.map e1 k3)]) (.k [2,3] [false] [.tmp 3 true,.tmp 4 false,.cell 1 3 false] [3,4,5,9,34,35,36] ⟨Dy h25,Dy h26,trivial⟩) ?_
    replace hm:=Ab hm;obtain⟨k5,h31,hm⟩:=hm
    obtain rfl:=AR h31
    refine .rK (.ghs (fr 46 [(3,pt 1 0),(4,sc 2 0 1 n2 c2),(5,(.int .u16 (QV .u16 z2 (QW .u16 (1:Int) k5)))),(34,Sl.v 1 s11),(35,zI z3),(36,(zI (Int.ofNat k4)))]) (hT 4 [(oC [zI z5,Sl.v 1 s12,Sl.v 1 s13,(.map (some 3))]),oC q2,(.map e1 k3)]) (.k [2,3] [false] [.tmp 3 true,.tmp 4 false,.cell 1 3 false] [3,4,5,34,35,36] ⟨Dy h25,Dy h26,trivial⟩) ?_)
    refine .rK ?_
    exact⟨(n2,c2,(QV .u16 z2 (QW .u16 (1:Int) k5)),s11,z3,(Aj .i64 (Int.add (Int.ofNat k4) (1:Int))),z5,s12,s13,q2,e1,k3),hm,(.k [2,3] [false] [.tmp 3 true,.tmp 4 false,.cell 1 3 false] [3,4,5,34,35,36] ⟨Dy h25,Dy h26,trivial⟩)⟩
   ·refine FY (AY z4 z3) h27 ?_
    refine .exit ?_
    exact⟨(n2,c2,z2,z5,s12,s13,q2,e1,k3),hm,(.k [2,3] [false] [.tmp 3 true,.tmp 4 false,.cell 1 3 false] [3,4,5] ⟨Dy h25,Dy h26,trivial⟩)⟩
  ·refine FY (nt (Bd z0 (0:Int))) h9 ?_
   refine .exit ?_
   exact⟨(n1,c1,q1),hm,(.k [2] [false] [.tmp 4 false] [4] ⟨Dy h7,trivial⟩)⟩
end
end Go.MdTM
