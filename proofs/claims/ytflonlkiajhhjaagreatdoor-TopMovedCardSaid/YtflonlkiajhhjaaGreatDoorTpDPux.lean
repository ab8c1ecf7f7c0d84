/- Made from wip. -/
import Derived.Test.YtflonlkiajhhjaaGreatDoorTpDMod1x
import Derived.Test.YtflonlkiajhhjaaGreatDoorTpDMod2
import Derived.Test.YtflonlkiajhhjaaGreatDoorTpDMod3
import Derived.Test.YtflonlkiajhhjaaGreatDoorTpDMod4

set_option maxRecDepth 100000
set_option maxHeartbeats 20000000
set_option linter.unusedVariables false
namespace Go.TpDM
open Go.Sp Go.TpD
noncomputable section

def iT (pu:Af) (n:Nat) (x0 x1:Int):OV:=
 (oo (EA x1) none fun k1=>(some (.bool (Bd (Np .u16 (G6 .u16 x0 k1) (1:Int)) (1:Int)))))
def bR (pu:Af) (n:Nat) (args:LV):OV:=
 (ll args none fun a0 args=>(ll args none fun a1 args=>(ll args (oo (Bi .u16 a0) none fun x0=>(oo (Bi .i64 a1) none fun x1=>(iT pu n x0 x1))) fun _ _=>none)))
theorem AdQ {call:A8} (pu:Af) (n:Nat) (hcall:call=Bb tabs isP pu (inl pu)) {args:LV} {v:Value} (hm:bR pu n args=some v) (_:∀ x∈args,closed2 x=true):args.length≤10∧BN tt call 2 Oz (Fr.made 10 args) (Ao tabs) (Fin tt 2 [.tmp 4] v):=by
 subst hcall
 unfold bR at hm
 replace hm:=Ad hm;obtain⟨a0,args_0,rfl,hm⟩:=hm
 replace hm:=Ad hm;obtain⟨a1,args_1,rfl,hm⟩:=hm
 replace hm:=AC hm;obtain⟨rfl,hm⟩:=hm
 replace hm:=Ai hm;obtain⟨x0,rfl,hm⟩:=hm
 replace hm:=Ai hm;obtain⟨x1,rfl,hm⟩:=hm
 unfold iT at hm
 refine⟨by simp,?_⟩
 refine .same (F':=(fr 10 [(0,.int .u16 x0),(1,zI x1)])) (H':=(hT 2 [(.cells Ay true false [])])) (by kernel_rfl) (by kernel_rfl) ?_
 refine .then (.rK (.ghs (fr 10 [(0,.int .u16 x0),(1,zI x1)]) (hT 2 [(.cells Ay true false [])]) (.k0 [false,false] [] [0,1]) ?_))
 refine .then ?_
 replace hm:=Ab hm;obtain⟨k1,h0,hm⟩:=hm
 obtain rfl:=AR h0
 refine .rK (.ghs (fr 10 [(4,(zB (Bd (Np .u16 (G6 .u16 x0 k1) (1:Int)) (1:Int))))]) (hT 2 [(.cells Ay true false [])]) (.k0 [false,false] [] [4]) ?_)
 refine .ret ?_
 exact BB (zB (Bd (Np .u16 (G6 .u16 x0 k1) (1:Int)) (1:Int))) hm
def Iz (pu:Af) (n:Nat) (z0:Int):OV:=
 (some (.tuple ⟨[(.tuple ⟨[.int .i64 z0,(.int .i64 (0:Int))]⟩)]⟩))
def KW (pu:Af) (n:Nat) (ih0:Sl→Int→Sl→Int→Int→OV) (s0:Sl) (z0:Int) (s1:Sl) (z1 z2:Int):OV:=
 (ih0 s0 z0 s1 z1 (Aj .i64 (Int.add z2 (1:Int))))
def IB (pu:Af) (n:Nat) (ih0:Sl→Int→Sl→Int→Int→OV) (ih1:Sl→Int→Int→Sl→Int→Int→Sl→Int→Int→OV) (s0:Sl) (z0 z1:Int) (s1:Sl) (z2 z3:Int) (s2:Sl) (z4 z5:Int):OV:=
 (ih1 s0 z0 z1 s1 z2 z3 s2 z4 (Aj .i64 (Int.add z5 (1:Int))))
def KX (pu:Af) (n:Nat) (ih0:Sl→Int→Sl→Int→Int→OV) (ih1:Sl→Int→Int→Sl→Int→Int→Sl→Int→Int→OV) (s0:Sl) (z0 z1:Int) (s1:Sl) (z2 z3:Int) (s2:Sl) (z4 z5:Int):OV:=
 (bb (AY z5 z4) (oo (EA z5) none fun k1=>(bb (an (Nat.blt k1 (Sl.n s2)) true) (oo (AL (Sl.cs s2) (k1*1)) none fun v0=>(oo (Bi .i64 v0) none fun x0=>(bb (AY x0 z1) (IB pu n ih0 ih1 s0 (Aj .i64 (Int.add z0 (1:Int))) z1 s1 z2 z3 s2 z4 (Int.ofNat k1)) (IB pu n ih0 ih1 s0 z0 z1 s1 z2 z3 s2 z4 (Int.ofNat k1))))) none)) (KW pu n ih0 s0 z0 s1 z2 z3))
def I8 (pu:Af) (n:Nat) (ih0:Sl→Int→Sl→Int→Int→OV) (w:Nat):Sl→Int→Int→Sl→Int→Int→Sl→Int→Int→OV:=
 Nat.rec (motive:=fun _=>Sl→Int→Int→Sl→Int→Int→Sl→Int→Int→OV) (fun _ _ _ _ _ _ _ _ _=>none) (fun _ ih1=>KX pu n ih0 ih1) w
def KZ (pu:Af) (n:Nat) (ih0:Sl→Int→Sl→Int→Int→OV) (s0:Sl) (z0:Int) (s1:Sl) (z1 z2:Int):OV:=
 (bb (AY z2 z1) (oo (EA z2) none fun k1=>(bb (an (Nat.blt k1 (Sl.n s1)) true) (oo (AL (Sl.cs s1) (k1*1)) none fun v0=>(oo (Bi .i64 v0) none fun x0=>(oo (EA (Aj .i64 (Int.add (Int.ofNat k1) (1:Int)))) none fun k2=>(bb (nt (Nat.beq (Sl.fl s0) 2)) (bb (Nat.ble k2 (Sl.n s0)) (I8 pu n ih0 n s0 z0 x0 s1 z1 (Int.ofNat k1) (Sl.mk ((Sl.n s0) - k2) (bb (an (Nat.beq (Sl.n s0) (Sl.n s0)) (Dp false (Nat.beq (Sl.fl s0) 1))) 1 0) (Aq (((Sl.n s0) - k2)*1) (Am (k2*1) (Sl.cs s0)))) (Int.ofNat (Sl.n (Sl.mk ((Sl.n s0) - k2) (bb (an (Nat.beq (Sl.n s0) (Sl.n s0)) (Dp false (Nat.beq (Sl.fl s0) 1))) 1 0) (Aq (((Sl.n s0) - k2)*1) (Am (k2*1) (Sl.cs s0)))))) (0:Int)) none) none)))) none)) (Iz pu n z0))
def Fh (pu:Af) (n w:Nat):Sl→Int→Sl→Int→Int→OV:=
 Nat.rec (motive:=fun _=>Sl→Int→Sl→Int→Int→OV) (fun _ _ _ _ _=>none) (fun _ ih0=>KZ pu n ih0) w
def Kb (pu:Af) (n:Nat) (z61:Int) (s62 s63:Sl):OV:=
 (oo (pu 47 [(.agg ⟨[.int .i64 z61,Sl.v 1 s62,Sl.v 1 s63]⟩)]) none fun v68=>(oo (Bi .i64 v68) none fun x70=>(bb (nt (Bd x70 (0:Int))) (some (.tuple ⟨[(.tuple ⟨[(.int .i64 (0:Int)),.int .i64 x70]⟩)]⟩)) (oo (pu 48 [(.agg ⟨[.int .i64 z61,Sl.v 1 s62,Sl.v 1 s63]⟩)]) none fun v79=>(oo (Bj 1 v79) none fun s81=>(Fh pu n n s81 (0:Int) s81 (Int.ofNat (Sl.n s81)) (0:Int)))))))
def K3 (pu:Af) (n:Nat) (args:LV):OV:=
 (ll args none fun a0 args=>(ll args (oo (Bt a0) none fun l0=>(ll l0 none fun v0 l0=>(ll l0 none fun v1 l0=>(ll l0 none fun v2 l0=>(ll l0 (oo (Bi .i64 v0) none fun x0=>(oo (Bj 1 v1) none fun s0=>(oo (Bj 1 v2) none fun s1=>(Kb pu n x0 s0 s1)))) fun _ _=>none))))) fun _ _=>none))
theorem UG (pu:Af) (n:Nat) (z0:Int) {v:Value} (hm:Iz pu n z0=some v):BN tt (Bb tabs isP pu (inl pu)) 2 SQ (fr 44 [(7,zI z0)]) (hT 2 [(.cells Ay true false [])]) (FJ tt 2 0 [.tmp 2,.tmp 3] v):=by
 unfold Iz at hm
 refine .then (.rK (.ghs (fr 44 [(2,zI z0),(3,(zI (0:Int)))]) (hT 2 [(.cells Ay true false [])]) (.k0 [false,false] [] [2,3]) ?_))
 refine .ghs (fr 44 [(2,zI z0),(3,(zI (0:Int)))]) (hT 2 [(.cells Ay true false [])]) (.k0 [false,false] [] [2,3]) ?_
 refine .ret ?_
 exact Gn (.tuple ⟨[zI z0,(zI (0:Int))]⟩) [] (by kernel_rfl) hm (Nat.le_of_ble_eq_true rfl) FN
theorem uM (pu:Af) (n:Nat) (z61:Int) (s62 s63:Sl) {v:Value} (hm:Kb pu n z61 s62 s63=some v):BN tt (Bb tabs isP pu (inl pu)) 2 KS (fr 44 [(0,(.agg ⟨[zI z61,Sl.v 1 s62,Sl.v 1 s63]⟩))]) (hT 2 [(.cells Ay true false [])]) (FJ tt 2 0 [.tmp 2,.tmp 3] v):=by
 unfold Kb at hm
 refine .then (.rK (.ghs (fr 44 [(1,(pt 2 0))]) (hT 3 [(.cells Ay true false []),(oC [zI z61,Sl.v 1 s62,Sl.v 1 s63])]) (.k0 [false,false] [.tmp 1 false] [1]) ?_))
 refine .then (.then ?_)
 replace hm:=FK hm;obtain⟨x70,h69,hm⟩:=hm
 refine .reg (eC 1 ((oo (pu 47 [(.agg ⟨[zI z61,Sl.v 1 s62,Sl.v 1 s63]⟩)]) none fun v=>some (v,(hT 3 [(.cells Ay true false []),(oC [zI z61,Sl.v 1 s62,Sl.v 1 s63])])))) (AB h69) (eE)) ?_
 refine .ghs (fr 44 [(1,(pt 2 0)),(4,zI x70)]) (hT 3 [(.cells Ay true false []),(oC [zI z61,Sl.v 1 s62,Sl.v 1 s63])]) (.k0 [false,false] [.tmp 1 false] [1,4]) ?_
 refine .then (.rK (.ghs (fr 44 [(1,(pt 2 0)),(4,zI x70),(15,(zB (nt (Bd x70 (0:Int)))))]) (hT 3 [(.cells Ay true false []),(oC [zI z61,Sl.v 1 s62,Sl.v 1 s63])]) (.k0 [false,false] [.tmp 1 false] [1,4,15]) ?_))
 replace hm:=Ag hm;rcases hm with⟨h72,hm⟩ | ⟨h72,hm⟩
 ·refine Dr (nt (Bd x70 (0:Int))) h72 ?_
  refine .then (.rK (.ghs (fr 44 [(2,(zI (0:Int))),(3,zI x70)]) (hT 2 [(.cells Ay true false [])]) (.k0 [false,false] [] [2,3]) ?_))
  refine .ghs (fr 44 [(2,(zI (0:Int))),(3,zI x70)]) (hT 2 [(.cells Ay true false [])]) (.k0 [false,false] [] [2,3]) ?_
  refine .ret ?_
  exact Gn (.tuple ⟨[(zI (0:Int)),zI x70]⟩) [] (by kernel_rfl) hm (Nat.le_of_ble_eq_true rfl) FN
 ·refine Dy (nt (Bd x70 (0:Int))) h72 ?_
  refine .skip (.ghs (fr 44 [(1,(pt 2 0))]) (hT 3 [(.cells Ay true false []),(oC [zI z61,Sl.v 1 s62,Sl.v 1 s63])]) (.k0 [false,false] [.tmp 1 false] [1]) ?_)
  refine .then (.rK (.ghs (fr 44 [(1,(pt 2 0)),(5,(.func (.func 48) ⟨[]⟩ ⟨[]⟩))]) (hT 3 [(.cells Ay true false []),(oC [zI z61,Sl.v 1 s62,Sl.v 1 s63])]) (.k0 [false,false] [.tmp 1 false] [1,5]) ?_))
  refine .then ?_
  replace hm:=oQS hm;obtain⟨s81,h80,hm⟩:=hm
  refine .reg (eC 2 ((oo (pu 48 [(.agg ⟨[zI z61,Sl.v 1 s62,Sl.v 1 s63]⟩)]) none fun v=>some (v,(hT 3 [(.cells Ay true false []),(oC [zI z61,Sl.v 1 s62,Sl.v 1 s63])])))) (AB h80) (eE)) ?_
  refine .ghs (fr 44 [(6,Sl.v 1 s81)]) (hT 2 [(.cells Ay true false [])]) (.k0 [false,false] [] [6]) ?_
  refine .then (.rK (.ghs (fr 44 [(6,Sl.v 1 s81),(7,(zI (0:Int)))]) (hT 2 [(.cells Ay true false [])]) (.k0 [false,false] [] [6,7]) ?_))
  refine .join (v:=v) (fun y:Int=>((fr 44 [(7,zI y)]),(hT 2 [(.cells Ay true false [])]))) (fun y=>Iz pu n y) ?_ ?_
  ·rintro z0 hm
   exact UG pu n z0 hm
  ·refine .then (.rK (.ghs (fr 44 [(6,Sl.v 1 s81),(7,(zI (0:Int))),(20,Sl.v 1 s81),(21,(zI (Int.ofNat (Sl.n s81)))),(22,(zI (0:Int)))]) (hT 2 [(.cells Ay true false [])]) (.k0 [false,false] [] [6,7,20,21,22]) ?_))
   refine .block (.loopM (v:=v) (fun y:Sl×Int×Sl×Int×Int=>((fr 44 [(6,(Sl.v 1 y.1)),(7,(zI y.2.1)),(20,(Sl.v 1 y.2.2.1)),(21,(zI y.2.2.2.1)),(22,(zI y.2.2.2.2))]),(hT 2 [(.cells Ay true false [])]))) (fun w y=>Fh pu n w y.1 y.2.1 y.2.2.1 y.2.2.2.1 y.2.2.2.2) n ⟨(s81,(0:Int),s81,(Int.ofNat (Sl.n s81)),(0:Int)),hm,(.k0 [false,false] [] [6,7,20,21,22])⟩ (fun _=>rfl) ?_)
   rintro w0 ⟨s0,z1,s1,z2,z3⟩ hm
   replace hm:KZ pu n (Fh pu n w0) s0 z1 s1 z2 z3=some v:=hm
   unfold KZ at hm
   refine .then (.rK (.ghs (fr 44 [(6,Sl.v 1 s0),(7,zI z1),(20,Sl.v 1 s1),(21,zI z2),(22,zI z3),(23,(zB (AY z3 z2)))]) (hT 2 [(.cells Ay true false [])]) (.k0 [false,false] [] [6,7,20,21,22,23]) ?_))
   refine .then ?_
   replace hm:=Ag hm;rcases hm with⟨h0,hm⟩ | ⟨h0,hm⟩
   ·refine Dr (AY z3 z2) h0 ?_
    refine .skip (.ghs (fr 44 [(6,Sl.v 1 s0),(7,zI z1),(20,Sl.v 1 s1),(21,zI z2),(22,zI z3)]) (hT 2 [(.cells Ay true false [])]) (.k0 [false,false] [] [6,7,20,21,22]) ?_)
    refine .join (v:=v) (fun y:Sl×Int×Sl×Int×Int=>((fr 44 [(6,(Sl.v 1 y.1)),(7,(zI y.2.1)),(20,(Sl.v 1 y.2.2.1)),(21,(zI y.2.2.2.1)),(22,(zI y.2.2.2.2))]),(hT 2 [(.cells Ay true false [])]))) (fun y=>KW pu n (Fh pu n w0) y.1 y.2.1 y.2.2.1 y.2.2.2.1 y.2.2.2.2) ?_ ?_
    ·rintro⟨s2,z4,s3,z5,z6⟩ hm
     unfold KW at hm
     refine .rK ?_
     exact⟨(s2,z4,s3,z5,(Aj .i64 (Int.add z6 (1:Int)))),hm,(.k0 [false,false] [] [6,7,20,21,22])⟩
    ·refine .block (.then ?_)
     replace hm:=Ab hm;obtain⟨k1,h1,hm⟩:=hm
     obtain rfl:=AR h1
     replace hm:=Ae hm;obtain⟨h2,hm⟩:=hm
     replace hm:=FK hm;obtain⟨x0,h3,hm⟩:=hm
     refine .reg (eC 1 (keep (hT 2 [(.cells Ay true false [])]) (bb (an (Nat.blt k1 (Sl.n s1)) true) (some (Cv (k1*1) (Sl.cs s1))) none)) (AX h2) (eD (keep (hT 2 [(.cells Ay true false [])]) (AL (Sl.cs s1) (k1*1))) (AZ h3) (eE))) ?_
     refine .ghs (fr 44 [(6,Sl.v 1 s0),(7,zI z1),(8,(zI (Int.ofNat k1))),(9,zI x0),(20,Sl.v 1 s1),(21,zI z2),(22,(zI (Int.ofNat k1)))]) (hT 2 [(.cells Ay true false [])]) (.k0 [false,false] [] [6,7,8,9,20,21,22]) ?_
     refine .then ?_
     replace hm:=Ab hm;obtain⟨k2,h4,hm⟩:=hm
     replace hm:=Ae hm;obtain⟨h5,hm⟩:=hm
     replace hm:=Ae hm;obtain⟨h6,hm⟩:=hm
     refine .reg (eC 2 (some ((zI (Aj .i64 (Int.add (Int.ofNat k1) (1:Int)))),(hT 2 [(.cells Ay true false [])]))) (show _=some ((zI (Int.ofNat k2)),_) from (by rw[AR h4])) (eD (keep (hT 2 [(.cells Ay true false [])]) (Ns ti3 ⟨1,(Sl.n s0),(Sl.fl s0),(Sl.cs s0)⟩ (some (zI (Int.ofNat k2))) none none)) (ME (c1:=true) (c2:=(Nat.ble k2 (Sl.n s0))) (l:=k2) (h:=(Sl.n s0)) h5 (by kernel_rfl) (by kernel_rfl) rfl (by kernel_rfl) h6) (eE))) ?_
     refine .ghs (fr 44 [(6,Sl.v 1 s0),(7,zI z1),(9,zI x0),(20,Sl.v 1 s1),(21,zI z2),(22,(zI (Int.ofNat k1))),(30,(Sl.v 1 (Sl.mk ((Sl.n s0) - k2) (bb (an (Nat.beq (Sl.n s0) (Sl.n s0)) (Dp false (Nat.beq (Sl.fl s0) 1))) 1 0) (Aq (((Sl.n s0) - k2)*1) (Am (k2*1) (Sl.cs s0)))))),(31,(zI (Int.ofNat (Sl.n (Sl.mk ((Sl.n s0) - k2) (bb (an (Nat.beq (Sl.n s0) (Sl.n s0)) (Dp false (Nat.beq (Sl.fl s0) 1))) 1 0) (Aq (((Sl.n s0) - k2)*1) (Am (k2*1) (Sl.cs s0)))))))),(32,(zI (0:Int)))]) (hT 2 [(.cells Ay true false [])]) (.k0 [false,false] [] [6,7,9,20,21,22,30,31,32]) ?_
     refine .block (.loopM (v:=v) (fun y:Sl×Int×Int×Sl×Int×Int×Sl×Int×Int=>((fr 44 [(6,(Sl.v 1 y.1)),(7,(zI y.2.1)),(9,(zI y.2.2.1)),(20,(Sl.v 1 y.2.2.2.1)),(21,(zI y.2.2.2.2.1)),(22,(zI y.2.2.2.2.2.1)),(30,(Sl.v 1 y.2.2.2.2.2.2.1)),(31,(zI y.2.2.2.2.2.2.2.1)),(32,(zI y.2.2.2.2.2.2.2.2))]),(hT 2 [(.cells Ay true false [])]))) (fun w y=>I8 pu n (Fh pu n w0) w y.1 y.2.1 y.2.2.1 y.2.2.2.1 y.2.2.2.2.1 y.2.2.2.2.2.1 y.2.2.2.2.2.2.1 y.2.2.2.2.2.2.2.1 y.2.2.2.2.2.2.2.2) n ⟨(s0,z1,x0,s1,z2,(Int.ofNat k1),(Sl.mk ((Sl.n s0) - k2) (bb (an (Nat.beq (Sl.n s0) (Sl.n s0)) (Dp false (Nat.beq (Sl.fl s0) 1))) 1 0) (Aq (((Sl.n s0) - k2)*1) (Am (k2*1) (Sl.cs s0)))),(Int.ofNat (Sl.n (Sl.mk ((Sl.n s0) - k2) (bb (an (Nat.beq (Sl.n s0) (Sl.n s0)) (Dp false (Nat.beq (Sl.fl s0) 1))) 1 0) (Aq (((Sl.n s0) - k2)*1) (Am (k2*1) (Sl.cs s0)))))),(0:Int)),hm,(.k0 [false,false] [] [6,7,9,20,21,22,30,31,32])⟩ (fun _=>rfl) ?_)
     rintro w1 ⟨s4,z7,z8,s5,z9,z10,s6,z11,z12⟩ hm
     replace hm:KX pu n (Fh pu n w0) (I8 pu n (Fh pu n w0) w1) s4 z7 z8 s5 z9 z10 s6 z11 z12=some v:=hm
     unfold KX at hm
     refine .then (.rK (.ghs (fr 44 [(6,Sl.v 1 s4),(7,zI z7),(9,zI z8),(20,Sl.v 1 s5),(21,zI z9),(22,zI z10),(30,Sl.v 1 s6),(31,zI z11),(32,zI z12),(33,(zB (AY z12 z11)))]) (hT 2 [(.cells Ay true false [])]) (.k0 [false,false] [] [6,7,9,20,21,22,30,31,32,33]) ?_))
     refine .then ?_
     replace hm:=Ag hm;rcases hm with⟨h7,hm⟩ | ⟨h7,hm⟩
     ·refine Dr (AY z12 z11) h7 ?_
      refine .skip (.ghs (fr 44 [(6,Sl.v 1 s4),(7,zI z7),(9,zI z8),(20,Sl.v 1 s5),(21,zI z9),(22,zI z10),(30,Sl.v 1 s6),(31,zI z11),(32,zI z12)]) (hT 2 [(.cells Ay true false [])]) (.k0 [false,false] [] [6,7,9,20,21,22,30,31,32]) ?_)
      refine .join (v:=v) (fun y:Sl×Int×Int×Sl×Int×Int×Sl×Int×Int=>((fr 44 [(6,(Sl.v 1 y.1)),(7,(zI y.2.1)),(9,(zI y.2.2.1)),(20,(Sl.v 1 y.2.2.2.1)),(21,(zI y.2.2.2.2.1)),(22,(zI y.2.2.2.2.2.1)),(30,(Sl.v 1 y.2.2.2.2.2.2.1)),(31,(zI y.2.2.2.2.2.2.2.1)),(32,(zI y.2.2.2.2.2.2.2.2))]),(hT 2 [(.cells Ay true false [])]))) (fun y=>IB pu n (Fh pu n w0) (I8 pu n (Fh pu n w0) w1) y.1 y.2.1 y.2.2.1 y.2.2.2.1 y.2.2.2.2.1 y.2.2.2.2.2.1 y.2.2.2.2.2.2.1 y.2.2.2.2.2.2.2.1 y.2.2.2.2.2.2.2.2) ?_ ?_
      ·rintro⟨s7,z13,z14,s8,z15,z16,s9,z17,z18⟩ hm
       unfold IB at hm
       refine .rK ?_
       exact⟨(s7,z13,z14,s8,z15,z16,s9,z17,(Aj .i64 (Int.add z18 (1:Int)))),hm,(.k0 [false,false] [] [6,7,9,20,21,22,30,31,32])⟩
      ·refine .block (.then ?_)
       replace hm:=Ab hm;obtain⟨k3,h8,hm⟩:=hm
       obtain rfl:=AR h8
       replace hm:=Ae hm;obtain⟨h9,hm⟩:=hm
       replace hm:=FK hm;obtain⟨x1,h10,hm⟩:=hm
       refine .reg (eD (keep (hT 2 [(.cells Ay true false [])]) (bb (an (Nat.blt k3 (Sl.n s6)) true) (some (Cv (k3*1) (Sl.cs s6))) none)) (AX h9) (eD (keep (hT 2 [(.cells Ay true false [])]) (AL (Sl.cs s6) (k3*1))) (AZ h10) (eE))) ?_
       refine .ghs (fr 44 [(6,Sl.v 1 s4),(7,zI z7),(9,zI z8),(11,zI x1),(20,Sl.v 1 s5),(21,zI z9),(22,zI z10),(30,Sl.v 1 s6),(31,zI z11),(32,(zI (Int.ofNat k3)))]) (hT 2 [(.cells Ay true false [])]) (.k0 [false,false] [] [6,7,9,11,20,21,22,30,31,32]) ?_
       refine .then (.rK (.ghs (fr 44 [(6,Sl.v 1 s4),(7,zI z7),(9,zI z8),(20,Sl.v 1 s5),(21,zI z9),(22,zI z10),(30,Sl.v 1 s6),(31,zI z11),(32,(zI (Int.ofNat k3))),(38,(zB (AY x1 z8)))]) (hT 2 [(.cells Ay true false [])]) (.k0 [false,false] [] [6,7,9,20,21,22,30,31,32,38]) ?_))
       replace hm:=Ag hm;rcases hm with⟨h11,hm⟩ | ⟨h11,hm⟩
       ·refine Dr (AY x1 z8) h11 ?_
        refine .rK ?_
        exact⟨(s4,(Aj .i64 (Int.add z7 (1:Int))),z8,s5,z9,z10,s6,z11,(Int.ofNat k3)),hm,(.k0 [false,false] [] [6,7,9,20,21,22,30,31,32])⟩
       ·refine Dy (AY x1 z8) h11 ?_
        refine .skip ?_
        exact⟨(s4,z7,z8,s5,z9,z10,s6,z11,(Int.ofNat k3)),hm,(.k0 [false,false] [] [6,7,9,20,21,22,30,31,32])⟩
     ·refine Dy (AY z12 z11) h7 ?_
      refine .exit ?_
      exact⟨(s4,z7,s5,z9,z10),hm,(.k0 [false,false] [] [6,7,20,21,22])⟩
   ·refine Dy (AY z3 z2) h0 ?_
    refine .exit ?_
    exact⟨z1,hm,(.k0 [false,false] [] [7])⟩
theorem uN {call:A8} (pu:Af) (n:Nat) (hcall:call=Bb tabs isP pu (inl pu)) {args:LV} {os:List AJ} {z:Value} (ha:args.length=1) (hk:os.length=0) (hpl:∀ o∈os,plainO o) (hm:K3 pu n (args++os.map Ef)=some z):args.length≤44∧BN tt call (tabs.length+0) KS (Fr.made 44 args) (BK tabs os) (FJ tt tabs.length 0 [.tmp 2,.tmp 3] z):=by
 subst hcall
 have hq:=Co ha;clear ha;obtain⟨a0,args,rfl,ha⟩:=hq
 obtain rfl:=len_nil ha
 obtain rfl:=len_nil hk
 replace hm:K3 pu n [a0]=some z:=hm
 unfold K3 at hm
 replace hm:(oo (Bt a0) none fun l0=>(ll l0 none fun v0 l0=>(ll l0 none fun v1 l0=>(ll l0 none fun v2 l0=>(ll l0 (oo (Bi .i64 v0) none fun x0=>(oo (Bj 1 v1) none fun s0=>(oo (Bj 1 v2) none fun s1=>(Kb pu n x0 s0 s1)))) fun _ _=>none)))))=some z:=hm
 replace hm:=BG hm;obtain⟨l0,rfl,hm⟩:=hm
 replace hm:=Ad hm;obtain⟨v0,l893_0,rfl,hm⟩:=hm
 replace hm:=Ad hm;obtain⟨v1,l893_1,rfl,hm⟩:=hm
 replace hm:=Ad hm;obtain⟨v2,l893_2,rfl,hm⟩:=hm
 replace hm:=AC hm;obtain⟨rfl,hm⟩:=hm
 replace hm:=Ai hm;obtain⟨x0,rfl,hm⟩:=hm
 replace hm:=Al hm;obtain⟨s0,rfl,hm⟩:=hm
 replace hm:=Al hm;obtain⟨s1,rfl,hm⟩:=hm
 refine⟨by simp,?_⟩
 exact .same (F':=(fr 44 [(0,(.agg ⟨[zI x0,Sl.v 1 s0,Sl.v 1 s1]⟩))])) (H':=(hT 2 [(.cells Ay true false [])])) (by kernel_rfl) (by kernel_rfl) (uM pu n x0 s0 s1 hm)
def I9 (pu:Af) (n:Nat) (z0:Int) (q0:LV):OV:=
 (bb (Au Ah q0) (some (.tuple ⟨[.int .i64 z0,(.agg ⟨q0⟩)]⟩)) none)
def K4 (pu:Af) (n:Nat) (ih0:Nat→Nat→Int→Int→LV→OV) (n0 c0:Nat) (z0 z1:Int) (q0:LV):OV:=
 (bb (Au Ah q0) (bb (AY z1 (Int.ofNat n0)) (oo (EA z1) none fun k1=>(bb (an (Nat.blt k1 n0) true) (oo (AL q0 (0+k1*1)) none fun v0=>(oo (Bi .i64 v0) none fun x0=>(ih0 n0 c0 (bb (AY z0 x0) x0 z0) (Aj .i64 (Int.add (Int.ofNat k1) (1:Int))) q0))) none)) (I9 pu n z0 q0)) none)
def K5 (pu:Af) (n w:Nat):Nat→Nat→Int→Int→LV→OV:=
 Nat.rec (motive:=fun _=>Nat→Nat→Int→Int→LV→OV) (fun _ _ _ _ _=>none) (fun _ ih0=>K4 pu n ih0) w
def Jb (pu:Af) (n n0 c0:Nat) (q0:LV):OV:=
 (bb (an (Nat.blt 0 n0) true) (oo (AL q0 (0+0*1)) none fun v0=>(oo (Bi .i64 v0) none fun x0=>(bb (Au Ah q0) (K5 pu n n n0 c0 x0 (1:Int) q0) none))) none)
def Kc (pu:Af) (n n0 c0:Nat) (q0:LV):OV:=
 (bb (Au Ah q0) (bb (AY (Int.ofNat n0) (1:Int)) none (Jb pu n n0 c0 q0)) none)
def K6 (pu:Af) (n:Nat) (args:LV):OV:=
 (ll args none fun a0 args=>(ll args none fun o0 args=>(ll args (oo (O5 2 0 1 a0) none fun y0=>(oo (Bt o0) none fun q0=>(Kc pu n (NC.n y0) (NC.c y0) q0))) fun _ _=>none)))
theorem UH (pu:Af) (n:Nat) (z0:Int) (q0:LV) {v:Value} (hm:I9 pu n z0 q0=some v):BN tt (Bb tabs isP pu (inl pu)) 3 TV (fr 25 [(3,zI z0)]) (hT 3 [(.cells Ay true false []),oC q0]) (FJ tt 2 1 [.tmp 2] v):=by
 unfold I9 at hm
 refine .then (.rK ?_)
 replace hm:=Ae hm;obtain⟨h0,hm⟩:=hm
 refine .ghs (fr 25 [(2,zI z0)]) (hT 3 [(.cells Ay true false []),oC q0]) (.k [2] [false,false,false] [] [2] ⟨AO h0,trivial⟩) ?_
 refine .ghs (fr 25 [(2,zI z0)]) (hT 3 [(.cells Ay true false []),oC q0]) (.k [2] [false,false,false] [] [2] ⟨AO h0,trivial⟩) ?_
 refine .ret ?_
 exact Gn (zI z0) [oC q0] (by kernel_rfl) hm (Nat.le_of_ble_eq_true rfl) (C8 (Pn _) FN)
theorem UI (pu:Af) (n n0 c0:Nat) (q0:LV) {v:Value} (hm:Jb pu n n0 c0 q0=some v):BN tt (Bb tabs isP pu (inl pu)) 3 TW (fr 25 [(0,sc 2 0 1 n0 c0)]) (hT 3 [(.cells Ay true false []),oC q0]) (FJ tt 2 1 [.tmp 2] v):=by
 unfold Jb at hm
 refine .then ?_
 replace hm:=Ae hm;obtain⟨h0,hm⟩:=hm
 replace hm:=FK hm;obtain⟨x0,h1,hm⟩:=hm
 refine .reg (eC 1 (keep (hT 3 [(.cells Ay true false []),oC q0]) (bb (an (Nat.blt 0 n0) true) (some (.pointer (some ⟨2,(0+0*1),none⟩))) none)) (AX h0) (eD (keep (hT 3 [(.cells Ay true false []),oC q0]) (AL q0 (0+0*1))) (AZ h1) (eE))) ?_
 replace hm:=Ae hm;obtain⟨h2,hm⟩:=hm
 refine .ghs (fr 25 [(0,sc 2 0 1 n0 c0),(3,zI x0)]) (hT 3 [(.cells Ay true false []),oC q0]) (.k [2] [false,false,false] [] [0,3] ⟨AO h2,trivial⟩) ?_
 refine .join (v:=v) (fun y:Int×LV=>((fr 25 [(3,(zI y.1))]),(hT 3 [(.cells Ay true false []),(oC y.2)]))) (fun y=>I9 pu n y.1 y.2) ?_ ?_
 ·rintro⟨z0,q1⟩ hm
  exact UH pu n z0 q1 hm
 ·refine .then (.rK (.ghs (fr 25 [(0,sc 2 0 1 n0 c0),(3,zI x0),(4,(zI (1:Int)))]) (hT 3 [(.cells Ay true false []),oC q0]) (.k [2] [false,false,false] [] [0,3,4] ⟨AO h2,trivial⟩) ?_))
  refine .block (.loopM (v:=v) (fun y:Nat×Nat×Int×Int×LV=>((fr 25 [(0,(sc 2 0 1 y.1 y.2.1)),(3,(zI y.2.2.1)),(4,(zI y.2.2.2.1))]),(hT 3 [(.cells Ay true false []),(oC y.2.2.2.2)]))) (fun w y=>K5 pu n w y.1 y.2.1 y.2.2.1 y.2.2.2.1 y.2.2.2.2) n ⟨(n0,c0,x0,(1:Int),q0),hm,(.k [2] [false,false,false] [] [0,3,4] ⟨AO h2,trivial⟩)⟩ (fun _=>rfl) ?_)
  rintro w0 ⟨n1,c1,z1,z2,q2⟩ hm
  replace hm:K4 pu n (K5 pu n w0) n1 c1 z1 z2 q2=some v:=hm
  unfold K4 at hm
  refine .then (.then (.rK ?_))
  replace hm:=Ae hm;obtain⟨h3,hm⟩:=hm
  refine .ghs (fr 25 [(0,sc 2 0 1 n1 c1),(3,zI z1),(4,zI z2),(15,(zB (AY z2 (Int.ofNat n1))))]) (hT 3 [(.cells Ay true false []),oC q2]) (.k [2] [false,false,false] [] [0,3,4,15] ⟨AO h3,trivial⟩) ?_
  replace hm:=Ag hm;rcases hm with⟨h4,hm⟩ | ⟨h4,hm⟩
  ·refine Dr (AY z2 (Int.ofNat n1)) h4 ?_
   refine .skip (.ghs (fr 25 [(0,sc 2 0 1 n1 c1),(3,zI z1),(4,zI z2)]) (hT 3 [(.cells Ay true false []),oC q2]) (.k [2] [false,false,false] [] [0,3,4] ⟨AO h3,trivial⟩) ?_)
   refine .then (.block ?_)
   replace hm:=Ab hm;obtain⟨k1,h5,hm⟩:=hm
   obtain rfl:=AR h5
   replace hm:=Ae hm;obtain⟨h6,hm⟩:=hm
   replace hm:=FK hm;obtain⟨x1,h7,hm⟩:=hm
   refine .reg (eC 3 (keep (hT 3 [(.cells Ay true false []),oC q2]) (bb (an (Nat.blt k1 n1) true) (some (.pointer (some ⟨2,(0+k1*1),none⟩))) none)) (AX h6) (eD (keep (hT 3 [(.cells Ay true false []),oC q2]) (AL q2 (0+k1*1))) (AZ h7) (eE))) ?_
   refine .ghs (fr 25 [(0,sc 2 0 1 n1 c1),(3,(zI (bb (AY z1 x1) x1 z1))),(4,(zI (Int.ofNat k1)))]) (hT 3 [(.cells Ay true false []),oC q2]) (.k [2] [false,false,false] [] [0,3,4] ⟨AO h3,trivial⟩) ?_
   refine .rK ?_
   exact⟨(n1,c1,(bb (AY z1 x1) x1 z1),(Aj .i64 (Int.add (Int.ofNat k1) (1:Int))),q2),hm,(.k [2] [false,false,false] [] [0,3,4] ⟨AO h3,trivial⟩)⟩
  ·refine Dy (AY z2 (Int.ofNat n1)) h4 ?_
   refine .exit ?_
   exact⟨(z1,q2),hm,(.k [2] [false,false,false] [] [3] ⟨AO h3,trivial⟩)⟩
theorem uO (pu:Af) (n n0 c0:Nat) (q0:LV) {v:Value} (hm:Kc pu n n0 c0 q0=some v):BN tt (Bb tabs isP pu (inl pu)) 3 KT (fr 25 [(0,sc 2 0 1 n0 c0)]) (hT 3 [(.cells Ay true false []),oC q0]) (FJ tt 2 1 [.tmp 2] v):=by
 unfold Kc at hm
 refine .then (.rK ?_)
 replace hm:=Ae hm;obtain⟨h0,hm⟩:=hm
 refine .ghs (fr 25 [(0,sc 2 0 1 n0 c0)]) (hT 3 [(.cells Ay true false []),oC q0]) (.k [2] [false,false,false] [] [0] ⟨AO h0,trivial⟩) ?_
 refine .join (v:=v) (fun y:Nat×Nat×LV=>((fr 25 [(0,(sc 2 0 1 y.1 y.2.1))]),(hT 3 [(.cells Ay true false []),(oC y.2.2)]))) (fun y=>Jb pu n y.1 y.2.1 y.2.2) ?_ ?_
 ·rintro⟨n1,c1,q1⟩ hm
  exact UI pu n n1 c1 q1 hm
 ·refine .then (.rK (.ghs (fr 25 [(0,sc 2 0 1 n0 c0),(7,(zB (AY (Int.ofNat n0) (1:Int))))]) (hT 3 [(.cells Ay true false []),oC q0]) (.k [2] [false,false,false] [] [0,7] ⟨AO h0,trivial⟩) ?_))
  replace hm:=Ag hm;rcases hm with⟨h1,hm⟩ | ⟨h1,hm⟩
  ·refine Dr (AY (Int.ofNat n0) (1:Int)) h1 ?_
   cases hm
  ·refine Dy (AY (Int.ofNat n0) (1:Int)) h1 ?_
   refine .skip ?_
   exact⟨(n0,c0,q0),hm,(.k [2] [false,false,false] [] [0] ⟨AO h0,trivial⟩)⟩
theorem uP {call:A8} (pu:Af) (n:Nat) (hcall:call=Bb tabs isP pu (inl pu)) {args:LV} {os:List AJ} {z:Value} (ha:args.length=1) (hk:os.length=1) (hpl:∀ o∈os,plainO o) (hm:K6 pu n (args++os.map Ef)=some z):args.length≤25∧BN tt call (tabs.length+1) KT (Fr.made 25 args) (BK tabs os) (FJ tt tabs.length 1 [.tmp 2] z):=by
 subst hcall
 have hq:=Co ha;clear ha;obtain⟨a0,args,rfl,ha⟩:=hq
 obtain rfl:=len_nil ha
 have hq:=Co hk;clear hk;obtain⟨b0,os,rfl,hk⟩:=hq
 have hp0:plainO b0:=hpl b0 (by simp)
 obtain rfl:=len_nil hk
 replace hm:K6 pu n [a0,Ef b0]=some z:=hm
 unfold K6 at hm
 replace hm:(oo (O5 2 0 1 a0) none fun y0=>(oo (Bt (Ef b0)) none fun q0=>(Kc pu n (NC.n y0) (NC.c y0) q0)))=some z:=hm
 replace hm:=Ab hm;obtain⟨y0,h0,hm⟩:=hm
 obtain rfl:=Jf h0
 replace hm:=Ab hm;obtain⟨q0,h1,hm⟩:=hm
 obtain rfl:=Gu hp0 h1
 refine⟨by simp,?_⟩
 exact .same (F':=(fr 25 [(0,(sc 2 0 1 (NC.n y0) (NC.c y0)))])) (H':=(hT 3 [(.cells Ay true false []),oC q0])) (by kernel_rfl) (by kernel_rfl) (uO pu n (NC.n y0) (NC.c y0) q0 hm)

def Ke (pu:Af) (n:Nat) (z0:Int) (s0 s1:Sl):OV:=
 (oo (GD (.int .u16 (0:Int)) ([]:List EO) 0) none fun r0=>(bb (Au F4 (Hw (.int .u16 (0:Int)) (.int .i64 (0:Int)) 0 ([]:List EO) r0)) (some (.tuple ⟨[(.pointer (some ⟨2,0,none⟩)),(.agg ⟨[.int .i64 z0,Sl.v 1 s0,Sl.v 1 s1,(.map (some 3))]⟩),(Ef (.map (Hw (.int .u16 (0:Int)) (.int .i64 (0:Int)) 0 ([]:List EO) r0) (Jj 0 r0)))]⟩)) none))
def K7 (pu:Af) (n:Nat) (args:LV):OV:=
 (ll args none fun a0 args=>(ll args (oo (Bt a0) none fun l0=>(ll l0 none fun v0 l0=>(ll l0 none fun v1 l0=>(ll l0 none fun v2 l0=>(ll l0 (oo (Bi .i64 v0) none fun x0=>(oo (Bj 1 v1) none fun s0=>(oo (Bj 1 v2) none fun s1=>(Ke pu n x0 s0 s1)))) fun _ _=>none))))) fun _ _=>none))
theorem uQ (pu:Af) (n:Nat) (z0:Int) (s0 s1:Sl) {v:Value} (hm:Ke pu n z0 s0 s1=some v):BN tt (Bb tabs isP pu (inl pu)) 2 KU (fr 8 [(0,(.agg ⟨[zI z0,Sl.v 1 s0,Sl.v 1 s1]⟩))]) (hT 2 [(.cells Ay true false [])]) (FJ tt 2 0 [.tmp 2] v):=by
 unfold Ke at hm
 refine .then (.rK (.ghs (fr 8 [(1,(pt 2 0))]) (hT 3 [(.cells Ay true false []),(oC [zI z0,Sl.v 1 s0,Sl.v 1 s1])]) (.k0 [false,false] [.tmp 1 false] [1]) ?_))
 refine .then ?_
 replace hm:=Ab hm;obtain⟨r0,h0,hm⟩:=hm
 refine .reg (eC 2 (done (oo (GD (.int .u16 (0:Int)) ([]:List EO) 0) none fun r=>oo r (some (Aa.set (hT 4 [(.cells Ay true false []),(oC [zI z0,Sl.v 1 s0,Sl.v 1 s1]),(.map ([]:List EO) 0)]) 3 (.map (Br ([]:List EO) [⟨(.int .u16 (0:Int)),(zI (0:Int)),0⟩]) (0+1)))) fun p=>pp p fun j _=>some (Aa.set (hT 4 [(.cells Ay true false []),(oC [zI z0,Sl.v 1 s0,Sl.v 1 s1]),(.map ([]:List EO) 0)]) 3 (.map (SS (fun e=>⟨(.int .u16 (0:Int)),(zI (0:Int)),e.born⟩) j ([]:List EO)) 0))) undef) (Si (H2:=(hT 4 [(.cells Ay true false []),(oC [zI z0,Sl.v 1 s0,Sl.v 1 s1]),(.map (Hw (.int .u16 (0:Int)) (zI (0:Int)) 0 ([]:List EO) r0) (Jj 0 r0))])) h0) (eE)) ?_
 replace hm:=Ae hm;obtain⟨h1,hm⟩:=hm
 refine .ghs (fr 8 [(2,(pt 2 0))]) (hT 4 [(.cells Ay true false []),(oC [zI z0,Sl.v 1 s0,Sl.v 1 s1,(.map (some 3))]),(.map (Hw (.int .u16 (0:Int)) (zI (0:Int)) 0 ([]:List EO) r0) (Jj 0 r0))]) (.k [3] [false,false] [.tmp 2 true,.cell 2 3 false] [2] ⟨AO h1,trivial⟩) ?_
 refine .ghs (fr 8 [(2,(pt 2 0))]) (hT 4 [(.cells Ay true false []),(oC [zI z0,Sl.v 1 s0,Sl.v 1 s1,(.map (some 3))]),(.map (Hw (.int .u16 (0:Int)) (zI (0:Int)) 0 ([]:List EO) r0) (Jj 0 r0))]) (.k [3] [false,false] [.tmp 2 true,.cell 2 3 false] [2] ⟨AO h1,trivial⟩) ?_
 refine .ret ?_
 exact Gn (pt 2 0) [(oC [zI z0,Sl.v 1 s0,Sl.v 1 s1,(.map (some 3))]),(.map (Hw (.int .u16 (0:Int)) (zI (0:Int)) 0 ([]:List EO) r0) (Jj 0 r0))] (by kernel_rfl) hm (Nat.le_of_ble_eq_true rfl) (C8 (Pn _) (C8 (WE _ _) FN))
theorem uR {call:A8} (pu:Af) (n:Nat) (hcall:call=Bb tabs isP pu (inl pu)) {args:LV} {os:List AJ} {z:Value} (ha:args.length=1) (hk:os.length=0) (hpl:∀ o∈os,plainO o) (hm:K7 pu n (args++os.map Ef)=some z):args.length≤8∧BN tt call (tabs.length+0) KU (Fr.made 8 args) (BK tabs os) (FJ tt tabs.length 0 [.tmp 2] z):=by
 subst hcall
 have hq:=Co ha;clear ha;obtain⟨a0,args,rfl,ha⟩:=hq
 obtain rfl:=len_nil ha
 obtain rfl:=len_nil hk
 replace hm:K7 pu n [a0]=some z:=hm
 unfold K7 at hm
 replace hm:(oo (Bt a0) none fun l0=>(ll l0 none fun v0 l0=>(ll l0 none fun v1 l0=>(ll l0 none fun v2 l0=>(ll l0 (oo (Bi .i64 v0) none fun x0=>(oo (Bj 1 v1) none fun s0=>(oo (Bj 1 v2) none fun s1=>(Ke pu n x0 s0 s1)))) fun _ _=>none)))))=some z:=hm
 replace hm:=BG hm;obtain⟨l0,rfl,hm⟩:=hm
 replace hm:=Ad hm;obtain⟨v0,l9344_0,rfl,hm⟩:=hm
 replace hm:=Ad hm;obtain⟨v1,l9344_1,rfl,hm⟩:=hm
 replace hm:=Ad hm;obtain⟨v2,l9344_2,rfl,hm⟩:=hm
 replace hm:=AC hm;obtain⟨rfl,hm⟩:=hm
 replace hm:=Ai hm;obtain⟨x0,rfl,hm⟩:=hm
 replace hm:=Al hm;obtain⟨s0,rfl,hm⟩:=hm
 replace hm:=Al hm;obtain⟨s1,rfl,hm⟩:=hm
 refine⟨by simp,?_⟩
 exact .same (F':=(fr 8 [(0,(.agg ⟨[zI x0,Sl.v 1 s0,Sl.v 1 s1]⟩))])) (H':=(hT 2 [(.cells Ay true false [])])) (by kernel_rfl) (by kernel_rfl) (uQ pu n x0 s0 s1 hm)
def Gv (pu:Af) (n:Nat) (z0 z1 z2:Int) (s0 s1:Sl) (e0:List EO) (k1:Nat):OV:=
 (oo (GD (.int .u16 z0) e0 0) none fun r0=>(bb (Au F4 (Hw (.int .u16 z0) (.int .i64 z1) k1 e0 r0)) (some (.tuple ⟨[.int .i64 z1,(.agg ⟨[.int .i64 z2,Sl.v 1 s0,Sl.v 1 s1,(.map (some 3))]⟩),(Ef (.map (Hw (.int .u16 z0) (.int .i64 z1) k1 e0 r0) (Jj k1 r0)))]⟩)) none))
def Jc (pu:Af) (n:Nat) (z0 z1 z2:Int) (s0 s1:Sl) (e0:List EO) (k1:Nat):OV:=
 (oo (pu 158 [(.agg ⟨[.int .i64 z2,Sl.v 1 s0,Sl.v 1 s1]⟩),.int .u16 z0]) none fun v0=>(oo (Bf v0) none fun b0=>(bb (Au F4 e0) (bb b0 (Gv pu n z0 (Aj .i64 (Int.add z1 (1:Int))) z2 s0 s1 e0 k1) (Gv pu n z0 z1 z2 s0 s1 e0 k1)) none)))
def K8 (pu:Af) (n:Nat) (ih0:Int→Int→Sl→Int→Int→Int→Sl→Sl→List EO→Nat→OV) (z0 z1:Int) (s0:Sl) (z2 z3 z4:Int) (s1 s2:Sl) (e0:List EO) (k1:Nat):OV:=
 (bb (Au F4 e0) (bb (AY z3 z2) (oo (EA z3) none fun k2=>(bb (an (Nat.blt k2 (Sl.n s0)) true) (oo (AL (Sl.cs s0) (k2*1)) none fun v0=>(oo (Bi .i64 v0) none fun x0=>(oo (EA x0) none fun k3=>(bb (Au F4 e0) (oo (pu 11090 [(.pointer (some ⟨2,0,none⟩)),(.int .u16 (QV .u16 z0 (QW .u16 (1:Int) k3))),(.agg ⟨[.int .i64 z4,Sl.v 1 s1,Sl.v 1 s2,(.map (some 3))]⟩),(Ef (.map e0 k1))]) none fun v1=>(oo (CQ v1) none fun l0=>(ll l0 none fun v2 l0=>(ll l0 none fun v3 l0=>(ll l0 none fun v4 l0=>(ll l0 (oo (Bi .i64 v2) none fun x1=>(oo (Bt v3) none fun l1=>(ll l1 none fun v5 l1=>(ll l1 none fun v6 l1=>(ll l1 none fun v7 l1=>(ll l1 none fun v8 l1=>(ll l1 (oo (Bi .i64 v5) none fun x2=>(oo (Bj 1 v6) none fun s3=>(oo (Bj 1 v7) none fun s4=>(bb (M8 v8 3) (oo (Fj v4) none fun y0=>(bb (Au F4 (Akd.es y0)) (bb (Au F4 (Akd.es y0)) (ih0 z0 (bb (AY z1 x1) x1 z1) s0 z2 (Aj .i64 (Int.add (Int.ofNat k2) (1:Int))) x2 s3 s4 (Akd.es y0) (Akd.clock y0)) none) none)) none)))) fun _ _=>none))))))) fun _ _=>none)))))) none)))) none)) (Jc pu n z0 z1 z4 s1 s2 e0 k1)) none)
def K9 (pu:Af) (n w:Nat):Int→Int→Sl→Int→Int→Int→Sl→Sl→List EO→Nat→OV:=
 Nat.rec (motive:=fun _=>Int→Int→Sl→Int→Int→Int→Sl→Sl→List EO→Nat→OV) (fun _ _ _ _ _ _ _ _ _ _=>none) (fun _ ih0=>K8 pu n ih0) w
def Kg (pu:Af) (n:Nat) (z0 z1:Int) (s0 s1:Sl) (e0:List EO) (k1:Nat):OV:=
 (bb (Au F4 e0) (oo (GD (.int .u16 z0) e0 0) none fun r0=>(oo (Bi .i64 (lT r0 (.int .i64 (0:Int)))) none fun x0=>(bb (isS r0) (some (.tuple ⟨[.int .i64 x0,(.agg ⟨[.int .i64 z1,Sl.v 1 s0,Sl.v 1 s1,(.map (some 3))]⟩),(Ef (.map e0 k1))]⟩)) (oo (pu 157 [.int .u16 z0]) none fun v0=>(oo (Bj 1 v0) none fun s2=>(K9 pu n n z0 (0:Int) s2 (Int.ofNat (Sl.n s2)) (0:Int) z1 s0 s1 e0 k1)))))) none)
def LJ (pu:Af) (n:Nat) (args:LV):OV:=
 (ll args none fun a0 args=>(ll args none fun a1 args=>(ll args none fun o0 args=>(ll args none fun o1 args=>(ll args (bb (Po a0 2 0) (oo (Bi .u16 a1) none fun x0=>(oo (Bt o0) none fun l0=>(ll l0 none fun v0 l0=>(ll l0 none fun v1 l0=>(ll l0 none fun v2 l0=>(ll l0 none fun v3 l0=>(ll l0 (oo (Bi .i64 v0) none fun x1=>(oo (Bj 1 v1) none fun s0=>(oo (Bj 1 v2) none fun s1=>(bb (M8 v3 3) (oo (Fj o1) none fun y0=>(Kg pu n x0 x1 s0 s1 (Akd.es y0) (Akd.clock y0))) none)))) fun _ _=>none))))))) none) fun _ _=>none)))))
theorem UJ (pu:Af) (n:Nat) (z0 z1 z2:Int) (s0 s1:Sl) (e0:List EO) (k1:Nat) {v:Value} (hm:Gv pu n z0 z1 z2 s0 s1 e0 k1=some v):BN tt (Bb tabs isP pu (inl pu)) 4 QJ (fr 52 [(0,(pt 2 0)),(1,.int .u16 z0),(7,zI z1)]) (hT 4 [(.cells Ay true false []),(oC [zI z2,Sl.v 1 s0,Sl.v 1 s1,(.map (some 3))]),(.map e0 k1)]) (FJ tt 2 2 [.tmp 4] v):=by
 unfold Gv at hm
 refine .then ?_
 replace hm:=Ab hm;obtain⟨r0,h0,hm⟩:=hm
 refine .reg (eC 6 (done (oo (GD (.int .u16 z0) e0 0) none fun r=>oo r (some (Aa.set (hT 4 [(.cells Ay true false []),(oC [zI z2,Sl.v 1 s0,Sl.v 1 s1,(.map (some 3))]),(.map e0 k1)]) 3 (.map (Br e0 [⟨.int .u16 z0,zI z1,k1⟩]) (k1+1)))) fun p=>pp p fun j _=>some (Aa.set (hT 4 [(.cells Ay true false []),(oC [zI z2,Sl.v 1 s0,Sl.v 1 s1,(.map (some 3))]),(.map e0 k1)]) 3 (.map (SS (fun e=>⟨.int .u16 z0,zI z1,e.born⟩) j e0) k1))) undef) (Si (H2:=(hT 4 [(.cells Ay true false []),(oC [zI z2,Sl.v 1 s0,Sl.v 1 s1,(.map (some 3))]),(.map (Hw (.int .u16 z0) (zI z1) k1 e0 r0) (Jj k1 r0))])) h0) (eE)) ?_
 replace hm:=Ae hm;obtain⟨h1,hm⟩:=hm
 refine .ghs (fr 52 [(7,zI z1)]) (hT 4 [(.cells Ay true false []),(oC [zI z2,Sl.v 1 s0,Sl.v 1 s1,(.map (some 3))]),(.map (Hw (.int .u16 z0) (zI z1) k1 e0 r0) (Jj k1 r0))]) (.k [3] [false,false,true,false] [] [7] ⟨AO h1,trivial⟩) ?_
 refine .then (.rK (.ghs (fr 52 [(4,zI z1)]) (hT 4 [(.cells Ay true false []),(oC [zI z2,Sl.v 1 s0,Sl.v 1 s1,(.map (some 3))]),(.map (Hw (.int .u16 z0) (zI z1) k1 e0 r0) (Jj k1 r0))]) (.k [3] [false,false,true,false] [] [4] ⟨AO h1,trivial⟩) ?_))
 refine .ghs (fr 52 [(4,zI z1)]) (hT 4 [(.cells Ay true false []),(oC [zI z2,Sl.v 1 s0,Sl.v 1 s1,(.map (some 3))]),(.map (Hw (.int .u16 z0) (zI z1) k1 e0 r0) (Jj k1 r0))]) (.k [3] [false,false,true,false] [] [4] ⟨AO h1,trivial⟩) ?_
 refine .ret ?_
 exact Gn (zI z1) [(oC [zI z2,Sl.v 1 s0,Sl.v 1 s1,(.map (some 3))]),(.map (Hw (.int .u16 z0) (zI z1) k1 e0 r0) (Jj k1 r0))] (by kernel_rfl) hm (Nat.le_of_ble_eq_true rfl) (C8 (Pn _) (C8 (WE _ _) FN))
theorem UK (pu:Af) (n:Nat) (z0 z1 z2:Int) (s0 s1:Sl) (e0:List EO) (k1:Nat) {v:Value} (hm:Jc pu n z0 z1 z2 s0 s1 e0 k1=some v):BN tt (Bb tabs isP pu (inl pu)) 4 QK (fr 52 [(0,(pt 2 0)),(1,.int .u16 z0),(7,zI z1)]) (hT 4 [(.cells Ay true false []),(oC [zI z2,Sl.v 1 s0,Sl.v 1 s1,(.map (some 3))]),(.map e0 k1)]) (FJ tt 2 2 [.tmp 4] v):=by
 unfold Jc at hm
 refine .join (v:=v) (fun y:Int×Int×Int×Sl×Sl×List EO×Nat=>((fr 52 [(0,(pt 2 0)),(1,(.int .u16 y.1)),(7,(zI y.2.1))]),(hT 4 [(.cells Ay true false []),(oC [(zI y.2.2.1),(Sl.v 1 y.2.2.2.1),(Sl.v 1 y.2.2.2.2.1),(.map (some 3))]),(.map y.2.2.2.2.2.1 y.2.2.2.2.2.2)]))) (fun y=>Gv pu n y.1 y.2.1 y.2.2.1 y.2.2.2.1 y.2.2.2.2.1 y.2.2.2.2.2.1 y.2.2.2.2.2.2) ?_ ?_
 ·rintro⟨z3,z4,z5,s2,s3,e1,k2⟩ hm
  exact UJ pu n z3 z4 z5 s2 s3 e1 k2 hm
 ·refine .then ?_
  replace hm:=zT hm;obtain⟨b0,h0,hm⟩:=hm
  refine .reg (eC 5 ((oo (pu 158 [(.agg ⟨[zI z2,Sl.v 1 s0,Sl.v 1 s1]⟩),.int .u16 z0]) none fun v=>some (v,(hT 4 [(.cells Ay true false []),(oC [zI z2,Sl.v 1 s0,Sl.v 1 s1,(.map (some 3))]),(.map e0 k1)])))) (AB h0) (eE)) ?_
  replace hm:=Ae hm;obtain⟨h1,hm⟩:=hm
  refine .ghs (fr 52 [(0,(pt 2 0)),(1,.int .u16 z0),(7,zI z1),(42,zB b0)]) (hT 4 [(.cells Ay true false []),(oC [zI z2,Sl.v 1 s0,Sl.v 1 s1,(.map (some 3))]),(.map e0 k1)]) (.k [3] [false,false,true,false] [] [0,1,7,42] ⟨AO h1,trivial⟩) ?_
  replace hm:=Ag hm;rcases hm with⟨h2,hm⟩ | ⟨h2,hm⟩
  ·refine .ifT b0 (by kernel_rfl) h2 ?_
   refine .rK ?_
   exact⟨(z0,(Aj .i64 (Int.add z1 (1:Int))),z2,s0,s1,e0,k1),hm,(.k [3] [false,false,true,false] [] [0,1,7] ⟨AO h1,trivial⟩)⟩
  ·refine .ifF b0 (by kernel_rfl) h2 ?_
   refine .skip ?_
   exact⟨(z0,z1,z2,s0,s1,e0,k1),hm,(.k [3] [false,false,true,false] [] [0,1,7] ⟨AO h1,trivial⟩)⟩
theorem uS (pu:Af) (n:Nat) (z0 z1:Int) (s0 s1:Sl) (e0:List EO) (k1:Nat) {v:Value} (hm:Kg pu n z0 z1 s0 s1 e0 k1=some v):BN tt (Bb tabs isP pu (inl pu)) 4 HY (fr 52 [(0,(pt 2 0)),(1,.int .u16 z0)]) (hT 4 [(.cells Ay true false []),(oC [zI z1,Sl.v 1 s0,Sl.v 1 s1,(.map (some 3))]),(.map e0 k1)]) (FJ tt 2 2 [.tmp 4] v):=by
 unfold Kg at hm
 refine .then (.rK ?_)
 replace hm:=Ae hm;obtain⟨h0,hm⟩:=hm
 refine .ghs (fr 52 [(0,(pt 2 0)),(1,.int .u16 z0)]) (hT 4 [(.cells Ay true false []),(oC [zI z1,Sl.v 1 s0,Sl.v 1 s1,(.map (some 3))]),(.map e0 k1)]) (.k [3] [false,false,true,false] [] [0,1] ⟨AO h0,trivial⟩) ?_
 refine .then (.then ?_)
 replace hm:=Ab hm;obtain⟨r0,h1,hm⟩:=hm
 replace hm:=Ab hm;obtain⟨x0,h2,hm⟩:=hm
 refine .reg (eC 5 (keep (hT 4 [(.cells Ay true false []),(oC [zI z1,Sl.v 1 s0,Sl.v 1 s1,(.map (some 3))]),(.map e0 k1)]) (oo (GD (.int .u16 z0) e0 0) none fun r=>oo r (okV true (zI (0:Int)) false) fun p=>pp p fun _ v=>okV true v true)) (Sg h1 (Eh h2)) (eE)) ?_
 refine .ghs (fr 52 [(0,(pt 2 0)),(1,.int .u16 z0),(5,zI x0),(6,(zB (isS r0)))]) (hT 4 [(.cells Ay true false []),(oC [zI z1,Sl.v 1 s0,Sl.v 1 s1,(.map (some 3))]),(.map e0 k1)]) (.k [3] [false,false,true,false] [] [0,1,5,6] ⟨AO h0,trivial⟩) ?_
 refine .then (.rK (.ghs (fr 52 [(0,(pt 2 0)),(1,.int .u16 z0),(5,zI x0),(19,(zB (isS r0)))]) (hT 4 [(.cells Ay true false []),(oC [zI z1,Sl.v 1 s0,Sl.v 1 s1,(.map (some 3))]),(.map e0 k1)]) (.k [3] [false,false,true,false] [] [0,1,5,19] ⟨AO h0,trivial⟩) ?_))
 replace hm:=Ag hm;rcases hm with⟨h3,hm⟩ | ⟨h3,hm⟩
 ·refine Dr (isS r0) h3 ?_
  refine .then (.rK (.ghs (fr 52 [(4,zI x0)]) (hT 4 [(.cells Ay true false []),(oC [zI z1,Sl.v 1 s0,Sl.v 1 s1,(.map (some 3))]),(.map e0 k1)]) (.k [3] [false,false,true,false] [] [4] ⟨AO h0,trivial⟩) ?_))
  refine .ghs (fr 52 [(4,zI x0)]) (hT 4 [(.cells Ay true false []),(oC [zI z1,Sl.v 1 s0,Sl.v 1 s1,(.map (some 3))]),(.map e0 k1)]) (.k [3] [false,false,true,false] [] [4] ⟨AO h0,trivial⟩) ?_
  refine .ret ?_
  exact Gn (zI x0) [(oC [zI z1,Sl.v 1 s0,Sl.v 1 s1,(.map (some 3))]),(.map e0 k1)] (by kernel_rfl) hm (Nat.le_of_ble_eq_true rfl) (C8 (Pn _) (C8 (WE _ _) FN))
 ·refine Dy (isS r0) h3 ?_
  refine .skip (.ghs (fr 52 [(0,(pt 2 0)),(1,.int .u16 z0)]) (hT 4 [(.cells Ay true false []),(oC [zI z1,Sl.v 1 s0,Sl.v 1 s1,(.map (some 3))]),(.map e0 k1)]) (.k [3] [false,false,true,false] [] [0,1] ⟨AO h0,trivial⟩) ?_)
  refine .then (.rK (.ghs (fr 52 [(0,(pt 2 0)),(1,.int .u16 z0),(7,(zI (0:Int)))]) (hT 4 [(.cells Ay true false []),(oC [zI z1,Sl.v 1 s0,Sl.v 1 s1,(.map (some 3))]),(.map e0 k1)]) (.k [3] [false,false,true,false] [] [0,1,7] ⟨AO h0,trivial⟩) ?_))
  refine .join (v:=v) (fun y:Int×Int×Int×Sl×Sl×List EO×Nat=>((fr 52 [(0,(pt 2 0)),(1,(.int .u16 y.1)),(7,(zI y.2.1))]),(hT 4 [(.cells Ay true false []),(oC [(zI y.2.2.1),(Sl.v 1 y.2.2.2.1),(Sl.v 1 y.2.2.2.2.1),(.map (some 3))]),(.map y.2.2.2.2.2.1 y.2.2.2.2.2.2)]))) (fun y=>Jc pu n y.1 y.2.1 y.2.2.1 y.2.2.2.1 y.2.2.2.2.1 y.2.2.2.2.2.1 y.2.2.2.2.2.2) ?_ ?_
  ·rintro⟨z2,z3,z4,s2,s3,e1,k2⟩ hm
   exact UK pu n z2 z3 z4 s2 s3 e1 k2 hm
  ·refine .then ?_
   replace hm:=oQS hm;obtain⟨s4,h4,hm⟩:=hm
   refine .reg (eC 1 ((oo (pu 157 [.int .u16 z0]) none fun v=>some (v,(hT 4 [(.cells Ay true false []),(oC [zI z1,Sl.v 1 s0,Sl.v 1 s1,(.map (some 3))]),(.map e0 k1)])))) (AB h4) (eE)) ?_
   refine .ghs (fr 52 [(0,(pt 2 0)),(1,.int .u16 z0),(7,(zI (0:Int))),(22,Sl.v 1 s4),(23,(zI (Int.ofNat (Sl.n s4)))),(24,(zI (0:Int)))]) (hT 4 [(.cells Ay true false []),(oC [zI z1,Sl.v 1 s0,Sl.v 1 s1,(.map (some 3))]),(.map e0 k1)]) (.k [3] [false,false,true,false] [] [0,1,7,22,23,24] ⟨AO h0,trivial⟩) ?_
   refine .block (.loopM (v:=v) (fun y:Int×Int×Sl×Int×Int×Int×Sl×Sl×List EO×Nat=>((fr 52 [(0,(pt 2 0)),(1,(.int .u16 y.1)),(7,(zI y.2.1)),(22,(Sl.v 1 y.2.2.1)),(23,(zI y.2.2.2.1)),(24,(zI y.2.2.2.2.1))]),(hT 4 [(.cells Ay true false []),(oC [(zI y.2.2.2.2.2.1),(Sl.v 1 y.2.2.2.2.2.2.1),(Sl.v 1 y.2.2.2.2.2.2.2.1),(.map (some 3))]),(.map y.2.2.2.2.2.2.2.2.1 y.2.2.2.2.2.2.2.2.2)]))) (fun w y=>K9 pu n w y.1 y.2.1 y.2.2.1 y.2.2.2.1 y.2.2.2.2.1 y.2.2.2.2.2.1 y.2.2.2.2.2.2.1 y.2.2.2.2.2.2.2.1 y.2.2.2.2.2.2.2.2.1 y.2.2.2.2.2.2.2.2.2) n ⟨(z0,(0:Int),s4,(Int.ofNat (Sl.n s4)),(0:Int),z1,s0,s1,e0,k1),hm,(.k [3] [false,false,true,false] [] [0,1,7,22,23,24] ⟨AO h0,trivial⟩)⟩ (fun _=>rfl) ?_)
   rintro w0 ⟨z5,z6,s5,z7,z8,z9,s6,s7,e2,k3⟩ hm
   replace hm:K8 pu n (K9 pu n w0) z5 z6 s5 z7 z8 z9 s6 s7 e2 k3=some v:=hm
   unfold K8 at hm
   refine .then (.rK ?_)
   replace hm:=Ae hm;obtain⟨h5,hm⟩:=hm
   refine .ghs (fr 52 [(0,(pt 2 0)),(1,.int .u16 z5),(7,zI z6),(22,Sl.v 1 s5),(23,zI z7),(24,zI z8),(25,(zB (AY z8 z7)))]) (hT 4 [(.cells Ay true false []),(oC [zI z9,Sl.v 1 s6,Sl.v 1 s7,(.map (some 3))]),(.map e2 k3)]) (.k [3] [false,false,true,false] [] [0,1,7,22,23,24,25] ⟨AO h5,trivial⟩) ?_
   refine .then ?_
   replace hm:=Ag hm;rcases hm with⟨h6,hm⟩ | ⟨h6,hm⟩
   ·refine Dr (AY z8 z7) h6 ?_
    refine .skip (.ghs (fr 52 [(0,(pt 2 0)),(1,.int .u16 z5),(7,zI z6),(22,Sl.v 1 s5),(23,zI z7),(24,zI z8)]) (hT 4 [(.cells Ay true false []),(oC [zI z9,Sl.v 1 s6,Sl.v 1 s7,(.map (some 3))]),(.map e2 k3)]) (.k [3] [false,false,true,false] [] [0,1,7,22,23,24] ⟨AO h5,trivial⟩) ?_)
    refine .then (.block (.then ?_))
    replace hm:=Ab hm;obtain⟨k4,h7,hm⟩:=hm
    obtain rfl:=AR h7
    replace hm:=Ae hm;obtain⟨h8,hm⟩:=hm
    replace hm:=FK hm;obtain⟨x1,h9,hm⟩:=hm
    refine .reg (eD (keep (hT 4 [(.cells Ay true false []),(oC [zI z9,Sl.v 1 s6,Sl.v 1 s7,(.map (some 3))]),(.map e2 k3)]) (bb (an (Nat.blt k4 (Sl.n s5)) true) (some (Cv (k4*1) (Sl.cs s5))) none)) (AX h8) (eD (keep (hT 4 [(.cells Ay true false []),(oC [zI z9,Sl.v 1 s6,Sl.v 1 s7,(.map (some 3))]),(.map e2 k3)]) (AL (Sl.cs s5) (k4*1))) (AZ h9) (eE))) ?_
    refine .ghs (fr 52 [(0,(pt 2 0)),(1,.int .u16 z5),(7,zI z6),(9,zI x1),(22,Sl.v 1 s5),(23,zI z7),(24,(zI (Int.ofNat k4)))]) (hT 4 [(.cells Ay true false []),(oC [zI z9,Sl.v 1 s6,Sl.v 1 s7,(.map (some 3))]),(.map e2 k3)]) (.k [3] [false,false,true,false] [] [0,1,7,9,22,23,24] ⟨AO h5,trivial⟩) ?_
    replace hm:=Ab hm;obtain⟨k5,h10,hm⟩:=hm
    obtain rfl:=AR h10
    replace hm:=Ae hm;obtain⟨h11,hm⟩:=hm
    replace hm:=Ab hm;obtain⟨v0,h12,hm⟩:=hm
    replace hm:=Ch hm;obtain⟨l0,rfl,hm⟩:=hm
    replace hm:=Ad hm;obtain⟨v1,l9741_0,rfl,hm⟩:=hm
    replace hm:=Ad hm;obtain⟨v2,l9741_1,rfl,hm⟩:=hm
    replace hm:=Ad hm;obtain⟨v3,l9741_2,rfl,hm⟩:=hm
    replace hm:=AC hm;obtain⟨rfl,hm⟩:=hm
    replace hm:=Ai hm;obtain⟨x2,rfl,hm⟩:=hm
    replace hm:=BG hm;obtain⟨l1,rfl,hm⟩:=hm
    replace hm:=Ad hm;obtain⟨v4,l9748_0,rfl,hm⟩:=hm
    replace hm:=Ad hm;obtain⟨v5,l9748_1,rfl,hm⟩:=hm
    replace hm:=Ad hm;obtain⟨v6,l9748_2,rfl,hm⟩:=hm
    replace hm:=Ad hm;obtain⟨v7,l9748_3,rfl,hm⟩:=hm
    replace hm:=AC hm;obtain⟨rfl,hm⟩:=hm
    replace hm:=Ai hm;obtain⟨x3,rfl,hm⟩:=hm
    replace hm:=Al hm;obtain⟨s8,rfl,hm⟩:=hm
    replace hm:=Al hm;obtain⟨s9,rfl,hm⟩:=hm
    replace hm:=Ae hm;obtain⟨h13,hm⟩:=hm
    obtain rfl:=Hy h13
    replace hm:=Ab hm;obtain⟨y0,h14,hm⟩:=hm
    replace hm:=Ae hm;obtain⟨h15,hm⟩:=hm
    refine .reg (eC 6 (Gs tabs [[none],[none]] 2 [.tmp 0 true,.cell 2 3 false] [true,false] (pu 11090) [(pt 2 0),(.int .u16 (QV .u16 z5 (QW .u16 (1:Int) k5)))] (hT 4 [(.cells Ay true false []),(oC [zI z9,Sl.v 1 s6,Sl.v 1 s7,(.map (some 3))]),(.map e2 k3)])) (HV (as:=[(pt 2 0),(.int .u16 (QV .u16 z5 (QW .u16 (1:Int) k5)))]) (H1:=(hT 4 [(.cells Ay true false []),(oC [zI z9,Sl.v 1 s6,Sl.v 1 s7,(.map (some 3))]),(.map e2 k3)])) (G9 (O6 Pp) (G9 (O6 Pp) KJ)) (Ha (H2:=(hT 4 [(.cells Ay true false []),(oC [zI x3,Sl.v 1 s8,Sl.v 1 s9,(.map (some 3))]),(.map (Akd.es y0) (Akd.clock y0))])) (v:=(zI x2)) (v':=(zI x2)) [some 0,some 1,some 2,some 3] [(true,some 2),(false,some 3)] [(oC [zI z9,Sl.v 1 s6,Sl.v 1 s7,(.map (some 3))]),(.map e2 k3)] [(pt 2 0),(.int .u16 (QV .u16 z5 (QW .u16 (1:Int) k5)))] [(.agg ⟨[zI x3,Sl.v 1 s8,Sl.v 1 s9,(.map (some 3))]⟩),v3] [(oC [zI x3,Sl.v 1 s8,Sl.v 1 s9,(.map (some 3))]),(.map (Akd.es y0) (Akd.clock y0))] [some 0,some 1,some 2,some 3] [(true,(oC [zI x3,Sl.v 1 s8,Sl.v 1 s9,(.map (some 3))])),(false,(.map (Akd.es y0) (Akd.clock y0)))] [(oC [zI x3,Sl.v 1 s8,Sl.v 1 s9,(.map (some 3))]),(.map (Akd.es y0) (Akd.clock y0))] (by kernel_rfl) (Dn (by kernel_rfl) (Dn (Sd h11) Eb)) (Eq.trans (by kernel_rfl) h12) (Dn rfl (Dn (Gq h14) Eb)) (Dn (by kernel_rfl) (Dn (Pm h15) Eb)))) (eE)) ?_
    replace hm:=Ae hm;obtain⟨h16,hm⟩:=hm
    refine .ghs (fr 52 [(0,(pt 2 0)),(1,.int .u16 z5),(7,(zI (bb (AY z6 x2) x2 z6))),(22,Sl.v 1 s5),(23,zI z7),(24,(zI (Int.ofNat k4)))]) (hT 4 [(.cells Ay true false []),(oC [zI x3,Sl.v 1 s8,Sl.v 1 s9,(.map (some 3))]),(.map (Akd.es y0) (Akd.clock y0))]) (.k [3] [false,false,true,false] [] [0,1,7,22,23,24] ⟨AO h16,trivial⟩) ?_
    refine .rK ?_
    exact⟨(z5,(bb (AY z6 x2) x2 z6),s5,z7,(Aj .i64 (Int.add (Int.ofNat k4) (1:Int))),x3,s8,s9,(Akd.es y0),(Akd.clock y0)),hm,(.k [3] [false,false,true,false] [] [0,1,7,22,23,24] ⟨AO h16,trivial⟩)⟩
   ·refine Dy (AY z8 z7) h6 ?_
    refine .exit ?_
    exact⟨(z5,z6,z9,s6,s7,e2,k3),hm,(.k [3] [false,false,true,false] [] [0,1,7] ⟨AO h5,trivial⟩)⟩
theorem uT {call:A8} (pu:Af) (n:Nat) (hcall:call=Bb tabs isP pu (inl pu)) {args:LV} {os:List AJ} {z:Value} (ha:args.length=2) (hk:os.length=2) (hpl:∀ o∈os,plainO o) (hm:LJ pu n (args++os.map Ef)=some z):args.length≤52∧BN tt call (tabs.length+2) HY (Fr.made 52 args) (BK tabs os) (FJ tt tabs.length 2 [.tmp 4] z):=by
 subst hcall
 have hq:=Co ha;clear ha;obtain⟨a0,args,rfl,ha⟩:=hq
 have hq:=Co ha;clear ha;obtain⟨a1,args,rfl,ha⟩:=hq
 obtain rfl:=len_nil ha
 have hq:=Co hk;clear hk;obtain⟨b0,os,rfl,hk⟩:=hq
 have hp0:plainO b0:=hpl b0 (by simp)
 have hq:=Co hk;clear hk;obtain⟨b1,os,rfl,hk⟩:=hq
 have hp1:plainO b1:=hpl b1 (by simp)
 obtain rfl:=len_nil hk
 replace hm:LJ pu n [a0,a1,Ef b0,Ef b1]=some z:=hm
 unfold LJ at hm
 replace hm:(bb (Po a0 2 0) (oo (Bi .u16 a1) none fun x0=>(oo (Bt (Ef b0)) none fun l0=>(ll l0 none fun v0 l0=>(ll l0 none fun v1 l0=>(ll l0 none fun v2 l0=>(ll l0 none fun v3 l0=>(ll l0 (oo (Bi .i64 v0) none fun x1=>(oo (Bj 1 v1) none fun s0=>(oo (Bj 1 v2) none fun s1=>(bb (M8 v3 3) (oo (Fj (Ef b1)) none fun y0=>(Kg pu n x0 x1 s0 s1 (Akd.es y0) (Akd.clock y0))) none)))) fun _ _=>none))))))) none)=some z:=hm
 replace hm:=Ae hm;obtain⟨h0,hm⟩:=hm
 obtain rfl:=M9 h0
 replace hm:=Ai hm;obtain⟨x0,rfl,hm⟩:=hm
 replace hm:=Ab hm;obtain⟨l0,h1,hm⟩:=hm
 obtain rfl:=Gu hp0 h1
 replace hm:=Ad hm;obtain⟨v0,l9768_0,rfl,hm⟩:=hm
 replace hm:=Ad hm;obtain⟨v1,l9768_1,rfl,hm⟩:=hm
 replace hm:=Ad hm;obtain⟨v2,l9768_2,rfl,hm⟩:=hm
 replace hm:=Ad hm;obtain⟨v3,l9768_3,rfl,hm⟩:=hm
 replace hm:=AC hm;obtain⟨rfl,hm⟩:=hm
 replace hm:=Ai hm;obtain⟨x1,rfl,hm⟩:=hm
 replace hm:=Al hm;obtain⟨s0,rfl,hm⟩:=hm
 replace hm:=Al hm;obtain⟨s1,rfl,hm⟩:=hm
 replace hm:=Ae hm;obtain⟨h2,hm⟩:=hm
 obtain rfl:=Hy h2
 replace hm:=Ab hm;obtain⟨y0,h3,hm⟩:=hm
 obtain rfl:=MG hp1 h3
 refine⟨by simp,?_⟩
 exact .same (F':=(fr 52 [(0,(pt 2 0)),(1,.int .u16 x0)])) (H':=(hT 4 [(.cells Ay true false []),(oC [zI x1,Sl.v 1 s0,Sl.v 1 s1,(.map (some 3))]),(.map (Akd.es y0) (Akd.clock y0))])) (by kernel_rfl) (by kernel_rfl) (uS pu n x0 x1 s0 s1 (Akd.es y0) (Akd.clock y0) hm)
end
end Go.TpDM
set_option maxRecDepth 100000
set_option maxHeartbeats 20000000
set_option linter.unusedVariables false
namespace Go.TpDM
open Go.Sp Go.TpD
noncomputable section
def LK (pu:Af) (n:Nat) (ih0:Int→Nat→Nat→Nat→Nat→List EO→Nat→LV→LV→Nat→List Nat→Nat→OV) (z0:Int) (n0 c0 n1 c1:Nat) (e0:List EO) (k1:Nat) (q0:LV) (q1:LV) (k2:Nat) (l0:List Nat) (k3:Nat):OV:=
 (bb (Au (fun e=>Nat.blt (EO.born e) k2) e0) (bb (Nat.ble k2 k3) (Sn e0 l0 (bb (Au F4 e0) (bb (Au Ah q0) (bb (Au Ah q1) (some (.tuple ⟨[(.tuple ⟨[]⟩),(.agg ⟨[.int .i64 z0,(.slice (some ⟨4,0,some 4⟩) n0 c0),(.slice (some ⟨5,0,some 1⟩) n1 c1)]⟩),(Ef (.map e0 k1)),(.agg ⟨q0⟩),(.agg ⟨q1⟩)]⟩)) none) none) none) (fun e1:EO=>(bb (Au F4 e0) (bb (Au Ah q0) (bb (Au Ah q1) (oo (zV e0 k1 (Br l0 [(EO.born e1)]) k1) none fun v0=>(oo (CQ v0) none fun l1=>(ll l1 none fun v1 l1=>(ll l1 none fun v2 l1=>(ll l1 (oo (Bi .i64 v1) none fun x0=>(oo (Bf v2) none fun b0=>(bb b0 (oo (EA x0) none fun k4=>(bb (an (Nat.blt k4 n1) true) (oo (AL q1 (0+k4*1)) none fun v3=>(oo (Bi .i64 v3) none fun x1=>(bb (an (Nat.blt k4 n1) true) (bb (an (Nat.ble ((0+k4*1)+1) (len q1)) true) (bb (Au Ah (BM ([(.int .i64 (Aj .i64 (Int.add x1 (1:Int))))]:LV) (0+k4*1) q1)) (ih0 z0 n0 c0 n1 c1 e0 k1 q0 (BM ([(.int .i64 (Aj .i64 (Int.add x1 (1:Int))))]:LV) (0+k4*1) q1) k2 (Br l0 [(EO.born e1)]) k1) none) none) none))) none)) (oo (EA x0) none fun k5=>(bb (an (Nat.blt k5 n1) true) (oo (AL q1 (0+k5*1)) none fun v4=>(oo (Bi .i64 v4) none fun x2=>(bb (an (Nat.blt k5 n1) true) (bb (an (Nat.ble ((0+k5*1)+1) (len q1)) true) (bb (Au Ah (BM ([(.int .i64 (Aj .i64 (Int.sub x2 (1:Int))))]:LV) (0+k5*1) q1)) (ih0 z0 n0 c0 n1 c1 e0 k1 q0 (BM ([(.int .i64 (Aj .i64 (Int.sub x2 (1:Int))))]:LV) (0+k5*1) q1) k2 (Br l0 [(EO.born e1)]) k1) none) none) none))) none))))) fun _ _=>none))))) none) none) none))) none) none)
def LM (pu:Af) (n w:Nat):Int→Nat→Nat→Nat→Nat→List EO→Nat→LV→LV→Nat→List Nat→Nat→OV:=
 Nat.rec (motive:=fun _=>Int→Nat→Nat→Nat→Nat→List EO→Nat→LV→LV→Nat→List Nat→Nat→OV) (fun _ _ _ _ _ _ _ _ _ _ _ _=>none) (fun _ ih0=>LK pu n ih0) w
def Kh (pu:Af) (n:Nat) (z0:Int) (n0 c0 n1 c1:Nat) (e0:List EO) (k1:Nat) (q0:LV) (q1:LV):OV:=
 (bb (Au F4 e0) (bb (Au Ah q0) (bb (Au Ah q1) (LM pu n n z0 n0 c0 n1 c1 e0 k1 q0 q1 k1 ([]:List Nat) k1) none) none) none)
def LQ (pu:Af) (n:Nat) (args:LV):OV:=
 (ll args none fun a0 args=>(ll args none fun a1 args=>(ll args none fun o0 args=>(ll args none fun o1 args=>(ll args none fun o2 args=>(ll args none fun o3 args=>(ll args (bb (Po a0 2 0) (bb (M8 a1 3) (oo (Bt o0) none fun l0=>(ll l0 none fun v0 l0=>(ll l0 none fun v1 l0=>(ll l0 none fun v2 l0=>(ll l0 (oo (Bi .i64 v0) none fun x0=>(oo (O5 4 0 4 v1) none fun y0=>(oo (O5 5 0 1 v2) none fun y1=>(oo (Fj o1) none fun y2=>(oo (Bt o2) none fun q0=>(oo (Bt o3) none fun q1=>(Kh pu n x0 (NC.n y0) (NC.c y0) (NC.n y1) (NC.c y1) (Akd.es y2) (Akd.clock y2) q0 q1))))))) fun _ _=>none))))) none) none) fun _ _=>none)))))))
theorem uU (pu:Af) (n:Nat) (z0:Int) (n0 c0 n1 c1:Nat) (e0:List EO) (k1:Nat) (q0:LV) (q1:LV) {v:Value} (hm:Kh pu n z0 n0 c0 n1 c1 e0 k1 q0 q1=some v):BN tt (Bb tabs isP pu (inl pu)) 6 Iq (fr 32 [(0,(pt 2 0)),(1,(.map (some 3)))]) (hT 6 [(.cells Ay true false []),(oC [zI z0,sc 4 0 4 n0 c0,sc 5 0 1 n1 c1]),(.map e0 k1),oC q0,oC q1]) (FJ tt 2 4 [] v):=by
 unfold Kh at hm
 refine .then (.rK ?_)
 replace hm:=Ae hm;obtain⟨h0,hm⟩:=hm
 replace hm:=Ae hm;obtain⟨h1,hm⟩:=hm
 replace hm:=Ae hm;obtain⟨h2,hm⟩:=hm
 refine .ghs (fr 32 [(0,(pt 2 0)),(7,(pt 6 0))]) (hT 7 [(.cells Ay true false []),(oC [zI z0,sc 4 0 4 n0 c0,sc 5 0 1 n1 c1]),(.map e0 k1),oC q0,oC q1,(.iter (some 3) k1 ([]:List Nat) k1)]) (.k [3,4,5] [false,false,true,false,false,false] [.tmp 7 false] [0,7] ⟨AO h0,AO h1,AO h2,trivial⟩) ?_
 refine .block (.loopM (v:=v) (fun y:Int×Nat×Nat×Nat×Nat×List EO×Nat×LV×LV×Nat×List Nat×Nat=>((fr 32 [(0,(pt 2 0)),(7,(pt 6 0))]),(hT 7 [(.cells Ay true false []),(oC [(zI y.1),(sc 4 0 4 y.2.1 y.2.2.1),(sc 5 0 1 y.2.2.2.1 y.2.2.2.2.1)]),(.map y.2.2.2.2.2.1 y.2.2.2.2.2.2.1),(oC y.2.2.2.2.2.2.2.1),(oC y.2.2.2.2.2.2.2.2.1),(.iter (some 3) y.2.2.2.2.2.2.2.2.2.1 y.2.2.2.2.2.2.2.2.2.2.1 y.2.2.2.2.2.2.2.2.2.2.2)]))) (fun w y=>LM pu n w y.1 y.2.1 y.2.2.1 y.2.2.2.1 y.2.2.2.2.1 y.2.2.2.2.2.1 y.2.2.2.2.2.2.1 y.2.2.2.2.2.2.2.1 y.2.2.2.2.2.2.2.2.1 y.2.2.2.2.2.2.2.2.2.1 y.2.2.2.2.2.2.2.2.2.2.1 y.2.2.2.2.2.2.2.2.2.2.2) n ⟨(z0,n0,c0,n1,c1,e0,k1,q0,q1,k1,([]:List Nat),k1),hm,(.k [3,4,5] [false,false,true,false,false,false] [.tmp 7 false] [0,7] ⟨AO h0,AO h1,AO h2,trivial⟩)⟩ (fun _=>rfl) ?_)
 rintro w0 ⟨z1,n2,c2,n3,c4,e1,k2,q2,q3,k3,l0,k4⟩ hm
 replace hm:LK pu n (LM pu n w0) z1 n2 c2 n3 c4 e1 k2 q2 q3 k3 l0 k4=some v:=hm
 unfold LK at hm
 refine .then ?_
 replace hm:=Ae hm;obtain⟨h3,hm⟩:=hm
 replace hm:=Ae hm;obtain⟨h4,hm⟩:=hm
 refine .nextK (id:=6) (mid:=3) (since:=k3) (st:=k4) (clock:=k2) (seen:=l0) (es:=e1) (d:=some 8) (x:=(tp 7)) (ty:=0) (os:=[EM 9 8 0 4]) (by kernel_rfl) (by kernel_rfl) (by kernel_rfl) (by kernel_rfl) h3 h4 (by kernel_rfl) (fun _=>by kernel_rfl) (fun h5=>?_) (fun e2 h6=>?_)
 ·replace hm:=lV hm h5
  replace hm:=Ae hm;obtain⟨h7,hm⟩:=hm
  replace hm:=Ae hm;obtain⟨h8,hm⟩:=hm
  replace hm:=Ae hm;obtain⟨h9,hm⟩:=hm
  refine .ghs (fr 32 [(0,(pt 2 0)),(7,(pt 6 0)),(9,zB false)]) (hT 7 [(.cells Ay true false []),(oC [zI z1,sc 4 0 4 n2 c2,sc 5 0 1 n3 c4]),(.map e1 k2),oC q2,oC q3,(.iter (some 3) k3 l0 k4)]) (.k [3,4,5] [false,false,true,false,false,false] [.tmp 7 false] [0,7,9] ⟨AO h7,AO h8,AO h9,trivial⟩) ?_
  refine .then (.condF (by kernel_rfl) ?_)
  refine .exit ?_
  refine .ghs (fr 32 []) (hT 6 [(.cells Ay true false []),(oC [zI z1,sc 4 0 4 n2 c2,sc 5 0 1 n3 c4]),(.map e1 k2),oC q2,oC q3]) (.k [3,4,5] [false,false,true,false,false,false] [] [] ⟨AO h7,AO h8,AO h9,trivial⟩) ?_
  exact Sj (.tuple ⟨[]⟩) [(oC [zI z1,sc 4 0 4 n2 c2,sc 5 0 1 n3 c4]),(.map e1 k2),oC q2,oC q3] (by kernel_rfl) hm (Nat.le_of_ble_eq_true rfl) (C8 (Pn _) (C8 (WE _ _) (C8 (Pn _) (C8 (Pn _) FN))))
 ·replace hm:=lW hm h6
  replace hm:=Ae hm;obtain⟨h10,hm⟩:=hm
  replace hm:=Ae hm;obtain⟨h11,hm⟩:=hm
  replace hm:=Ae hm;obtain⟨h12,hm⟩:=hm
  refine .ghs (fr 32 [(0,(pt 2 0)),(7,(pt 6 0)),(9,zB true)]) (hT 7 [(.cells Ay true false []),(oC [zI z1,sc 4 0 4 n2 c2,sc 5 0 1 n3 c4]),(.map e1 k2),oC q2,oC q3,(.iter (some 3) k3 (Br l0 [(EO.born e2)]) k2)]) (.k [3,4,5] [false,false,true,false,false,false] [.tmp 7 false] [0,7,9] ⟨AO h10,AO h11,AO h12,trivial⟩) ?_
  refine .then (.condT (by kernel_rfl) ?_)
  refine .skip (.ghs (fr 32 [(0,(pt 2 0)),(7,(pt 6 0))]) (hT 7 [(.cells Ay true false []),(oC [zI z1,sc 4 0 4 n2 c2,sc 5 0 1 n3 c4]),(.map e1 k2),oC q2,oC q3,(.iter (some 3) k3 (Br l0 [(EO.born e2)]) k2)]) (.k [3,4,5] [false,false,true,false,false,false] [.tmp 7 false] [0,7] ⟨AO h10,AO h11,AO h12,trivial⟩) ?_)
  refine .block (.then ?_)
  replace hm:=Ab hm;obtain⟨v0,h13,hm⟩:=hm
  replace hm:=Ch hm;obtain⟨l1,rfl,hm⟩:=hm
  replace hm:=Ad hm;obtain⟨v1,l11667_0,rfl,hm⟩:=hm
  replace hm:=Ad hm;obtain⟨v2,l11667_1,rfl,hm⟩:=hm
  replace hm:=AC hm;obtain⟨rfl,hm⟩:=hm
  replace hm:=Ai hm;obtain⟨x0,rfl,hm⟩:=hm
  replace hm:=Be hm;obtain⟨b0,rfl,hm⟩:=hm
  refine .reg (eD (keep (hT 7 [(.cells Ay true false []),(oC [zI z1,sc 4 0 4 n2 c2,sc 5 0 1 n3 c4]),(.map e1 k2),oC q2,oC q3,(.iter (some 3) k3 (Br l0 [(EO.born e2)]) k2)]) (zV e1 k2 (Br l0 [(EO.born e2)]) k2)) (AZ h13) (eE)) ?_
  refine .ghs (fr 32 [(0,(pt 2 0)),(4,zI x0),(5,zB b0),(7,(pt 6 0))]) (hT 7 [(.cells Ay true false []),(oC [zI z1,sc 4 0 4 n2 c2,sc 5 0 1 n3 c4]),(.map e1 k2),oC q2,oC q3,(.iter (some 3) k3 (Br l0 [(EO.born e2)]) k2)]) (.k [3,4,5] [false,false,true,false,false,false] [.tmp 7 false] [0,4,5,7] ⟨AO h10,AO h11,AO h12,trivial⟩) ?_
  refine .then (.rK (.ghs (fr 32 [(0,(pt 2 0)),(4,zI x0),(7,(pt 6 0)),(13,zB b0)]) (hT 7 [(.cells Ay true false []),(oC [zI z1,sc 4 0 4 n2 c2,sc 5 0 1 n3 c4]),(.map e1 k2),oC q2,oC q3,(.iter (some 3) k3 (Br l0 [(EO.born e2)]) k2)]) (.k [3,4,5] [false,false,true,false,false,false] [.tmp 7 false] [0,4,7,13] ⟨AO h10,AO h11,AO h12,trivial⟩) ?_))
  replace hm:=Ag hm;rcases hm with⟨h14,hm⟩ | ⟨h14,hm⟩
  ·refine .ifT b0 (by kernel_rfl) h14 ?_
   replace hm:=Ab hm;obtain⟨k5,h15,hm⟩:=hm
   obtain rfl:=AR h15
   replace hm:=Ae hm;obtain⟨h16,hm⟩:=hm
   replace hm:=FK hm;obtain⟨x1,h17,hm⟩:=hm
   replace hm:=Ae hm;obtain⟨h18,hm⟩:=hm
   replace hm:=Ae hm;obtain⟨h19,hm⟩:=hm
   refine .reg (eC 5 (keep (hT 7 [(.cells Ay true false []),(oC [zI z1,sc 4 0 4 n2 c2,sc 5 0 1 n3 c4]),(.map e1 k2),oC q2,oC q3,(.iter (some 3) k3 (Br l0 [(EO.born e2)]) k2)]) (bb (an (Nat.blt k5 n3) true) (some (.pointer (some ⟨5,(0+k5*1),none⟩))) none)) (AX h16) (eD (keep (hT 7 [(.cells Ay true false []),(oC [zI z1,sc 4 0 4 n2 c2,sc 5 0 1 n3 c4]),(.map e1 k2),oC q2,oC q3,(.iter (some 3) k3 (Br l0 [(EO.born e2)]) k2)]) (AL q3 (0+k5*1))) (AZ h17) (eC 1 (keep (hT 7 [(.cells Ay true false []),(oC [zI z1,sc 4 0 4 n2 c2,sc 5 0 1 n3 c4]),(.map e1 k2),oC q2,oC q3,(.iter (some 3) k3 (Br l0 [(EO.born e2)]) k2)]) (bb (an (Nat.blt k5 n3) true) (some (.pointer (some ⟨5,(0+k5*1),none⟩))) none)) (AX h18) (eD (done (bb (an (Nat.ble ((0+k5*1)+1) (len q3)) true) (some (hT 7 [(.cells Ay true false []),(oC [zI z1,sc 4 0 4 n2 c2,sc 5 0 1 n3 c4]),(.map e1 k2),oC q2,(oC (BM ([(zI (Aj .i64 (Int.add x1 (1:Int))))]:LV) (0+k5*1) q3)),(.iter (some 3) k3 (Br l0 [(EO.born e2)]) k2)])) none) undef) (Js h19) (eE))))) ?_
   replace hm:=Ae hm;obtain⟨h20,hm⟩:=hm
   exact⟨(z1,n2,c2,n3,c4,e1,k2,q2,(BM ([(zI (Aj .i64 (Int.add x1 (1:Int))))]:LV) (0+k5*1) q3),k3,(Br l0 [(EO.born e2)]),k2),hm,(.k [3,4,5] [false,false,true,false,false,false] [.tmp 7 false] [0,7] ⟨AO h10,AO h11,AO h20,trivial⟩)⟩
  ·refine .ifF b0 (by kernel_rfl) h14 ?_
   replace hm:=Ab hm;obtain⟨k6,h21,hm⟩:=hm
   obtain rfl:=AR h21
   replace hm:=Ae hm;obtain⟨h22,hm⟩:=hm
   replace hm:=FK hm;obtain⟨x2,h23,hm⟩:=hm
   replace hm:=Ae hm;obtain⟨h24,hm⟩:=hm
   replace hm:=Ae hm;obtain⟨h25,hm⟩:=hm
   refine .reg (eC 5 (keep (hT 7 [(.cells Ay true false []),(oC [zI z1,sc 4 0 4 n2 c2,sc 5 0 1 n3 c4]),(.map e1 k2),oC q2,oC q3,(.iter (some 3) k3 (Br l0 [(EO.born e2)]) k2)]) (bb (an (Nat.blt k6 n3) true) (some (.pointer (some ⟨5,(0+k6*1),none⟩))) none)) (AX h22) (eD (keep (hT 7 [(.cells Ay true false []),(oC [zI z1,sc 4 0 4 n2 c2,sc 5 0 1 n3 c4]),(.map e1 k2),oC q2,oC q3,(.iter (some 3) k3 (Br l0 [(EO.born e2)]) k2)]) (AL q3 (0+k6*1))) (AZ h23) (eC 1 (keep (hT 7 [(.cells Ay true false []),(oC [zI z1,sc 4 0 4 n2 c2,sc 5 0 1 n3 c4]),(.map e1 k2),oC q2,oC q3,(.iter (some 3) k3 (Br l0 [(EO.born e2)]) k2)]) (bb (an (Nat.blt k6 n3) true) (some (.pointer (some ⟨5,(0+k6*1),none⟩))) none)) (AX h24) (eD (done (bb (an (Nat.ble ((0+k6*1)+1) (len q3)) true) (some (hT 7 [(.cells Ay true false []),(oC [zI z1,sc 4 0 4 n2 c2,sc 5 0 1 n3 c4]),(.map e1 k2),oC q2,(oC (BM ([(zI (Aj .i64 (Int.sub x2 (1:Int))))]:LV) (0+k6*1) q3)),(.iter (some 3) k3 (Br l0 [(EO.born e2)]) k2)])) none) undef) (Js h25) (eE))))) ?_
   replace hm:=Ae hm;obtain⟨h26,hm⟩:=hm
   exact⟨(z1,n2,c2,n3,c4,e1,k2,q2,(BM ([(zI (Aj .i64 (Int.sub x2 (1:Int))))]:LV) (0+k6*1) q3),k3,(Br l0 [(EO.born e2)]),k2),hm,(.k [3,4,5] [false,false,true,false,false,false] [.tmp 7 false] [0,7] ⟨AO h10,AO h11,AO h26,trivial⟩)⟩
theorem uV {call:A8} (pu:Af) (n:Nat) (hcall:call=Bb tabs isP pu (inl pu)) {args:LV} {os:List AJ} {z:Value} (ha:args.length=2) (hk:os.length=4) (hpl:∀ o∈os,plainO o) (hm:LQ pu n (args++os.map Ef)=some z):args.length≤32∧BN tt call (tabs.length+4) Iq (Fr.made 32 args) (BK tabs os) (FJ tt tabs.length 4 [] z):=by
 subst hcall
 have hq:=Co ha;clear ha;obtain⟨a0,args,rfl,ha⟩:=hq
 have hq:=Co ha;clear ha;obtain⟨a1,args,rfl,ha⟩:=hq
 obtain rfl:=len_nil ha
 have hq:=Co hk;clear hk;obtain⟨b0,os,rfl,hk⟩:=hq
 have hp0:plainO b0:=hpl b0 (by simp)
 have hq:=Co hk;clear hk;obtain⟨b1,os,rfl,hk⟩:=hq
 have hp1:plainO b1:=hpl b1 (by simp)
 have hq:=Co hk;clear hk;obtain⟨b2,os,rfl,hk⟩:=hq
 have hp2:plainO b2:=hpl b2 (by simp)
 have hq:=Co hk;clear hk;obtain⟨b3,os,rfl,hk⟩:=hq
 have hp3:plainO b3:=hpl b3 (by simp)
 obtain rfl:=len_nil hk
 replace hm:LQ pu n [a0,a1,Ef b0,Ef b1,Ef b2,Ef b3]=some z:=hm
 unfold LQ at hm
 replace hm:(bb (Po a0 2 0) (bb (M8 a1 3) (oo (Bt (Ef b0)) none fun l0=>(ll l0 none fun v0 l0=>(ll l0 none fun v1 l0=>(ll l0 none fun v2 l0=>(ll l0 (oo (Bi .i64 v0) none fun x0=>(oo (O5 4 0 4 v1) none fun y0=>(oo (O5 5 0 1 v2) none fun y1=>(oo (Fj (Ef b1)) none fun y2=>(oo (Bt (Ef b2)) none fun q0=>(oo (Bt (Ef b3)) none fun q1=>(Kh pu n x0 (NC.n y0) (NC.c y0) (NC.n y1) (NC.c y1) (Akd.es y2) (Akd.clock y2) q0 q1))))))) fun _ _=>none))))) none) none)=some z:=hm
 replace hm:=Ae hm;obtain⟨h0,hm⟩:=hm
 obtain rfl:=M9 h0
 replace hm:=Ae hm;obtain⟨h1,hm⟩:=hm
 obtain rfl:=Hy h1
 replace hm:=Ab hm;obtain⟨l0,h2,hm⟩:=hm
 obtain rfl:=Gu hp0 h2
 replace hm:=Ad hm;obtain⟨v0,l11716_0,rfl,hm⟩:=hm
 replace hm:=Ad hm;obtain⟨v1,l11716_1,rfl,hm⟩:=hm
 replace hm:=Ad hm;obtain⟨v2,l11716_2,rfl,hm⟩:=hm
 replace hm:=AC hm;obtain⟨rfl,hm⟩:=hm
 replace hm:=Ai hm;obtain⟨x0,rfl,hm⟩:=hm
 replace hm:=Ab hm;obtain⟨y0,h3,hm⟩:=hm
 obtain rfl:=Jf h3
 replace hm:=Ab hm;obtain⟨y1,h4,hm⟩:=hm
 obtain rfl:=Jf h4
 replace hm:=Ab hm;obtain⟨y2,h5,hm⟩:=hm
 obtain rfl:=MG hp1 h5
 replace hm:=Ab hm;obtain⟨q0,h6,hm⟩:=hm
 obtain rfl:=Gu hp2 h6
 replace hm:=Ab hm;obtain⟨q1,h7,hm⟩:=hm
 obtain rfl:=Gu hp3 h7
 refine⟨by simp,?_⟩
 exact .same (F':=(fr 32 [(0,(pt 2 0)),(1,(.map (some 3)))])) (H':=(hT 6 [(.cells Ay true false []),(oC [zI x0,(sc 4 0 4 (NC.n y0) (NC.c y0)),(sc 5 0 1 (NC.n y1) (NC.c y1))]),(.map (Akd.es y2) (Akd.clock y2)),oC q0,oC q1])) (by kernel_rfl) (by kernel_rfl) (uU pu n x0 (NC.n y0) (NC.c y0) (NC.n y1) (NC.c y1) (Akd.es y2) (Akd.clock y2) q0 q1 hm)
end
end Go.TpDM
set_option maxRecDepth 100000
namespace Go.TpDM
open Go.Sp Go.TpD
noncomputable section
def L:Nat:=1000
def Pg (pu:Af):Af:=fun g args=>
 bb (Nat.beq g 3) (m3 pu L args) (bb (Nat.beq g 10) (m10 pu L args) (bb (Nat.beq g 11) (m11 pu L args) (bb (Nat.beq g 13) (m13 pu L args) (bb (Nat.beq g 45) (m45 pu L args) (bb (Nat.beq g 47) (m47 pu L args) (bb (Nat.beq g 48) (m48 pu L args) (bb (Nat.beq g 49) (m49 pu L args) (bb (Nat.beq g 80) (m80 pu L args) (bb (Nat.beq g 90) (m90 pu L args) (bb (Nat.beq g 104) (bJ pu L args) (bb (Nat.beq g 105) (bM pu L args) (bb (Nat.beq g 106) (bN pu L args) (bb (Nat.beq g 107) (bO pu L args) (bb (Nat.beq g 157) (bP pu L args) (bb (Nat.beq g 158) (bQ pu L args) (bb (Nat.beq g 197) (bR pu L args) (bb (Nat.beq g 10120) (K3 pu L args) (bb (Nat.beq g 10460) (K6 pu L args) (bb (Nat.beq g 11080) (K7 pu L args) (bb (Nat.beq g 11090) (LJ pu L args) (bb (Nat.beq g 12520) (LQ pu L args) (bb (Nat.beq g 165) (OA args) (bb (Nat.beq g 204) (OB args) (bb (Nat.beq g 14) (QL args) (none)))))))))))))))))))))))))
def OQ:Nat→Af:=fun n=>Nat.rec (motive:=fun _=>Af) (fun _ _=>none) (fun _ ih=>Pg ih) n
end
end Go.TpDM
