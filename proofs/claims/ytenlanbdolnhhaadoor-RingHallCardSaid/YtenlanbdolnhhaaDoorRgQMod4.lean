/- Made from wip. -/
import Derived.Test.YtenlanbdolnhhaaDoorRgQMod0x

set_option maxRecDepth 100000
set_option maxHeartbeats 20000000
set_option linter.unusedVariables false
namespace Go.RgQM
open Go.Sp Go.RgQ
noncomputable section
def WE (pu:Af) (n:Nat):OV:=
 (some (.bool true))
def O5 (pu:Af) (n:Nat) (ih0:Sl→Sl→Int→Int→OV) (s0 s1:Sl) (z1 z2:Int):OV:=
 (bb (AY z2 z1) (oo (EA z2) none fun k1=>(bb (an (Nat.blt k1 (Sl.n s0)) true) (oo (AL (Sl.cs s0) (k1*1)) none fun v0=>(oo (Bi .i64 v0) none fun x0=>(bb (an (Nat.blt k1 (Sl.n s1)) true) (oo (AL (Sl.cs s1) (k1*1)) none fun v1=>(oo (Bi .i64 v1) none fun x1=>(bb (nt (Bd x0 x1)) (some (.bool false)) (ih0 s0 s1 z1 (Aj .i64 (Int.add (Int.ofNat k1) (1:Int))))))) none))) none)) (WE pu n))
def OH (pu:Af) (n w:Nat):Sl→Sl→Int→Int→OV:=
 Nat.rec (motive:=fun _=>Sl→Sl→Int→Int→OV) (fun _ _ _ _=>none) (fun _ ih0=>O5 pu n ih0) w
def AcW (pu:Af) (n:Nat) (s0 s1:Sl):OV:=
 (bb (nt (Bd (Int.ofNat (Sl.n s0)) (Int.ofNat (Sl.n s1)))) (some (.bool false)) (OH pu n n s0 s1 (Int.ofNat (Sl.n s0)) (0:Int)))
def m21 (pu:Af) (n:Nat) (args:LV):OV:=
 (ll args none fun a0 args=>(ll args none fun a1 args=>(ll args (oo (Bj 1 a0) none fun s0=>(oo (Bj 1 a1) none fun s1=>(AcW pu n s0 s1))) fun _ _=>none)))
theorem AcY (pu:Af) (n:Nat) {v:Value} (hm:WE pu n=some v):BN tt (Bb tabs isP pu (inl pu)) 1 Yk (fr 26 []) AO (Fin tt 1 [.tmp 4] v):=by
 unfold WE at hm
 refine .then (.rK (.ghs (fr 26 [(4,zB true)]) AO (.k0 [false] [] [4]) ?_))
 refine .ret ?_
 exact A7 (zB true) hm
theorem r21 {call:A8} (pu:Af) (n:Nat) (hcall:call=Bb tabs isP pu (inl pu)) {args:LV} {v:Value} (hm:m21 pu n args=some v) (_:∀ x∈args,closed2 x=true):args.length≤26∧BN tt call 1 R5 (Fr.made 26 args) (Ao tabs) (Fin tt 1 [.tmp 4] v):=by
 subst hcall
 unfold m21 at hm
 replace hm:=Ad hm;obtain⟨a0,args_0,rfl,hm⟩:=hm
 replace hm:=Ad hm;obtain⟨a1,args_1,rfl,hm⟩:=hm
 replace hm:=AC hm;obtain⟨rfl,hm⟩:=hm
 replace hm:=Al hm;obtain⟨s0,rfl,hm⟩:=hm
 replace hm:=Al hm;obtain⟨s1,rfl,hm⟩:=hm
 unfold AcW at hm
 refine⟨by simp,?_⟩
 refine .same (F':=(fr 26 [(0,Sl.v 1 s0),(1,Sl.v 1 s1)])) (H':=AO) (by kernel_rfl) (by kernel_rfl) ?_
 refine .then (.rK (.ghs (fr 26 [(0,Sl.v 1 s0),(1,Sl.v 1 s1)]) AO (.k0 [false] [] [0,1]) ?_))
 refine .then (.then (.rK (.ghs (fr 26 [(0,Sl.v 1 s0),(1,Sl.v 1 s1),(10,(zB (nt (Bd (Int.ofNat (Sl.n s0)) (Int.ofNat (Sl.n s1))))))]) AO (.k0 [false] [] [0,1,10]) ?_)))
 replace hm:=Ag hm;rcases hm with⟨h0,hm⟩ | ⟨h0,hm⟩
 ·refine DT (nt (Bd (Int.ofNat (Sl.n s0)) (Int.ofNat (Sl.n s1)))) h0 ?_
  refine .then (.rK (.ghs (fr 26 [(4,zB false)]) AO (.k0 [false] [] [4]) ?_))
  refine .ret ?_
  exact A7 (zB false) hm
 ·refine Eb (nt (Bd (Int.ofNat (Sl.n s0)) (Int.ofNat (Sl.n s1)))) h0 ?_
  refine .skip (.ghs (fr 26 [(0,Sl.v 1 s0),(1,Sl.v 1 s1)]) AO (.k0 [false] [] [0,1]) ?_)
  refine .join (v:=v) (fun y:Unit=>((fr 26 []),AO)) (fun y=>WE pu n) ?_ ?_
  ·rintro _ hm
   exact AcY pu n hm
  ·refine .then (.rK (.ghs (fr 26 [(0,Sl.v 1 s0),(1,Sl.v 1 s1),(12,(zI (Int.ofNat (Sl.n s0)))),(13,(zI (0:Int)))]) AO (.k0 [false] [] [0,1,12,13]) ?_))
   refine .block (.loopM (v:=v) (fun y:Sl×Sl×Int×Int=>((fr 26 [(0,(Sl.v 1 y.1)),(1,(Sl.v 1 y.2.1)),(12,(zI y.2.2.1)),(13,(zI y.2.2.2))]),AO)) (fun w y=>OH pu n w y.1 y.2.1 y.2.2.1 y.2.2.2) n ⟨(s0,s1,(Int.ofNat (Sl.n s0)),(0:Int)),hm,(.k0 [false] [] [0,1,12,13])⟩ (fun _=>rfl) ?_)
   rintro w0 ⟨s2,s3,z1,z2⟩ hm
   replace hm:O5 pu n (OH pu n w0) s2 s3 z1 z2=some v:=hm
   unfold O5 at hm
   refine .then (.rK (.ghs (fr 26 [(0,Sl.v 1 s2),(1,Sl.v 1 s3),(12,zI z1),(13,zI z2),(14,(zB (AY z2 z1)))]) AO (.k0 [false] [] [0,1,12,13,14]) ?_))
   refine .then ?_
   replace hm:=Ag hm;rcases hm with⟨h1,hm⟩ | ⟨h1,hm⟩
   ·refine DT (AY z2 z1) h1 ?_
    refine .skip (.ghs (fr 26 [(0,Sl.v 1 s2),(1,Sl.v 1 s3),(12,zI z1),(13,zI z2)]) AO (.k0 [false] [] [0,1,12,13]) ?_)
    refine .then (.block (.then (.rK (.ghs (fr 26 [(0,Sl.v 1 s2),(1,Sl.v 1 s3),(5,zI z2),(12,zI z1),(13,zI z2)]) AO (.k0 [false] [] [0,1,5,12,13]) ?_))))
    refine .then ?_
    replace hm:=Ab hm;obtain⟨k1,h2,hm⟩:=hm
    obtain rfl:=AR h2
    replace hm:=Ae hm;obtain⟨h3,hm⟩:=hm
    replace hm:=K8 hm;obtain⟨x0,h4,hm⟩:=hm
    replace hm:=Ae hm;obtain⟨h5,hm⟩:=hm
    replace hm:=K8 hm;obtain⟨x1,h6,hm⟩:=hm
    refine .reg (eC 2 (keep AO (bb (an (Nat.blt k1 (Sl.n s2)) true) (some (Cv (k1*1) (Sl.cs s2))) none)) (AX h3) (eD (keep AO (AL (Sl.cs s2) (k1*1))) (AZ h4) (eC 2 (keep AO (bb (an (Nat.blt k1 (Sl.n s3)) true) (some (Cv (k1*1) (Sl.cs s3))) none)) (AX h5) (eD (keep AO (AL (Sl.cs s3) (k1*1))) (AZ h6) (eE))))) ?_
    refine .ghs (fr 26 [(0,Sl.v 1 s2),(1,Sl.v 1 s3),(12,zI z1),(13,(zI (Int.ofNat k1))),(24,(zB (nt (Bd x0 x1))))]) AO (.k0 [false] [] [0,1,12,13,24]) ?_
    replace hm:=Ag hm;rcases hm with⟨h7,hm⟩ | ⟨h7,hm⟩
    ·refine DT (nt (Bd x0 x1)) h7 ?_
     refine .then (.rK (.ghs (fr 26 [(4,zB false)]) AO (.k0 [false] [] [4]) ?_))
     refine .ret ?_
     exact A7 (zB false) hm
    ·refine Eb (nt (Bd x0 x1)) h7 ?_
     refine .skip (.ghs (fr 26 [(0,Sl.v 1 s2),(1,Sl.v 1 s3),(12,zI z1),(13,(zI (Int.ofNat k1)))]) AO (.k0 [false] [] [0,1,12,13]) ?_)
     refine .rK ?_
     exact⟨(s2,s3,z1,(Aj .i64 (Int.add (Int.ofNat k1) (1:Int)))),hm,(.k0 [false] [] [0,1,12,13])⟩
   ·refine Eb (AY z2 z1) h1 ?_
    refine .exit ?_
    exact⟨(),hm,(.k0 [false] [] [])⟩

def AcZ (pu:Af) (n:Nat) (x0 x1:Int):OV:=
 (oo (pu 46 [(.agg ⟨[.int .i64 x0,.int .u32 x1]⟩)]) none fun v0=>(oo (Bj 1 v0) none fun s0=>(some (.agg ⟨[.int .i64 x0,Sl.v 1 s0]⟩))))
def m23 (pu:Af) (n:Nat) (args:LV):OV:=
 (ll args none fun a0 args=>(ll args (oo (Bt a0) none fun l0=>(ll l0 none fun v0 l0=>(ll l0 none fun v1 l0=>(ll l0 (oo (Bi .i64 v0) none fun x0=>(oo (Bi .u32 v1) none fun x1=>(AcZ pu n x0 x1))) fun _ _=>none)))) fun _ _=>none))
theorem r23 {call:A8} (pu:Af) (n:Nat) (hcall:call=Bb tabs isP pu (inl pu)) {args:LV} {v:Value} (hm:m23 pu n args=some v) (_:∀ x∈args,closed2 x=true):args.length≤8∧BN tt call 1 Wq (Fr.made 8 args) (Ao tabs) (Fin tt 1 [.cell 2 28] v):=by
 subst hcall
 unfold m23 at hm
 replace hm:=Ad hm;obtain⟨a0,args_0,rfl,hm⟩:=hm
 replace hm:=AC hm;obtain⟨rfl,hm⟩:=hm
 replace hm:=BG hm;obtain⟨l0,rfl,hm⟩:=hm
 replace hm:=Ad hm;obtain⟨v0,l9147_0,rfl,hm⟩:=hm
 replace hm:=Ad hm;obtain⟨v1,l9147_1,rfl,hm⟩:=hm
 replace hm:=AC hm;obtain⟨rfl,hm⟩:=hm
 replace hm:=Ai hm;obtain⟨x0,rfl,hm⟩:=hm
 replace hm:=Ai hm;obtain⟨x1,rfl,hm⟩:=hm
 unfold AcZ at hm
 refine⟨by simp,?_⟩
 refine .same (F':=(fr 8 [(0,(.agg ⟨[zI x0,.int .u32 x1]⟩))])) (H':=AO) (by kernel_rfl) (by kernel_rfl) ?_
 refine .then (.rK (.ghs (fr 8 [(1,pt 1 0),(2,(pt 2 0))]) (hT 3 [(oC [zI x0,.int .u32 x1]),(oC [(zI (0:Int)),(.slice none 0 0)])]) (.k0 [false] [.tmp 1 false,.tmp 2 false] [1,2]) ?_))
 refine .then ?_
 replace hm:=Yy hm;obtain⟨s0,h0,hm⟩:=hm
 refine .reg (eC 3 ((oo (pu 46 [(.agg ⟨[zI x0,.int .u32 x1]⟩)]) none fun v=>some (v,(hT 3 [(oC [zI x0,.int .u32 x1]),(oC [(zI (0:Int)),(.slice none 0 0)])])))) (AB h0) (eE)) ?_
 refine .ghs (fr 8 [(2,pt 1 0)]) (hT 2 [(oC [zI x0,Sl.v 1 s0])]) (.k0 [false] [.tmp 2 false] [2]) ?_
 refine .ret ?_
 exact A7 (.agg ⟨[zI x0,Sl.v 1 s0]⟩) hm

def Ac1 (pu:Af) (n:Nat) (x0:Int) (s0:Sl):OV:=
 (oo (pu 50 [(.agg ⟨[.int .i64 x0,Sl.v 1 s0]⟩)]) none fun v0=>(oo (Bi .i64 v0) none fun x1=>(bb (nt (Bd x1 (0:Int))) (some (.tuple ⟨[(.agg ⟨[(.int .i64 (0:Int)),(.int .u32 (0:Int))]⟩),.int .i64 x1]⟩)) (oo (pu 51 [.int .i64 x0,Sl.v 1 s0]) none fun v1=>(oo (Bt v1) none fun l0=>(ll l0 none fun v2 l0=>(ll l0 none fun v3 l0=>(ll l0 (oo (Bi .i64 v2) none fun x2=>(oo (Bi .u32 v3) none fun x3=>(some (.tuple ⟨[(.agg ⟨[.int .i64 x2,.int .u32 x3]⟩),(.int .i64 (0:Int))]⟩)))) fun _ _=>none))))))))
def m24 (pu:Af) (n:Nat) (args:LV):OV:=
 (ll args none fun a0 args=>(ll args (oo (Bt a0) none fun l0=>(ll l0 none fun v0 l0=>(ll l0 none fun v1 l0=>(ll l0 (oo (Bi .i64 v0) none fun x0=>(oo (Bj 1 v1) none fun s0=>(Ac1 pu n x0 s0))) fun _ _=>none)))) fun _ _=>none))
theorem r24 {call:A8} (pu:Af) (n:Nat) (hcall:call=Bb tabs isP pu (inl pu)) {args:LV} {v:Value} (hm:m24 pu n args=some v) (_:∀ x∈args,closed2 x=true):args.length≤16∧BN tt call 1 R6 (Fr.made 16 args) (Ao tabs) (Fin tt 1 [.cell 2 45,.tmp 3] v):=by
 subst hcall
 unfold m24 at hm
 replace hm:=Ad hm;obtain⟨a0,args_0,rfl,hm⟩:=hm
 replace hm:=AC hm;obtain⟨rfl,hm⟩:=hm
 replace hm:=BG hm;obtain⟨l0,rfl,hm⟩:=hm
 replace hm:=Ad hm;obtain⟨v0,l9163_0,rfl,hm⟩:=hm
 replace hm:=Ad hm;obtain⟨v1,l9163_1,rfl,hm⟩:=hm
 replace hm:=AC hm;obtain⟨rfl,hm⟩:=hm
 replace hm:=Ai hm;obtain⟨x0,rfl,hm⟩:=hm
 replace hm:=Al hm;obtain⟨s0,rfl,hm⟩:=hm
 unfold Ac1 at hm
 refine⟨by simp,?_⟩
 refine .same (F':=(fr 16 [(0,(.agg ⟨[zI x0,Sl.v 1 s0]⟩))])) (H':=AO) (by kernel_rfl) (by kernel_rfl) ?_
 refine .then (.rK (.ghs (fr 16 [(1,pt 1 0),(2,(pt 2 0))]) (hT 3 [(oC [zI x0,Sl.v 1 s0]),(oC [(zI (0:Int)),(.int .u32 (0:Int))])]) (.k0 [false] [.tmp 1 false,.tmp 2 false] [1,2]) ?_))
 refine .then (.then ?_)
 replace hm:=K8 hm;obtain⟨x1,h0,hm⟩:=hm
 refine .reg (eC 1 ((oo (pu 50 [(.agg ⟨[zI x0,Sl.v 1 s0]⟩)]) none fun v=>some (v,(hT 3 [(oC [zI x0,Sl.v 1 s0]),(oC [(zI (0:Int)),(.int .u32 (0:Int))])])))) (AB h0) (eE)) ?_
 refine .ghs (fr 16 [(1,pt 1 0),(2,(pt 2 0)),(4,zI x1)]) (hT 3 [(oC [zI x0,Sl.v 1 s0]),(oC [(zI (0:Int)),(.int .u32 (0:Int))])]) (.k0 [false] [.tmp 1 false,.tmp 2 false] [1,2,4]) ?_
 refine .then (.rK (.ghs (fr 16 [(1,pt 1 0),(2,(pt 2 0)),(4,zI x1),(8,(zB (nt (Bd x1 (0:Int)))))]) (hT 3 [(oC [zI x0,Sl.v 1 s0]),(oC [(zI (0:Int)),(.int .u32 (0:Int))])]) (.k0 [false] [.tmp 1 false,.tmp 2 false] [1,2,4,8]) ?_))
 replace hm:=Ag hm;rcases hm with⟨h1,hm⟩ | ⟨h1,hm⟩
 ·refine DT (nt (Bd x1 (0:Int))) h1 ?_
  refine .then (.rK (.ghs (fr 16 [(2,pt 1 0),(3,zI x1)]) (hT 2 [(oC [(zI (0:Int)),(.int .u32 (0:Int))])]) (.k0 [false] [.tmp 2 false] [2,3]) ?_))
  refine .ret ?_
  exact A7 (.tuple ⟨[(.agg ⟨[(zI (0:Int)),(.int .u32 (0:Int))]⟩),zI x1]⟩) hm
 ·refine Eb (nt (Bd x1 (0:Int))) h1 ?_
  refine .skip (.ghs (fr 16 [(1,pt 1 0),(2,(pt 2 0))]) (hT 3 [(oC [zI x0,Sl.v 1 s0]),(oC [(zI (0:Int)),(.int .u32 (0:Int))])]) (.k0 [false] [.tmp 1 false,.tmp 2 false] [1,2]) ?_)
  refine .then ?_
  replace hm:=Ab hm;obtain⟨v2,h2,hm⟩:=hm
  replace hm:=BG hm;obtain⟨l1,rfl,hm⟩:=hm
  replace hm:=Ad hm;obtain⟨v3,l9192_0,rfl,hm⟩:=hm
  replace hm:=Ad hm;obtain⟨v4,l9192_1,rfl,hm⟩:=hm
  replace hm:=AC hm;obtain⟨rfl,hm⟩:=hm
  replace hm:=Ai hm;obtain⟨x2,rfl,hm⟩:=hm
  replace hm:=Ai hm;obtain⟨x3,rfl,hm⟩:=hm
  refine .reg (eC 4 ((oo (pu 51 [zI x0,Sl.v 1 s0]) none fun v=>some (v,(hT 3 [(oC [zI x0,Sl.v 1 s0]),(oC [(zI (0:Int)),(.int .u32 (0:Int))])])))) (AB h2) (eE)) ?_
  refine .ghs (fr 16 [(2,pt 1 0),(3,(zI (0:Int)))]) (hT 2 [(oC [zI x2,.int .u32 x3])]) (.k0 [false] [.tmp 2 false] [2,3]) ?_
  refine .ret ?_
  exact A7 (.tuple ⟨[(.agg ⟨[zI x2,.int .u32 x3]⟩),(zI (0:Int))]⟩) hm
def WF (pu:Af) (n:Nat):OV:=
 (some (.bool true))
def WG (pu:Af) (n:Nat) (ih0:Int→Int→Int→OV) (z1 z2 z3:Int) (b0:Bool):OV:=
 (bb b0 (some (.bool false)) (ih0 z1 z2 (Aj .i64 (Int.add z3 (1:Int)))))
def Zw (pu:Af) (n:Nat) (ih0:Int→Int→Int→OV) (z1 z2 z3:Int):OV:=
 (bb (nt (AY (bb (AY z2 z1) z2 z1) z3)) (bb (nt (Bd z3 (0:Int))) (bb (Bd (Int.tmod z1 z3) (0:Int)) (bb (nt (Bd z3 (0:Int))) (WG pu n ih0 z1 z2 z3 (Bd (Int.tmod z2 z3) (0:Int))) none) (WG pu n ih0 z1 z2 z3 false)) none) (WF pu n))
def WH (pu:Af) (n w:Nat):Int→Int→Int→OV:=
 Nat.rec (motive:=fun _=>Int→Int→Int→OV) (fun _ _ _=>none) (fun _ ih0=>Zw pu n ih0) w
def Ac2 (pu:Af) (n:Nat) (x0 x1:Int):OV:=
 (WH pu n n x0 x1 (2:Int))
def m25 (pu:Af) (n:Nat) (args:LV):OV:=
 (ll args none fun a0 args=>(ll args none fun a1 args=>(ll args (oo (Bi .i64 a0) none fun x0=>(oo (Bi .i64 a1) none fun x1=>(Ac2 pu n x0 x1))) fun _ _=>none)))
theorem Ac3 (pu:Af) (n:Nat) {v:Value} (hm:WF pu n=some v):BN tt (Bb tabs isP pu (inl pu)) 1 Yl (fr 23 []) AO (Fin tt 1 [.tmp 4] v):=by
 unfold WF at hm
 refine .then (.rK (.ghs (fr 23 [(4,zB true)]) AO (.k0 [false] [] [4]) ?_))
 refine .ret ?_
 exact A7 (zB true) hm
theorem r25 {call:A8} (pu:Af) (n:Nat) (hcall:call=Bb tabs isP pu (inl pu)) {args:LV} {v:Value} (hm:m25 pu n args=some v) (_:∀ x∈args,closed2 x=true):args.length≤23∧BN tt call 1 R7 (Fr.made 23 args) (Ao tabs) (Fin tt 1 [.tmp 4] v):=by
 subst hcall
 unfold m25 at hm
 replace hm:=Ad hm;obtain⟨a0,args_0,rfl,hm⟩:=hm
 replace hm:=Ad hm;obtain⟨a1,args_1,rfl,hm⟩:=hm
 replace hm:=AC hm;obtain⟨rfl,hm⟩:=hm
 replace hm:=Ai hm;obtain⟨x0,rfl,hm⟩:=hm
 replace hm:=Ai hm;obtain⟨x1,rfl,hm⟩:=hm
 unfold Ac2 at hm
 refine⟨by simp,?_⟩
 refine .same (F':=(fr 23 [(0,zI x0),(1,zI x1)])) (H':=AO) (by kernel_rfl) (by kernel_rfl) ?_
 refine .then (.rK (.ghs (fr 23 [(0,zI x0),(1,zI x1)]) AO (.k0 [false] [] [0,1]) ?_))
 refine .join (v:=v) (fun y:Unit=>((fr 23 []),AO)) (fun y=>WF pu n) ?_ ?_
 ·rintro _ hm
  exact Ac3 pu n hm
 ·refine .then (.rK (.ghs (fr 23 [(0,zI x0),(1,zI x1),(5,(zI (2:Int)))]) AO (.k0 [false] [] [0,1,5]) ?_))
  refine .block (.loopM (v:=v) (fun y:Int×Int×Int=>((fr 23 [(0,(zI y.1)),(1,(zI y.2.1)),(5,(zI y.2.2))]),AO)) (fun w y=>WH pu n w y.1 y.2.1 y.2.2) n ⟨(x0,x1,(2:Int)),hm,(.k0 [false] [] [0,1,5])⟩ (fun _=>rfl) ?_)
  rintro w0 ⟨z1,z2,z3⟩ hm
  replace hm:Zw pu n (WH pu n w0) z1 z2 z3=some v:=hm
  unfold Zw at hm
  refine .then (.then (.rK (.ghs (fr 23 [(0,zI z1),(1,zI z2),(5,zI z3),(10,(zB (nt (AY (bb (AY z2 z1) z2 z1) z3))))]) AO (.k0 [false] [] [0,1,5,10]) ?_)))
  replace hm:=Ag hm;rcases hm with⟨h0,hm⟩ | ⟨h0,hm⟩
  ·refine DT (nt (AY (bb (AY z2 z1) z2 z1) z3)) h0 ?_
   refine .skip (.ghs (fr 23 [(0,zI z1),(1,zI z2),(5,zI z3)]) AO (.k0 [false] [] [0,1,5]) ?_)
   refine .then (.block (.join (v:=v) (fun y:Int×Int×Int×Bool=>((fr 23 [(0,(zI y.1)),(1,(zI y.2.1)),(5,(zI y.2.2.1)),(22,(zB y.2.2.2))]),AO)) (fun y=>WG pu n (WH pu n w0) y.1 y.2.1 y.2.2.1 y.2.2.2) ?_ ?_))
   ·rintro⟨z4,z5,z6,b0⟩ hm
    unfold WG at hm
    replace hm:=Ag hm;rcases hm with⟨h1,hm⟩ | ⟨h1,hm⟩
    ·refine .ifT b0 (by kernel_rfl) h1 ?_
     refine .then (.rK (.ghs (fr 23 [(4,zB false)]) AO (.k0 [false] [] [4]) ?_))
     refine .ret ?_
     exact A7 (zB false) hm
    ·refine .ifF b0 (by kernel_rfl) h1 ?_
     refine .skip (.ghs (fr 23 [(0,zI z4),(1,zI z5),(5,zI z6)]) AO (.k0 [false] [] [0,1,5]) ?_)
     refine .rK ?_
     exact⟨(z4,z5,(Aj .i64 (Int.add z6 (1:Int)))),hm,(.k0 [false] [] [0,1,5])⟩
   ·replace hm:=Ae hm;obtain⟨h2,hm⟩:=hm
    replace hm:=Ag hm;rcases hm with⟨h3,hm⟩ | ⟨h3,hm⟩
    ·replace hm:=Ae hm;obtain⟨h4,hm⟩:=hm
     refine .reg (eC 2 (keep AO (bb (Bd z3 (0:Int)) none (some (zI (Int.tmod z1 z3))))) (XH h2) (eD (some ((zB (Bd (Int.tmod z1 z3) (0:Int))),AO)) (show _=some ((zB true),_) from (by rw[show (Bd (Int.tmod z1 z3) (0:Int))=true from h3])) (eC 3 (keep AO (bb (Bd z3 (0:Int)) none (some (zI (Int.tmod z2 z3))))) (XH h4) (eE)))) ?_
     exact⟨(z1,z2,z3,(Bd (Int.tmod z2 z3) (0:Int))),hm,(.k0 [false] [] [0,1,5,22])⟩
    ·refine .reg (eC 2 (keep AO (bb (Bd z3 (0:Int)) none (some (zI (Int.tmod z1 z3))))) (XH h2) (eD (some ((zB (Bd (Int.tmod z1 z3) (0:Int))),AO)) (show _=some ((zB false),_) from (by rw[show (Bd (Int.tmod z1 z3) (0:Int))=false from h3])) (eE))) ?_
     exact⟨(z1,z2,z3,false),hm,(.k0 [false] [] [0,1,5,22])⟩
  ·refine Eb (nt (AY (bb (AY z2 z1) z2 z1) z3)) h0 ?_
   refine .exit ?_
   exact⟨(),hm,(.k0 [false] [] [])⟩
def WI (pu:Af) (n:Nat) (z1 z2 z3 z4:Int):OV:=
 (some (.agg ⟨[.int .i64 z3,.int .u32 z4]⟩))
def Zx (pu:Af) (n:Nat) (ih0:Int→Sl→Int→Int→Int→Int→Int→Int→Int→Int→OV) (z1:Int) (s0:Sl) (z2 z3 z4 z5 z6 z7 z8 z9:Int):OV:=
 (bb (AY z3 z2) (oo (EA z3) none fun k1=>(bb (an (Nat.blt k1 (Sl.n s0)) true) (oo (AL (Sl.cs s0) (k1*1)) none fun v0=>(oo (Bi .i64 v0) none fun x0=>(oo (pu 47 [(.agg ⟨[.int .i64 z4,.int .u32 z5]⟩),(.int .i64 (Aj .i64 (Int.mul x0 z1)))]) none fun v1=>(oo (Bi .i64 v1) none fun x1=>(oo (EA x1) none fun k2=>(ih0 z1 s0 z2 (Aj .i64 (Int.add (Int.ofNat k1) (1:Int))) z4 z5 z6 z7 z8 (jF .u32 z9 (QW .u32 (1:Int) k2)))))))) none)) (WI pu n z6 z7 z8 z9))
def Zy (pu:Af) (n w:Nat):Int→Sl→Int→Int→Int→Int→Int→Int→Int→Int→OV:=
 Nat.rec (motive:=fun _=>Int→Sl→Int→Int→Int→Int→Int→Int→Int→Int→OV) (fun _ _ _ _ _ _ _ _ _ _=>none) (fun _ ih0=>Zx pu n ih0) w
def Ac4 (pu:Af) (n:Nat) (x0 x1 x2:Int):OV:=
 (oo (pu 46 [(.agg ⟨[.int .i64 x0,.int .u32 x1]⟩)]) none fun v0=>(oo (Bj 1 v0) none fun s0=>(Zy pu n n x2 s0 (Int.ofNat (Sl.n s0)) (0:Int) x0 x1 (0:Int) (0:Int) x0 (0:Int))))
def m26 (pu:Af) (n:Nat) (args:LV):OV:=
 (ll args none fun a0 args=>(ll args none fun a1 args=>(ll args (oo (Bt a0) none fun l0=>(ll l0 none fun v0 l0=>(ll l0 none fun v1 l0=>(ll l0 (oo (Bi .i64 v0) none fun x0=>(oo (Bi .u32 v1) none fun x1=>(oo (Bi .i64 a1) none fun x2=>(Ac4 pu n x0 x1 x2)))) fun _ _=>none)))) fun _ _=>none)))
theorem Ac5 (pu:Af) (n:Nat) (z1 z2 z3 z4:Int) {v:Value} (hm:WI pu n z1 z2 z3 z4=some v):BN tt (Bb tabs isP pu (inl pu)) 1 Ym (fr 30 [(4,pt 1 0),(5,(pt 2 0))]) (hT 3 [(oC [zI z1,.int .u32 z2]),(oC [zI z3,.int .u32 z4])]) (Fin tt 1 [.cell 4 45] v):=by
 unfold WI at hm
 refine .then (.rK (.ghs (fr 30 [(4,pt 1 0)]) (hT 2 [(oC [zI z3,.int .u32 z4])]) (.k0 [false] [.tmp 4 false] [4]) ?_))
 refine .ret ?_
 exact A7 (.agg ⟨[zI z3,.int .u32 z4]⟩) hm
theorem r26 {call:A8} (pu:Af) (n:Nat) (hcall:call=Bb tabs isP pu (inl pu)) {args:LV} {v:Value} (hm:m26 pu n args=some v) (_:∀ x∈args,closed2 x=true):args.length≤30∧BN tt call 1 R8 (Fr.made 30 args) (Ao tabs) (Fin tt 1 [.cell 4 45] v):=by
 subst hcall
 unfold m26 at hm
 replace hm:=Ad hm;obtain⟨a0,args_0,rfl,hm⟩:=hm
 replace hm:=Ad hm;obtain⟨a1,args_1,rfl,hm⟩:=hm
 replace hm:=AC hm;obtain⟨rfl,hm⟩:=hm
 replace hm:=BG hm;obtain⟨l0,rfl,hm⟩:=hm
 replace hm:=Ad hm;obtain⟨v0,l9285_0,rfl,hm⟩:=hm
 replace hm:=Ad hm;obtain⟨v1,l9285_1,rfl,hm⟩:=hm
 replace hm:=AC hm;obtain⟨rfl,hm⟩:=hm
 replace hm:=Ai hm;obtain⟨x0,rfl,hm⟩:=hm
 replace hm:=Ai hm;obtain⟨x1,rfl,hm⟩:=hm
 replace hm:=Ai hm;obtain⟨x2,rfl,hm⟩:=hm
 unfold Ac4 at hm
 refine⟨by simp,?_⟩
 refine .same (F':=(fr 30 [(0,(.agg ⟨[zI x0,.int .u32 x1]⟩)),(1,zI x2)])) (H':=AO) (by kernel_rfl) (by kernel_rfl) ?_
 refine .then (.rK (.ghs (fr 30 [(1,zI x2),(2,pt 1 0),(4,(pt 2 0))]) (hT 3 [(oC [zI x0,.int .u32 x1]),(oC [(zI (0:Int)),(.int .u32 (0:Int))])]) (.k0 [false] [.tmp 2 false,.tmp 4 false] [1,2,4]) ?_))
 refine .then (.rK (.ghs (fr 30 [(1,zI x2),(2,pt 1 0),(4,(pt 2 0)),(5,(pt 3 0))]) (hT 4 [(oC [zI x0,.int .u32 x1]),(oC [(zI (0:Int)),(.int .u32 (0:Int))]),(oC [zI x0,(.int .u32 (0:Int))])]) (.k0 [false] [.tmp 2 false,.tmp 4 false,.tmp 5 false] [1,2,4,5]) ?_))
 refine .join (v:=v) (fun y:Int×Int×Int×Int=>((fr 30 [(4,pt 1 0),(5,(pt 2 0))]),(hT 3 [(oC [(zI y.1),(.int .u32 y.2.1)]),(oC [(zI y.2.2.1),(.int .u32 y.2.2.2)])]))) (fun y=>WI pu n y.1 y.2.1 y.2.2.1 y.2.2.2) ?_ ?_
 ·rintro⟨z1,z2,z3,z4⟩ hm
  exact Ac5 pu n z1 z2 z3 z4 hm
 ·refine .then ?_
  replace hm:=Yy hm;obtain⟨s0,h0,hm⟩:=hm
  refine .reg (eC 1 ((oo (pu 46 [(.agg ⟨[zI x0,.int .u32 x1]⟩)]) none fun v=>some (v,(hT 4 [(oC [zI x0,.int .u32 x1]),(oC [(zI (0:Int)),(.int .u32 (0:Int))]),(oC [zI x0,(.int .u32 (0:Int))])])))) (AB h0) (eE)) ?_
  refine .ghs (fr 30 [(1,zI x2),(2,pt 1 0),(4,(pt 2 0)),(5,(pt 3 0)),(12,Sl.v 1 s0),(13,(zI (Int.ofNat (Sl.n s0)))),(14,(zI (0:Int)))]) (hT 4 [(oC [zI x0,.int .u32 x1]),(oC [(zI (0:Int)),(.int .u32 (0:Int))]),(oC [zI x0,(.int .u32 (0:Int))])]) (.k0 [false] [.tmp 2 false,.tmp 4 false,.tmp 5 false] [1,2,4,5,12,13,14]) ?_
  refine .block (.loopM (v:=v) (fun y:Int×Sl×Int×Int×Int×Int×Int×Int×Int×Int=>((fr 30 [(1,(zI y.1)),(2,pt 1 0),(4,(pt 2 0)),(5,(pt 3 0)),(12,(Sl.v 1 y.2.1)),(13,(zI y.2.2.1)),(14,(zI y.2.2.2.1))]),(hT 4 [(oC [(zI y.2.2.2.2.1),(.int .u32 y.2.2.2.2.2.1)]),(oC [(zI y.2.2.2.2.2.2.1),(.int .u32 y.2.2.2.2.2.2.2.1)]),(oC [(zI y.2.2.2.2.2.2.2.2.1),(.int .u32 y.2.2.2.2.2.2.2.2.2)])]))) (fun w y=>Zy pu n w y.1 y.2.1 y.2.2.1 y.2.2.2.1 y.2.2.2.2.1 y.2.2.2.2.2.1 y.2.2.2.2.2.2.1 y.2.2.2.2.2.2.2.1 y.2.2.2.2.2.2.2.2.1 y.2.2.2.2.2.2.2.2.2) n ⟨(x2,s0,(Int.ofNat (Sl.n s0)),(0:Int),x0,x1,(0:Int),(0:Int),x0,(0:Int)),hm,(.k0 [false] [.tmp 2 false,.tmp 4 false,.tmp 5 false] [1,2,4,5,12,13,14])⟩ (fun _=>rfl) ?_)
  rintro w0 ⟨z5,s1,z6,z7,z8,z9,z10,z11,z12,z13⟩ hm
  replace hm:Zx pu n (Zy pu n w0) z5 s1 z6 z7 z8 z9 z10 z11 z12 z13=some v:=hm
  unfold Zx at hm
  refine .then (.rK (.ghs (fr 30 [(1,zI z5),(2,pt 1 0),(4,(pt 2 0)),(5,(pt 3 0)),(12,Sl.v 1 s1),(13,zI z6),(14,zI z7),(15,(zB (AY z7 z6)))]) (hT 4 [(oC [zI z8,.int .u32 z9]),(oC [zI z10,.int .u32 z11]),(oC [zI z12,.int .u32 z13])]) (.k0 [false] [.tmp 2 false,.tmp 4 false,.tmp 5 false] [1,2,4,5,12,13,14,15]) ?_))
  refine .then ?_
  replace hm:=Ag hm;rcases hm with⟨h1,hm⟩ | ⟨h1,hm⟩
  ·refine DT (AY z7 z6) h1 ?_
   refine .skip (.ghs (fr 30 [(1,zI z5),(2,pt 1 0),(4,(pt 2 0)),(5,(pt 3 0)),(12,Sl.v 1 s1),(13,zI z6),(14,zI z7)]) (hT 4 [(oC [zI z8,.int .u32 z9]),(oC [zI z10,.int .u32 z11]),(oC [zI z12,.int .u32 z13])]) (.k0 [false] [.tmp 2 false,.tmp 4 false,.tmp 5 false] [1,2,4,5,12,13,14]) ?_)
   refine .then (.block (.then ?_))
   replace hm:=Ab hm;obtain⟨k1,h2,hm⟩:=hm
   obtain rfl:=AR h2
   replace hm:=Ae hm;obtain⟨h3,hm⟩:=hm
   replace hm:=K8 hm;obtain⟨x3,h4,hm⟩:=hm
   refine .reg (eD (keep (hT 4 [(oC [zI z8,.int .u32 z9]),(oC [zI z10,.int .u32 z11]),(oC [zI z12,.int .u32 z13])]) (bb (an (Nat.blt k1 (Sl.n s1)) true) (some (Cv (k1*1) (Sl.cs s1))) none)) (AX h3) (eD (keep (hT 4 [(oC [zI z8,.int .u32 z9]),(oC [zI z10,.int .u32 z11]),(oC [zI z12,.int .u32 z13])]) (AL (Sl.cs s1) (k1*1))) (AZ h4) (eE))) ?_
   refine .ghs (fr 30 [(1,zI z5),(2,pt 1 0),(4,(pt 2 0)),(5,(pt 3 0)),(7,zI x3),(12,Sl.v 1 s1),(13,zI z6),(14,(zI (Int.ofNat k1)))]) (hT 4 [(oC [zI z8,.int .u32 z9]),(oC [zI z10,.int .u32 z11]),(oC [zI z12,.int .u32 z13])]) (.k0 [false] [.tmp 2 false,.tmp 4 false,.tmp 5 false] [1,2,4,5,7,12,13,14]) ?_
   replace hm:=K8 hm;obtain⟨x4,h5,hm⟩:=hm
   replace hm:=Ab hm;obtain⟨k2,h6,hm⟩:=hm
   obtain rfl:=AR h6
   refine .reg (eC 6 ((oo (pu 47 [(.agg ⟨[zI z8,.int .u32 z9]⟩),(zI (Aj .i64 (Int.mul x3 z5)))]) none fun v=>some (v,(hT 4 [(oC [zI z8,.int .u32 z9]),(oC [zI z10,.int .u32 z11]),(oC [zI z12,.int .u32 z13])])))) (AB h5) (eE)) ?_
   refine .ghs (fr 30 [(1,zI z5),(2,pt 1 0),(4,(pt 2 0)),(5,(pt 3 0)),(12,Sl.v 1 s1),(13,zI z6),(14,(zI (Int.ofNat k1)))]) (hT 4 [(oC [zI z8,.int .u32 z9]),(oC [zI z10,.int .u32 z11]),(oC [zI z12,(.int .u32 (jF .u32 z13 (QW .u32 (1:Int) k2)))])]) (.k0 [false] [.tmp 2 false,.tmp 4 false,.tmp 5 false] [1,2,4,5,12,13,14]) ?_
   refine .rK ?_
   exact⟨(z5,s1,z6,(Aj .i64 (Int.add (Int.ofNat k1) (1:Int))),z8,z9,z10,z11,z12,(jF .u32 z13 (QW .u32 (1:Int) k2))),hm,(.k0 [false] [.tmp 2 false,.tmp 4 false,.tmp 5 false] [1,2,4,5,12,13,14])⟩
  ·refine Eb (AY z7 z6) h1 ?_
   refine .exit ?_
   exact⟨(z10,z11,z12,z13),hm,(.k0 [false] [.tmp 4 false,.tmp 5 false] [4,5])⟩
def WJ (pu:Af) (n:Nat):OV:=
 (some (.tuple ⟨[(.int .i64 (0:Int)),(.bool false)]⟩))
def Zz (pu:Af) (n:Nat) (ih0:Int→Int→Int→Int→Int→Int→OV) (z1 z2 z3 z4 z5 z6:Int):OV:=
 (bb (AY z2 z1) (oo (pu 48 [(.agg ⟨[.int .i64 z3,.int .u32 z4]⟩),.int .i64 z2]) none fun v0=>(oo (Bt v0) none fun l0=>(ll l0 none fun v1 l0=>(ll l0 none fun v2 l0=>(ll l0 (oo (Bi .i64 v1) none fun x0=>(oo (Bi .u32 v2) none fun x1=>(bb (bq true (an (Bd x0 z5) (an (Bd x1 z6) true))) (some (.tuple ⟨[.int .i64 z2,(.bool true)]⟩)) (ih0 z1 (Aj .i64 (Int.add z2 (1:Int))) z3 z4 z5 z6)))) fun _ _=>none))))) (WJ pu n))
def ZA (pu:Af) (n w:Nat):Int→Int→Int→Int→Int→Int→OV:=
 Nat.rec (motive:=fun _=>Int→Int→Int→Int→Int→Int→OV) (fun _ _ _ _ _ _=>none) (fun _ ih0=>Zz pu n ih0) w
def Ac6 (pu:Af) (n:Nat) (x0 x1 x2 x3:Int):OV:=
 (ZA pu n n x0 (0:Int) x0 x1 x2 x3)
def m27 (pu:Af) (n:Nat) (args:LV):OV:=
 (ll args none fun a0 args=>(ll args none fun a1 args=>(ll args (oo (Bt a0) none fun l0=>(ll l0 none fun v0 l0=>(ll l0 none fun v1 l0=>(ll l0 (oo (Bi .i64 v0) none fun x0=>(oo (Bi .u32 v1) none fun x1=>(oo (Bt a1) none fun l1=>(ll l1 none fun v2 l1=>(ll l1 none fun v3 l1=>(ll l1 (oo (Bi .i64 v2) none fun x2=>(oo (Bi .u32 v3) none fun x3=>(Ac6 pu n x0 x1 x2 x3))) fun _ _=>none)))))) fun _ _=>none)))) fun _ _=>none)))
theorem Ac7 (pu:Af) (n:Nat) {v:Value} (hm:WJ pu n=some v):BN tt (Bb tabs isP pu (inl pu)) 1 Yn (fr 19 []) AO (Fin tt 1 [.tmp 4,.tmp 5] v):=by
 unfold WJ at hm
 refine .then (.rK (.ghs (fr 19 [(4,(zI (0:Int))),(5,zB false)]) AO (.k0 [false] [] [4,5]) ?_))
 refine .ret ?_
 exact A7 (.tuple ⟨[(zI (0:Int)),zB false]⟩) hm
theorem r27 {call:A8} (pu:Af) (n:Nat) (hcall:call=Bb tabs isP pu (inl pu)) {args:LV} {v:Value} (hm:m27 pu n args=some v) (_:∀ x∈args,closed2 x=true):args.length≤19∧BN tt call 1 R9 (Fr.made 19 args) (Ao tabs) (Fin tt 1 [.tmp 4,.tmp 5] v):=by
 subst hcall
 unfold m27 at hm
 replace hm:=Ad hm;obtain⟨a0,args_0,rfl,hm⟩:=hm
 replace hm:=Ad hm;obtain⟨a1,args_1,rfl,hm⟩:=hm
 replace hm:=AC hm;obtain⟨rfl,hm⟩:=hm
 replace hm:=BG hm;obtain⟨l0,rfl,hm⟩:=hm
 replace hm:=Ad hm;obtain⟨v0,l9434_0,rfl,hm⟩:=hm
 replace hm:=Ad hm;obtain⟨v1,l9434_1,rfl,hm⟩:=hm
 replace hm:=AC hm;obtain⟨rfl,hm⟩:=hm
 replace hm:=Ai hm;obtain⟨x0,rfl,hm⟩:=hm
 replace hm:=Ai hm;obtain⟨x1,rfl,hm⟩:=hm
 replace hm:=BG hm;obtain⟨l1,rfl,hm⟩:=hm
 replace hm:=Ad hm;obtain⟨v2,l9442_0,rfl,hm⟩:=hm
 replace hm:=Ad hm;obtain⟨v3,l9442_1,rfl,hm⟩:=hm
 replace hm:=AC hm;obtain⟨rfl,hm⟩:=hm
 replace hm:=Ai hm;obtain⟨x2,rfl,hm⟩:=hm
 replace hm:=Ai hm;obtain⟨x3,rfl,hm⟩:=hm
 unfold Ac6 at hm
 refine⟨by simp,?_⟩
 refine .same (F':=(fr 19 [(0,(.agg ⟨[zI x0,.int .u32 x1]⟩)),(1,(.agg ⟨[zI x2,.int .u32 x3]⟩))])) (H':=AO) (by kernel_rfl) (by kernel_rfl) ?_
 refine .then (.rK (.ghs (fr 19 [(2,pt 1 0),(3,(pt 2 0))]) (hT 3 [(oC [zI x0,.int .u32 x1]),(oC [zI x2,.int .u32 x3])]) (.k0 [false] [.tmp 2 false,.tmp 3 false] [2,3]) ?_))
 refine .join (v:=v) (fun y:Unit=>((fr 19 []),AO)) (fun y=>WJ pu n) ?_ ?_
 ·rintro _ hm
  exact Ac7 pu n hm
 ·refine .then (.rK (.ghs (fr 19 [(2,pt 1 0),(3,(pt 2 0)),(8,zI x0),(9,(zI (0:Int)))]) (hT 3 [(oC [zI x0,.int .u32 x1]),(oC [zI x2,.int .u32 x3])]) (.k0 [false] [.tmp 2 false,.tmp 3 false] [2,3,8,9]) ?_))
  refine .block (.loopM (v:=v) (fun y:Int×Int×Int×Int×Int×Int=>((fr 19 [(2,pt 1 0),(3,(pt 2 0)),(8,(zI y.1)),(9,(zI y.2.1))]),(hT 3 [(oC [(zI y.2.2.1),(.int .u32 y.2.2.2.1)]),(oC [(zI y.2.2.2.2.1),(.int .u32 y.2.2.2.2.2)])]))) (fun w y=>ZA pu n w y.1 y.2.1 y.2.2.1 y.2.2.2.1 y.2.2.2.2.1 y.2.2.2.2.2) n ⟨(x0,(0:Int),x0,x1,x2,x3),hm,(.k0 [false] [.tmp 2 false,.tmp 3 false] [2,3,8,9])⟩ (fun _=>rfl) ?_)
  rintro w0 ⟨z1,z2,z3,z4,z5,z6⟩ hm
  replace hm:Zz pu n (ZA pu n w0) z1 z2 z3 z4 z5 z6=some v:=hm
  unfold Zz at hm
  refine .then (.rK (.ghs (fr 19 [(2,pt 1 0),(3,(pt 2 0)),(8,zI z1),(9,zI z2),(10,(zB (AY z2 z1)))]) (hT 3 [(oC [zI z3,.int .u32 z4]),(oC [zI z5,.int .u32 z6])]) (.k0 [false] [.tmp 2 false,.tmp 3 false] [2,3,8,9,10]) ?_))
  refine .then ?_
  replace hm:=Ag hm;rcases hm with⟨h0,hm⟩ | ⟨h0,hm⟩
  ·refine DT (AY z2 z1) h0 ?_
   refine .skip (.ghs (fr 19 [(2,pt 1 0),(3,(pt 2 0)),(8,zI z1),(9,zI z2)]) (hT 3 [(oC [zI z3,.int .u32 z4]),(oC [zI z5,.int .u32 z6])]) (.k0 [false] [.tmp 2 false,.tmp 3 false] [2,3,8,9]) ?_)
   refine .then (.block (.then (.rK (.ghs (fr 19 [(2,pt 1 0),(3,(pt 2 0)),(6,zI z2),(8,zI z1),(9,zI z2)]) (hT 3 [(oC [zI z3,.int .u32 z4]),(oC [zI z5,.int .u32 z6])]) (.k0 [false] [.tmp 2 false,.tmp 3 false] [2,3,6,8,9]) ?_))))
   refine .then ?_
   replace hm:=Ab hm;obtain⟨v4,h1,hm⟩:=hm
   replace hm:=BG hm;obtain⟨l2,rfl,hm⟩:=hm
   replace hm:=Ad hm;obtain⟨v5,l9525_0,rfl,hm⟩:=hm
   replace hm:=Ad hm;obtain⟨v6,l9525_1,rfl,hm⟩:=hm
   replace hm:=AC hm;obtain⟨rfl,hm⟩:=hm
   replace hm:=Ai hm;obtain⟨x4,rfl,hm⟩:=hm
   replace hm:=Ai hm;obtain⟨x5,rfl,hm⟩:=hm
   refine .reg (eC 3 ((oo (pu 48 [(.agg ⟨[zI z3,.int .u32 z4]⟩),zI z2]) none fun v=>some (v,(hT 3 [(oC [zI z3,.int .u32 z4]),(oC [zI z5,.int .u32 z6])])))) (AB h1) (eE)) ?_
   refine .ghs (fr 19 [(2,pt 1 0),(3,(pt 2 0)),(6,zI z2),(8,zI z1),(9,zI z2),(16,(zB (bq true (an (Bd x4 z5) (an (Bd x5 z6) true)))))]) (hT 3 [(oC [zI z3,.int .u32 z4]),(oC [zI z5,.int .u32 z6])]) (.k0 [false] [.tmp 2 false,.tmp 3 false] [2,3,6,8,9,16]) ?_
   replace hm:=Ag hm;rcases hm with⟨h2,hm⟩ | ⟨h2,hm⟩
   ·refine DT (bq true (an (Bd x4 z5) (an (Bd x5 z6) true))) h2 ?_
    refine .then (.rK (.ghs (fr 19 [(4,zI z2),(5,zB true)]) AO (.k0 [false] [] [4,5]) ?_))
    refine .ret ?_
    exact A7 (.tuple ⟨[zI z2,zB true]⟩) hm
   ·refine Eb (bq true (an (Bd x4 z5) (an (Bd x5 z6) true))) h2 ?_
    refine .skip (.ghs (fr 19 [(2,pt 1 0),(3,(pt 2 0)),(8,zI z1),(9,zI z2)]) (hT 3 [(oC [zI z3,.int .u32 z4]),(oC [zI z5,.int .u32 z6])]) (.k0 [false] [.tmp 2 false,.tmp 3 false] [2,3,8,9]) ?_)
    refine .rK ?_
    exact⟨(z1,(Aj .i64 (Int.add z2 (1:Int))),z3,z4,z5,z6),hm,(.k0 [false] [.tmp 2 false,.tmp 3 false] [2,3,8,9])⟩
  ·refine Eb (AY z2 z1) h0 ?_
   refine .exit ?_
   exact⟨(),hm,(.k0 [false] [] [])⟩

def Ac8 (pu:Af) (n:Nat) (x0:Int):OV:=
 (oo (EA (G6 .u32 x0 24)) none fun k1=>(oo (TV[k1]?) none fun c0=>(oo (EA (Np .u32 (G6 .u32 x0 16) (255:Int))) none fun k2=>(oo (TV[k2]?) none fun c1=>(oo (EA (Np .u32 (G6 .u32 x0 8) (255:Int))) none fun k3=>(oo (TV[k3]?) none fun c2=>(oo (EA (Np .u32 x0 (255:Int))) none fun k4=>(oo (TV[k4]?) none fun c57=>(some (.int .i64 (Aj .i64 (Aj .u8 (Int.add (Aj .u8 (Int.add (Aj .u8 (Int.add (Int.ofNat (UInt8.toNat c0)) (Int.ofNat (UInt8.toNat c1)))) (Int.ofNat (UInt8.toNat c2)))) (Int.ofNat (UInt8.toNat c57)))))))))))))))
def m28 (pu:Af) (n:Nat) (args:LV):OV:=
 (ll args none fun a0 args=>(ll args (oo (Bi .u32 a0) none fun x0=>(Ac8 pu n x0)) fun _ _=>none))
theorem r28 {call:A8} (pu:Af) (n:Nat) (hcall:call=Bb tabs isP pu (inl pu)) {args:LV} {v:Value} (hm:m28 pu n args=some v) (_:∀ x∈args,closed2 x=true):args.length≤21∧BN tt call 1 Ws (Fr.made 21 args) (Ao tabs) (Fin tt 1 [.tmp 2] v):=by
 subst hcall
 unfold m28 at hm
 replace hm:=Ad hm;obtain⟨a0,args_0,rfl,hm⟩:=hm
 replace hm:=AC hm;obtain⟨rfl,hm⟩:=hm
 replace hm:=Ai hm;obtain⟨x0,rfl,hm⟩:=hm
 unfold Ac8 at hm
 refine⟨by simp,?_⟩
 refine .same (F':=(fr 21 [(0,.int .u32 x0)])) (H':=AO) (by kernel_rfl) (by kernel_rfl) ?_
 refine .then (.rK (.ghs (fr 21 [(0,.int .u32 x0)]) AO (.k0 [false] [] [0]) ?_))
 refine .then ?_
 replace hm:=Ab hm;obtain⟨k1,h0,hm⟩:=hm
 replace hm:=Ab hm;obtain⟨c0,h1,hm⟩:=hm
 replace hm:=Ab hm;obtain⟨k2,h2,hm⟩:=hm
 replace hm:=Ab hm;obtain⟨c1,h3,hm⟩:=hm
 replace hm:=Ab hm;obtain⟨k3,h4,hm⟩:=hm
 replace hm:=Ab hm;obtain⟨c2,h5,hm⟩:=hm
 replace hm:=Ab hm;obtain⟨k4,h6,hm⟩:=hm
 replace hm:=Ab hm;obtain⟨c57,h7,hm⟩:=hm
 refine .reg (eN 6 (Fr.puts (fr 21 [(0,.int .u32 x0)]) [(3,.int .u32 x0),(4,(.int .u32 (Int.ofNat k1))),(5,(zY (Int.ofNat (UInt8.toNat c0)))),(6,.int .u32 x0),(7,(.int .u32 (G6 .u32 x0 16))),(8,(.int .u32 (Int.ofNat k2)))]) AO (eC 1 (some ((.int .u32 (G6 .u32 x0 24)),AO)) (show _=some ((.int .u32 (Int.ofNat k1)),_) from (by rw[AR h0])) (eD (keep AO (oo (TV[k1]?) none fun b=>iv .u8 (.ofNat b.toNat))) (nE h1) (eC 2 (some ((.int .u32 (Np .u32 (G6 .u32 x0 16) (255:Int))),AO)) (show _=some ((.int .u32 (Int.ofNat k2)),_) from (by rw[AR h2])) (by kernel_rfl)))) (eD (keep AO (oo (TV[k2]?) none fun b=>iv .u8 (.ofNat b.toNat))) (nE h3) (eC 3 (some ((.int .u32 (Np .u32 (G6 .u32 x0 8) (255:Int))),AO)) (show _=some ((.int .u32 (Int.ofNat k3)),_) from (by rw[AR h4])) (eD (keep AO (oo (TV[k3]?) none fun b=>iv .u8 (.ofNat b.toNat))) (nE h5) (eC 2 (some ((.int .u32 (Np .u32 x0 (255:Int))),AO)) (show _=some ((.int .u32 (Int.ofNat k4)),_) from (by rw[AR h6])) (eD (keep AO (oo (TV[k4]?) none fun b=>iv .u8 (.ofNat b.toNat))) (nE h7) (eE))))))) ?_
 refine .ghs (fr 21 [(2,(zI (Aj .i64 (Aj .u8 (Int.add (Aj .u8 (Int.add (Aj .u8 (Int.add (Int.ofNat (UInt8.toNat c0)) (Int.ofNat (UInt8.toNat c1)))) (Int.ofNat (UInt8.toNat c2)))) (Int.ofNat (UInt8.toNat c57)))))))]) AO (.k0 [false] [] [2]) ?_
 refine .ret ?_
 exact A7 (zI (Aj .i64 (Aj .u8 (Int.add (Aj .u8 (Int.add (Aj .u8 (Int.add (Int.ofNat (UInt8.toNat c0)) (Int.ofNat (UInt8.toNat c1)))) (Int.ofNat (UInt8.toNat c2)))) (Int.ofNat (UInt8.toNat c57)))))) hm
def WK (pu:Af) (n:Nat):OV:=
 (some (.int .i64 (-1:Int)))
def ZB (pu:Af) (n:Nat) (ih0:Sl→Int→Int→Int→OV) (s0:Sl) (z1 z2 z3:Int):OV:=
 (bb (AY z3 z2) (oo (EA z3) none fun k1=>(bb (an (Nat.blt k1 (Sl.n s0)) true) (oo (AL (Sl.cs s0) (k1*1)) none fun v0=>(oo (Bi .i64 v0) none fun x0=>(bb (Bd z1 x0) (some (.int .i64 (Int.ofNat k1))) (ih0 s0 z1 z2 (Aj .i64 (Int.add (Int.ofNat k1) (1:Int))))))) none)) (WK pu n))
def WL (pu:Af) (n w:Nat):Sl→Int→Int→Int→OV:=
 Nat.rec (motive:=fun _=>Sl→Int→Int→Int→OV) (fun _ _ _ _=>none) (fun _ ih0=>ZB pu n ih0) w
def Ada (pu:Af) (n:Nat) (s0:Sl) (x0:Int):OV:=
 (WL pu n n s0 x0 (Int.ofNat (Sl.n s0)) (0:Int))
def m29 (pu:Af) (n:Nat) (args:LV):OV:=
 (ll args none fun a0 args=>(ll args none fun a1 args=>(ll args (oo (Bj 1 a0) none fun s0=>(oo (Bi .i64 a1) none fun x0=>(Ada pu n s0 x0))) fun _ _=>none)))
theorem Adb (pu:Af) (n:Nat) {v:Value} (hm:WK pu n=some v):BN tt (Bb tabs isP pu (inl pu)) 1 Yo (fr 19 []) AO (Fin tt 1 [.tmp 4] v):=by
 unfold WK at hm
 refine .then (.rK (.ghs (fr 19 [(4,(zI (-1:Int)))]) AO (.k0 [false] [] [4]) ?_))
 refine .ret ?_
 exact A7 (zI (-1:Int)) hm
theorem r29 {call:A8} (pu:Af) (n:Nat) (hcall:call=Bb tabs isP pu (inl pu)) {args:LV} {v:Value} (hm:m29 pu n args=some v) (_:∀ x∈args,closed2 x=true):args.length≤19∧BN tt call 1 Sa (Fr.made 19 args) (Ao tabs) (Fin tt 1 [.tmp 4] v):=by
 subst hcall
 unfold m29 at hm
 replace hm:=Ad hm;obtain⟨a0,args_0,rfl,hm⟩:=hm
 replace hm:=Ad hm;obtain⟨a1,args_1,rfl,hm⟩:=hm
 replace hm:=AC hm;obtain⟨rfl,hm⟩:=hm
 replace hm:=Al hm;obtain⟨s0,rfl,hm⟩:=hm
 replace hm:=Ai hm;obtain⟨x0,rfl,hm⟩:=hm
 unfold Ada at hm
 refine⟨by simp,?_⟩
 refine .same (F':=(fr 19 [(0,Sl.v 1 s0),(1,zI x0)])) (H':=AO) (by kernel_rfl) (by kernel_rfl) ?_
 refine .then (.rK (.ghs (fr 19 [(0,Sl.v 1 s0),(1,zI x0)]) AO (.k0 [false] [] [0,1]) ?_))
 refine .join (v:=v) (fun y:Unit=>((fr 19 []),AO)) (fun y=>WK pu n) ?_ ?_
 ·rintro _ hm
  exact Adb pu n hm
 ·refine .then (.rK (.ghs (fr 19 [(0,Sl.v 1 s0),(1,zI x0),(7,(zI (Int.ofNat (Sl.n s0)))),(8,(zI (0:Int)))]) AO (.k0 [false] [] [0,1,7,8]) ?_))
  refine .block (.loopM (v:=v) (fun y:Sl×Int×Int×Int=>((fr 19 [(0,(Sl.v 1 y.1)),(1,(zI y.2.1)),(7,(zI y.2.2.1)),(8,(zI y.2.2.2))]),AO)) (fun w y=>WL pu n w y.1 y.2.1 y.2.2.1 y.2.2.2) n ⟨(s0,x0,(Int.ofNat (Sl.n s0)),(0:Int)),hm,(.k0 [false] [] [0,1,7,8])⟩ (fun _=>rfl) ?_)
  rintro w0 ⟨s1,z1,z2,z3⟩ hm
  replace hm:ZB pu n (WL pu n w0) s1 z1 z2 z3=some v:=hm
  unfold ZB at hm
  refine .then (.rK (.ghs (fr 19 [(0,Sl.v 1 s1),(1,zI z1),(7,zI z2),(8,zI z3),(9,(zB (AY z3 z2)))]) AO (.k0 [false] [] [0,1,7,8,9]) ?_))
  refine .then ?_
  replace hm:=Ag hm;rcases hm with⟨h0,hm⟩ | ⟨h0,hm⟩
  ·refine DT (AY z3 z2) h0 ?_
   refine .skip (.ghs (fr 19 [(0,Sl.v 1 s1),(1,zI z1),(7,zI z2),(8,zI z3)]) AO (.k0 [false] [] [0,1,7,8]) ?_)
   refine .then (.block (.then (.rK (.ghs (fr 19 [(0,Sl.v 1 s1),(1,zI z1),(5,zI z3),(7,zI z2),(8,zI z3)]) AO (.k0 [false] [] [0,1,5,7,8]) ?_))))
   refine .then ?_
   replace hm:=Ab hm;obtain⟨k1,h1,hm⟩:=hm
   obtain rfl:=AR h1
   replace hm:=Ae hm;obtain⟨h2,hm⟩:=hm
   replace hm:=K8 hm;obtain⟨x1,h3,hm⟩:=hm
   refine .reg (eC 3 (keep AO (bb (an (Nat.blt k1 (Sl.n s1)) true) (some (Cv (k1*1) (Sl.cs s1))) none)) (AX h2) (eD (keep AO (AL (Sl.cs s1) (k1*1))) (AZ h3) (eE))) ?_
   refine .ghs (fr 19 [(0,Sl.v 1 s1),(1,zI z1),(5,(zI (Int.ofNat k1))),(7,zI z2),(8,(zI (Int.ofNat k1))),(16,(zB (Bd z1 x1)))]) AO (.k0 [false] [] [0,1,5,7,8,16]) ?_
   replace hm:=Ag hm;rcases hm with⟨h4,hm⟩ | ⟨h4,hm⟩
   ·refine DT (Bd z1 x1) h4 ?_
    refine .then (.rK (.ghs (fr 19 [(4,(zI (Int.ofNat k1)))]) AO (.k0 [false] [] [4]) ?_))
    refine .ret ?_
    exact A7 (zI (Int.ofNat k1)) hm
   ·refine Eb (Bd z1 x1) h4 ?_
    refine .skip (.ghs (fr 19 [(0,Sl.v 1 s1),(1,zI z1),(7,zI z2),(8,(zI (Int.ofNat k1)))]) AO (.k0 [false] [] [0,1,7,8]) ?_)
    refine .rK ?_
    exact⟨(s1,z1,z2,(Aj .i64 (Int.add (Int.ofNat k1) (1:Int)))),hm,(.k0 [false] [] [0,1,7,8])⟩
  ·refine Eb (AY z3 z2) h0 ?_
   refine .exit ?_
   exact⟨(),hm,(.k0 [false] [] [])⟩
def Ui (pu:Af) (n n0 c0:Nat) (q0:LV):OV:=
 (bb (Au Ah q0) (bb (an (Nat.ble (0+n0*1) (len q0)) (Au Ah (Aq (n0*1) (Am 0 q0)))) (some (Sl.v 1 (Sl.mk n0 0 (Aq (n0*1) (Am 0 q0))))) none) none)
def Qz (pu:Af) (n:Nat) (ih0:Int→Nat→Nat→Int→LV→OV) (z1:Int) (n0 c0:Nat) (z2:Int) (q0:LV):OV:=
 (bb (Au Ah q0) (ih0 z1 n0 c0 (Aj .i64 (Int.add z2 (1:Int))) q0) none)
def O6 (pu:Af) (n:Nat) (ih0:Int→Nat→Nat→Int→LV→OV) (z1:Int) (n0 c0:Nat) (z2:Int) (q0:LV):OV:=
 (bb (Au Ah q0) (bb (AY z2 (21:Int)) (oo (EA z2) none fun k1=>(bb (Bd (Np .u32 (G6 .u32 z1 k1) (1:Int)) (1:Int)) (bb (GV 1 8 n0 c0 1 q0) (bb (Au Ah (Br (Am 0 q0) [(.int .i64 (Int.ofNat k1))])) (Qz pu n ih0 z1 (n0+1) (2*(n0+1)+bb false 1 0) (Int.ofNat k1) (Br (Am 0 q0) [(.int .i64 (Int.ofNat k1))])) none) none) (Qz pu n ih0 z1 n0 c0 (Int.ofNat k1) q0))) (Ui pu n n0 c0 q0)) none)
def OJ (pu:Af) (n w:Nat):Int→Nat→Nat→Int→LV→OV:=
 Nat.rec (motive:=fun _=>Int→Nat→Nat→Int→LV→OV) (fun _ _ _ _ _=>none) (fun _ ih0=>O6 pu n ih0) w
def Adc (pu:Af) (n:Nat) (x0:Int):OV:=
 (OJ pu n n x0 0 0 (0:Int) ([]:LV))
def m33 (pu:Af) (n:Nat) (args:LV):OV:=
 (ll args none fun a0 args=>(ll args (oo (Bi .u32 a0) none fun x0=>(Adc pu n x0)) fun _ _=>none))
theorem Adf (pu:Af) (n n0 c0:Nat) (q0:LV) {v:Value} (hm:Ui pu n n0 c0 q0=some v):BN tt (Bb tabs isP pu (inl pu)) 1 Yp (fr 19 [(3,sc 1 0 1 n0 c0)]) (hT 2 [oC q0]) (Fin tt 1 [.tmp 2] v):=by
 unfold Ui at hm
 refine .then (.rK ?_)
 replace hm:=Ae hm;obtain⟨h0,hm⟩:=hm
 refine .ghs (fr 19 [(2,sc 1 0 1 n0 c0)]) (hT 2 [oC q0]) (.k [1] [false] [.tmp 2 false] [2] ⟨Cs h0,trivial⟩) ?_
 replace hm:=Ae hm;obtain⟨h1,hm⟩:=hm
 refine .ghs (Fr.puts (fr 19 [(2,sc 1 0 1 n0 c0)]) [(2,(Sl.v 1 (Sl.mk n0 0 (Aq (n0*1) (Am 0 q0)))))]) (hT 2 [.dead]) (.freezeC 1 2 1 (an (Nat.ble (0+n0*1) (len q0)) (Au Ah (Aq (n0*1) (Am 0 q0)))) (F1:=(Fr.puts (fr 19 [(2,sc 1 0 1 n0 c0)]) [(2,(Sl.v 1 (Sl.mk n0 0 (Aq (n0*1) (Am 0 q0)))))])) (H1:=(hT 2 [.dead])) (by kernel_rfl) (by kernel_rfl) h1 (E9.id _ _)) ?_
 refine .ret ?_
 exact A7 (Sl.v 1 (Sl.mk n0 0 (Aq (n0*1) (Am 0 q0)))) hm
theorem r33 {call:A8} (pu:Af) (n:Nat) (hcall:call=Bb tabs isP pu (inl pu)) {args:LV} {v:Value} (hm:m33 pu n args=some v) (_:∀ x∈args,closed2 x=true):args.length≤19∧BN tt call 1 Sb (Fr.made 19 args) (Ao tabs) (Fin tt 1 [.tmp 2] v):=by
 subst hcall
 unfold m33 at hm
 replace hm:=Ad hm;obtain⟨a0,args_0,rfl,hm⟩:=hm
 replace hm:=AC hm;obtain⟨rfl,hm⟩:=hm
 replace hm:=Ai hm;obtain⟨x0,rfl,hm⟩:=hm
 unfold Adc at hm
 refine⟨by simp,?_⟩
 refine .same (F':=(fr 19 [(0,.int .u32 x0)])) (H':=AO) (by kernel_rfl) (by kernel_rfl) ?_
 refine .then (.rK (.ghs (fr 19 [(0,.int .u32 x0)]) AO (.k0 [false] [] [0]) ?_))
 refine .then (.rK (.ghs (fr 19 [(0,.int .u32 x0),(3,(.slice none 0 0))]) AO (.k0 [false] [] [0,3]) ?_))
 refine .join (v:=v) (fun y:Nat×Nat×LV=>((fr 19 [(3,(sc 1 0 1 y.1 y.2.1))]),(hT 2 [(oC y.2.2)]))) (fun y=>Ui pu n y.1 y.2.1 y.2.2) ?_ ?_
 ·rintro⟨n0,c0,q0⟩ hm
  exact Adf pu n n0 c0 q0 hm
 ·refine .then (.rK (.ghs (fr 19 [(0,.int .u32 x0),(3,(.slice none 0 0)),(5,(zI (0:Int)))]) AO (.k0 [false] [] [0,3,5]) ?_))
  refine .block (.loopM (v:=v) (fun y:Int×Nat×Nat×Int×LV=>((fr 19 [(0,(.int .u32 y.1)),(3,(sc 1 0 1 y.2.1 y.2.2.1)),(5,(zI y.2.2.2.1))]),(hT 2 [(oC y.2.2.2.2)]))) (fun w y=>OJ pu n w y.1 y.2.1 y.2.2.1 y.2.2.2.1 y.2.2.2.2) n ⟨(x0,0,0,(0:Int),([]:LV)),hm,(.thaw 3 1 (by kernel_rfl) (.k0 [false] [.tmp 3 false] [0,3,5]))⟩ (fun _=>rfl) ?_)
  rintro w0 ⟨z1,n1,c1,z2,q1⟩ hm
  replace hm:O6 pu n (OJ pu n w0) z1 n1 c1 z2 q1=some v:=hm
  unfold O6 at hm
  refine .then (.rK ?_)
  replace hm:=Ae hm;obtain⟨h0,hm⟩:=hm
  refine .ghs (fr 19 [(0,.int .u32 z1),(3,sc 1 0 1 n1 c1),(5,zI z2),(6,(zB (AY z2 (21:Int))))]) (hT 2 [oC q1]) (.k [1] [false] [.tmp 3 false] [0,3,5,6] ⟨Cs h0,trivial⟩) ?_
  refine .then ?_
  replace hm:=Ag hm;rcases hm with⟨h1,hm⟩ | ⟨h1,hm⟩
  ·refine DT (AY z2 (21:Int)) h1 ?_
   refine .skip (.ghs (fr 19 [(0,.int .u32 z1),(3,sc 1 0 1 n1 c1),(5,zI z2)]) (hT 2 [oC q1]) (.k [1] [false] [.tmp 3 false] [0,3,5] ⟨Cs h0,trivial⟩) ?_)
   refine .join (v:=v) (fun y:Int×Nat×Nat×Int×LV=>((fr 19 [(0,(.int .u32 y.1)),(3,(sc 1 0 1 y.2.1 y.2.2.1)),(5,(zI y.2.2.2.1))]),(hT 2 [(oC y.2.2.2.2)]))) (fun y=>Qz pu n (OJ pu n w0) y.1 y.2.1 y.2.2.1 y.2.2.2.1 y.2.2.2.2) ?_ ?_
   ·rintro⟨z3,n2,c2,z4,q2⟩ hm
    unfold Qz at hm
    refine .rK ?_
    replace hm:=Ae hm;obtain⟨h2,hm⟩:=hm
    exact⟨(z3,n2,c2,(Aj .i64 (Int.add z4 (1:Int))),q2),hm,(.k [1] [false] [.tmp 3 false] [0,3,5] ⟨Cs h2,trivial⟩)⟩
   ·refine .block (.then (.rK (.ghs (fr 19 [(0,.int .u32 z1),(3,sc 1 0 1 n1 c1),(4,zI z2),(5,zI z2)]) (hT 2 [oC q1]) (.k [1] [false] [.tmp 3 false] [0,3,4,5] ⟨Cs h0,trivial⟩) ?_)))
    refine .then ?_
    replace hm:=Ab hm;obtain⟨k1,h3,hm⟩:=hm
    obtain rfl:=AR h3
    refine .rK (.ghs (fr 19 [(0,.int .u32 z1),(3,sc 1 0 1 n1 c1),(4,(zI (Int.ofNat k1))),(5,(zI (Int.ofNat k1))),(12,(zB (Bd (Np .u32 (G6 .u32 z1 k1) (1:Int)) (1:Int))))]) (hT 2 [oC q1]) (.k [1] [false] [.tmp 3 false] [0,3,4,5,12] ⟨Cs h0,trivial⟩) ?_)
    replace hm:=Ag hm;rcases hm with⟨h4,hm⟩ | ⟨h4,hm⟩
    ·refine DT (Bd (Np .u32 (G6 .u32 z1 k1) (1:Int)) (1:Int)) h4 ?_
     replace hm:=Ae hm;obtain⟨h5,hm⟩:=hm
     refine .reg (eC 3 (Oc 1 8 n1 c1 1 1 q1 [(zI (Int.ofNat k1))] [] (hT 3 [oC q1,(oC [(zI (Int.ofNat k1))])])) (I1 h5) (eE)) ?_
     replace hm:=Ae hm;obtain⟨h6,hm⟩:=hm
     exact⟨(z1,(n1+1),(d2 (n1+1)),(Int.ofNat k1),(Br (Am 0 q1) [(zI (Int.ofNat k1))])),hm,(.k [3] [false] [.tmp 3 false] [0,3,5] ⟨Cs h6,trivial⟩)⟩
    ·refine Eb (Bd (Np .u32 (G6 .u32 z1 k1) (1:Int)) (1:Int)) h4 ?_
     refine .skip ?_
     exact⟨(z1,n1,c1,(Int.ofNat k1),q1),hm,(.k [1] [false] [.tmp 3 false] [0,3,5] ⟨Cs h0,trivial⟩)⟩
  ·refine Eb (AY z2 (21:Int)) h1 ?_
   refine .exit ?_
   exact⟨(n1,c1,q1),hm,(.k [1] [false] [.tmp 3 false] [3] ⟨Cs h0,trivial⟩)⟩
end
end Go.RgQM
