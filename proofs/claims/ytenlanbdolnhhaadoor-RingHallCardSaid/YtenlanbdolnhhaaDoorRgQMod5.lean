/- Made from wip. -/
import Derived.Test.YtenlanbdolnhhaaDoorRgQMod0x

set_option maxRecDepth 100000
set_option maxHeartbeats 20000000
set_option linter.unusedVariables false
namespace Go.RgQM
open Go.Sp Go.RgQ
noncomputable section

def fF (pu:Af) (n:Nat) (x0 x1 x2:Int):OV:=
 (oo (EA x0) none fun k1=>(oo (EA x2) none fun k2=>(oo (EA (Aj .i64 (Int.sub (Int.ofNat k1) (Int.ofNat k2)))) none fun k3=>(some (.agg ⟨[(.int .i64 (Int.ofNat k1)),(.int .u32 (Np .u32 (jF .u32 (QW .u32 x1 k2) (G6 .u32 x1 k3)) (Aj .u32 (Int.sub (QW .u32 (1:Int) k1) (1:Int)))))]⟩)))))
def m48 (pu:Af) (n:Nat) (args:LV):OV:=
 (ll args none fun a0 args=>(ll args none fun a1 args=>(ll args (oo (Bt a0) none fun l0=>(ll l0 none fun v0 l0=>(ll l0 none fun v1 l0=>(ll l0 (oo (Bi .i64 v0) none fun x0=>(oo (Bi .u32 v1) none fun x1=>(oo (Bi .i64 a1) none fun x2=>(fF pu n x0 x1 x2)))) fun _ _=>none)))) fun _ _=>none)))
theorem r48 {call:A8} (pu:Af) (n:Nat) (hcall:call=Bb tabs isP pu (inl pu)) {args:LV} {v:Value} (hm:m48 pu n args=some v) (_:∀ x∈args,closed2 x=true):args.length≤26∧BN tt call 1 Wt (Fr.made 26 args) (Ao tabs) (Fin tt 1 [.cell 4 45] v):=by
 subst hcall
 unfold m48 at hm
 replace hm:=Ad hm;obtain⟨a0,args_0,rfl,hm⟩:=hm
 replace hm:=Ad hm;obtain⟨a1,args_1,rfl,hm⟩:=hm
 replace hm:=AC hm;obtain⟨rfl,hm⟩:=hm
 replace hm:=BG hm;obtain⟨l0,rfl,hm⟩:=hm
 replace hm:=Ad hm;obtain⟨v0,l9747_0,rfl,hm⟩:=hm
 replace hm:=Ad hm;obtain⟨v1,l9747_1,rfl,hm⟩:=hm
 replace hm:=AC hm;obtain⟨rfl,hm⟩:=hm
 replace hm:=Ai hm;obtain⟨x0,rfl,hm⟩:=hm
 replace hm:=Ai hm;obtain⟨x1,rfl,hm⟩:=hm
 replace hm:=Ai hm;obtain⟨x2,rfl,hm⟩:=hm
 unfold fF at hm
 refine⟨by simp,?_⟩
 refine .same (F':=(fr 26 [(0,(.agg ⟨[zI x0,.int .u32 x1]⟩)),(1,zI x2)])) (H':=AO) (by kernel_rfl) (by kernel_rfl) ?_
 refine .then (.rK (.ghs (fr 26 [(1,zI x2),(2,pt 1 0),(4,(pt 2 0))]) (hT 3 [(oC [zI x0,.int .u32 x1]),(oC [(zI (0:Int)),(.int .u32 (0:Int))])]) (.k0 [false] [.tmp 2 false,.tmp 4 false] [1,2,4]) ?_))
 refine .then ?_
 replace hm:=Ab hm;obtain⟨k1,h0,hm⟩:=hm
 obtain rfl:=AR h0
 refine .rK (.ghs (fr 26 [(1,zI x2),(2,pt 1 0),(4,(pt 2 0)),(5,(.int .u32 (Aj .u32 (Int.sub (QW .u32 (1:Int) k1) (1:Int)))))]) (hT 3 [(oC [(zI (Int.ofNat k1)),.int .u32 x1]),(oC [(zI (0:Int)),(.int .u32 (0:Int))])]) (.k0 [false] [.tmp 2 false,.tmp 4 false] [1,2,4,5]) ?_)
 refine .then ?_
 replace hm:=Ab hm;obtain⟨k2,h1,hm⟩:=hm
 obtain rfl:=AR h1
 replace hm:=Ab hm;obtain⟨k3,h2,hm⟩:=hm
 refine .reg (eC 9 (some ((zI (Aj .i64 (Int.sub (Int.ofNat k1) (Int.ofNat k2)))),(hT 3 [(oC [(zI (Int.ofNat k1)),.int .u32 x1]),(oC [(zI (0:Int)),(.int .u32 (0:Int))])]))) (show _=some ((zI (Int.ofNat k3)),_) from (by rw[AR h2])) (eE)) ?_
 refine .ghs (fr 26 [(2,pt 1 0),(4,(pt 2 0))]) (hT 3 [(oC [(zI (Int.ofNat k1)),(.int .u32 (Np .u32 (jF .u32 (QW .u32 x1 k2) (G6 .u32 x1 k3)) (Aj .u32 (Int.sub (QW .u32 (1:Int) k1) (1:Int)))))]),(oC [(zI (0:Int)),(.int .u32 (0:Int))])]) (.k0 [false] [.tmp 2 false,.tmp 4 false] [2,4]) ?_
 refine .then (.rK (.ghs (fr 26 [(4,pt 1 0)]) (hT 2 [(oC [(zI (Int.ofNat k1)),(.int .u32 (Np .u32 (jF .u32 (QW .u32 x1 k2) (G6 .u32 x1 k3)) (Aj .u32 (Int.sub (QW .u32 (1:Int) k1) (1:Int)))))])]) (.k0 [false] [.tmp 4 false] [4]) ?_))
 refine .ret ?_
 exact A7 (.agg ⟨[(zI (Int.ofNat k1)),(.int .u32 (Np .u32 (jF .u32 (QW .u32 x1 k2) (G6 .u32 x1 k3)) (Aj .u32 (Int.sub (QW .u32 (1:Int) k1) (1:Int)))))]⟩) hm
def WM (pu:Af) (n:Nat) (s0 s1:Sl):OV:=
 (bb (AY (Int.ofNat (Sl.n s0)) (Int.ofNat (Sl.n s1))) (some (.int .i64 (-1:Int))) (some (.int .i64 (0:Int))))
def O7 (pu:Af) (n:Nat) (ih0:Sl→Sl→Sl→Int→Int→OV) (s0 s1 s2:Sl) (z1 z2:Int):OV:=
 (bb (AY z2 z1) (oo (EA z2) none fun k1=>(bb (an (Nat.blt k1 (Sl.n s2)) true) (oo (AL (Sl.cs s2) (k1*1)) none fun v0=>(oo (Bi .i64 v0) none fun x0=>(bb (nt (AY (Int.ofNat k1) (Int.ofNat (Sl.n s1)))) (some (.int .i64 (1:Int))) (bb (an (Nat.blt k1 (Sl.n s1)) true) (oo (AL (Sl.cs s1) (k1*1)) none fun v1=>(oo (Bi .i64 v1) none fun x1=>(oo (pu 55 [.int .i64 x0,.int .i64 x1]) none fun v2=>(oo (Bi .i64 v2) none fun x2=>(bb (nt (Bd x2 (0:Int))) (some (.int .i64 x2)) (ih0 s0 s1 s2 z1 (Aj .i64 (Int.add (Int.ofNat k1) (1:Int))))))))) none)))) none)) (WM pu n s0 s1))
def O8 (pu:Af) (n w:Nat):Sl→Sl→Sl→Int→Int→OV:=
 Nat.rec (motive:=fun _=>Sl→Sl→Sl→Int→Int→OV) (fun _ _ _ _ _=>none) (fun _ ih0=>O7 pu n ih0) w
def Adh (pu:Af) (n:Nat) (s0 s1:Sl):OV:=
 (O8 pu n n s0 s1 s0 (Int.ofNat (Sl.n s0)) (0:Int))
def m49 (pu:Af) (n:Nat) (args:LV):OV:=
 (ll args none fun a0 args=>(ll args none fun a1 args=>(ll args (oo (Bj 1 a0) none fun s0=>(oo (Bj 1 a1) none fun s1=>(Adh pu n s0 s1))) fun _ _=>none)))
theorem Adj (pu:Af) (n:Nat) (s0 s1:Sl) {v:Value} (hm:WM pu n s0 s1=some v):BN tt (Bb tabs isP pu (inl pu)) 1 Yq (fr 36 [(0,Sl.v 1 s0),(1,Sl.v 1 s1)]) AO (Fin tt 1 [.tmp 4] v):=by
 unfold WM at hm
 refine .then (.then (.rK (.ghs (fr 36 [(35,(zB (AY (Int.ofNat (Sl.n s0)) (Int.ofNat (Sl.n s1)))))]) AO (.k0 [false] [] [35]) ?_)))
 replace hm:=Ag hm;rcases hm with⟨h0,hm⟩ | ⟨h0,hm⟩
 ·refine DT (AY (Int.ofNat (Sl.n s0)) (Int.ofNat (Sl.n s1))) h0 ?_
  refine .then (.rK (.ghs (fr 36 [(4,(zI (-1:Int)))]) AO (.k0 [false] [] [4]) ?_))
  refine .ret ?_
  exact A7 (zI (-1:Int)) hm
 ·refine Eb (AY (Int.ofNat (Sl.n s0)) (Int.ofNat (Sl.n s1))) h0 ?_
  refine .skip (.ghs (fr 36 []) AO (.k0 [false] [] []) ?_)
  refine .then (.rK (.ghs (fr 36 [(4,(zI (0:Int)))]) AO (.k0 [false] [] [4]) ?_))
  refine .ret ?_
  exact A7 (zI (0:Int)) hm
theorem r49 {call:A8} (pu:Af) (n:Nat) (hcall:call=Bb tabs isP pu (inl pu)) {args:LV} {v:Value} (hm:m49 pu n args=some v) (_:∀ x∈args,closed2 x=true):args.length≤36∧BN tt call 1 Sc (Fr.made 36 args) (Ao tabs) (Fin tt 1 [.tmp 4] v):=by
 subst hcall
 unfold m49 at hm
 replace hm:=Ad hm;obtain⟨a0,args_0,rfl,hm⟩:=hm
 replace hm:=Ad hm;obtain⟨a1,args_1,rfl,hm⟩:=hm
 replace hm:=AC hm;obtain⟨rfl,hm⟩:=hm
 replace hm:=Al hm;obtain⟨s0,rfl,hm⟩:=hm
 replace hm:=Al hm;obtain⟨s1,rfl,hm⟩:=hm
 unfold Adh at hm
 refine⟨by simp,?_⟩
 refine .same (F':=(fr 36 [(0,Sl.v 1 s0),(1,Sl.v 1 s1)])) (H':=AO) (by kernel_rfl) (by kernel_rfl) ?_
 refine .then (.rK (.ghs (fr 36 [(0,Sl.v 1 s0),(1,Sl.v 1 s1)]) AO (.k0 [false] [] [0,1]) ?_))
 refine .join (v:=v) (fun y:Sl×Sl=>((fr 36 [(0,(Sl.v 1 y.1)),(1,(Sl.v 1 y.2))]),AO)) (fun y=>WM pu n y.1 y.2) ?_ ?_
 ·rintro⟨s2,s3⟩ hm
  exact Adj pu n s2 s3 hm
 ·refine .then (.rK (.ghs (fr 36 [(0,Sl.v 1 s0),(1,Sl.v 1 s1),(9,Sl.v 1 s0),(10,(zI (Int.ofNat (Sl.n s0)))),(11,(zI (0:Int)))]) AO (.k0 [false] [] [0,1,9,10,11]) ?_))
  refine .block (.loopM (v:=v) (fun y:Sl×Sl×Sl×Int×Int=>((fr 36 [(0,(Sl.v 1 y.1)),(1,(Sl.v 1 y.2.1)),(9,(Sl.v 1 y.2.2.1)),(10,(zI y.2.2.2.1)),(11,(zI y.2.2.2.2))]),AO)) (fun w y=>O8 pu n w y.1 y.2.1 y.2.2.1 y.2.2.2.1 y.2.2.2.2) n ⟨(s0,s1,s0,(Int.ofNat (Sl.n s0)),(0:Int)),hm,(.k0 [false] [] [0,1,9,10,11])⟩ (fun _=>rfl) ?_)
  rintro w0 ⟨s4,s5,s6,z1,z2⟩ hm
  replace hm:O7 pu n (O8 pu n w0) s4 s5 s6 z1 z2=some v:=hm
  unfold O7 at hm
  refine .then (.rK (.ghs (fr 36 [(0,Sl.v 1 s4),(1,Sl.v 1 s5),(9,Sl.v 1 s6),(10,zI z1),(11,zI z2),(12,(zB (AY z2 z1)))]) AO (.k0 [false] [] [0,1,9,10,11,12]) ?_))
  refine .then ?_
  replace hm:=Ag hm;rcases hm with⟨h0,hm⟩ | ⟨h0,hm⟩
  ·refine DT (AY z2 z1) h0 ?_
   refine .skip (.ghs (fr 36 [(0,Sl.v 1 s4),(1,Sl.v 1 s5),(9,Sl.v 1 s6),(10,zI z1),(11,zI z2)]) AO (.k0 [false] [] [0,1,9,10,11]) ?_)
   refine .then (.block (.then ?_))
   replace hm:=Ab hm;obtain⟨k1,h1,hm⟩:=hm
   obtain rfl:=AR h1
   replace hm:=Ae hm;obtain⟨h2,hm⟩:=hm
   replace hm:=K8 hm;obtain⟨x0,h3,hm⟩:=hm
   refine .reg (eC 1 (keep AO (bb (an (Nat.blt k1 (Sl.n s6)) true) (some (Cv (k1*1) (Sl.cs s6))) none)) (AX h2) (eD (keep AO (AL (Sl.cs s6) (k1*1))) (AZ h3) (eE))) ?_
   refine .ghs (fr 36 [(0,Sl.v 1 s4),(1,Sl.v 1 s5),(5,(zI (Int.ofNat k1))),(6,zI x0),(9,Sl.v 1 s6),(10,zI z1),(11,(zI (Int.ofNat k1)))]) AO (.k0 [false] [] [0,1,5,6,9,10,11]) ?_
   refine .then (.then (.rK (.ghs (fr 36 [(0,Sl.v 1 s4),(1,Sl.v 1 s5),(5,(zI (Int.ofNat k1))),(6,zI x0),(9,Sl.v 1 s6),(10,zI z1),(11,(zI (Int.ofNat k1))),(19,(zB (nt (AY (Int.ofNat k1) (Int.ofNat (Sl.n s5))))))]) AO (.k0 [false] [] [0,1,5,6,9,10,11,19]) ?_)))
   replace hm:=Ag hm;rcases hm with⟨h4,hm⟩ | ⟨h4,hm⟩
   ·refine DT (nt (AY (Int.ofNat k1) (Int.ofNat (Sl.n s5)))) h4 ?_
    refine .then (.rK (.ghs (fr 36 [(4,(zI (1:Int)))]) AO (.k0 [false] [] [4]) ?_))
    refine .ret ?_
    exact A7 (zI (1:Int)) hm
   ·refine Eb (nt (AY (Int.ofNat k1) (Int.ofNat (Sl.n s5)))) h4 ?_
    refine .skip (.ghs (fr 36 [(0,Sl.v 1 s4),(1,Sl.v 1 s5),(5,(zI (Int.ofNat k1))),(6,zI x0),(9,Sl.v 1 s6),(10,zI z1),(11,(zI (Int.ofNat k1)))]) AO (.k0 [false] [] [0,1,5,6,9,10,11]) ?_)
    refine .then ?_
    replace hm:=Ae hm;obtain⟨h5,hm⟩:=hm
    replace hm:=K8 hm;obtain⟨x1,h6,hm⟩:=hm
    refine .reg (eC 2 (keep AO (bb (an (Nat.blt k1 (Sl.n s5)) true) (some (Cv (k1*1) (Sl.cs s5))) none)) (AX h5) (eD (keep AO (AL (Sl.cs s5) (k1*1))) (AZ h6) (eE))) ?_
    refine .ghs (fr 36 [(0,Sl.v 1 s4),(1,Sl.v 1 s5),(6,zI x0),(7,zI x1),(9,Sl.v 1 s6),(10,zI z1),(11,(zI (Int.ofNat k1)))]) AO (.k0 [false] [] [0,1,6,7,9,10,11]) ?_
    refine .then ?_
    replace hm:=K8 hm;obtain⟨x2,h7,hm⟩:=hm
    refine .reg (eC 2 ((oo (pu 55 [zI x0,zI x1]) none fun v=>some (v,AO))) (AB h7) (eE)) ?_
    refine .ghs (fr 36 [(0,Sl.v 1 s4),(1,Sl.v 1 s5),(8,zI x2),(9,Sl.v 1 s6),(10,zI z1),(11,(zI (Int.ofNat k1)))]) AO (.k0 [false] [] [0,1,8,9,10,11]) ?_
    refine .then (.rK (.ghs (fr 36 [(0,Sl.v 1 s4),(1,Sl.v 1 s5),(8,zI x2),(9,Sl.v 1 s6),(10,zI z1),(11,(zI (Int.ofNat k1))),(28,(zB (nt (Bd x2 (0:Int)))))]) AO (.k0 [false] [] [0,1,8,9,10,11,28]) ?_))
    replace hm:=Ag hm;rcases hm with⟨h8,hm⟩ | ⟨h8,hm⟩
    ·refine DT (nt (Bd x2 (0:Int))) h8 ?_
     refine .then (.rK (.ghs (fr 36 [(4,zI x2)]) AO (.k0 [false] [] [4]) ?_))
     refine .ret ?_
     exact A7 (zI x2) hm
    ·refine Eb (nt (Bd x2 (0:Int))) h8 ?_
     refine .skip (.ghs (fr 36 [(0,Sl.v 1 s4),(1,Sl.v 1 s5),(9,Sl.v 1 s6),(10,zI z1),(11,(zI (Int.ofNat k1)))]) AO (.k0 [false] [] [0,1,9,10,11]) ?_)
     refine .rK ?_
     exact⟨(s4,s5,s6,z1,(Aj .i64 (Int.add (Int.ofNat k1) (1:Int)))),hm,(.k0 [false] [] [0,1,9,10,11])⟩
  ·refine Eb (AY z2 z1) h0 ?_
   refine .exit ?_
   exact⟨(s4,s5),hm,(.k0 [false] [] [0,1])⟩
def WN (pu:Af) (n:Nat):OV:=
 (some (.int .i64 (0:Int)))
def WO (pu:Af) (n:Nat) (ih0:Int→Sl→Int→Int→Int→Sl→OV) (z1 z2:Int) (s0:Sl) (z3 z4:Int) (b0:Bool) (z5:Int) (s1:Sl):OV:=
 (bb b0 (some (.int .i64 (2:Int))) (bb (nt (AY z1 z2)) (some (.int .i64 (7:Int))) (ih0 z2 s0 z3 (Aj .i64 (Int.add z4 (1:Int))) z5 s1)))
def ZC (pu:Af) (n:Nat) (ih0:Int→Sl→Int→Int→Int→Sl→OV) (z1:Int) (s0:Sl) (z2 z3 z4:Int) (s1:Sl):OV:=
 (bb (AY z3 z2) (oo (EA z3) none fun k1=>(bb (an (Nat.blt k1 (Sl.n s0)) true) (oo (AL (Sl.cs s0) (k1*1)) none fun v0=>(oo (Bi .i64 v0) none fun x0=>(bb (AY x0 (0:Int)) (WO pu n ih0 z1 x0 s0 z2 (Int.ofNat k1) true z4 s1) (WO pu n ih0 z1 x0 s0 z2 (Int.ofNat k1) (nt (AY x0 z4)) z4 s1)))) none)) (WN pu n))
def WP (pu:Af) (n w:Nat):Int→Sl→Int→Int→Int→Sl→OV:=
 Nat.rec (motive:=fun _=>Int→Sl→Int→Int→Int→Sl→OV) (fun _ _ _ _ _ _=>none) (fun _ ih0=>ZC pu n ih0) w
def WQ (pu:Af) (n:Nat) (b0:Bool) (z1:Int) (s0:Sl):OV:=
 (bb b0 (some (.int .i64 (1:Int))) (bb (AY (6:Int) (Int.ofNat (Sl.n s0))) (some (.int .i64 (3:Int))) (WP pu n n (-1:Int) s0 (Int.ofNat (Sl.n s0)) (0:Int) z1 s0)))
def Adk (pu:Af) (n:Nat) (x0:Int) (s0:Sl):OV:=
 (bb (AY x0 (1:Int)) (WQ pu n true x0 s0) (WQ pu n (AY (21:Int) x0) x0 s0))
def m50 (pu:Af) (n:Nat) (args:LV):OV:=
 (ll args none fun a0 args=>(ll args (oo (Bt a0) none fun l0=>(ll l0 none fun v0 l0=>(ll l0 none fun v1 l0=>(ll l0 (oo (Bi .i64 v0) none fun x0=>(oo (Bj 1 v1) none fun s0=>(Adk pu n x0 s0))) fun _ _=>none)))) fun _ _=>none))
theorem Adm (pu:Af) (n:Nat) {v:Value} (hm:WN pu n=some v):BN tt (Bb tabs isP pu (inl pu)) 1 Yr (fr 42 []) AO (Fin tt 1 [.tmp 2] v):=by
 unfold WN at hm
 refine .then (.rK (.ghs (fr 42 [(2,(zI (0:Int)))]) AO (.k0 [false] [] [2]) ?_))
 refine .ret ?_
 exact A7 (zI (0:Int)) hm
theorem r50 {call:A8} (pu:Af) (n:Nat) (hcall:call=Bb tabs isP pu (inl pu)) {args:LV} {v:Value} (hm:m50 pu n args=some v) (_:∀ x∈args,closed2 x=true):args.length≤42∧BN tt call 1 Sd (Fr.made 42 args) (Ao tabs) (Fin tt 1 [.tmp 2] v):=by
 subst hcall
 unfold m50 at hm
 replace hm:=Ad hm;obtain⟨a0,args_0,rfl,hm⟩:=hm
 replace hm:=AC hm;obtain⟨rfl,hm⟩:=hm
 replace hm:=BG hm;obtain⟨l0,rfl,hm⟩:=hm
 replace hm:=Ad hm;obtain⟨v0,l9896_0,rfl,hm⟩:=hm
 replace hm:=Ad hm;obtain⟨v1,l9896_1,rfl,hm⟩:=hm
 replace hm:=AC hm;obtain⟨rfl,hm⟩:=hm
 replace hm:=Ai hm;obtain⟨x0,rfl,hm⟩:=hm
 replace hm:=Al hm;obtain⟨s0,rfl,hm⟩:=hm
 unfold Adk at hm
 refine⟨by simp,?_⟩
 refine .same (F':=(fr 42 [(0,(.agg ⟨[zI x0,Sl.v 1 s0]⟩))])) (H':=AO) (by kernel_rfl) (by kernel_rfl) ?_
 refine .then (.rK (.ghs (fr 42 [(1,pt 1 0)]) (hT 2 [(oC [zI x0,Sl.v 1 s0])]) (.k0 [false] [.tmp 1 false] [1]) ?_))
 refine .then (.block (.join (v:=v) (fun y:Bool×Int×Sl=>((fr 42 [(1,pt 1 0),(6,(zB y.1))]),(hT 2 [(oC [(zI y.2.1),(Sl.v 1 y.2.2)])]))) (fun y=>WQ pu n y.1 y.2.1 y.2.2) ?_ ?_))
 ·rintro⟨b0,z1,s1⟩ hm
  unfold WQ at hm
  replace hm:=Ag hm;rcases hm with⟨h0,hm⟩ | ⟨h0,hm⟩
  ·refine .ifT b0 (by kernel_rfl) h0 ?_
   refine .then (.rK (.ghs (fr 42 [(2,(zI (1:Int)))]) AO (.k0 [false] [] [2]) ?_))
   refine .ret ?_
   exact A7 (zI (1:Int)) hm
  ·refine .ifF b0 (by kernel_rfl) h0 ?_
   refine .then (.rK (.ghs (fr 42 [(1,pt 1 0),(15,(zB (AY (6:Int) (Int.ofNat (Sl.n s1)))))]) (hT 2 [(oC [zI z1,Sl.v 1 s1])]) (.k0 [false] [.tmp 1 false] [1,15]) ?_))
   replace hm:=Ag hm;rcases hm with⟨h1,hm⟩ | ⟨h1,hm⟩
   ·refine DT (AY (6:Int) (Int.ofNat (Sl.n s1))) h1 ?_
    refine .then (.rK (.ghs (fr 42 [(2,(zI (3:Int)))]) AO (.k0 [false] [] [2]) ?_))
    refine .ret ?_
    exact A7 (zI (3:Int)) hm
   ·refine Eb (AY (6:Int) (Int.ofNat (Sl.n s1))) h1 ?_
    refine .skip (.ghs (fr 42 [(1,pt 1 0)]) (hT 2 [(oC [zI z1,Sl.v 1 s1])]) (.k0 [false] [.tmp 1 false] [1]) ?_)
    refine .then (.rK (.ghs (fr 42 [(1,pt 1 0),(3,(zI (-1:Int)))]) (hT 2 [(oC [zI z1,Sl.v 1 s1])]) (.k0 [false] [.tmp 1 false] [1,3]) ?_))
    refine .join (v:=v) (fun y:Unit=>((fr 42 []),AO)) (fun y=>WN pu n) ?_ ?_
    ·rintro _ hm
     exact Adm pu n hm
    ·refine .then (.rK (.ghs (fr 42 [(1,pt 1 0),(3,(zI (-1:Int))),(21,Sl.v 1 s1),(22,(zI (Int.ofNat (Sl.n s1)))),(23,(zI (0:Int)))]) (hT 2 [(oC [zI z1,Sl.v 1 s1])]) (.k0 [false] [.tmp 1 false] [1,3,21,22,23]) ?_))
     refine .block (.loopM (v:=v) (fun y:Int×Sl×Int×Int×Int×Sl=>((fr 42 [(1,pt 1 0),(3,(zI y.1)),(21,(Sl.v 1 y.2.1)),(22,(zI y.2.2.1)),(23,(zI y.2.2.2.1))]),(hT 2 [(oC [(zI y.2.2.2.2.1),(Sl.v 1 y.2.2.2.2.2)])]))) (fun w y=>WP pu n w y.1 y.2.1 y.2.2.1 y.2.2.2.1 y.2.2.2.2.1 y.2.2.2.2.2) n ⟨((-1:Int),s1,(Int.ofNat (Sl.n s1)),(0:Int),z1,s1),hm,(.k0 [false] [.tmp 1 false] [1,3,21,22,23])⟩ (fun _=>rfl) ?_)
     rintro w0 ⟨z2,s2,z3,z4,z5,s3⟩ hm
     replace hm:ZC pu n (WP pu n w0) z2 s2 z3 z4 z5 s3=some v:=hm
     unfold ZC at hm
     refine .then (.rK (.ghs (fr 42 [(1,pt 1 0),(3,zI z2),(21,Sl.v 1 s2),(22,zI z3),(23,zI z4),(24,(zB (AY z4 z3)))]) (hT 2 [(oC [zI z5,Sl.v 1 s3])]) (.k0 [false] [.tmp 1 false] [1,3,21,22,23,24]) ?_))
     refine .then ?_
     replace hm:=Ag hm;rcases hm with⟨h2,hm⟩ | ⟨h2,hm⟩
     ·refine DT (AY z4 z3) h2 ?_
      refine .skip (.ghs (fr 42 [(1,pt 1 0),(3,zI z2),(21,Sl.v 1 s2),(22,zI z3),(23,zI z4)]) (hT 2 [(oC [zI z5,Sl.v 1 s3])]) (.k0 [false] [.tmp 1 false] [1,3,21,22,23]) ?_)
      refine .then (.block (.then ?_))
      replace hm:=Ab hm;obtain⟨k1,h3,hm⟩:=hm
      obtain rfl:=AR h3
      replace hm:=Ae hm;obtain⟨h4,hm⟩:=hm
      replace hm:=K8 hm;obtain⟨x1,h5,hm⟩:=hm
      refine .reg (eD (keep (hT 2 [(oC [zI z5,Sl.v 1 s3])]) (bb (an (Nat.blt k1 (Sl.n s2)) true) (some (Cv (k1*1) (Sl.cs s2))) none)) (AX h4) (eD (keep (hT 2 [(oC [zI z5,Sl.v 1 s3])]) (AL (Sl.cs s2) (k1*1))) (AZ h5) (eE))) ?_
      refine .ghs (fr 42 [(1,pt 1 0),(3,zI z2),(5,zI x1),(21,Sl.v 1 s2),(22,zI z3),(23,(zI (Int.ofNat k1)))]) (hT 2 [(oC [zI z5,Sl.v 1 s3])]) (.k0 [false] [.tmp 1 false] [1,3,5,21,22,23]) ?_
      refine .then (.block (.join (v:=v) (fun y:Int×Int×Sl×Int×Int×Bool×Int×Sl=>((fr 42 [(1,pt 1 0),(3,(zI y.1)),(5,(zI y.2.1)),(21,(Sl.v 1 y.2.2.1)),(22,(zI y.2.2.2.1)),(23,(zI y.2.2.2.2.1)),(27,(zB y.2.2.2.2.2.1))]),(hT 2 [(oC [(zI y.2.2.2.2.2.2.1),(Sl.v 1 y.2.2.2.2.2.2.2)])]))) (fun y=>WO pu n (WP pu n w0) y.1 y.2.1 y.2.2.1 y.2.2.2.1 y.2.2.2.2.1 y.2.2.2.2.2.1 y.2.2.2.2.2.2.1 y.2.2.2.2.2.2.2) ?_ ?_))
      ·rintro⟨z6,z7,s4,z8,z9,b1,z10,s5⟩ hm
       unfold WO at hm
       replace hm:=Ag hm;rcases hm with⟨h6,hm⟩ | ⟨h6,hm⟩
       ·refine .ifT b1 (by kernel_rfl) h6 ?_
        refine .then (.rK (.ghs (fr 42 [(2,(zI (2:Int)))]) AO (.k0 [false] [] [2]) ?_))
        refine .ret ?_
        exact A7 (zI (2:Int)) hm
       ·refine .ifF b1 (by kernel_rfl) h6 ?_
        refine .then (.rK (.ghs (fr 42 [(1,pt 1 0),(5,zI z7),(21,Sl.v 1 s4),(22,zI z8),(23,zI z9),(36,(zB (nt (AY z6 z7))))]) (hT 2 [(oC [zI z10,Sl.v 1 s5])]) (.k0 [false] [.tmp 1 false] [1,5,21,22,23,36]) ?_))
        replace hm:=Ag hm;rcases hm with⟨h7,hm⟩ | ⟨h7,hm⟩
        ·refine DT (nt (AY z6 z7)) h7 ?_
         refine .then (.rK (.ghs (fr 42 [(2,(zI (7:Int)))]) AO (.k0 [false] [] [2]) ?_))
         refine .ret ?_
         exact A7 (zI (7:Int)) hm
        ·refine Eb (nt (AY z6 z7)) h7 ?_
         refine .skip (.ghs (fr 42 [(1,pt 1 0),(5,zI z7),(21,Sl.v 1 s4),(22,zI z8),(23,zI z9)]) (hT 2 [(oC [zI z10,Sl.v 1 s5])]) (.k0 [false] [.tmp 1 false] [1,5,21,22,23]) ?_)
         refine .rK (.ghs (fr 42 [(1,pt 1 0),(3,zI z7),(21,Sl.v 1 s4),(22,zI z8),(23,zI z9)]) (hT 2 [(oC [zI z10,Sl.v 1 s5])]) (.k0 [false] [.tmp 1 false] [1,3,21,22,23]) ?_)
         refine .rK ?_
         exact⟨(z7,s4,z8,(Aj .i64 (Int.add z9 (1:Int))),z10,s5),hm,(.k0 [false] [.tmp 1 false] [1,3,21,22,23])⟩
      ·replace hm:=Ag hm;rcases hm with⟨h8,hm⟩ | ⟨h8,hm⟩
       ·refine .reg (eC 1 (some ((zB (AY x1 (0:Int))),(hT 2 [(oC [zI z5,Sl.v 1 s3])]))) (show _=some ((zB true),_) from (by rw[show (AY x1 (0:Int))=true from h8])) (eE)) ?_
        exact⟨(z2,x1,s2,z3,(Int.ofNat k1),true,z5,s3),hm,(.k0 [false] [.tmp 1 false] [1,3,5,21,22,23,27])⟩
       ·refine .reg (eC 1 (some ((zB (AY x1 (0:Int))),(hT 2 [(oC [zI z5,Sl.v 1 s3])]))) (show _=some ((zB false),_) from (by rw[show (AY x1 (0:Int))=false from h8])) (eE)) ?_
        exact⟨(z2,x1,s2,z3,(Int.ofNat k1),(nt (AY x1 z5)),z5,s3),hm,(.k0 [false] [.tmp 1 false] [1,3,5,21,22,23,27])⟩
     ·refine Eb (AY z4 z3) h2 ?_
      refine .exit ?_
      exact⟨(),hm,(.k0 [false] [] [])⟩
 ·replace hm:=Ag hm;rcases hm with⟨h9,hm⟩ | ⟨h9,hm⟩
  ·refine .reg (eC 2 (some ((zB (AY x0 (1:Int))),(hT 2 [(oC [zI x0,Sl.v 1 s0])]))) (show _=some ((zB true),_) from (by rw[show (AY x0 (1:Int))=true from h9])) (eE)) ?_
   exact⟨(true,x0,s0),hm,(.k0 [false] [.tmp 1 false] [1,6])⟩
  ·refine .reg (eC 2 (some ((zB (AY x0 (1:Int))),(hT 2 [(oC [zI x0,Sl.v 1 s0])]))) (show _=some ((zB false),_) from (by rw[show (AY x0 (1:Int))=false from h9])) (eE)) ?_
   exact⟨((AY (21:Int) x0),x0,s0),hm,(.k0 [false] [.tmp 1 false] [1,6])⟩
def WR (pu:Af) (n:Nat) (z1 z2 z3 z4:Int):OV:=
 (some (.agg ⟨[.int .i64 z3,.int .u32 z4]⟩))
def ZE (pu:Af) (n:Nat) (ih0:Sl→Int→Int→Int→Int→Int→Int→OV) (s0:Sl) (z1 z2 z3 z4 z5 z6:Int):OV:=
 (bb (AY z2 z1) (oo (EA z2) none fun k1=>(bb (an (Nat.blt k1 (Sl.n s0)) true) (oo (AL (Sl.cs s0) (k1*1)) none fun v0=>(oo (Bi .i64 v0) none fun x0=>(oo (EA x0) none fun k2=>(ih0 s0 z1 (Aj .i64 (Int.add (Int.ofNat k1) (1:Int))) z3 z4 z5 (jF .u32 z6 (QW .u32 (1:Int) k2)))))) none)) (WR pu n z3 z4 z5 z6))
def ZF (pu:Af) (n w:Nat):Sl→Int→Int→Int→Int→Int→Int→OV:=
 Nat.rec (motive:=fun _=>Sl→Int→Int→Int→Int→Int→Int→OV) (fun _ _ _ _ _ _ _=>none) (fun _ ih0=>ZE pu n ih0) w
def Adn (pu:Af) (n:Nat) (x0:Int) (s0:Sl):OV:=
 (ZF pu n n s0 (Int.ofNat (Sl.n s0)) (0:Int) (0:Int) (0:Int) x0 (0:Int))
def m51 (pu:Af) (n:Nat) (args:LV):OV:=
 (ll args none fun a0 args=>(ll args none fun a1 args=>(ll args (oo (Bi .i64 a0) none fun x0=>(oo (Bj 1 a1) none fun s0=>(Adn pu n x0 s0))) fun _ _=>none)))
theorem Ado (pu:Af) (n:Nat) (z1 z2 z3 z4:Int) {v:Value} (hm:WR pu n z1 z2 z3 z4=some v):BN tt (Bb tabs isP pu (inl pu)) 1 Yt (fr 24 [(4,pt 1 0),(5,(pt 2 0))]) (hT 3 [(oC [zI z1,.int .u32 z2]),(oC [zI z3,.int .u32 z4])]) (Fin tt 1 [.cell 4 45] v):=by
 unfold WR at hm
 refine .then (.rK (.ghs (fr 24 [(4,pt 1 0)]) (hT 2 [(oC [zI z3,.int .u32 z4])]) (.k0 [false] [.tmp 4 false] [4]) ?_))
 refine .ret ?_
 exact A7 (.agg ⟨[zI z3,.int .u32 z4]⟩) hm
theorem r51 {call:A8} (pu:Af) (n:Nat) (hcall:call=Bb tabs isP pu (inl pu)) {args:LV} {v:Value} (hm:m51 pu n args=some v) (_:∀ x∈args,closed2 x=true):args.length≤24∧BN tt call 1 Sg (Fr.made 24 args) (Ao tabs) (Fin tt 1 [.cell 4 45] v):=by
 subst hcall
 unfold m51 at hm
 replace hm:=Ad hm;obtain⟨a0,args_0,rfl,hm⟩:=hm
 replace hm:=Ad hm;obtain⟨a1,args_1,rfl,hm⟩:=hm
 replace hm:=AC hm;obtain⟨rfl,hm⟩:=hm
 replace hm:=Ai hm;obtain⟨x0,rfl,hm⟩:=hm
 replace hm:=Al hm;obtain⟨s0,rfl,hm⟩:=hm
 unfold Adn at hm
 refine⟨by simp,?_⟩
 refine .same (F':=(fr 24 [(0,zI x0),(1,Sl.v 1 s0)])) (H':=AO) (by kernel_rfl) (by kernel_rfl) ?_
 refine .then (.rK (.ghs (fr 24 [(0,zI x0),(1,Sl.v 1 s0),(4,pt 1 0)]) (hT 2 [(oC [(zI (0:Int)),(.int .u32 (0:Int))])]) (.k0 [false] [.tmp 4 false] [0,1,4]) ?_))
 refine .then (.rK (.ghs (fr 24 [(1,Sl.v 1 s0),(4,pt 1 0),(5,(pt 2 0))]) (hT 3 [(oC [(zI (0:Int)),(.int .u32 (0:Int))]),(oC [zI x0,(.int .u32 (0:Int))])]) (.k0 [false] [.tmp 4 false,.tmp 5 false] [1,4,5]) ?_))
 refine .join (v:=v) (fun y:Int×Int×Int×Int=>((fr 24 [(4,pt 1 0),(5,(pt 2 0))]),(hT 3 [(oC [(zI y.1),(.int .u32 y.2.1)]),(oC [(zI y.2.2.1),(.int .u32 y.2.2.2)])]))) (fun y=>WR pu n y.1 y.2.1 y.2.2.1 y.2.2.2) ?_ ?_
 ·rintro⟨z1,z2,z3,z4⟩ hm
  exact Ado pu n z1 z2 z3 z4 hm
 ·refine .then (.rK (.ghs (fr 24 [(4,pt 1 0),(5,(pt 2 0)),(10,Sl.v 1 s0),(11,(zI (Int.ofNat (Sl.n s0)))),(12,(zI (0:Int)))]) (hT 3 [(oC [(zI (0:Int)),(.int .u32 (0:Int))]),(oC [zI x0,(.int .u32 (0:Int))])]) (.k0 [false] [.tmp 4 false,.tmp 5 false] [4,5,10,11,12]) ?_))
  refine .block (.loopM (v:=v) (fun y:Sl×Int×Int×Int×Int×Int×Int=>((fr 24 [(4,pt 1 0),(5,(pt 2 0)),(10,(Sl.v 1 y.1)),(11,(zI y.2.1)),(12,(zI y.2.2.1))]),(hT 3 [(oC [(zI y.2.2.2.1),(.int .u32 y.2.2.2.2.1)]),(oC [(zI y.2.2.2.2.2.1),(.int .u32 y.2.2.2.2.2.2)])]))) (fun w y=>ZF pu n w y.1 y.2.1 y.2.2.1 y.2.2.2.1 y.2.2.2.2.1 y.2.2.2.2.2.1 y.2.2.2.2.2.2) n ⟨(s0,(Int.ofNat (Sl.n s0)),(0:Int),(0:Int),(0:Int),x0,(0:Int)),hm,(.k0 [false] [.tmp 4 false,.tmp 5 false] [4,5,10,11,12])⟩ (fun _=>rfl) ?_)
  rintro w0 ⟨s1,z5,z6,z7,z8,z9,z10⟩ hm
  replace hm:ZE pu n (ZF pu n w0) s1 z5 z6 z7 z8 z9 z10=some v:=hm
  unfold ZE at hm
  refine .then (.rK (.ghs (fr 24 [(4,pt 1 0),(5,(pt 2 0)),(10,Sl.v 1 s1),(11,zI z5),(12,zI z6),(13,(zB (AY z6 z5)))]) (hT 3 [(oC [zI z7,.int .u32 z8]),(oC [zI z9,.int .u32 z10])]) (.k0 [false] [.tmp 4 false,.tmp 5 false] [4,5,10,11,12,13]) ?_))
  refine .then ?_
  replace hm:=Ag hm;rcases hm with⟨h0,hm⟩ | ⟨h0,hm⟩
  ·refine DT (AY z6 z5) h0 ?_
   refine .skip (.ghs (fr 24 [(4,pt 1 0),(5,(pt 2 0)),(10,Sl.v 1 s1),(11,zI z5),(12,zI z6)]) (hT 3 [(oC [zI z7,.int .u32 z8]),(oC [zI z9,.int .u32 z10])]) (.k0 [false] [.tmp 4 false,.tmp 5 false] [4,5,10,11,12]) ?_)
   refine .then (.block (.then ?_))
   replace hm:=Ab hm;obtain⟨k1,h1,hm⟩:=hm
   obtain rfl:=AR h1
   replace hm:=Ae hm;obtain⟨h2,hm⟩:=hm
   replace hm:=K8 hm;obtain⟨x1,h3,hm⟩:=hm
   refine .reg (eD (keep (hT 3 [(oC [zI z7,.int .u32 z8]),(oC [zI z9,.int .u32 z10])]) (bb (an (Nat.blt k1 (Sl.n s1)) true) (some (Cv (k1*1) (Sl.cs s1))) none)) (AX h2) (eD (keep (hT 3 [(oC [zI z7,.int .u32 z8]),(oC [zI z9,.int .u32 z10])]) (AL (Sl.cs s1) (k1*1))) (AZ h3) (eE))) ?_
   refine .ghs (fr 24 [(4,pt 1 0),(5,(pt 2 0)),(7,zI x1),(10,Sl.v 1 s1),(11,zI z5),(12,(zI (Int.ofNat k1)))]) (hT 3 [(oC [zI z7,.int .u32 z8]),(oC [zI z9,.int .u32 z10])]) (.k0 [false] [.tmp 4 false,.tmp 5 false] [4,5,7,10,11,12]) ?_
   replace hm:=Ab hm;obtain⟨k2,h4,hm⟩:=hm
   obtain rfl:=AR h4
   refine .rK (.ghs (fr 24 [(4,pt 1 0),(5,(pt 2 0)),(10,Sl.v 1 s1),(11,zI z5),(12,(zI (Int.ofNat k1)))]) (hT 3 [(oC [zI z7,.int .u32 z8]),(oC [zI z9,(.int .u32 (jF .u32 z10 (QW .u32 (1:Int) k2)))])]) (.k0 [false] [.tmp 4 false,.tmp 5 false] [4,5,10,11,12]) ?_)
   refine .rK ?_
   exact⟨(s1,z5,(Aj .i64 (Int.add (Int.ofNat k1) (1:Int))),z7,z8,z9,(jF .u32 z10 (QW .u32 (1:Int) k2))),hm,(.k0 [false] [.tmp 4 false,.tmp 5 false] [4,5,10,11,12])⟩
  ·refine Eb (AY z6 z5) h0 ?_
   refine .exit ?_
   exact⟨(z7,z8,z9,z10),hm,(.k0 [false] [.tmp 4 false,.tmp 5 false] [4,5])⟩

def fG (pu:Af) (n:Nat) (x0 x1:Int):OV:=
 (oo (pu 56 [.int .i64 x0]) none fun v0=>(oo (Bf v0) none fun b0=>(oo (pu 56 [.int .i64 x1]) none fun v1=>(oo (Bf v1) none fun b1=>(bb b0 (bb b1 (some (.int .i64 (0:Int))) (some (.int .i64 (-1:Int)))) (bb b1 (some (.int .i64 (1:Int))) (bb (AY x0 x1) (some (.int .i64 (-1:Int))) (bb (AY x1 x0) (some (.int .i64 (1:Int))) (some (.int .i64 (0:Int)))))))))))
def m55 (pu:Af) (n:Nat) (args:LV):OV:=
 (ll args none fun a0 args=>(ll args none fun a1 args=>(ll args (oo (Bi .i64 a0) none fun x0=>(oo (Bi .i64 a1) none fun x1=>(fG pu n x0 x1))) fun _ _=>none)))
theorem r55 {call:A8} (pu:Af) (n:Nat) (hcall:call=Bb tabs isP pu (inl pu)) {args:LV} {v:Value} (hm:m55 pu n args=some v) (_:∀ x∈args,closed2 x=true):args.length≤20∧BN tt call 1 Si (Fr.made 20 args) (Ao tabs) (Fin tt 1 [.tmp 4] v):=by
 subst hcall
 unfold m55 at hm
 replace hm:=Ad hm;obtain⟨a0,args_0,rfl,hm⟩:=hm
 replace hm:=Ad hm;obtain⟨a1,args_1,rfl,hm⟩:=hm
 replace hm:=AC hm;obtain⟨rfl,hm⟩:=hm
 replace hm:=Ai hm;obtain⟨x0,rfl,hm⟩:=hm
 replace hm:=Ai hm;obtain⟨x1,rfl,hm⟩:=hm
 unfold fG at hm
 refine⟨by simp,?_⟩
 refine .same (F':=(fr 20 [(0,zI x0),(1,zI x1)])) (H':=AO) (by kernel_rfl) (by kernel_rfl) ?_
 refine .then (.rK (.ghs (fr 20 [(0,zI x0),(1,zI x1)]) AO (.k0 [false] [] [0,1]) ?_))
 refine .then ?_
 replace hm:=Yd hm;obtain⟨b0,h0,hm⟩:=hm
 refine .reg (eC 1 ((oo (pu 56 [zI x0]) none fun v=>some (v,AO))) (AB h0) (eE)) ?_
 refine .ghs (fr 20 [(0,zI x0),(1,zI x1),(5,zB b0)]) AO (.k0 [false] [] [0,1,5]) ?_
 refine .then ?_
 replace hm:=Yd hm;obtain⟨b1,h1,hm⟩:=hm
 refine .reg (eC 1 ((oo (pu 56 [zI x1]) none fun v=>some (v,AO))) (AB h1) (eE)) ?_
 refine .ghs (fr 20 [(0,zI x0),(1,zI x1),(5,zB b0),(6,zB b1)]) AO (.k0 [false] [] [0,1,5,6]) ?_
 refine .then (.then (.rK (.ghs (fr 20 [(0,zI x0),(1,zI x1),(6,zB b1),(11,zB b0)]) AO (.k0 [false] [] [0,1,6,11]) ?_)))
 replace hm:=Ag hm;rcases hm with⟨h2,hm⟩ | ⟨h2,hm⟩
 ·refine .ifT b0 (by kernel_rfl) h2 ?_
  refine .then (.then (.rK (.ghs (fr 20 [(12,zB b1)]) AO (.k0 [false] [] [12]) ?_)))
  replace hm:=Ag hm;rcases hm with⟨h3,hm⟩ | ⟨h3,hm⟩
  ·refine .ifT b1 (by kernel_rfl) h3 ?_
   refine .then (.rK (.ghs (fr 20 [(4,(zI (0:Int)))]) AO (.k0 [false] [] [4]) ?_))
   refine .ret ?_
   exact A7 (zI (0:Int)) hm
  ·refine .ifF b1 (by kernel_rfl) h3 ?_
   refine .skip (.ghs (fr 20 []) AO (.k0 [false] [] []) ?_)
   refine .then (.rK (.ghs (fr 20 [(4,(zI (-1:Int)))]) AO (.k0 [false] [] [4]) ?_))
   refine .ret ?_
   exact A7 (zI (-1:Int)) hm
 ·refine .ifF b0 (by kernel_rfl) h2 ?_
  refine .skip (.ghs (fr 20 [(0,zI x0),(1,zI x1),(6,zB b1)]) AO (.k0 [false] [] [0,1,6]) ?_)
  refine .then (.then (.rK (.ghs (fr 20 [(0,zI x0),(1,zI x1),(13,zB b1)]) AO (.k0 [false] [] [0,1,13]) ?_)))
  replace hm:=Ag hm;rcases hm with⟨h4,hm⟩ | ⟨h4,hm⟩
  ·refine .ifT b1 (by kernel_rfl) h4 ?_
   refine .then (.rK (.ghs (fr 20 [(4,(zI (1:Int)))]) AO (.k0 [false] [] [4]) ?_))
   refine .ret ?_
   exact A7 (zI (1:Int)) hm
  ·refine .ifF b1 (by kernel_rfl) h4 ?_
   refine .skip (.ghs (fr 20 [(0,zI x0),(1,zI x1)]) AO (.k0 [false] [] [0,1]) ?_)
   refine .then (.then (.rK (.ghs (fr 20 [(0,zI x0),(1,zI x1),(16,(zB (AY x0 x1)))]) AO (.k0 [false] [] [0,1,16]) ?_)))
   replace hm:=Ag hm;rcases hm with⟨h5,hm⟩ | ⟨h5,hm⟩
   ·refine DT (AY x0 x1) h5 ?_
    refine .then (.rK (.ghs (fr 20 [(4,(zI (-1:Int)))]) AO (.k0 [false] [] [4]) ?_))
    refine .ret ?_
    exact A7 (zI (-1:Int)) hm
   ·refine Eb (AY x0 x1) h5 ?_
    refine .skip (.ghs (fr 20 [(0,zI x0),(1,zI x1)]) AO (.k0 [false] [] [0,1]) ?_)
    refine .then (.then (.rK (.ghs (fr 20 [(19,(zB (AY x1 x0)))]) AO (.k0 [false] [] [19]) ?_)))
    replace hm:=Ag hm;rcases hm with⟨h6,hm⟩ | ⟨h6,hm⟩
    ·refine DT (AY x1 x0) h6 ?_
     refine .then (.rK (.ghs (fr 20 [(4,(zI (1:Int)))]) AO (.k0 [false] [] [4]) ?_))
     refine .ret ?_
     exact A7 (zI (1:Int)) hm
    ·refine Eb (AY x1 x0) h6 ?_
     refine .skip (.ghs (fr 20 []) AO (.k0 [false] [] []) ?_)
     refine .then (.rK (.ghs (fr 20 [(4,(zI (0:Int)))]) AO (.k0 [false] [] [4]) ?_))
     refine .ret ?_
     exact A7 (zI (0:Int)) hm

def Adq (pu:Af) (n:Nat) (x0:Int):OV:=
 (some (.bool (nt (Bd x0 x0))))
def m56 (pu:Af) (n:Nat) (args:LV):OV:=
 (ll args none fun a0 args=>(ll args (oo (Bi .i64 a0) none fun x0=>(Adq pu n x0)) fun _ _=>none))
theorem r56 {call:A8} (pu:Af) (n:Nat) (hcall:call=Bb tabs isP pu (inl pu)) {args:LV} {v:Value} (hm:m56 pu n args=some v) (_:∀ x∈args,closed2 x=true):args.length≤6∧BN tt call 1 Wu (Fr.made 6 args) (Ao tabs) (Fin tt 1 [.tmp 2] v):=by
 subst hcall
 unfold m56 at hm
 replace hm:=Ad hm;obtain⟨a0,args_0,rfl,hm⟩:=hm
 replace hm:=AC hm;obtain⟨rfl,hm⟩:=hm
 replace hm:=Ai hm;obtain⟨x0,rfl,hm⟩:=hm
 unfold Adq at hm
 refine⟨by simp,?_⟩
 refine .same (F':=(fr 6 [(0,zI x0)])) (H':=AO) (by kernel_rfl) (by kernel_rfl) ?_
 refine .then (.rK (.ghs (fr 6 [(0,zI x0)]) AO (.k0 [false] [] [0]) ?_))
 refine .then (.rK (.ghs (fr 6 [(2,(zB (nt (Bd x0 x0))))]) AO (.k0 [false] [] [2]) ?_))
 refine .ret ?_
 exact A7 (zB (nt (Bd x0 x0))) hm
def KS (pu:Af) (n:Nat) (e0:List EO) (k1:Nat):OV:=
 (bb (Au F4 e0) (some (.tuple ⟨[(.map (some 1)),(Ef (.map e0 k1))]⟩)) none)
def Ji (pu:Af) (n:Nat) (ih0:Sl→Sl→Int→Int→Int→Int→List EO→Nat→OV) (s0 s1:Sl) (z1 z2 z3 z4:Int) (e0:List EO) (k1:Nat):OV:=
 (bb (Au F4 e0) (ih0 s0 s1 z1 (Aj .i64 (Int.add z2 (1:Int))) z3 z4 e0 k1) none)
def Gu (pu:Af) (n:Nat) (ih0:Sl→Sl→Int→Int→Int→Int→List EO→Nat→OV) (ih1:Sl→Int→Sl→Int→Int→Sl→Int→Int→Int→Int→List EO→Nat→OV) (s0:Sl) (z1:Int) (s1:Sl) (z2 z3:Int) (s2:Sl) (z4 z5 z6 z7:Int) (e0:List EO) (k1:Nat):OV:=
 (bb (Au F4 e0) (ih1 s0 z1 s1 z2 z3 s2 z4 (Aj .i64 (Int.add z5 (1:Int))) z6 z7 e0 k1) none)
def Iq (pu:Af) (n:Nat) (ih0:Sl→Sl→Int→Int→Int→Int→List EO→Nat→OV) (ih1:Sl→Int→Sl→Int→Int→Sl→Int→Int→Int→Int→List EO→Nat→OV) (s0:Sl) (z1:Int) (s1:Sl) (z2 z3:Int) (s2:Sl) (z4 z5 z6 z7:Int) (e0:List EO) (k1:Nat):OV:=
 (bb (Au F4 e0) (bb (AY z5 z4) (oo (EA z5) none fun k2=>(bb (an (Nat.blt k2 (Sl.n s2)) true) (oo (AL (Sl.cs s2) (k2*1)) none fun v0=>(oo (Bi .i64 v0) none fun x0=>(bb (nt (Bd z1 x0)) (oo (pu 47 [(.agg ⟨[.int .i64 z6,.int .u32 z7]⟩),(.int .i64 (Aj .i64 (Int.sub x0 z1)))]) none fun v1=>(oo (Bi .i64 v1) none fun x1=>(oo (GD (.int .i64 x1) e0 0) none fun r0=>(oo (Bi .i64 (Wd r0 (.int .i64 (0:Int)))) none fun x2=>(oo (GD (.int .i64 x1) e0 0) none fun r1=>(bb (Au F4 (Gr (.int .i64 x1) (.int .i64 (Aj .i64 (Int.add x2 (1:Int)))) k1 e0 r1)) (Gu pu n ih0 ih1 s0 z1 s1 z2 z3 s2 z4 (Int.ofNat k2) z6 z7 (Gr (.int .i64 x1) (.int .i64 (Aj .i64 (Int.add x2 (1:Int)))) k1 e0 r1) (Ja k1 r1)) none)))))) (Gu pu n ih0 ih1 s0 z1 s1 z2 z3 s2 z4 (Int.ofNat k2) z6 z7 e0 k1)))) none)) (Ji pu n ih0 s0 s1 z2 z3 z6 z7 e0 k1)) none)
def FL (pu:Af) (n:Nat) (ih0:Sl→Sl→Int→Int→Int→Int→List EO→Nat→OV) (w:Nat):Sl→Int→Sl→Int→Int→Sl→Int→Int→Int→Int→List EO→Nat→OV:=
 Nat.rec (motive:=fun _=>Sl→Int→Sl→Int→Int→Sl→Int→Int→Int→Int→List EO→Nat→OV) (fun _ _ _ _ _ _ _ _ _ _ _ _=>none) (fun _ ih1=>Iq pu n ih0 ih1) w
def Ir (pu:Af) (n:Nat) (ih0:Sl→Sl→Int→Int→Int→Int→List EO→Nat→OV) (s0 s1:Sl) (z1 z2 z3 z4:Int) (e0:List EO) (k1:Nat):OV:=
 (bb (Au F4 e0) (bb (AY z2 z1) (oo (EA z2) none fun k2=>(bb (an (Nat.blt k2 (Sl.n s1)) true) (oo (AL (Sl.cs s1) (k2*1)) none fun v0=>(oo (Bi .i64 v0) none fun x0=>(FL pu n ih0 n s0 x0 s1 z1 (Int.ofNat k2) s0 (Int.ofNat (Sl.n s0)) (0:Int) z3 z4 e0 k1))) none)) (KS pu n e0 k1)) none)
def Fb (pu:Af) (n w:Nat):Sl→Sl→Int→Int→Int→Int→List EO→Nat→OV:=
 Nat.rec (motive:=fun _=>Sl→Sl→Int→Int→Int→Int→List EO→Nat→OV) (fun _ _ _ _ _ _ _ _=>none) (fun _ ih0=>Ir pu n ih0) w
def K9 (pu:Af) (n:Nat) (z1 z2:Int):OV:=
 (bb (Au F4 ([]:List EO)) (oo (pu 46 [(.agg ⟨[.int .i64 z1,.int .u32 z2]⟩)]) none fun v0=>(oo (Bj 1 v0) none fun s0=>(Fb pu n n s0 s0 (Int.ofNat (Sl.n s0)) (0:Int) z1 z2 ([]:List EO) 0))) none)
def LX (pu:Af) (n:Nat) (args:LV):OV:=
 (ll args none fun a0 args=>(ll args (oo (Bt a0) none fun l0=>(ll l0 none fun v0 l0=>(ll l0 none fun v1 l0=>(ll l0 (oo (Bi .i64 v0) none fun x0=>(oo (Bi .u32 v1) none fun x1=>(K9 pu n x0 x1))) fun _ _=>none)))) fun _ _=>none))
theorem ZG (pu:Af) (n:Nat) (e0:List EO) (k1:Nat) {v:Value} (hm:KS pu n e0 k1=some v):BN tt (Bb tabs isP pu (inl pu)) 1 Yu (fr 38 [(3,(.map (some 1)))]) (hT 2 [(.map e0 k1)]) (FJ tt 1 0 [.tmp 2] v):=by
 unfold KS at hm
 refine .then (.rK ?_)
 replace hm:=Ae hm;obtain⟨h0,hm⟩:=hm
 refine .ghs (fr 38 [(2,(.map (some 1)))]) (hT 2 [(.map e0 k1)]) (.k [1] [false] [.tmp 2 false] [2] ⟨Cs h0,trivial⟩) ?_
 refine .ghs (fr 38 [(2,(.map (some 1)))]) (hT 2 [(.map e0 k1)]) (.k [1] [false] [.tmp 2 false] [2] ⟨Cs h0,trivial⟩) ?_
 refine .ret ?_
 exact Gi (.map (some 1)) [(.map e0 k1)] (by kernel_rfl) hm (Nat.le_of_ble_eq_true rfl) (Fa (SH _ _) EJ)
theorem uN (pu:Af) (n:Nat) (z1 z2:Int) {v:Value} (hm:K9 pu n z1 z2=some v):BN tt (Bb tabs isP pu (inl pu)) 1 OU (fr 38 [(0,(.agg ⟨[zI z1,.int .u32 z2]⟩))]) AO (FJ tt 1 0 [.tmp 2] v):=by
 unfold K9 at hm
 refine .then (.rK (.ghs (fr 38 [(1,pt 1 0)]) (hT 2 [(oC [zI z1,.int .u32 z2])]) (.k0 [false] [.tmp 1 false] [1]) ?_))
 refine .then (.rK ?_)
 replace hm:=Ae hm;obtain⟨h0,hm⟩:=hm
 refine .ghs (fr 38 [(1,pt 1 0),(3,(.map (some 2)))]) (hT 3 [(oC [zI z1,.int .u32 z2]),(.map ([]:List EO) 0)]) (.k [2] [false] [.tmp 1 false,.tmp 3 false] [1,3] ⟨Cs h0,trivial⟩) ?_
 refine .then ?_
 replace hm:=Yy hm;obtain⟨s0,h1,hm⟩:=hm
 refine .reg (eC 1 ((oo (pu 46 [(.agg ⟨[zI z1,.int .u32 z2]⟩)]) none fun v=>some (v,(hT 3 [(oC [zI z1,.int .u32 z2]),(.map ([]:List EO) 0)])))) (AB h1) (eE)) ?_
 refine .ghs (fr 38 [(1,pt 1 0),(3,(.map (some 2))),(4,Sl.v 1 s0)]) (hT 3 [(oC [zI z1,.int .u32 z2]),(.map ([]:List EO) 0)]) (.k [2] [false] [.tmp 1 false,.tmp 3 false] [1,3,4] ⟨Cs h0,trivial⟩) ?_
 refine .join (v:=v) (fun y:List EO×Nat=>((fr 38 [(3,(.map (some 1)))]),(hT 2 [(.map y.1 y.2)]))) (fun y=>KS pu n y.1 y.2) ?_ ?_
 ·rintro⟨e0,k1⟩ hm
  exact ZG pu n e0 k1 hm
 ·refine .then (.rK (.ghs (fr 38 [(1,pt 1 0),(3,(.map (some 2))),(4,Sl.v 1 s0),(12,Sl.v 1 s0),(13,(zI (Int.ofNat (Sl.n s0)))),(14,(zI (0:Int)))]) (hT 3 [(oC [zI z1,.int .u32 z2]),(.map ([]:List EO) 0)]) (.k [2] [false] [.tmp 1 false,.tmp 3 false] [1,3,4,12,13,14] ⟨Cs h0,trivial⟩) ?_))
  refine .block (.loopM (v:=v) (fun y:Sl×Sl×Int×Int×Int×Int×List EO×Nat=>((fr 38 [(1,pt 1 0),(3,(.map (some 2))),(4,(Sl.v 1 y.1)),(12,(Sl.v 1 y.2.1)),(13,(zI y.2.2.1)),(14,(zI y.2.2.2.1))]),(hT 3 [(oC [(zI y.2.2.2.2.1),(.int .u32 y.2.2.2.2.2.1)]),(.map y.2.2.2.2.2.2.1 y.2.2.2.2.2.2.2)]))) (fun w y=>Fb pu n w y.1 y.2.1 y.2.2.1 y.2.2.2.1 y.2.2.2.2.1 y.2.2.2.2.2.1 y.2.2.2.2.2.2.1 y.2.2.2.2.2.2.2) n ⟨(s0,s0,(Int.ofNat (Sl.n s0)),(0:Int),z1,z2,([]:List EO),0),hm,(.k [2] [false] [.tmp 1 false,.tmp 3 false] [1,3,4,12,13,14] ⟨Cs h0,trivial⟩)⟩ (fun _=>rfl) ?_)
  rintro w0 ⟨s1,s2,z3,z4,z5,z6,e1,k2⟩ hm
  replace hm:Ir pu n (Fb pu n w0) s1 s2 z3 z4 z5 z6 e1 k2=some v:=hm
  unfold Ir at hm
  refine .then (.rK ?_)
  replace hm:=Ae hm;obtain⟨h2,hm⟩:=hm
  refine .ghs (fr 38 [(1,pt 1 0),(3,(.map (some 2))),(4,Sl.v 1 s1),(12,Sl.v 1 s2),(13,zI z3),(14,zI z4),(15,(zB (AY z4 z3)))]) (hT 3 [(oC [zI z5,.int .u32 z6]),(.map e1 k2)]) (.k [2] [false] [.tmp 1 false,.tmp 3 false] [1,3,4,12,13,14,15] ⟨Cs h2,trivial⟩) ?_
  refine .then ?_
  replace hm:=Ag hm;rcases hm with⟨h3,hm⟩ | ⟨h3,hm⟩
  ·refine DT (AY z4 z3) h3 ?_
   refine .skip (.ghs (fr 38 [(1,pt 1 0),(3,(.map (some 2))),(4,Sl.v 1 s1),(12,Sl.v 1 s2),(13,zI z3),(14,zI z4)]) (hT 3 [(oC [zI z5,.int .u32 z6]),(.map e1 k2)]) (.k [2] [false] [.tmp 1 false,.tmp 3 false] [1,3,4,12,13,14] ⟨Cs h2,trivial⟩) ?_)
   refine .join (v:=v) (fun y:Sl×Sl×Int×Int×Int×Int×List EO×Nat=>((fr 38 [(1,pt 1 0),(3,(.map (some 2))),(4,(Sl.v 1 y.1)),(12,(Sl.v 1 y.2.1)),(13,(zI y.2.2.1)),(14,(zI y.2.2.2.1))]),(hT 3 [(oC [(zI y.2.2.2.2.1),(.int .u32 y.2.2.2.2.2.1)]),(.map y.2.2.2.2.2.2.1 y.2.2.2.2.2.2.2)]))) (fun y=>Ji pu n (Fb pu n w0) y.1 y.2.1 y.2.2.1 y.2.2.2.1 y.2.2.2.2.1 y.2.2.2.2.2.1 y.2.2.2.2.2.2.1 y.2.2.2.2.2.2.2) ?_ ?_
   ·rintro⟨s3,s4,z7,z8,z9,z10,e2,k3⟩ hm
    unfold Ji at hm
    refine .rK ?_
    replace hm:=Ae hm;obtain⟨h4,hm⟩:=hm
    exact⟨(s3,s4,z7,(Aj .i64 (Int.add z8 (1:Int))),z9,z10,e2,k3),hm,(.k [2] [false] [.tmp 1 false,.tmp 3 false] [1,3,4,12,13,14] ⟨Cs h4,trivial⟩)⟩
   ·refine .block (.then ?_)
    replace hm:=Ab hm;obtain⟨k4,h5,hm⟩:=hm
    obtain rfl:=AR h5
    replace hm:=Ae hm;obtain⟨h6,hm⟩:=hm
    replace hm:=K8 hm;obtain⟨x0,h7,hm⟩:=hm
    refine .reg (eD (keep (hT 3 [(oC [zI z5,.int .u32 z6]),(.map e1 k2)]) (bb (an (Nat.blt k4 (Sl.n s2)) true) (some (Cv (k4*1) (Sl.cs s2))) none)) (AX h6) (eD (keep (hT 3 [(oC [zI z5,.int .u32 z6]),(.map e1 k2)]) (AL (Sl.cs s2) (k4*1))) (AZ h7) (eE))) ?_
    refine .ghs (fr 38 [(1,pt 1 0),(3,(.map (some 2))),(4,Sl.v 1 s1),(6,zI x0),(12,Sl.v 1 s2),(13,zI z3),(14,(zI (Int.ofNat k4)))]) (hT 3 [(oC [zI z5,.int .u32 z6]),(.map e1 k2)]) (.k [2] [false] [.tmp 1 false,.tmp 3 false] [1,3,4,6,12,13,14] ⟨Cs h2,trivial⟩) ?_
    refine .then (.rK (.ghs (fr 38 [(1,pt 1 0),(3,(.map (some 2))),(4,Sl.v 1 s1),(6,zI x0),(12,Sl.v 1 s2),(13,zI z3),(14,(zI (Int.ofNat k4))),(18,Sl.v 1 s1),(19,(zI (Int.ofNat (Sl.n s1)))),(20,(zI (0:Int)))]) (hT 3 [(oC [zI z5,.int .u32 z6]),(.map e1 k2)]) (.k [2] [false] [.tmp 1 false,.tmp 3 false] [1,3,4,6,12,13,14,18,19,20] ⟨Cs h2,trivial⟩) ?_))
    refine .block (.loopM (v:=v) (fun y:Sl×Int×Sl×Int×Int×Sl×Int×Int×Int×Int×List EO×Nat=>((fr 38 [(1,pt 1 0),(3,(.map (some 2))),(4,(Sl.v 1 y.1)),(6,(zI y.2.1)),(12,(Sl.v 1 y.2.2.1)),(13,(zI y.2.2.2.1)),(14,(zI y.2.2.2.2.1)),(18,(Sl.v 1 y.2.2.2.2.2.1)),(19,(zI y.2.2.2.2.2.2.1)),(20,(zI y.2.2.2.2.2.2.2.1))]),(hT 3 [(oC [(zI y.2.2.2.2.2.2.2.2.1),(.int .u32 y.2.2.2.2.2.2.2.2.2.1)]),(.map y.2.2.2.2.2.2.2.2.2.2.1 y.2.2.2.2.2.2.2.2.2.2.2)]))) (fun w y=>FL pu n (Fb pu n w0) w y.1 y.2.1 y.2.2.1 y.2.2.2.1 y.2.2.2.2.1 y.2.2.2.2.2.1 y.2.2.2.2.2.2.1 y.2.2.2.2.2.2.2.1 y.2.2.2.2.2.2.2.2.1 y.2.2.2.2.2.2.2.2.2.1 y.2.2.2.2.2.2.2.2.2.2.1 y.2.2.2.2.2.2.2.2.2.2.2) n ⟨(s1,x0,s2,z3,(Int.ofNat k4),s1,(Int.ofNat (Sl.n s1)),(0:Int),z5,z6,e1,k2),hm,(.k [2] [false] [.tmp 1 false,.tmp 3 false] [1,3,4,6,12,13,14,18,19,20] ⟨Cs h2,trivial⟩)⟩ (fun _=>rfl) ?_)
    rintro w1 ⟨s5,z11,s6,z12,z13,s7,z14,z15,z16,z17,e3,k5⟩ hm
    replace hm:Iq pu n (Fb pu n w0) (FL pu n (Fb pu n w0) w1) s5 z11 s6 z12 z13 s7 z14 z15 z16 z17 e3 k5=some v:=hm
    unfold Iq at hm
    refine .then (.rK ?_)
    replace hm:=Ae hm;obtain⟨h8,hm⟩:=hm
    refine .ghs (fr 38 [(1,pt 1 0),(3,(.map (some 2))),(4,Sl.v 1 s5),(6,zI z11),(12,Sl.v 1 s6),(13,zI z12),(14,zI z13),(18,Sl.v 1 s7),(19,zI z14),(20,zI z15),(21,(zB (AY z15 z14)))]) (hT 3 [(oC [zI z16,.int .u32 z17]),(.map e3 k5)]) (.k [2] [false] [.tmp 1 false,.tmp 3 false] [1,3,4,6,12,13,14,18,19,20,21] ⟨Cs h8,trivial⟩) ?_
    refine .then ?_
    replace hm:=Ag hm;rcases hm with⟨h9,hm⟩ | ⟨h9,hm⟩
    ·refine DT (AY z15 z14) h9 ?_
     refine .skip (.ghs (fr 38 [(1,pt 1 0),(3,(.map (some 2))),(4,Sl.v 1 s5),(6,zI z11),(12,Sl.v 1 s6),(13,zI z12),(14,zI z13),(18,Sl.v 1 s7),(19,zI z14),(20,zI z15)]) (hT 3 [(oC [zI z16,.int .u32 z17]),(.map e3 k5)]) (.k [2] [false] [.tmp 1 false,.tmp 3 false] [1,3,4,6,12,13,14,18,19,20] ⟨Cs h8,trivial⟩) ?_)
     refine .join (v:=v) (fun y:Sl×Int×Sl×Int×Int×Sl×Int×Int×Int×Int×List EO×Nat=>((fr 38 [(1,pt 1 0),(3,(.map (some 2))),(4,(Sl.v 1 y.1)),(6,(zI y.2.1)),(12,(Sl.v 1 y.2.2.1)),(13,(zI y.2.2.2.1)),(14,(zI y.2.2.2.2.1)),(18,(Sl.v 1 y.2.2.2.2.2.1)),(19,(zI y.2.2.2.2.2.2.1)),(20,(zI y.2.2.2.2.2.2.2.1))]),(hT 3 [(oC [(zI y.2.2.2.2.2.2.2.2.1),(.int .u32 y.2.2.2.2.2.2.2.2.2.1)]),(.map y.2.2.2.2.2.2.2.2.2.2.1 y.2.2.2.2.2.2.2.2.2.2.2)]))) (fun y=>Gu pu n (Fb pu n w0) (FL pu n (Fb pu n w0) w1) y.1 y.2.1 y.2.2.1 y.2.2.2.1 y.2.2.2.2.1 y.2.2.2.2.2.1 y.2.2.2.2.2.2.1 y.2.2.2.2.2.2.2.1 y.2.2.2.2.2.2.2.2.1 y.2.2.2.2.2.2.2.2.2.1 y.2.2.2.2.2.2.2.2.2.2.1 y.2.2.2.2.2.2.2.2.2.2.2) ?_ ?_
     ·rintro⟨s8,z18,s9,z19,z20,s10,z21,z22,z23,z24,e4,k6⟩ hm
      unfold Gu at hm
      refine .rK ?_
      replace hm:=Ae hm;obtain⟨h10,hm⟩:=hm
      exact⟨(s8,z18,s9,z19,z20,s10,z21,(Aj .i64 (Int.add z22 (1:Int))),z23,z24,e4,k6),hm,(.k [2] [false] [.tmp 1 false,.tmp 3 false] [1,3,4,6,12,13,14,18,19,20] ⟨Cs h10,trivial⟩)⟩
     ·refine .block (.then ?_)
      replace hm:=Ab hm;obtain⟨k7,h11,hm⟩:=hm
      obtain rfl:=AR h11
      replace hm:=Ae hm;obtain⟨h12,hm⟩:=hm
      replace hm:=K8 hm;obtain⟨x1,h13,hm⟩:=hm
      refine .reg (eD (keep (hT 3 [(oC [zI z16,.int .u32 z17]),(.map e3 k5)]) (bb (an (Nat.blt k7 (Sl.n s7)) true) (some (Cv (k7*1) (Sl.cs s7))) none)) (AX h12) (eD (keep (hT 3 [(oC [zI z16,.int .u32 z17]),(.map e3 k5)]) (AL (Sl.cs s7) (k7*1))) (AZ h13) (eE))) ?_
      refine .ghs (fr 38 [(1,pt 1 0),(3,(.map (some 2))),(4,Sl.v 1 s5),(6,zI z11),(8,zI x1),(12,Sl.v 1 s6),(13,zI z12),(14,zI z13),(18,Sl.v 1 s7),(19,zI z14),(20,(zI (Int.ofNat k7)))]) (hT 3 [(oC [zI z16,.int .u32 z17]),(.map e3 k5)]) (.k [2] [false] [.tmp 1 false,.tmp 3 false] [1,3,4,6,8,12,13,14,18,19,20] ⟨Cs h8,trivial⟩) ?_
      refine .then (.rK (.ghs (fr 38 [(1,pt 1 0),(3,(.map (some 2))),(4,Sl.v 1 s5),(6,zI z11),(8,zI x1),(12,Sl.v 1 s6),(13,zI z12),(14,zI z13),(18,Sl.v 1 s7),(19,zI z14),(20,(zI (Int.ofNat k7))),(26,(zB (nt (Bd z11 x1))))]) (hT 3 [(oC [zI z16,.int .u32 z17]),(.map e3 k5)]) (.k [2] [false] [.tmp 1 false,.tmp 3 false] [1,3,4,6,8,12,13,14,18,19,20,26] ⟨Cs h8,trivial⟩) ?_))
      replace hm:=Ag hm;rcases hm with⟨h14,hm⟩ | ⟨h14,hm⟩
      ·refine DT (nt (Bd z11 x1)) h14 ?_
       replace hm:=K8 hm;obtain⟨x2,h15,hm⟩:=hm
       replace hm:=Ab hm;obtain⟨r0,h16,hm⟩:=hm
       replace hm:=Ab hm;obtain⟨x3,h17,hm⟩:=hm
       replace hm:=Ab hm;obtain⟨r1,h18,hm⟩:=hm
       refine .reg (eC 5 ((oo (pu 47 [(.agg ⟨[zI z16,.int .u32 z17]⟩),(zI (Aj .i64 (Int.sub x1 z11)))]) none fun v=>some (v,(hT 3 [(oC [zI z16,.int .u32 z17]),(.map e3 k5)])))) (AB h15) (eD (keep (hT 3 [(oC [zI z16,.int .u32 z17]),(.map e3 k5)]) (oo (GD (zI x2) e3 0) none fun r=>oo r (okV false (zI (0:Int)) false) fun p=>pp p fun _ v=>okV false v true)) (MM h16 (Eh h17)) (eC 1 (done (oo (GD (zI x2) e3 0) none fun r=>oo r (some (Aa.set (hT 3 [(oC [zI z16,.int .u32 z17]),(.map e3 k5)]) 2 (.map (Br e3 [⟨zI x2,(zI (Aj .i64 (Int.add x3 (1:Int)))),k5⟩]) (k5+1)))) fun p=>pp p fun j _=>some (Aa.set (hT 3 [(oC [zI z16,.int .u32 z17]),(.map e3 k5)]) 2 (.map (SS (fun e=>⟨zI x2,(zI (Aj .i64 (Int.add x3 (1:Int)))),e.born⟩) j e3) k5))) undef) (Us (H2:=(hT 3 [(oC [zI z16,.int .u32 z17]),(.map (Gr (zI x2) (zI (Aj .i64 (Int.add x3 (1:Int)))) k5 e3 r1) (Ja k5 r1))])) h18) (eE)))) ?_
       replace hm:=Ae hm;obtain⟨h19,hm⟩:=hm
       exact⟨(s5,z11,s6,z12,z13,s7,z14,(Int.ofNat k7),z16,z17,(Gr (zI x2) (zI (Aj .i64 (Int.add x3 (1:Int)))) k5 e3 r1),(Ja k5 r1)),hm,(.k [2] [false] [.tmp 1 false,.tmp 3 false] [1,3,4,6,12,13,14,18,19,20] ⟨Cs h19,trivial⟩)⟩
      ·refine Eb (nt (Bd z11 x1)) h14 ?_
       refine .skip ?_
       exact⟨(s5,z11,s6,z12,z13,s7,z14,(Int.ofNat k7),z16,z17,e3,k5),hm,(.k [2] [false] [.tmp 1 false,.tmp 3 false] [1,3,4,6,12,13,14,18,19,20] ⟨Cs h8,trivial⟩)⟩
    ·refine Eb (AY z15 z14) h9 ?_
     refine .exit ?_
     exact⟨(s5,s6,z12,z13,z16,z17,e3,k5),hm,(.k [2] [false] [.tmp 1 false,.tmp 3 false] [1,3,4,12,13,14] ⟨Cs h8,trivial⟩)⟩
  ·refine Eb (AY z4 z3) h3 ?_
   refine .exit ?_
   exact⟨(e1,k2),hm,(.k [2] [false] [.tmp 3 false] [3] ⟨Cs h2,trivial⟩)⟩
theorem uO {call:A8} (pu:Af) (n:Nat) (hcall:call=Bb tabs isP pu (inl pu)) {args:LV} {os:List AJ} {z:Value} (ha:args.length=1) (hk:os.length=0) (hpl:∀ o∈os,plainO o) (hm:LX pu n (args++os.map Ef)=some z):args.length≤38∧BN tt call (tabs.length+0) OU (Fr.made 38 args) (BK tabs os) (FJ tt tabs.length 0 [.tmp 2] z):=by
 subst hcall
 have hq:=BC ha;clear ha;obtain⟨a0,args,rfl,ha⟩:=hq
 obtain rfl:=len_nil ha
 obtain rfl:=len_nil hk
 replace hm:LX pu n [a0]=some z:=hm
 unfold LX at hm
 replace hm:(oo (Bt a0) none fun l0=>(ll l0 none fun v0 l0=>(ll l0 none fun v1 l0=>(ll l0 (oo (Bi .i64 v0) none fun x0=>(oo (Bi .u32 v1) none fun x1=>(K9 pu n x0 x1))) fun _ _=>none))))=some z:=hm
 replace hm:=BG hm;obtain⟨l0,rfl,hm⟩:=hm
 replace hm:=Ad hm;obtain⟨v0,l1618_0,rfl,hm⟩:=hm
 replace hm:=Ad hm;obtain⟨v1,l1618_1,rfl,hm⟩:=hm
 replace hm:=AC hm;obtain⟨rfl,hm⟩:=hm
 replace hm:=Ai hm;obtain⟨x0,rfl,hm⟩:=hm
 replace hm:=Ai hm;obtain⟨x1,rfl,hm⟩:=hm
 refine⟨by simp,?_⟩
 exact .same (F':=(fr 38 [(0,(.agg ⟨[zI x0,.int .u32 x1]⟩))])) (H':=AO) (by kernel_rfl) (by kernel_rfl) (uN pu n x0 x1 hm)
end
end Go.RgQM
