/- Made from wip. -/
import Derived.Test.YtokbaaeimejjlaaGreatDoorBkVMod1x

set_option maxRecDepth 100000
set_option maxHeartbeats 20000000
set_option linter.unusedVariables false
namespace Go.BkVM
open Go.Sp Go.BkV
noncomputable section
def Wl (pu:Af) (n:Nat) (b0:Bool):OV:=
 (some (.bool b0))
def Agy (pu:Af) (n:Nat) (x0 x1 x2:Int):OV:=
 (bb (nt (AY x1 x0)) (Wl pu n (nt (AY x2 x1))) (Wl pu n false))
def m59 (pu:Af) (n:Nat) (args:LV):OV:=
 (ll args none fun a0 args=>(ll args none fun a1 args=>(ll args none fun a2 args=>(ll args (oo (Bi .i64 a0) none fun x0=>(oo (Bi .i64 a1) none fun x1=>(oo (Bi .i64 a2) none fun x2=>(Agy pu n x0 x1 x2)))) fun _ _=>none))))
theorem AgA (pu:Af) (n:Nat) (b0:Bool) {v:Value} (hm:Wl pu n b0=some v):BN tt (Bb tabs isP pu (inl pu)) 1 .ret (fr 15 [(6,zB b0)]) AO (Fin tt 1 [.tmp 6] v):=by
 unfold Wl at hm
 refine .ret ?_
 exact A7 (zB b0) hm
theorem r59 {call:A8} (pu:Af) (n:Nat) (hcall:call=Bb tabs isP pu (inl pu)) {args:LV} {v:Value} (hm:m59 pu n args=some v) (_:∀ x∈args,closed2 x=true):args.length≤15∧BN tt call 1 XU (Fr.made 15 args) (Ao tabs) (Fin tt 1 [.tmp 6] v):=by
 subst hcall
 unfold m59 at hm
 replace hm:=Ad hm;obtain⟨a0,args_0,rfl,hm⟩:=hm
 replace hm:=Ad hm;obtain⟨a1,args_1,rfl,hm⟩:=hm
 replace hm:=Ad hm;obtain⟨a2,args_2,rfl,hm⟩:=hm
 replace hm:=AC hm;obtain⟨rfl,hm⟩:=hm
 replace hm:=Ai hm;obtain⟨x0,rfl,hm⟩:=hm
 replace hm:=Ai hm;obtain⟨x1,rfl,hm⟩:=hm
 replace hm:=Ai hm;obtain⟨x2,rfl,hm⟩:=hm
 unfold Agy at hm
 refine⟨by simp,?_⟩
 refine .same (F':=(fr 15 [(0,zI x0),(1,zI x1),(2,zI x2)])) (H':=AO) (by kernel_rfl) (by kernel_rfl) ?_
 refine .then (.rK (.ghs (fr 15 [(0,zI x0),(1,zI x1),(2,zI x2)]) AO (.k0 [false] [] [0,1,2]) ?_))
 refine .join (v:=v) (fun y:Bool=>((fr 15 [(6,zB y)]),AO)) (fun y=>Wl pu n y) ?_ ?_
 ·rintro b0 hm
  exact AgA pu n b0 hm
 ·replace hm:=Ag hm;rcases hm with⟨h0,hm⟩ | ⟨h0,hm⟩
  ·refine .reg (eC 2 (some ((zB (nt (AY x1 x0))),AO)) (show _=some ((zB true),_) from (by rw[show (nt (AY x1 x0))=true from h0])) (eE)) ?_
   exact⟨(nt (AY x2 x1)),hm,(.k0 [false] [] [6])⟩
  ·refine .reg (eC 2 (some ((zB (nt (AY x1 x0))),AO)) (show _=some ((zB false),_) from (by rw[show (nt (AY x1 x0))=false from h0])) (eE)) ?_
   exact⟨false,hm,(.k0 [false] [] [6])⟩
def Wm (pu:Af) (n:Nat) (b0:Bool):OV:=
 (some (.bool b0))
def AgB (pu:Af) (n:Nat) (x0 x1 x2:Int):OV:=
 (bb (nt (AY x0 x1)) (Wm pu n (nt (AY x2 x0))) (Wm pu n false))
def m62 (pu:Af) (n:Nat) (args:LV):OV:=
 (ll args none fun a0 args=>(ll args none fun a1 args=>(ll args none fun a2 args=>(ll args (oo (Bi .i64 a0) none fun x0=>(oo (Bi .i64 a1) none fun x1=>(oo (Bi .i64 a2) none fun x2=>(AgB pu n x0 x1 x2)))) fun _ _=>none))))
theorem AgC (pu:Af) (n:Nat) (b0:Bool) {v:Value} (hm:Wm pu n b0=some v):BN tt (Bb tabs isP pu (inl pu)) 1 .ret (fr 15 [(6,zB b0)]) AO (Fin tt 1 [.tmp 6] v):=by
 unfold Wm at hm
 refine .ret ?_
 exact A7 (zB b0) hm
theorem r62 {call:A8} (pu:Af) (n:Nat) (hcall:call=Bb tabs isP pu (inl pu)) {args:LV} {v:Value} (hm:m62 pu n args=some v) (_:∀ x∈args,closed2 x=true):args.length≤15∧BN tt call 1 XZ (Fr.made 15 args) (Ao tabs) (Fin tt 1 [.tmp 6] v):=by
 subst hcall
 unfold m62 at hm
 replace hm:=Ad hm;obtain⟨a0,args_0,rfl,hm⟩:=hm
 replace hm:=Ad hm;obtain⟨a1,args_1,rfl,hm⟩:=hm
 replace hm:=Ad hm;obtain⟨a2,args_2,rfl,hm⟩:=hm
 replace hm:=AC hm;obtain⟨rfl,hm⟩:=hm
 replace hm:=Ai hm;obtain⟨x0,rfl,hm⟩:=hm
 replace hm:=Ai hm;obtain⟨x1,rfl,hm⟩:=hm
 replace hm:=Ai hm;obtain⟨x2,rfl,hm⟩:=hm
 unfold AgB at hm
 refine⟨by simp,?_⟩
 refine .same (F':=(fr 15 [(0,zI x0),(1,zI x1),(2,zI x2)])) (H':=AO) (by kernel_rfl) (by kernel_rfl) ?_
 refine .then (.rK (.ghs (fr 15 [(0,zI x0),(1,zI x1),(2,zI x2)]) AO (.k0 [false] [] [0,1,2]) ?_))
 refine .join (v:=v) (fun y:Bool=>((fr 15 [(6,zB y)]),AO)) (fun y=>Wm pu n y) ?_ ?_
 ·rintro b0 hm
  exact AgC pu n b0 hm
 ·replace hm:=Ag hm;rcases hm with⟨h0,hm⟩ | ⟨h0,hm⟩
  ·refine .reg (eC 2 (some ((zB (nt (AY x0 x1))),AO)) (show _=some ((zB true),_) from (by rw[show (nt (AY x0 x1))=true from h0])) (eE)) ?_
   exact⟨(nt (AY x2 x0)),hm,(.k0 [false] [] [6])⟩
  ·refine .reg (eC 2 (some ((zB (nt (AY x0 x1))),AO)) (show _=some ((zB false),_) from (by rw[show (nt (AY x0 x1))=false from h0])) (eE)) ?_
   exact⟨false,hm,(.k0 [false] [] [6])⟩
def Wn (pu:Af) (n:Nat) (s0 s1:Sl):OV:=
 (bb (AY (Int.ofNat (Sl.n s0)) (Int.ofNat (Sl.n s1))) (some (.int .i64 (-1:Int))) (some (.int .i64 (0:Int))))
def Qu (pu:Af) (n:Nat) (ih0:Sl→Sl→Sl→Int→Int→OV) (s0 s1 s2:Sl) (z0 z1:Int):OV:=
 (bb (AY z1 z0) (oo (EA z1) none fun k1=>(bb (an (Nat.blt k1 (Sl.n s2)) true) (oo (AL (Sl.cs s2) (k1*1)) none fun v0=>(oo (Bi .i64 v0) none fun x0=>(bb (nt (AY (Int.ofNat k1) (Int.ofNat (Sl.n s1)))) (some (.int .i64 (1:Int))) (bb (an (Nat.blt k1 (Sl.n s1)) true) (oo (AL (Sl.cs s1) (k1*1)) none fun v1=>(oo (Bi .i64 v1) none fun x1=>(oo (pu 90 [.int .i64 x0,.int .i64 x1]) none fun v2=>(oo (Bi .i64 v2) none fun x2=>(bb (nt (Bd x2 (0:Int))) (some (.int .i64 x2)) (ih0 s0 s1 s2 z0 (Aj .i64 (Int.add (Int.ofNat k1) (1:Int))))))))) none)))) none)) (Wn pu n s0 s1))
def Sb (pu:Af) (n w:Nat):Sl→Sl→Sl→Int→Int→OV:=
 Nat.rec (motive:=fun _=>Sl→Sl→Sl→Int→Int→OV) (fun _ _ _ _ _=>none) (fun _ ih0=>Qu pu n ih0) w
def AgD (pu:Af) (n:Nat) (s0 s1:Sl):OV:=
 (Sb pu n n s0 s1 s0 (Int.ofNat (Sl.n s0)) (0:Int))
def m70 (pu:Af) (n:Nat) (args:LV):OV:=
 (ll args none fun a0 args=>(ll args none fun a1 args=>(ll args (oo (Bj 1 a0) none fun s0=>(oo (Bj 1 a1) none fun s1=>(AgD pu n s0 s1))) fun _ _=>none)))
theorem AgF (pu:Af) (n:Nat) (s0 s1:Sl) {v:Value} (hm:Wn pu n s0 s1=some v):BN tt (Bb tabs isP pu (inl pu)) 1 eH (fr 36 [(0,Sl.v 1 s0),(1,Sl.v 1 s1)]) AO (Fin tt 1 [.tmp 4] v):=by
 unfold Wn at hm
 refine .then (.then (.rK (.ghs (fr 36 [(35,(zB (AY (Int.ofNat (Sl.n s0)) (Int.ofNat (Sl.n s1)))))]) AO (.k0 [false] [] [35]) ?_)))
 replace hm:=Ag hm;rcases hm with⟨h0,hm⟩ | ⟨h0,hm⟩
 ·refine Bq (AY (Int.ofNat (Sl.n s0)) (Int.ofNat (Sl.n s1))) h0 ?_
  refine .then (.rK (.ghs (fr 36 [(4,(zI (-1:Int)))]) AO (.k0 [false] [] [4]) ?_))
  refine .ret ?_
  exact A7 (zI (-1:Int)) hm
 ·refine BB (AY (Int.ofNat (Sl.n s0)) (Int.ofNat (Sl.n s1))) h0 ?_
  refine .skip (.ghs (fr 36 []) AO (.k0 [false] [] []) ?_)
  refine .then (.rK (.ghs (fr 36 [(4,(zI (0:Int)))]) AO (.k0 [false] [] [4]) ?_))
  refine .ret ?_
  exact A7 (zI (0:Int)) hm
theorem r70 {call:A8} (pu:Af) (n:Nat) (hcall:call=Bb tabs isP pu (inl pu)) {args:LV} {v:Value} (hm:m70 pu n args=some v) (_:∀ x∈args,closed2 x=true):args.length≤36∧BN tt call 1 Um (Fr.made 36 args) (Ao tabs) (Fin tt 1 [.tmp 4] v):=by
 subst hcall
 unfold m70 at hm
 replace hm:=Ad hm;obtain⟨a0,args_0,rfl,hm⟩:=hm
 replace hm:=Ad hm;obtain⟨a1,args_1,rfl,hm⟩:=hm
 replace hm:=AC hm;obtain⟨rfl,hm⟩:=hm
 replace hm:=Al hm;obtain⟨s0,rfl,hm⟩:=hm
 replace hm:=Al hm;obtain⟨s1,rfl,hm⟩:=hm
 unfold AgD at hm
 refine⟨by simp,?_⟩
 refine .same (F':=(fr 36 [(0,Sl.v 1 s0),(1,Sl.v 1 s1)])) (H':=AO) (by kernel_rfl) (by kernel_rfl) ?_
 refine .then (.rK (.ghs (fr 36 [(0,Sl.v 1 s0),(1,Sl.v 1 s1)]) AO (.k0 [false] [] [0,1]) ?_))
 refine .join (v:=v) (fun y:Sl×Sl=>((fr 36 [(0,(Sl.v 1 y.1)),(1,(Sl.v 1 y.2))]),AO)) (fun y=>Wn pu n y.1 y.2) ?_ ?_
 ·rintro⟨s2,s3⟩ hm
  exact AgF pu n s2 s3 hm
 ·refine .then (.rK (.ghs (fr 36 [(0,Sl.v 1 s0),(1,Sl.v 1 s1),(9,Sl.v 1 s0),(10,(zI (Int.ofNat (Sl.n s0)))),(11,(zI (0:Int)))]) AO (.k0 [false] [] [0,1,9,10,11]) ?_))
  refine .block (.loopM (v:=v) (fun y:Sl×Sl×Sl×Int×Int=>((fr 36 [(0,(Sl.v 1 y.1)),(1,(Sl.v 1 y.2.1)),(9,(Sl.v 1 y.2.2.1)),(10,(zI y.2.2.2.1)),(11,(zI y.2.2.2.2))]),AO)) (fun w y=>Sb pu n w y.1 y.2.1 y.2.2.1 y.2.2.2.1 y.2.2.2.2) n ⟨(s0,s1,s0,(Int.ofNat (Sl.n s0)),(0:Int)),hm,(.k0 [false] [] [0,1,9,10,11])⟩ (fun _=>rfl) ?_)
  rintro w0 ⟨s4,s5,s6,z0,z1⟩ hm
  replace hm:Qu pu n (Sb pu n w0) s4 s5 s6 z0 z1=some v:=hm
  unfold Qu at hm
  refine .then (.rK (.ghs (fr 36 [(0,Sl.v 1 s4),(1,Sl.v 1 s5),(9,Sl.v 1 s6),(10,zI z0),(11,zI z1),(12,(zB (AY z1 z0)))]) AO (.k0 [false] [] [0,1,9,10,11,12]) ?_))
  refine .then ?_
  replace hm:=Ag hm;rcases hm with⟨h0,hm⟩ | ⟨h0,hm⟩
  ·refine Bq (AY z1 z0) h0 ?_
   refine .skip (.ghs (fr 36 [(0,Sl.v 1 s4),(1,Sl.v 1 s5),(9,Sl.v 1 s6),(10,zI z0),(11,zI z1)]) AO (.k0 [false] [] [0,1,9,10,11]) ?_)
   refine .then (.block (.then ?_))
   replace hm:=Ab hm;obtain⟨k1,h1,hm⟩:=hm
   obtain rfl:=AR h1
   replace hm:=Ae hm;obtain⟨h2,hm⟩:=hm
   replace hm:=Gt hm;obtain⟨x0,h3,hm⟩:=hm
   refine .reg (eC 1 (keep AO (bb (an (Nat.blt k1 (Sl.n s6)) true) (some (Cv (k1*1) (Sl.cs s6))) none)) (AX h2) (eD (keep AO (AL (Sl.cs s6) (k1*1))) (AZ h3) (eE))) ?_
   refine .ghs (fr 36 [(0,Sl.v 1 s4),(1,Sl.v 1 s5),(5,(zI (Int.ofNat k1))),(6,zI x0),(9,Sl.v 1 s6),(10,zI z0),(11,(zI (Int.ofNat k1)))]) AO (.k0 [false] [] [0,1,5,6,9,10,11]) ?_
   refine .then (.then (.rK (.ghs (fr 36 [(0,Sl.v 1 s4),(1,Sl.v 1 s5),(5,(zI (Int.ofNat k1))),(6,zI x0),(9,Sl.v 1 s6),(10,zI z0),(11,(zI (Int.ofNat k1))),(19,(zB (nt (AY (Int.ofNat k1) (Int.ofNat (Sl.n s5))))))]) AO (.k0 [false] [] [0,1,5,6,9,10,11,19]) ?_)))
   replace hm:=Ag hm;rcases hm with⟨h4,hm⟩ | ⟨h4,hm⟩
   ·refine Bq (nt (AY (Int.ofNat k1) (Int.ofNat (Sl.n s5)))) h4 ?_
    refine .then (.rK (.ghs (fr 36 [(4,(zI (1:Int)))]) AO (.k0 [false] [] [4]) ?_))
    refine .ret ?_
    exact A7 (zI (1:Int)) hm
   ·refine BB (nt (AY (Int.ofNat k1) (Int.ofNat (Sl.n s5)))) h4 ?_
    refine .skip (.ghs (fr 36 [(0,Sl.v 1 s4),(1,Sl.v 1 s5),(5,(zI (Int.ofNat k1))),(6,zI x0),(9,Sl.v 1 s6),(10,zI z0),(11,(zI (Int.ofNat k1)))]) AO (.k0 [false] [] [0,1,5,6,9,10,11]) ?_)
    refine .then ?_
    replace hm:=Ae hm;obtain⟨h5,hm⟩:=hm
    replace hm:=Gt hm;obtain⟨x1,h6,hm⟩:=hm
    refine .reg (eC 2 (keep AO (bb (an (Nat.blt k1 (Sl.n s5)) true) (some (Cv (k1*1) (Sl.cs s5))) none)) (AX h5) (eD (keep AO (AL (Sl.cs s5) (k1*1))) (AZ h6) (eE))) ?_
    refine .ghs (fr 36 [(0,Sl.v 1 s4),(1,Sl.v 1 s5),(6,zI x0),(7,zI x1),(9,Sl.v 1 s6),(10,zI z0),(11,(zI (Int.ofNat k1)))]) AO (.k0 [false] [] [0,1,6,7,9,10,11]) ?_
    refine .then ?_
    replace hm:=Gt hm;obtain⟨x2,h7,hm⟩:=hm
    refine .reg (eC 2 ((oo (pu 90 [zI x0,zI x1]) none fun v=>some (v,AO))) (AB h7) (eE)) ?_
    refine .ghs (fr 36 [(0,Sl.v 1 s4),(1,Sl.v 1 s5),(8,zI x2),(9,Sl.v 1 s6),(10,zI z0),(11,(zI (Int.ofNat k1)))]) AO (.k0 [false] [] [0,1,8,9,10,11]) ?_
    refine .then (.rK (.ghs (fr 36 [(0,Sl.v 1 s4),(1,Sl.v 1 s5),(8,zI x2),(9,Sl.v 1 s6),(10,zI z0),(11,(zI (Int.ofNat k1))),(28,(zB (nt (Bd x2 (0:Int)))))]) AO (.k0 [false] [] [0,1,8,9,10,11,28]) ?_))
    replace hm:=Ag hm;rcases hm with⟨h8,hm⟩ | ⟨h8,hm⟩
    ·refine Bq (nt (Bd x2 (0:Int))) h8 ?_
     refine .then (.rK (.ghs (fr 36 [(4,zI x2)]) AO (.k0 [false] [] [4]) ?_))
     refine .ret ?_
     exact A7 (zI x2) hm
    ·refine BB (nt (Bd x2 (0:Int))) h8 ?_
     refine .skip (.ghs (fr 36 [(0,Sl.v 1 s4),(1,Sl.v 1 s5),(9,Sl.v 1 s6),(10,zI z0),(11,(zI (Int.ofNat k1)))]) AO (.k0 [false] [] [0,1,9,10,11]) ?_)
     refine .rK ?_
     exact⟨(s4,s5,s6,z0,(Aj .i64 (Int.add (Int.ofNat k1) (1:Int)))),hm,(.k0 [false] [] [0,1,9,10,11])⟩
  ·refine BB (AY z1 z0) h0 ?_
   refine .exit ?_
   exact⟨(s4,s5),hm,(.k0 [false] [] [0,1])⟩

def mD (pu:Af) (n:Nat) (s0:Sl):OV:=
 (bb (Dp (nt (Nat.beq (Sl.fl s0) 2)) (Nat.beq (Sl.n s0) 0)) (some (Sl.v 1 (KY 1 s0))) none)
def m71 (pu:Af) (n:Nat) (args:LV):OV:=
 (ll args none fun a0 args=>(ll args (oo (Bj 1 a0) none fun s0=>(mD pu n s0)) fun _ _=>none))
theorem r71 {call:A8} (pu:Af) (n:Nat) (hcall:call=Bb tabs isP pu (inl pu)) {args:LV} {v:Value} (hm:m71 pu n args=some v) (_:∀ x∈args,closed2 x=true):args.length≤9∧BN tt call 1 X0 (Fr.made 9 args) (Ao tabs) (Fin tt 1 [.tmp 2] v):=by
 subst hcall
 unfold m71 at hm
 replace hm:=Ad hm;obtain⟨a0,args_0,rfl,hm⟩:=hm
 replace hm:=AC hm;obtain⟨rfl,hm⟩:=hm
 replace hm:=Al hm;obtain⟨s0,rfl,hm⟩:=hm
 unfold mD at hm
 refine⟨by simp,?_⟩
 refine .same (F':=(fr 9 [(0,Sl.v 1 s0)])) (H':=AO) (by kernel_rfl) (by kernel_rfl) ?_
 refine .then (.rK (.ghs (fr 9 [(0,Sl.v 1 s0)]) AO (.k0 [false] [] [0]) ?_))
 refine .then ?_
 replace hm:=Ae hm;obtain⟨h0,hm⟩:=hm
 refine .reg (eC 5 (Ut AO ti3 1 s0) (Wh h0) (eE)) ?_
 refine .ghs (fr 9 [(2,(Sl.v 1 (KY 1 s0)))]) AO (.k0 [false] [] [2]) ?_
 refine .ret ?_
 exact A7 (Sl.v 1 (KY 1 s0)) hm

def mE (pu:Af) (n:Nat) (x0:Int):OV:=
 (bb (Bd x0 (0:Int)) (some (.int .i64 (16:Int))) (oo (EA (G6 .u32 (Aj .u32 (Int.mul (Aj .u32 (Np .u16 x0 (Aj .u16 (Int.sub (.ofNat 0) x0)))) (125613361:Int))) 27)) none fun k1=>(bb (Nat.blt k1 32) (oo (AL RQ (0+k1*1)) none fun v0=>(oo (Bi .u8 v0) none fun x1=>(some (.int .i64 (Aj .i64 x1))))) none)))
def m72 (pu:Af) (n:Nat) (args:LV):OV:=
 (ll args none fun a0 args=>(ll args (oo (Bi .u16 a0) none fun x0=>(mE pu n x0)) fun _ _=>none))
theorem r72 {call:A8} (pu:Af) (n:Nat) (hcall:call=Bb tabs isP pu (inl pu)) {args:LV} {v:Value} (hm:m72 pu n args=some v) (_:∀ x∈args,closed2 x=true):args.length≤15∧BN tt call 1 X3 (Fr.made 15 args) (Ao tabs) (Fin tt 1 [.tmp 2] v):=by
 subst hcall
 unfold m72 at hm
 replace hm:=Ad hm;obtain⟨a0,args_0,rfl,hm⟩:=hm
 replace hm:=AC hm;obtain⟨rfl,hm⟩:=hm
 replace hm:=Ai hm;obtain⟨x0,rfl,hm⟩:=hm
 unfold mE at hm
 refine⟨by simp,?_⟩
 refine .same (F':=(fr 15 [(0,.int .u16 x0)])) (H':=AO) (by kernel_rfl) (by kernel_rfl) ?_
 refine .then (.rK (.ghs (fr 15 [(0,.int .u16 x0)]) AO (.k0 [false] [] [0]) ?_))
 refine .then (.then (.rK (.ghs (fr 15 [(0,.int .u16 x0),(4,(zB (Bd x0 (0:Int))))]) AO (.k0 [false] [] [0,4]) ?_)))
 replace hm:=Ag hm;rcases hm with⟨h0,hm⟩ | ⟨h0,hm⟩
 ·refine Bq (Bd x0 (0:Int)) h0 ?_
  refine .then (.rK (.ghs (fr 15 [(2,(zI (16:Int)))]) AO (.k0 [false] [] [2]) ?_))
  refine .ret ?_
  exact A7 (zI (16:Int)) hm
 ·refine BB (Bd x0 (0:Int)) h0 ?_
  refine .skip (.ghs (fr 15 [(0,.int .u16 x0)]) AO (.k0 [false] [] [0]) ?_)
  refine .then ?_
  replace hm:=Ab hm;obtain⟨k1,h1,hm⟩:=hm
  replace hm:=Ae hm;obtain⟨h2,hm⟩:=hm
  replace hm:=Gt hm;obtain⟨x1,h3,hm⟩:=hm
  refine .reg (eC 6 (some ((.int .u32 (G6 .u32 (Aj .u32 (Int.mul (Aj .u32 (Np .u16 x0 (Aj .u16 (Int.sub (.ofNat 0) x0)))) (125613361:Int))) 27)),AO)) (show _=some ((.int .u32 (Int.ofNat k1)),_) from (by rw[AR h1])) (eD (keep AO (bb (Nat.blt k1 32) (some (.pointer (some ⟨0,(0+k1*1),none⟩))) none)) (AX h2) (eD (keep AO (AL RQ (0+k1*1))) (AZ h3) (eE)))) ?_
  refine .ghs (fr 15 [(2,(zI (Aj .i64 x1)))]) AO (.k0 [false] [] [2]) ?_
  refine .ret ?_
  exact A7 (zI (Aj .i64 x1)) hm
def Yn (pu:Af) (n:Nat):OV:=
 (some (.bool true))
def Yo (pu:Af) (n:Nat) (ih0:Sl→Sl→Int→Int→Int→Int→Sl→OV) (s0 s1:Sl) (z0 z1 z2 z3:Int) (s2:Sl):OV:=
 (ih0 s0 s1 (Aj .i64 (Int.add z0 (1:Int))) z1 z2 z3 s2)
def Wo (pu:Af) (n:Nat) (ih0:Sl→Sl→Int→Int→Int→Int→Sl→OV) (s0 s1:Sl) (z0:Int) (b0:Bool) (z1 z2 z3:Int) (s2:Sl):OV:=
 (bb (nt b0) (some (.bool false)) (Yo pu n ih0 s0 s1 z0 z1 z2 z3 s2))
def Qv (pu:Af) (n:Nat) (ih0:Sl→Sl→Int→Int→Int→Int→Sl→OV) (ih1:Sl→Sl→Int→Sl→Bool→Int→Int→Int→Int→Sl→OV) (s0 s1:Sl) (z0:Int) (s2:Sl) (b0:Bool) (z1 z2 z3 z4:Int) (s3:Sl):OV:=
 (bb (AY z1 (Int.ofNat (Sl.n s1))) (bb b0 (ih1 s0 s1 z0 s2 true (Aj .i64 (Int.add z1 (1:Int))) z2 z3 z4 s3) (oo (EA z1) none fun k1=>(bb (an (Nat.blt k1 (Sl.n s1)) true) (oo (AL (Sl.cs s1) (k1*1)) none fun v0=>(oo (Bi .i64 v0) none fun x0=>(oo (EA x0) none fun k2=>(bb (an (Nat.blt k2 (Sl.n s2)) true) (oo (AL (Sl.cs s2) (k2*1)) none fun v1=>(oo (Bi .i64 v1) none fun x1=>(bb (an (Nat.blt k1 (Sl.n s1)) true) (oo (AL (Sl.cs s1) (k1*1)) none fun v2=>(oo (Bi .i64 v2) none fun x2=>(oo (EA x2) none fun k3=>(bb (an (Nat.blt k3 (Sl.n s0)) true) (oo (AL (Sl.cs s0) (k3*1)) none fun v3=>(oo (Bi .i64 v3) none fun x3=>(ih1 s0 s1 z0 s2 (nt (Bd x1 x3)) (Aj .i64 (Int.add (Int.ofNat k1) (1:Int))) z2 z3 z4 s3))) none)))) none))) none)))) none))) (Wo pu n ih0 s0 s1 z0 b0 z2 z3 z4 s3))
def Sc (pu:Af) (n:Nat) (ih0:Sl→Sl→Int→Int→Int→Int→Sl→OV) (w:Nat):Sl→Sl→Int→Sl→Bool→Int→Int→Int→Int→Sl→OV:=
 Nat.rec (motive:=fun _=>Sl→Sl→Int→Sl→Bool→Int→Int→Int→Int→Sl→OV) (fun _ _ _ _ _ _ _ _ _ _=>none) (fun _ ih1=>Qv pu n ih0 ih1) w
def Qw (pu:Af) (n:Nat) (ih0:Sl→Sl→Int→Int→Int→Int→Sl→OV) (s0 s1:Sl) (z0 z1 z2 z3:Int) (s2:Sl):OV:=
 (bb (AY z0 (Int.ofNat (Sl.n s2))) (oo (EA z0) none fun k1=>(bb (an (Nat.blt k1 (Sl.n s2)) true) (oo (AL (Sl.cs s2) (k1*1)) none fun v0=>(oo (Bi .i64 v0) none fun x0=>(oo (pu 10481 [(.agg ⟨[.int .i64 z1,.int .i64 z2,.int .i64 z3,Sl.v 1 s2]⟩),Sl.v 1 s0,.int .i64 x0]) none fun v1=>(oo (CQ v1) none fun l0=>(ll l0 none fun v2 l0=>(ll l0 (oo (Bj 1 v2) none fun s3=>(oo (pu 50 [Sl.v 1 s3,Sl.v 1 s0]) none fun v3=>(oo (Bf v3) none fun b0=>(Sc pu n ih0 n s0 s1 (Int.ofNat k1) s3 b0 (0:Int) z1 z2 z3 s2)))) fun _ _=>none)))))) none)) (Yn pu n))
def Ki (pu:Af) (n w:Nat):Sl→Sl→Int→Int→Int→Int→Sl→OV:=
 Nat.rec (motive:=fun _=>Sl→Sl→Int→Int→Int→Int→Sl→OV) (fun _ _ _ _ _ _ _=>none) (fun _ ih0=>Qw pu n ih0) w
def AgI (pu:Af) (n:Nat) (x0 x1 x2:Int) (s0 s1 s2:Sl):OV:=
 (Ki pu n n s1 s2 (0:Int) x0 x1 x2 s0)
def m74 (pu:Af) (n:Nat) (args:LV):OV:=
 (ll args none fun a0 args=>(ll args none fun a1 args=>(ll args none fun a2 args=>(ll args (oo (Bt a0) none fun l0=>(ll l0 none fun v0 l0=>(ll l0 none fun v1 l0=>(ll l0 none fun v2 l0=>(ll l0 none fun v3 l0=>(ll l0 (oo (Bi .i64 v0) none fun x0=>(oo (Bi .i64 v1) none fun x1=>(oo (Bi .i64 v2) none fun x2=>(oo (Bj 1 v3) none fun s0=>(oo (Bj 1 a1) none fun s1=>(oo (Bj 1 a2) none fun s2=>(AgI pu n x0 x1 x2 s0 s1 s2))))))) fun _ _=>none)))))) fun _ _=>none))))
theorem AgK (pu:Af) (n:Nat) {v:Value} (hm:Yn pu n=some v):BN tt (Bb tabs isP pu (inl pu)) 1 eO (fr 55 []) AO (Fin tt 1 [.tmp 6] v):=by
 unfold Yn at hm
 refine .then (.rK (.ghs (fr 55 [(6,zB true)]) AO (.k0 [false] [] [6]) ?_))
 refine .ret ?_
 exact A7 (zB true) hm
theorem r74 {call:A8} (pu:Af) (n:Nat) (hcall:call=Bb tabs isP pu (inl pu)) {args:LV} {v:Value} (hm:m74 pu n args=some v) (_:∀ x∈args,closed2 x=true):args.length≤55∧BN tt call 1 Un (Fr.made 55 args) (Ao tabs) (Fin tt 1 [.tmp 6] v):=by
 subst hcall
 unfold m74 at hm
 replace hm:=Ad hm;obtain⟨a0,args_0,rfl,hm⟩:=hm
 replace hm:=Ad hm;obtain⟨a1,args_1,rfl,hm⟩:=hm
 replace hm:=Ad hm;obtain⟨a2,args_2,rfl,hm⟩:=hm
 replace hm:=AC hm;obtain⟨rfl,hm⟩:=hm
 replace hm:=BG hm;obtain⟨l0,rfl,hm⟩:=hm
 replace hm:=Ad hm;obtain⟨v0,l8550_0,rfl,hm⟩:=hm
 replace hm:=Ad hm;obtain⟨v1,l8550_1,rfl,hm⟩:=hm
 replace hm:=Ad hm;obtain⟨v2,l8550_2,rfl,hm⟩:=hm
 replace hm:=Ad hm;obtain⟨v3,l8550_3,rfl,hm⟩:=hm
 replace hm:=AC hm;obtain⟨rfl,hm⟩:=hm
 replace hm:=Ai hm;obtain⟨x0,rfl,hm⟩:=hm
 replace hm:=Ai hm;obtain⟨x1,rfl,hm⟩:=hm
 replace hm:=Ai hm;obtain⟨x2,rfl,hm⟩:=hm
 replace hm:=Al hm;obtain⟨s0,rfl,hm⟩:=hm
 replace hm:=Al hm;obtain⟨s1,rfl,hm⟩:=hm
 replace hm:=Al hm;obtain⟨s2,rfl,hm⟩:=hm
 unfold AgI at hm
 refine⟨by simp,?_⟩
 refine .same (F':=(fr 55 [(0,(.agg ⟨[zI x0,zI x1,zI x2,Sl.v 1 s0]⟩)),(1,Sl.v 1 s1),(2,Sl.v 1 s2)])) (H':=AO) (by kernel_rfl) (by kernel_rfl) ?_
 refine .then (.rK (.ghs (fr 55 [(1,Sl.v 1 s1),(2,Sl.v 1 s2),(3,pt 1 0)]) (hT 2 [(oC [zI x0,zI x1,zI x2,Sl.v 1 s0])]) (.k0 [false] [.tmp 3 false] [1,2,3]) ?_))
 refine .join (v:=v) (fun y:Unit=>((fr 55 []),AO)) (fun y=>Yn pu n) ?_ ?_
 ·rintro _ hm
  exact AgK pu n hm
 ·refine .then (.rK (.ghs (fr 55 [(1,Sl.v 1 s1),(2,Sl.v 1 s2),(3,pt 1 0),(7,(zI (0:Int)))]) (hT 2 [(oC [zI x0,zI x1,zI x2,Sl.v 1 s0])]) (.k0 [false] [.tmp 3 false] [1,2,3,7]) ?_))
  refine .block (.loopM (v:=v) (fun y:Sl×Sl×Int×Int×Int×Int×Sl=>((fr 55 [(1,(Sl.v 1 y.1)),(2,(Sl.v 1 y.2.1)),(3,pt 1 0),(7,(zI y.2.2.1))]),(hT 2 [(oC [(zI y.2.2.2.1),(zI y.2.2.2.2.1),(zI y.2.2.2.2.2.1),(Sl.v 1 y.2.2.2.2.2.2)])]))) (fun w y=>Ki pu n w y.1 y.2.1 y.2.2.1 y.2.2.2.1 y.2.2.2.2.1 y.2.2.2.2.2.1 y.2.2.2.2.2.2) n ⟨(s1,s2,(0:Int),x0,x1,x2,s0),hm,(.k0 [false] [.tmp 3 false] [1,2,3,7])⟩ (fun _=>rfl) ?_)
  rintro w0 ⟨s3,s4,z0,z1,z2,z3,s5⟩ hm
  replace hm:Qw pu n (Ki pu n w0) s3 s4 z0 z1 z2 z3 s5=some v:=hm
  unfold Qw at hm
  refine .then (.then (.rK (.ghs (fr 55 [(1,Sl.v 1 s3),(2,Sl.v 1 s4),(3,pt 1 0),(7,zI z0),(15,(zB (AY z0 (Int.ofNat (Sl.n s5)))))]) (hT 2 [(oC [zI z1,zI z2,zI z3,Sl.v 1 s5])]) (.k0 [false] [.tmp 3 false] [1,2,3,7,15]) ?_)))
  replace hm:=Ag hm;rcases hm with⟨h0,hm⟩ | ⟨h0,hm⟩
  ·refine Bq (AY z0 (Int.ofNat (Sl.n s5))) h0 ?_
   refine .skip (.ghs (fr 55 [(1,Sl.v 1 s3),(2,Sl.v 1 s4),(3,pt 1 0),(7,zI z0)]) (hT 2 [(oC [zI z1,zI z2,zI z3,Sl.v 1 s5])]) (.k0 [false] [.tmp 3 false] [1,2,3,7]) ?_)
   refine .join (v:=v) (fun y:Sl×Sl×Int×Int×Int×Int×Sl=>((fr 55 [(1,(Sl.v 1 y.1)),(2,(Sl.v 1 y.2.1)),(3,pt 1 0),(7,(zI y.2.2.1))]),(hT 2 [(oC [(zI y.2.2.2.1),(zI y.2.2.2.2.1),(zI y.2.2.2.2.2.1),(Sl.v 1 y.2.2.2.2.2.2)])]))) (fun y=>Yo pu n (Ki pu n w0) y.1 y.2.1 y.2.2.1 y.2.2.2.1 y.2.2.2.2.1 y.2.2.2.2.2.1 y.2.2.2.2.2.2) ?_ ?_
   ·rintro⟨s6,s7,z4,z5,z6,z7,s8⟩ hm
    unfold Yo at hm
    refine .rK ?_
    exact⟨(s6,s7,(Aj .i64 (Int.add z4 (1:Int))),z5,z6,z7,s8),hm,(.k0 [false] [.tmp 3 false] [1,2,3,7])⟩
   ·refine .block (.then ?_)
    replace hm:=Ab hm;obtain⟨k1,h1,hm⟩:=hm
    obtain rfl:=AR h1
    replace hm:=Ae hm;obtain⟨h2,hm⟩:=hm
    replace hm:=Gt hm;obtain⟨x3,h3,hm⟩:=hm
    replace hm:=Ab hm;obtain⟨v4,h4,hm⟩:=hm
    replace hm:=Ch hm;obtain⟨l1,rfl,hm⟩:=hm
    replace hm:=Ad hm;obtain⟨v5,l10664_0,rfl,hm⟩:=hm
    replace hm:=AC hm;obtain⟨rfl,hm⟩:=hm
    replace hm:=Al hm;obtain⟨s9,rfl,hm⟩:=hm
    refine .reg (eC 5 (keep (hT 2 [(oC [zI z1,zI z2,zI z3,Sl.v 1 s5])]) (bb (an (Nat.blt k1 (Sl.n s5)) true) (some (Cv (k1*1) (Sl.cs s5))) none)) (AX h2) (eD (keep (hT 2 [(oC [zI z1,zI z2,zI z3,Sl.v 1 s5])]) (AL (Sl.cs s5) (k1*1))) (AZ h3) (eD (EK tabs [[none,none,none,some 1],[some 1],[none]] 3 [] [] (pu 10481) [(.agg ⟨[zI z1,zI z2,zI z3,Sl.v 1 s5]⟩),Sl.v 1 s3,zI x3] (hT 2 [(oC [zI z1,zI z2,zI z3,Sl.v 1 s5])])) (EL (as:=[(.agg ⟨[zI z1,zI z2,zI z3,Sl.v 1 s5]⟩),Sl.v 1 s3,zI x3]) (H1:=(hT 2 [(oC [zI z1,zI z2,zI z3,Sl.v 1 s5])])) (BS (Ot (Da Dk (Da Dk (Da Dk (Da (KQ (CV (z:=1) (v:=(Sl.v 1 s5)) (H:=(hT 2 [(oC [zI z1,zI z2,zI z3,Sl.v 1 s5])])) (by kernel_rfl) (by kernel_rfl) (by kernel_rfl))) Oq))))) (BS (Dm (KQ (CV (z:=1) (v:=(Sl.v 1 s3)) (H:=(hT 2 [(oC [zI z1,zI z2,zI z3,Sl.v 1 s5])])) (by kernel_rfl) (by kernel_rfl) (by kernel_rfl)))) (BS (Dm Dk) Gj))) (EI (H2:=(hT 2 [(oC [zI z1,zI z2,zI z3,Sl.v 1 s5])])) (v:=(Sl.v 1 s9)) (v':=(Sl.v 1 s9)) [some 0] [] [] [(.agg ⟨[zI z1,zI z2,zI z3,Sl.v 1 s5]⟩),Sl.v 1 s3,zI x3] [] [] [some 0,none] [] [] (by kernel_rfl) BX (Eq.trans (by kernel_rfl) h4) BX BX)) (eE)))) ?_
    refine .ghs (fr 55 [(1,Sl.v 1 s3),(2,Sl.v 1 s4),(3,pt 1 0),(7,(zI (Int.ofNat k1))),(8,Sl.v 1 s9)]) (hT 2 [(oC [zI z1,zI z2,zI z3,Sl.v 1 s5])]) (.k0 [false] [.tmp 3 false] [1,2,3,7,8]) ?_
    refine .then ?_
    replace hm:=OT hm;obtain⟨b0,h5,hm⟩:=hm
    refine .reg (eC 2 ((oo (pu 50 [Sl.v 1 s9,Sl.v 1 s3]) none fun v=>some (v,(hT 2 [(oC [zI z1,zI z2,zI z3,Sl.v 1 s5])])))) (AB h5) (eE)) ?_
    refine .ghs (fr 55 [(1,Sl.v 1 s3),(2,Sl.v 1 s4),(3,pt 1 0),(7,(zI (Int.ofNat k1))),(8,Sl.v 1 s9),(9,zB b0)]) (hT 2 [(oC [zI z1,zI z2,zI z3,Sl.v 1 s5])]) (.k0 [false] [.tmp 3 false] [1,2,3,7,8,9]) ?_
    refine .join (v:=v) (fun y:Sl×Sl×Int×Bool×Int×Int×Int×Sl=>((fr 55 [(1,(Sl.v 1 y.1)),(2,(Sl.v 1 y.2.1)),(3,pt 1 0),(7,(zI y.2.2.1)),(9,(zB y.2.2.2.1))]),(hT 2 [(oC [(zI y.2.2.2.2.1),(zI y.2.2.2.2.2.1),(zI y.2.2.2.2.2.2.1),(Sl.v 1 y.2.2.2.2.2.2.2)])]))) (fun y=>Wo pu n (Ki pu n w0) y.1 y.2.1 y.2.2.1 y.2.2.2.1 y.2.2.2.2.1 y.2.2.2.2.2.1 y.2.2.2.2.2.2.1 y.2.2.2.2.2.2.2) ?_ ?_
    ·rintro⟨s10,s11,z8,b1,z9,z10,z11,s12⟩ hm
     unfold Wo at hm
     refine .then (.rK (.ghs (fr 55 [(1,Sl.v 1 s10),(2,Sl.v 1 s11),(3,pt 1 0),(7,zI z8),(54,(zB (nt b1)))]) (hT 2 [(oC [zI z9,zI z10,zI z11,Sl.v 1 s12])]) (.k0 [false] [.tmp 3 false] [1,2,3,7,54]) ?_))
     replace hm:=Ag hm;rcases hm with⟨h6,hm⟩ | ⟨h6,hm⟩
     ·refine Bq (nt b1) h6 ?_
      refine .then (.rK (.ghs (fr 55 [(6,zB false)]) AO (.k0 [false] [] [6]) ?_))
      refine .ret ?_
      exact A7 (zB false) hm
     ·refine BB (nt b1) h6 ?_
      refine .skip ?_
      exact⟨(s10,s11,z8,z9,z10,z11,s12),hm,(.k0 [false] [.tmp 3 false] [1,2,3,7])⟩
    ·refine .then (.rK (.ghs (fr 55 [(1,Sl.v 1 s3),(2,Sl.v 1 s4),(3,pt 1 0),(7,(zI (Int.ofNat k1))),(8,Sl.v 1 s9),(9,zB b0),(10,(zI (0:Int)))]) (hT 2 [(oC [zI z1,zI z2,zI z3,Sl.v 1 s5])]) (.k0 [false] [.tmp 3 false] [1,2,3,7,8,9,10]) ?_))
     refine .block (.loopM (v:=v) (fun y:Sl×Sl×Int×Sl×Bool×Int×Int×Int×Int×Sl=>((fr 55 [(1,(Sl.v 1 y.1)),(2,(Sl.v 1 y.2.1)),(3,pt 1 0),(7,(zI y.2.2.1)),(8,(Sl.v 1 y.2.2.2.1)),(9,(zB y.2.2.2.2.1)),(10,(zI y.2.2.2.2.2.1))]),(hT 2 [(oC [(zI y.2.2.2.2.2.2.1),(zI y.2.2.2.2.2.2.2.1),(zI y.2.2.2.2.2.2.2.2.1),(Sl.v 1 y.2.2.2.2.2.2.2.2.2)])]))) (fun w y=>Sc pu n (Ki pu n w0) w y.1 y.2.1 y.2.2.1 y.2.2.2.1 y.2.2.2.2.1 y.2.2.2.2.2.1 y.2.2.2.2.2.2.1 y.2.2.2.2.2.2.2.1 y.2.2.2.2.2.2.2.2.1 y.2.2.2.2.2.2.2.2.2) n ⟨(s3,s4,(Int.ofNat k1),s9,b0,(0:Int),z1,z2,z3,s5),hm,(.k0 [false] [.tmp 3 false] [1,2,3,7,8,9,10])⟩ (fun _=>rfl) ?_)
     rintro w1 ⟨s13,s14,z12,s15,b2,z13,z14,z15,z16,s16⟩ hm
     replace hm:Qv pu n (Ki pu n w0) (Sc pu n (Ki pu n w0) w1) s13 s14 z12 s15 b2 z13 z14 z15 z16 s16=some v:=hm
     unfold Qv at hm
     refine .then (.then (.rK (.ghs (fr 55 [(1,Sl.v 1 s13),(2,Sl.v 1 s14),(3,pt 1 0),(7,zI z12),(8,Sl.v 1 s15),(9,zB b2),(10,zI z13),(32,(zB (AY z13 (Int.ofNat (Sl.n s14)))))]) (hT 2 [(oC [zI z14,zI z15,zI z16,Sl.v 1 s16])]) (.k0 [false] [.tmp 3 false] [1,2,3,7,8,9,10,32]) ?_)))
     replace hm:=Ag hm;rcases hm with⟨h7,hm⟩ | ⟨h7,hm⟩
     ·refine Bq (AY z13 (Int.ofNat (Sl.n s14))) h7 ?_
      refine .skip (.ghs (fr 55 [(1,Sl.v 1 s13),(2,Sl.v 1 s14),(3,pt 1 0),(7,zI z12),(8,Sl.v 1 s15),(9,zB b2),(10,zI z13)]) (hT 2 [(oC [zI z14,zI z15,zI z16,Sl.v 1 s16])]) (.k0 [false] [.tmp 3 false] [1,2,3,7,8,9,10]) ?_)
      refine .then (.block ?_)
      replace hm:=Ag hm;rcases hm with⟨h8,hm⟩ | ⟨h8,hm⟩
      ·refine .reg (eD (some ((zB b2),(hT 2 [(oC [zI z14,zI z15,zI z16,Sl.v 1 s16])]))) (show _=some ((zB true),_) from (by rw[show b2=true from h8])) (eE)) ?_
       refine .ghs (fr 55 [(1,Sl.v 1 s13),(2,Sl.v 1 s14),(3,pt 1 0),(7,zI z12),(8,Sl.v 1 s15),(9,zB true),(10,zI z13)]) (hT 2 [(oC [zI z14,zI z15,zI z16,Sl.v 1 s16])]) (.k0 [false] [.tmp 3 false] [1,2,3,7,8,9,10]) ?_
       refine .rK ?_
       exact⟨(s13,s14,z12,s15,true,(Aj .i64 (Int.add z13 (1:Int))),z14,z15,z16,s16),hm,(.k0 [false] [.tmp 3 false] [1,2,3,7,8,9,10])⟩
      ·replace hm:=Ab hm;obtain⟨k2,h9,hm⟩:=hm
       obtain rfl:=AR h9
       replace hm:=Ae hm;obtain⟨h10,hm⟩:=hm
       replace hm:=Gt hm;obtain⟨x4,h11,hm⟩:=hm
       replace hm:=Ab hm;obtain⟨k3,h12,hm⟩:=hm
       obtain rfl:=AR h12
       replace hm:=Ae hm;obtain⟨h13,hm⟩:=hm
       replace hm:=Gt hm;obtain⟨x5,h14,hm⟩:=hm
       replace hm:=Ae hm;obtain⟨h15,hm⟩:=hm
       replace hm:=Gt hm;obtain⟨x6,h16,hm⟩:=hm
       replace hm:=Ab hm;obtain⟨k4,h17,hm⟩:=hm
       obtain rfl:=AR h17
       replace hm:=Ae hm;obtain⟨h18,hm⟩:=hm
       replace hm:=Gt hm;obtain⟨x7,h19,hm⟩:=hm
       refine .reg (eN 7 (Fr.puts (fr 55 [(1,Sl.v 1 s13),(2,Sl.v 1 s14),(3,pt 1 0),(7,zI z12),(8,Sl.v 1 s15),(9,zB b2),(10,(zI (Int.ofNat k2)))]) [(35,zB false),(36,zB false),(37,Sl.v 1 s15),(38,Sl.v 1 s14),(39,(zI (Int.ofNat k2))),(40,(Cv (k2*1) (Sl.cs s14))),(41,(zI (Int.ofNat k3)))]) (hT 2 [(oC [zI z14,zI z15,zI z16,Sl.v 1 s16])]) (eD (some ((zB b2),(hT 2 [(oC [zI z14,zI z15,zI z16,Sl.v 1 s16])]))) (show _=some ((zB false),_) from (by rw[show b2=false from h8])) (eC 4 (keep (hT 2 [(oC [zI z14,zI z15,zI z16,Sl.v 1 s16])]) (bb (an (Nat.blt k2 (Sl.n s14)) true) (some (Cv (k2*1) (Sl.cs s14))) none)) (AX h10) (eD (keep (hT 2 [(oC [zI z14,zI z15,zI z16,Sl.v 1 s16])]) (AL (Sl.cs s14) (k2*1))) (AZ h11) (by kernel_rfl)))) (eN 6 (Fr.puts (fr 55 [(1,Sl.v 1 s13),(2,Sl.v 1 s14),(3,pt 1 0),(7,zI z12),(8,Sl.v 1 s15),(9,zB b2),(10,(zI (Int.ofNat k2)))]) [(35,zB false),(36,zB false),(37,Sl.v 1 s15),(38,Sl.v 1 s14),(39,(zI (Int.ofNat k2))),(40,(Cv (k2*1) (Sl.cs s14))),(41,(zI (Int.ofNat k3))),(42,(Cv (k3*1) (Sl.cs s15))),(43,zI x5),(44,Sl.v 1 s13),(45,Sl.v 1 s14),(46,(zI (Int.ofNat k2))),(47,(Cv (k2*1) (Sl.cs s14)))]) (hT 2 [(oC [zI z14,zI z15,zI z16,Sl.v 1 s16])]) (eD (keep (hT 2 [(oC [zI z14,zI z15,zI z16,Sl.v 1 s16])]) (bb (an (Nat.blt k3 (Sl.n s15)) true) (some (Cv (k3*1) (Sl.cs s15))) none)) (AX h13) (eD (keep (hT 2 [(oC [zI z14,zI z15,zI z16,Sl.v 1 s16])]) (AL (Sl.cs s15) (k3*1))) (AZ h14) (eC 3 (keep (hT 2 [(oC [zI z14,zI z15,zI z16,Sl.v 1 s16])]) (bb (an (Nat.blt k2 (Sl.n s14)) true) (some (Cv (k2*1) (Sl.cs s14))) none)) (AX h15) (by kernel_rfl)))) (eD (keep (hT 2 [(oC [zI z14,zI z15,zI z16,Sl.v 1 s16])]) (AL (Sl.cs s14) (k2*1))) (AZ h16) (eD (keep (hT 2 [(oC [zI z14,zI z15,zI z16,Sl.v 1 s16])]) (bb (an (Nat.blt k4 (Sl.n s13)) true) (some (Cv (k4*1) (Sl.cs s13))) none)) (AX h18) (eD (keep (hT 2 [(oC [zI z14,zI z15,zI z16,Sl.v 1 s16])]) (AL (Sl.cs s13) (k4*1))) (AZ h19) (eE)))))) ?_
       refine .ghs (fr 55 [(1,Sl.v 1 s13),(2,Sl.v 1 s14),(3,pt 1 0),(7,zI z12),(8,Sl.v 1 s15),(9,(zB (nt (Bd x5 x7)))),(10,(zI (Int.ofNat k2)))]) (hT 2 [(oC [zI z14,zI z15,zI z16,Sl.v 1 s16])]) (.k0 [false] [.tmp 3 false] [1,2,3,7,8,9,10]) ?_
       refine .rK ?_
       exact⟨(s13,s14,z12,s15,(nt (Bd x5 x7)),(Aj .i64 (Int.add (Int.ofNat k2) (1:Int))),z14,z15,z16,s16),hm,(.k0 [false] [.tmp 3 false] [1,2,3,7,8,9,10])⟩
     ·refine BB (AY z13 (Int.ofNat (Sl.n s14))) h7 ?_
      refine .exit ?_
      exact⟨(s13,s14,z12,b2,z14,z15,z16,s16),hm,(.k0 [false] [.tmp 3 false] [1,2,3,7,9])⟩
  ·refine BB (AY z0 (Int.ofNat (Sl.n s5))) h0 ?_
   refine .exit ?_
   exact⟨(),hm,(.k0 [false] [] [])⟩

def AgL (pu:Af) (n:Nat) (x0:Int):OV:=
 (bb (Bd x0 (4:Int)) (some (.agg ⟨[(.int .i64 (0:Int)),(.bool true)]⟩)) (bb (Bd x0 (5:Int)) (some (.agg ⟨[(.int .i64 (2:Int)),(.bool true)]⟩)) (bb (Bd x0 (6:Int)) (some (.agg ⟨[(.int .i64 (1:Int)),(.bool true)]⟩)) (bb (Bd x0 (7:Int)) (some (.agg ⟨[(.int .i64 (3:Int)),(.bool true)]⟩)) (some (.agg ⟨[.int .i64 x0,(.bool false)]⟩))))))
def m75 (pu:Af) (n:Nat) (args:LV):OV:=
 (ll args none fun a0 args=>(ll args (oo (Bi .i64 a0) none fun x0=>(AgL pu n x0)) fun _ _=>none))
theorem r75 {call:A8} (pu:Af) (n:Nat) (hcall:call=Bb tabs isP pu (inl pu)) {args:LV} {v:Value} (hm:m75 pu n args=some v) (_:∀ x∈args,closed2 x=true):args.length≤18∧BN tt call 1 Uo (Fr.made 18 args) (Ao tabs) (Fin tt 1 [.cell 2 99] v):=by
 subst hcall
 unfold m75 at hm
 replace hm:=Ad hm;obtain⟨a0,args_0,rfl,hm⟩:=hm
 replace hm:=AC hm;obtain⟨rfl,hm⟩:=hm
 replace hm:=Ai hm;obtain⟨x0,rfl,hm⟩:=hm
 unfold AgL at hm
 refine⟨by simp,?_⟩
 refine .same (F':=(fr 18 [(0,zI x0)])) (H':=AO) (by kernel_rfl) (by kernel_rfl) ?_
 refine .then (.rK (.ghs (fr 18 [(0,zI x0),(2,pt 1 0)]) (hT 2 [(oC [(zI (0:Int)),zB false])]) (.k0 [false] [.tmp 2 false] [0,2]) ?_))
 refine .then (.then (.rK (.ghs (fr 18 [(0,zI x0),(2,pt 1 0),(3,zI x0)]) (hT 2 [(oC [(zI (0:Int)),zB false])]) (.k0 [false] [.tmp 2 false] [0,2,3]) ?_)))
 refine .block (.then (.rK (.ghs (fr 18 [(0,zI x0),(2,pt 1 0),(3,zI x0),(4,(zB (Bd x0 (4:Int))))]) (hT 2 [(oC [(zI (0:Int)),zB false])]) (.k0 [false] [.tmp 2 false] [0,2,3,4]) ?_)))
 replace hm:=Ag hm;rcases hm with⟨h0,hm⟩ | ⟨h0,hm⟩
 ·refine Bq (Bd x0 (4:Int)) h0 ?_
  refine .then (.rK (.ghs (fr 18 [(2,pt 1 0)]) (hT 2 [(oC [(zI (0:Int)),zB true])]) (.k0 [false] [.tmp 2 false] [2]) ?_))
  refine .ret ?_
  exact A7 (.agg ⟨[(zI (0:Int)),zB true]⟩) hm
 ·refine BB (Bd x0 (4:Int)) h0 ?_
  refine .then (.rK (.ghs (fr 18 [(0,zI x0),(2,pt 1 0),(3,zI x0),(7,(zB (Bd x0 (5:Int))))]) (hT 2 [(oC [(zI (0:Int)),zB false])]) (.k0 [false] [.tmp 2 false] [0,2,3,7]) ?_))
  replace hm:=Ag hm;rcases hm with⟨h1,hm⟩ | ⟨h1,hm⟩
  ·refine Bq (Bd x0 (5:Int)) h1 ?_
   refine .then (.rK (.ghs (fr 18 [(2,pt 1 0)]) (hT 2 [(oC [(zI (2:Int)),zB true])]) (.k0 [false] [.tmp 2 false] [2]) ?_))
   refine .ret ?_
   exact A7 (.agg ⟨[(zI (2:Int)),zB true]⟩) hm
  ·refine BB (Bd x0 (5:Int)) h1 ?_
   refine .then (.rK (.ghs (fr 18 [(0,zI x0),(2,pt 1 0),(3,zI x0),(10,(zB (Bd x0 (6:Int))))]) (hT 2 [(oC [(zI (0:Int)),zB false])]) (.k0 [false] [.tmp 2 false] [0,2,3,10]) ?_))
   replace hm:=Ag hm;rcases hm with⟨h2,hm⟩ | ⟨h2,hm⟩
   ·refine Bq (Bd x0 (6:Int)) h2 ?_
    refine .then (.rK (.ghs (fr 18 [(2,pt 1 0)]) (hT 2 [(oC [(zI (1:Int)),zB true])]) (.k0 [false] [.tmp 2 false] [2]) ?_))
    refine .ret ?_
    exact A7 (.agg ⟨[(zI (1:Int)),zB true]⟩) hm
   ·refine BB (Bd x0 (6:Int)) h2 ?_
    refine .then (.rK (.ghs (fr 18 [(0,zI x0),(2,pt 1 0),(13,(zB (Bd x0 (7:Int))))]) (hT 2 [(oC [(zI (0:Int)),zB false])]) (.k0 [false] [.tmp 2 false] [0,2,13]) ?_))
    replace hm:=Ag hm;rcases hm with⟨h3,hm⟩ | ⟨h3,hm⟩
    ·refine Bq (Bd x0 (7:Int)) h3 ?_
     refine .then (.rK (.ghs (fr 18 [(2,pt 1 0)]) (hT 2 [(oC [(zI (3:Int)),zB true])]) (.k0 [false] [.tmp 2 false] [2]) ?_))
     refine .ret ?_
     exact A7 (.agg ⟨[(zI (3:Int)),zB true]⟩) hm
    ·refine BB (Bd x0 (7:Int)) h3 ?_
     refine .skip (.ghs (fr 18 [(0,zI x0),(2,pt 1 0)]) (hT 2 [(oC [(zI (0:Int)),zB false])]) (.k0 [false] [.tmp 2 false] [0,2]) ?_)
     refine .then (.rK (.ghs (fr 18 [(2,pt 1 0)]) (hT 2 [(oC [zI x0,zB false])]) (.k0 [false] [.tmp 2 false] [2]) ?_))
     refine .ret ?_
     exact A7 (.agg ⟨[zI x0,zB false]⟩) hm
def Wp (pu:Af) (n:Nat) (z0:Int) (b0:Bool) (z1:Int) (b1:Bool) (z2:Int) (b2:Bool):OV:=
 (some (.agg ⟨[(.int .i64 (Aj .i64 (Int.add z0 z1))),(.bool (bq false (bq b0 b1)))]⟩))
def AgM (pu:Af) (n:Nat) (x0:Int) (b0:Bool) (x1:Int) (b1:Bool):OV:=
 (bb b0 (Wp pu n x0 b0 (Aj .i64 (Int.sub (.ofNat 0) x1)) b1 (0:Int) false) (Wp pu n x0 b0 x1 b1 (0:Int) false))
def m76 (pu:Af) (n:Nat) (args:LV):OV:=
 (ll args none fun a0 args=>(ll args none fun a1 args=>(ll args (oo (Bt a0) none fun l0=>(ll l0 none fun v0 l0=>(ll l0 none fun v1 l0=>(ll l0 (oo (Bi .i64 v0) none fun x0=>(oo (Bf v1) none fun b0=>(oo (Bt a1) none fun l1=>(ll l1 none fun v2 l1=>(ll l1 none fun v3 l1=>(ll l1 (oo (Bi .i64 v2) none fun x1=>(oo (Bf v3) none fun b1=>(AgM pu n x0 b0 x1 b1))) fun _ _=>none)))))) fun _ _=>none)))) fun _ _=>none)))
theorem AgN (pu:Af) (n:Nat) (z0:Int) (b0:Bool) (z1:Int) (b1:Bool) (z2:Int) (b2:Bool) {v:Value} (hm:Wp pu n z0 b0 z1 b1 z2 b2=some v):BN tt (Bb tabs isP pu (inl pu)) 1 nV (fr 22 [(2,pt 1 0),(3,(pt 2 0)),(4,(pt 3 0))]) (hT 4 [(oC [zI z0,zB b0]),(oC [zI z1,zB b1]),(oC [zI z2,zB b2])]) (Fin tt 1 [.cell 4 99] v):=by
 unfold Wp at hm
 refine .then (.rK (.ghs (fr 22 [(4,pt 1 0)]) (hT 2 [(oC [(zI (Aj .i64 (Int.add z0 z1))),(zB (bq false (bq b0 b1)))])]) (.k0 [false] [.tmp 4 false] [4]) ?_))
 refine .ret ?_
 exact A7 (.agg ⟨[(zI (Aj .i64 (Int.add z0 z1))),(zB (bq false (bq b0 b1)))]⟩) hm
theorem r76 {call:A8} (pu:Af) (n:Nat) (hcall:call=Bb tabs isP pu (inl pu)) {args:LV} {v:Value} (hm:m76 pu n args=some v) (_:∀ x∈args,closed2 x=true):args.length≤22∧BN tt call 1 X4 (Fr.made 22 args) (Ao tabs) (Fin tt 1 [.cell 4 99] v):=by
 subst hcall
 unfold m76 at hm
 replace hm:=Ad hm;obtain⟨a0,args_0,rfl,hm⟩:=hm
 replace hm:=Ad hm;obtain⟨a1,args_1,rfl,hm⟩:=hm
 replace hm:=AC hm;obtain⟨rfl,hm⟩:=hm
 replace hm:=BG hm;obtain⟨l0,rfl,hm⟩:=hm
 replace hm:=Ad hm;obtain⟨v0,l10887_0,rfl,hm⟩:=hm
 replace hm:=Ad hm;obtain⟨v1,l10887_1,rfl,hm⟩:=hm
 replace hm:=AC hm;obtain⟨rfl,hm⟩:=hm
 replace hm:=Ai hm;obtain⟨x0,rfl,hm⟩:=hm
 replace hm:=Be hm;obtain⟨b0,rfl,hm⟩:=hm
 replace hm:=BG hm;obtain⟨l1,rfl,hm⟩:=hm
 replace hm:=Ad hm;obtain⟨v2,l10895_0,rfl,hm⟩:=hm
 replace hm:=Ad hm;obtain⟨v3,l10895_1,rfl,hm⟩:=hm
 replace hm:=AC hm;obtain⟨rfl,hm⟩:=hm
 replace hm:=Ai hm;obtain⟨x1,rfl,hm⟩:=hm
 replace hm:=Be hm;obtain⟨b1,rfl,hm⟩:=hm
 unfold AgM at hm
 refine⟨by simp,?_⟩
 refine .same (F':=(fr 22 [(0,(.agg ⟨[zI x0,zB b0]⟩)),(1,(.agg ⟨[zI x1,zB b1]⟩))])) (H':=AO) (by kernel_rfl) (by kernel_rfl) ?_
 refine .then (.rK (.ghs (fr 22 [(2,pt 1 0),(3,(pt 2 0)),(4,(pt 3 0))]) (hT 4 [(oC [zI x0,zB b0]),(oC [zI x1,zB b1]),(oC [(zI (0:Int)),zB false])]) (.k0 [false] [.tmp 2 false,.tmp 3 false,.tmp 4 false] [2,3,4]) ?_))
 refine .join (v:=v) (fun y:Int×Bool×Int×Bool×Int×Bool=>((fr 22 [(2,pt 1 0),(3,(pt 2 0)),(4,(pt 3 0))]),(hT 4 [(oC [(zI y.1),(zB y.2.1)]),(oC [(zI y.2.2.1),(zB y.2.2.2.1)]),(oC [(zI y.2.2.2.2.1),(zB y.2.2.2.2.2)])]))) (fun y=>Wp pu n y.1 y.2.1 y.2.2.1 y.2.2.2.1 y.2.2.2.2.1 y.2.2.2.2.2) ?_ ?_
 ·rintro⟨z0,b2,z1,b3,z2,b4⟩ hm
  exact AgN pu n z0 b2 z1 b3 z2 b4 hm
 ·refine .then (.rK (.ghs (fr 22 [(2,pt 1 0),(3,(pt 2 0)),(4,(pt 3 0)),(6,zB b0)]) (hT 4 [(oC [zI x0,zB b0]),(oC [zI x1,zB b1]),(oC [(zI (0:Int)),zB false])]) (.k0 [false] [.tmp 2 false,.tmp 3 false,.tmp 4 false] [2,3,4,6]) ?_))
  replace hm:=Ag hm;rcases hm with⟨h0,hm⟩ | ⟨h0,hm⟩
  ·refine .ifT b0 (by kernel_rfl) h0 ?_
   refine .rK ?_
   exact⟨(x0,b0,(Aj .i64 (Int.sub (.ofNat 0) x1)),b1,(0:Int),false),hm,(.k0 [false] [.tmp 2 false,.tmp 3 false,.tmp 4 false] [2,3,4])⟩
  ·refine .ifF b0 (by kernel_rfl) h0 ?_
   refine .skip ?_
   exact⟨(x0,b0,x1,b1,(0:Int),false),hm,(.k0 [false] [.tmp 2 false,.tmp 3 false,.tmp 4 false] [2,3,4])⟩

def AgO (pu:Af) (n:Nat) (x0:Int) (b0:Bool):OV:=
 (bb (nt b0) (some (.int .i64 (Int.tmod (Aj .i64 (Int.add x0 (4:Int))) (4:Int)))) (bb (Bd (Int.tmod (Aj .i64 (Int.add x0 (4:Int))) (4:Int)) (0:Int)) (some (.int .i64 (4:Int))) (bb (Bd (Int.tmod (Aj .i64 (Int.add x0 (4:Int))) (4:Int)) (1:Int)) (some (.int .i64 (6:Int))) (bb (Bd (Int.tmod (Aj .i64 (Int.add x0 (4:Int))) (4:Int)) (2:Int)) (some (.int .i64 (5:Int))) (some (.int .i64 (7:Int)))))))
def m77 (pu:Af) (n:Nat) (args:LV):OV:=
 (ll args none fun a0 args=>(ll args (oo (Bt a0) none fun l0=>(ll l0 none fun v0 l0=>(ll l0 none fun v1 l0=>(ll l0 (oo (Bi .i64 v0) none fun x0=>(oo (Bf v1) none fun b0=>(AgO pu n x0 b0))) fun _ _=>none)))) fun _ _=>none))
theorem r77 {call:A8} (pu:Af) (n:Nat) (hcall:call=Bb tabs isP pu (inl pu)) {args:LV} {v:Value} (hm:m77 pu n args=some v) (_:∀ x∈args,closed2 x=true):args.length≤22∧BN tt call 1 Uq (Fr.made 22 args) (Ao tabs) (Fin tt 1 [.tmp 2] v):=by
 subst hcall
 unfold m77 at hm
 replace hm:=Ad hm;obtain⟨a0,args_0,rfl,hm⟩:=hm
 replace hm:=AC hm;obtain⟨rfl,hm⟩:=hm
 replace hm:=BG hm;obtain⟨l0,rfl,hm⟩:=hm
 replace hm:=Ad hm;obtain⟨v0,l10912_0,rfl,hm⟩:=hm
 replace hm:=Ad hm;obtain⟨v1,l10912_1,rfl,hm⟩:=hm
 replace hm:=AC hm;obtain⟨rfl,hm⟩:=hm
 replace hm:=Ai hm;obtain⟨x0,rfl,hm⟩:=hm
 replace hm:=Be hm;obtain⟨b0,rfl,hm⟩:=hm
 unfold AgO at hm
 refine⟨by simp,?_⟩
 refine .same (F':=(fr 22 [(0,(.agg ⟨[zI x0,zB b0]⟩))])) (H':=AO) (by kernel_rfl) (by kernel_rfl) ?_
 refine .then (.rK (.ghs (fr 22 [(1,pt 1 0)]) (hT 2 [(oC [zI x0,zB b0])]) (.k0 [false] [.tmp 1 false] [1]) ?_))
 refine .then (.rK (.ghs (fr 22 [(1,pt 1 0),(3,(zI (Int.tmod (Aj .i64 (Int.add x0 (4:Int))) (4:Int))))]) (hT 2 [(oC [zI x0,zB b0])]) (.k0 [false] [.tmp 1 false] [1,3]) ?_))
 refine .then (.block (.then (.rK (.ghs (fr 22 [(3,(zI (Int.tmod (Aj .i64 (Int.add x0 (4:Int))) (4:Int)))),(8,(zB (nt b0)))]) AO (.k0 [false] [] [3,8]) ?_))))
 replace hm:=Ag hm;rcases hm with⟨h0,hm⟩ | ⟨h0,hm⟩
 ·refine Bq (nt b0) h0 ?_
  refine .then (.rK (.ghs (fr 22 [(2,(zI (Int.tmod (Aj .i64 (Int.add x0 (4:Int))) (4:Int))))]) AO (.k0 [false] [] [2]) ?_))
  refine .ret ?_
  exact A7 (zI (Int.tmod (Aj .i64 (Int.add x0 (4:Int))) (4:Int))) hm
 ·refine BB (nt b0) h0 ?_
  refine .then (.rK (.ghs (fr 22 [(3,(zI (Int.tmod (Aj .i64 (Int.add x0 (4:Int))) (4:Int)))),(13,(zB (Bd (Int.tmod (Aj .i64 (Int.add x0 (4:Int))) (4:Int)) (0:Int))))]) AO (.k0 [false] [] [3,13]) ?_))
  replace hm:=Ag hm;rcases hm with⟨h1,hm⟩ | ⟨h1,hm⟩
  ·refine Bq (Bd (Int.tmod (Aj .i64 (Int.add x0 (4:Int))) (4:Int)) (0:Int)) h1 ?_
   refine .then (.rK (.ghs (fr 22 [(2,(zI (4:Int)))]) AO (.k0 [false] [] [2]) ?_))
   refine .ret ?_
   exact A7 (zI (4:Int)) hm
  ·refine BB (Bd (Int.tmod (Aj .i64 (Int.add x0 (4:Int))) (4:Int)) (0:Int)) h1 ?_
   refine .then (.rK (.ghs (fr 22 [(3,(zI (Int.tmod (Aj .i64 (Int.add x0 (4:Int))) (4:Int)))),(16,(zB (Bd (Int.tmod (Aj .i64 (Int.add x0 (4:Int))) (4:Int)) (1:Int))))]) AO (.k0 [false] [] [3,16]) ?_))
   replace hm:=Ag hm;rcases hm with⟨h2,hm⟩ | ⟨h2,hm⟩
   ·refine Bq (Bd (Int.tmod (Aj .i64 (Int.add x0 (4:Int))) (4:Int)) (1:Int)) h2 ?_
    refine .then (.rK (.ghs (fr 22 [(2,(zI (6:Int)))]) AO (.k0 [false] [] [2]) ?_))
    refine .ret ?_
    exact A7 (zI (6:Int)) hm
   ·refine BB (Bd (Int.tmod (Aj .i64 (Int.add x0 (4:Int))) (4:Int)) (1:Int)) h2 ?_
    refine .then (.rK (.ghs (fr 22 [(19,(zB (Bd (Int.tmod (Aj .i64 (Int.add x0 (4:Int))) (4:Int)) (2:Int))))]) AO (.k0 [false] [] [19]) ?_))
    replace hm:=Ag hm;rcases hm with⟨h3,hm⟩ | ⟨h3,hm⟩
    ·refine Bq (Bd (Int.tmod (Aj .i64 (Int.add x0 (4:Int))) (4:Int)) (2:Int)) h3 ?_
     refine .then (.rK (.ghs (fr 22 [(2,(zI (5:Int)))]) AO (.k0 [false] [] [2]) ?_))
     refine .ret ?_
     exact A7 (zI (5:Int)) hm
    ·refine BB (Bd (Int.tmod (Aj .i64 (Int.add x0 (4:Int))) (4:Int)) (2:Int)) h3 ?_
     refine .skip (.ghs (fr 22 []) AO (.k0 [false] [] []) ?_)
     refine .then (.rK (.ghs (fr 22 [(2,(zI (7:Int)))]) AO (.k0 [false] [] [2]) ?_))
     refine .ret ?_
     exact A7 (zI (7:Int)) hm
end
end Go.BkVM
