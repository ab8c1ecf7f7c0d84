import Derived.Test.YtlgmapibifphaaaDoorMnSMod0x
set_option maxRecDepth 100000
set_option maxHeartbeats 20000000
set_option linter.unusedVariables false
namespace Go.MnSM
open Go.Sp Go.MnS
noncomputable section
def WR (pu:Af) (n:Nat) (b0:Bool):OV:=
 (some (.bool b0))
def AfK (pu:Af) (n:Nat) (x0 x1 x2:Int):OV:=
 (bb (nt (AY x1 x0)) (WR pu n (nt (AY x2 x1))) (WR pu n false))
def m52 (pu:Af) (n:Nat) (args:LV):OV:=
 (ll args none λa0 args=>(ll args none λa1 args=>(ll args none λa2 args=>(ll args (oo (Bi .i64 a0) none λx0=>(oo (Bi .i64 a1) none λx1=>(oo (Bi .i64 a2) none λx2=>(AfK pu n x0 x1 x2)))) λ_ _=>none))))
theorem AfL (pu:Af) (n:Nat) (b0:Bool) {v:Value} (hm:WR pu n b0=some v):BN tt (Bb tabs Ir pu (inl pu)) 1 .ret (fr 15 [(6,zB b0)]) FD (Fin tt 1 [.tmp 6] v):=by
 unfold WR at hm
 refine .ret ?_
 exact Fp (zB b0) hm
theorem r52 {call:A8} (pu:Af) (n:Nat) (hcall:call=Bb tabs Ir pu (inl pu)) {args:LV} {v:Value} (hm:m52 pu n args=some v) (_:∀ x∈args,closed2 x=true):args.length≤15∧BN tt call 1 Yu (Fr.made 15 args) (Ao tabs) (Fin tt 1 [.tmp 6] v):=by
 subst hcall
 unfold m52 at hm
 replace hm:=Ad hm;obtain⟨a0,args_0,rfl,hm⟩:=hm
 replace hm:=Ad hm;obtain⟨a1,args_1,rfl,hm⟩:=hm
 replace hm:=Ad hm;obtain⟨a2,args_2,rfl,hm⟩:=hm
 replace hm:=AC hm;obtain⟨rfl,hm⟩:=hm
 replace hm:=Ai hm;obtain⟨x0,rfl,hm⟩:=hm
 replace hm:=Ai hm;obtain⟨x1,rfl,hm⟩:=hm
 replace hm:=Ai hm;obtain⟨x2,rfl,hm⟩:=hm
 unfold AfK at hm
 refine⟨by simp,?_⟩
 refine .same (F':=(fr 15 [(0,zI x0),(1,zI x1),(2,zI x2)])) (H':=FD) (by kernel_rfl) (by kernel_rfl) ?_
 refine .then (.rK (.ghs (fr 15 [(0,zI x0),(1,zI x1),(2,zI x2)]) FD (.k0 [false] [] [0,1,2]) ?_))
 refine .join (v:=v) (λy:Bool=>((fr 15 [(6,zB y)]),FD)) (λy=>WR pu n y) ?_ ?_
 ·rintro b0 hm
  exact AfL pu n b0 hm
 ·replace hm:=Ag hm;rcases hm with⟨h0,hm⟩|⟨h0,hm⟩
  ·refine .reg (eC 2 (some ((zB (nt (AY x1 x0))),FD)) (show _=some ((zB true),_) from (by rw[show (nt (AY x1 x0))=true from h0])) (eE)) ?_
   exact⟨(nt (AY x2 x1)),hm,(.k0 [false] [] [6])⟩
  ·refine .reg (eC 2 (some ((zB (nt (AY x1 x0))),FD)) (show _=some ((zB false),_) from (by rw[show (nt (AY x1 x0))=false from h0])) (eE)) ?_
   exact⟨false,hm,(.k0 [false] [] [6])⟩
def nO (pu:Af) (n:Nat) (x0 x1:Int):OV:=
 (oo (EA x1) none λk1=>(some (.bool (Bd (Np .u16 (G6 .u16 x0 k1) (1:Int)) (1:Int)))))
def m53 (pu:Af) (n:Nat) (args:LV):OV:=
 (ll args none λa0 args=>(ll args none λa1 args=>(ll args (oo (Bi .u16 a0) none λx0=>(oo (Bi .i64 a1) none λx1=>(nO pu n x0 x1))) λ_ _=>none)))
theorem r53 {call:A8} (pu:Af) (n:Nat) (hcall:call=Bb tabs Ir pu (inl pu)) {args:LV} {v:Value} (hm:m53 pu n args=some v) (_:∀ x∈args,closed2 x=true):args.length≤10∧BN tt call 1 Yv (Fr.made 10 args) (Ao tabs) (Fin tt 1 [.tmp 4] v):=by
 subst hcall
 unfold m53 at hm
 replace hm:=Ad hm;obtain⟨a0,args_0,rfl,hm⟩:=hm
 replace hm:=Ad hm;obtain⟨a1,args_1,rfl,hm⟩:=hm
 replace hm:=AC hm;obtain⟨rfl,hm⟩:=hm
 replace hm:=Ai hm;obtain⟨x0,rfl,hm⟩:=hm
 replace hm:=Ai hm;obtain⟨x1,rfl,hm⟩:=hm
 unfold nO at hm
 refine⟨by simp,?_⟩
 refine .same (F':=(fr 10 [(0,.int .u16 x0),(1,zI x1)])) (H':=FD) (by kernel_rfl) (by kernel_rfl) ?_
 refine .then (.rK (.ghs (fr 10 [(0,.int .u16 x0),(1,zI x1)]) FD (.k0 [false] [] [0,1]) ?_))
 refine .then ?_
 replace⟨k1,h0,hm⟩:=Ab hm
 obtain rfl:=AR h0
 refine .rK (.ghs (fr 10 [(4,(zB (Bd (Np .u16 (G6 .u16 x0 k1) (1:Int)) (1:Int))))]) FD (.k0 [false] [] [4]) ?_)
 refine .ret ?_
 exact Fp (zB (Bd (Np .u16 (G6 .u16 x0 k1) (1:Int)) (1:Int))) hm
def PK (pu:Af) (n:Nat) (z0 z1:Int) (b0:Bool):OV:=
 (bb b0 (some (.int .i64 (2:Int))) (bb (nt (AY z0 z1)) (some (.int .i64 (7:Int))) (some (.int .i64 (0:Int)))))
def AfM (pu:Af) (n:Nat) (x0:Int) (s0 s1:Sl) (x1 x2:Int):OV:=
 (bb (AY (bb (AY x2 x1) x2 x1) (0:Int)) (PK pu n x1 x2 true) (PK pu n x1 x2 (nt (AY (bb (AY x1 x2) x2 x1) (Int.ofNat (Sl.n s0))))))
def m57 (pu:Af) (n:Nat) (args:LV):OV:=
 (ll args none λa0 args=>(ll args none λa1 args=>(ll args none λa2 args=>(ll args (oo (Bt a0) none λl0=>(ll l0 none λv0 l0=>(ll l0 none λv1 l0=>(ll l0 none λv2 l0=>(ll l0 (oo (Bi .i64 v0) none λx0=>(oo (Bj 1 v1) none λs0=>(oo (Bj 1 v2) none λs1=>(oo (Bi .i64 a1) none λx1=>(oo (Bi .i64 a2) none λx2=>(AfM pu n x0 s0 s1 x1 x2)))))) λ_ _=>none))))) λ_ _=>none))))
theorem r57 {call:A8} (pu:Af) (n:Nat) (hcall:call=Bb tabs Ir pu (inl pu)) {args:LV} {v:Value} (hm:m57 pu n args=some v) (_:∀ x∈args,closed2 x=true):args.length≤25∧BN tt call 1 UT (Fr.made 25 args) (Ao tabs) (Fin tt 1 [.tmp 6] v):=by
 subst hcall
 unfold m57 at hm
 replace hm:=Ad hm;obtain⟨a0,args_0,rfl,hm⟩:=hm
 replace hm:=Ad hm;obtain⟨a1,args_1,rfl,hm⟩:=hm
 replace hm:=Ad hm;obtain⟨a2,args_2,rfl,hm⟩:=hm
 replace hm:=AC hm;obtain⟨rfl,hm⟩:=hm
 replace hm:=BG hm;obtain⟨l0,rfl,hm⟩:=hm
 replace hm:=Ad hm;obtain⟨v0,l37555_0,rfl,hm⟩:=hm
 replace hm:=Ad hm;obtain⟨v1,l37555_1,rfl,hm⟩:=hm
 replace hm:=Ad hm;obtain⟨v2,l37555_2,rfl,hm⟩:=hm
 replace hm:=AC hm;obtain⟨rfl,hm⟩:=hm
 replace hm:=Ai hm;obtain⟨x0,rfl,hm⟩:=hm
 replace hm:=Al hm;obtain⟨s0,rfl,hm⟩:=hm
 replace hm:=Al hm;obtain⟨s1,rfl,hm⟩:=hm
 replace hm:=Ai hm;obtain⟨x1,rfl,hm⟩:=hm
 replace hm:=Ai hm;obtain⟨x2,rfl,hm⟩:=hm
 unfold AfM at hm
 refine⟨by simp,?_⟩
 refine .same (F':=(fr 25 [(0,(AhC x0 s0 s1)),(1,zI x1),(2,zI x2)])) (H':=FD) (by kernel_rfl) (by kernel_rfl) ?_
 refine .then (.rK (.ghs (fr 25 [(1,zI x1),(2,zI x2),(3,pt 1 0)]) (hT 2 [(Ahr x0 s0 s1)]) (.k0 [false] [.tmp 3 false] [1,2,3]) ?_))
 refine .then (.block (.join (v:=v) (λy:Int×Int×Bool=>((fr 25 [(1,(zI y.1)),(2,(zI y.2.1)),(7,(zB y.2.2))]),FD)) (λy=>PK pu n y.1 y.2.1 y.2.2) ?_ ?_))
 ·rintro⟨z0,z1,b0⟩ hm
  unfold PK at hm
  replace hm:=Ag hm;rcases hm with⟨h0,hm⟩|⟨h0,hm⟩
  ·refine .ifT b0 (by kernel_rfl) h0 ?_
   refine .then (.rK (.ghs (fr 25 [(6,(zI (2:Int)))]) FD (.k0 [false] [] [6]) ?_))
   refine .ret ?_
   exact Fp (zI (2:Int)) hm
  ·refine .ifF b0 (by kernel_rfl) h0 ?_
   refine .then (.rK (.ghs (fr 25 [(21,(zB (nt (AY z0 z1))))]) FD (.k0 [false] [] [21]) ?_))
   replace hm:=Ag hm;rcases hm with⟨h1,hm⟩|⟨h1,hm⟩
   ·refine Gq (nt (AY z0 z1)) h1 ?_
    refine .then (.rK (.ghs (fr 25 [(6,(zI (7:Int)))]) FD (.k0 [false] [] [6]) ?_))
    refine .ret ?_
    exact Fp (zI (7:Int)) hm
   ·refine Gs (nt (AY z0 z1)) h1 ?_
    refine .skip (.ghs (fr 25 []) FD (.k0 [false] [] []) ?_)
    refine .then (.rK (.ghs (fr 25 [(6,(zI (0:Int)))]) FD (.k0 [false] [] [6]) ?_))
    refine .ret ?_
    exact Fp (zI (0:Int)) hm
 ·replace hm:=Ag hm;rcases hm with⟨h2,hm⟩|⟨h2,hm⟩
  ·refine .reg (eC 3 (some ((zB (AY (bb (AY x2 x1) x2 x1) (0:Int))),(hT 2 [(Ahr x0 s0 s1)]))) (show _=some ((zB true),_) from (by rw[show (AY (bb (AY x2 x1) x2 x1) (0:Int))=true from h2])) (eE)) ?_
   exact⟨(x1,x2,true),hm,(.k0 [false] [] [1,2,7])⟩
  ·refine .reg (eC 3 (some ((zB (AY (bb (AY x2 x1) x2 x1) (0:Int))),(hT 2 [(Ahr x0 s0 s1)]))) (show _=some ((zB false),_) from (by rw[show (AY (bb (AY x2 x1) x2 x1) (0:Int))=false from h2])) (eE)) ?_
   exact⟨(x1,x2,(nt (AY (bb (AY x1 x2) x2 x1) (Int.ofNat (Sl.n s0))))),hm,(.k0 [false] [] [1,2,7])⟩
def Zv (pu:Af) (n:Nat):OV:=
 (some (.bool false))
def Ub (pu:Af) (n:Nat) (ih0:AjI) (s0 s1:Sl) (z0 z1:Int):OV:=
 (ih0 s0 s1 z0 (Aj .i64 (Int.add z1 (1:Int))))
def Zw (pu:Af) (n:Nat) (ih0:AjI) (s0 s1:Sl) (z0 z1 z2:Int):OV:=
 (oo (EA z0) none λk1=>(bb (an (Nat.blt k1 (Sl.n s0)) true) (oo (AL (Sl.cs s0) (k1*1)) none λv0=>(oo (Bj 1 v0) none λs2=>(bb (an (Nat.blt k1 (Sl.n s1)) true) (oo (AL (Sl.cs s1) (k1*1)) none λv1=>(oo (Bj 1 v1) none λs3=>(bb (AY (Int.ofNat (Sl.n s2)) (Int.ofNat (Sl.n s3))) (some (.bool true)) (Ub pu n ih0 s0 s1 z1 z2)))) none))) none))
def WS (pu:Af) (n:Nat) (ih0:AjI) (ih1:Sl→Sl→Int→Int→Int→Int→Int→OV) (s0 s1:Sl) (z0 z1 z2 z3 z4:Int):OV:=
 (bb (AY z4 z3) (oo (EA z0) none λk1=>(bb (an (Nat.blt k1 (Sl.n s1)) true) (oo (AL (Sl.cs s1) (k1*1)) none λv0=>(oo (Bj 1 v0) none λs2=>(bb (Bd z4 (Int.ofNat (Sl.n s2))) (some (.bool false)) (bb (an (Nat.blt k1 (Sl.n s0)) true) (oo (AL (Sl.cs s0) (k1*1)) none λv1=>(oo (Bj 1 v1) none λs3=>(oo (EA z4) none λk2=>(bb (an (Nat.blt k2 (Sl.n s3)) true) (oo (AL (Sl.cs s3) (k2*1)) none λv2=>(oo (Bi .i64 v2) none λx0=>(bb (an (Nat.blt k1 (Sl.n s1)) true) (oo (AL (Sl.cs s1) (k1*1)) none λv3=>(oo (Bj 1 v3) none λs4=>(bb (an (Nat.blt k2 (Sl.n s4)) true) (oo (AL (Sl.cs s4) (k2*1)) none λv4=>(oo (Bi .i64 v4) none λx1=>(bb (nt (Bd x0 x1)) (bb (an (Nat.blt k1 (Sl.n s0)) true) (oo (AL (Sl.cs s0) (k1*1)) none λv5=>(oo (Bj 1 v5) none λs5=>(bb (an (Nat.blt k2 (Sl.n s5)) true) (oo (AL (Sl.cs s5) (k2*1)) none λv6=>(oo (Bi .i64 v6) none λx2=>(bb (an (Nat.blt k1 (Sl.n s1)) true) (oo (AL (Sl.cs s1) (k1*1)) none λv7=>(oo (Bj 1 v7) none λs6=>(bb (an (Nat.blt k2 (Sl.n s6)) true) (oo (AL (Sl.cs s6) (k2*1)) none λv8=>(oo (Bi .i64 v8) none λx3=>(some (.bool (AY x2 x3))))) none))) none))) none))) none) (ih1 s0 s1 (Int.ofNat k1) z1 z2 z3 (Aj .i64 (Int.add (Int.ofNat k2) (1:Int))))))) none))) none))) none)))) none)))) none)) (Zw pu n ih0 s0 s1 z0 z1 z2))
def RU (pu:Af) (n:Nat) (ih0:AjI) (w:Nat):Sl→Sl→Int→Int→Int→Int→Int→OV:=
 Nat.rec (motive:=λ_=>Sl→Sl→Int→Int→Int→Int→Int→OV) (λ_ _ _ _ _ _ _=>none) (λ_ ih1=>WS pu n ih0 ih1) w
def WT (pu:Af) (n:Nat) (ih0:AjI) (s0 s1:Sl) (z0 z1:Int):OV:=
 (bb (AY z1 z0) (oo (EA z1) none λk1=>(bb (an (Nat.blt k1 (Sl.n s0)) true) (oo (AL (Sl.cs s0) (k1*1)) none λv0=>(oo (Bj 1 v0) none λs2=>(RU pu n ih0 n s0 s1 (Int.ofNat k1) z0 (Int.ofNat k1) (Int.ofNat (Sl.n s2)) (0:Int)))) none)) (Zv pu n))
def K9 (pu:Af) (n w:Nat):AjI:=
 Nat.rec (motive:=λ_=>AjI) (λ_ _ _ _=>none) (λ_ ih0=>WT pu n ih0) w
def Abz (pu:Af) (n:Nat) (s0 s1:Sl):OV:=
 (K9 pu n n s0 s1 (Int.ofNat (Sl.n s0)) (0:Int))
def m61 (pu:Af) (n:Nat) (args:LV):OV:=
 (ll args none λa0 args=>(ll args none λa1 args=>(ll args (oo (Bj 1 a0) none λs0=>(oo (Bj 1 a1) none λs1=>(Abz pu n s0 s1))) λ_ _=>none)))
theorem AfN (pu:Af) (n:Nat) {v:Value} (hm:Zv pu n=some v):BN tt (Bb tabs Ir pu (inl pu)) 1 fA (fr 70 []) FD (Fin tt 1 [.tmp 4] v):=by
 unfold Zv at hm
 refine .then (.rK (.ghs (fr 70 [(4,zB false)]) FD (.k0 [false] [] [4]) ?_))
 refine .ret ?_
 exact Fp (zB false) hm
theorem r61 {call:A8} (pu:Af) (n:Nat) (hcall:call=Bb tabs Ir pu (inl pu)) {args:LV} {v:Value} (hm:m61 pu n args=some v) (_:∀ x∈args,closed2 x=true):args.length≤70∧BN tt call 1 UU (Fr.made 70 args) (Ao tabs) (Fin tt 1 [.tmp 4] v):=by
 subst hcall
 unfold m61 at hm
 replace hm:=Ad hm;obtain⟨a0,args_0,rfl,hm⟩:=hm
 replace hm:=Ad hm;obtain⟨a1,args_1,rfl,hm⟩:=hm
 replace hm:=AC hm;obtain⟨rfl,hm⟩:=hm
 replace hm:=Al hm;obtain⟨s0,rfl,hm⟩:=hm
 replace hm:=Al hm;obtain⟨s1,rfl,hm⟩:=hm
 unfold Abz at hm
 refine⟨by simp,?_⟩
 refine .same (F':=(fr 70 (Ai2 s0 s1))) (H':=FD) (by kernel_rfl) (by kernel_rfl) ?_
 refine .then (.rK (.ghs (fr 70 (Ai2 s0 s1)) FD (.k0 [false] [] [0,1]) ?_))
 refine .join (v:=v) (λy:Unit=>((fr 70 []),FD)) (λy=>Zv pu n) ?_ ?_
 ·rintro _ hm
  exact AfN pu n hm
 ·refine .then (.rK (.ghs (fr 70 [(0,Sl.v 1 s0),(1,Sl.v 1 s1),(8,(Ah6 s0)),(9,(zI (0:Int)))]) FD (.k0 [false] [] [0,1,8,9]) ?_))
  refine .block (.loopM (v:=v) (λy:Sl×Sl×Int×Int=>((fr 70 [(0,(Sl.v 1 y.1)),(1,(Sl.v 1 y.2.1)),(8,(zI y.2.2.1)),(9,(zI y.2.2.2))]),FD)) (λw y=>K9 pu n w y.1 y.2.1 y.2.2.1 y.2.2.2) n ⟨(s0,s1,(Int.ofNat (Sl.n s0)),(0:Int)),hm,(.k0 [false] [] [0,1,8,9])⟩ (λ_=>rfl) ?_)
  rintro w0 ⟨s2,s3,z0,z1⟩ hm
  replace hm:WT pu n (K9 pu n w0) s2 s3 z0 z1=some v:=hm
  unfold WT at hm
  refine .then (.rK (.ghs (fr 70 [(0,Sl.v 1 s2),(1,Sl.v 1 s3),(8,zI z0),(9,zI z1),(10,(zB (AY z1 z0)))]) FD (.k0 [false] [] [0,1,8,9,10]) ?_))
  refine .then ?_
  replace hm:=Ag hm;rcases hm with⟨h0,hm⟩|⟨h0,hm⟩
  ·refine Gq (AY z1 z0) h0 ?_
   refine .skip (.ghs (fr 70 [(0,Sl.v 1 s2),(1,Sl.v 1 s3),(8,zI z0),(9,zI z1)]) FD (.k0 [false] [] [0,1,8,9]) ?_)
   refine .join (v:=v) (λy:Sl×Sl×Int×Int=>((fr 70 [(0,(Sl.v 1 y.1)),(1,(Sl.v 1 y.2.1)),(8,(zI y.2.2.1)),(9,(zI y.2.2.2))]),FD)) (λy=>Ub pu n (K9 pu n w0) y.1 y.2.1 y.2.2.1 y.2.2.2) ?_ ?_
   ·rintro⟨s4,s5,z2,z3⟩ hm
    unfold Ub at hm
    refine .rK ?_
    exact⟨(s4,s5,z2,(AhE z3)),hm,(.k0 [false] [] [0,1,8,9])⟩
   ·refine .block (.then (.rK (.ghs (fr 70 [(0,Sl.v 1 s2),(1,Sl.v 1 s3),(5,zI z1),(8,zI z0),(9,zI z1)]) FD (.k0 [false] [] [0,1,5,8,9]) ?_)))
    refine .join (v:=v) (λy:Sl×Sl×Int×Int×Int=>((fr 70 [(0,(Sl.v 1 y.1)),(1,(Sl.v 1 y.2.1)),(5,(zI y.2.2.1)),(8,(zI y.2.2.2.1)),(9,(zI y.2.2.2.2))]),FD)) (λy=>Zw pu n (K9 pu n w0) y.1 y.2.1 y.2.2.1 y.2.2.2.1 y.2.2.2.2) ?_ ?_
    ·rintro⟨s6,s7,z4,z5,z6⟩ hm
     unfold Zw at hm
     refine .then ?_
     replace⟨k1,h1,hm⟩:=Ab hm
     obtain rfl:=AR h1
     replace⟨h2,hm⟩:=Ae hm
     replace⟨s8,h3,hm⟩:=Sm hm
     replace⟨h4,hm⟩:=Ae hm
     replace⟨s9,h5,hm⟩:=Sm hm
     refine .reg (eC 2 (keep FD (Aht k1 s6)) (AX h2) (eD (Aia s6 k1) (AZ h3) (eC 3 (keep FD (Aht k1 s7)) (AX h4) (eD (Aia s7 k1) (AZ h5) (eE))))) ?_
     refine .ghs (fr 70 [(0,Sl.v 1 s6),(1,Sl.v 1 s7),(8,zI z5),(9,zI z6),(68,(zB (AY (Int.ofNat (Sl.n s8)) (Int.ofNat (Sl.n s9)))))]) FD (.k0 [false] [] [0,1,8,9,68]) ?_
     replace hm:=Ag hm;rcases hm with⟨h6,hm⟩|⟨h6,hm⟩
     ·refine Gq (AY (Int.ofNat (Sl.n s8)) (Int.ofNat (Sl.n s9))) h6 ?_
      refine .then (.rK (.ghs (fr 70 [(4,zB true)]) FD (.k0 [false] [] [4]) ?_))
      refine .ret ?_
      exact Fp (zB true) hm
     ·refine Gs (AY (Int.ofNat (Sl.n s8)) (Int.ofNat (Sl.n s9))) h6 ?_
      refine .skip ?_
      exact⟨(s6,s7,z5,z6),hm,(.k0 [false] [] [0,1,8,9])⟩
    ·refine .then ?_
     replace⟨k2,h7,hm⟩:=Ab hm
     obtain rfl:=AR h7
     replace⟨h8,hm⟩:=Ae hm
     replace⟨s10,h9,hm⟩:=Sm hm
     refine .reg (eC 2 (keep FD (Aht k2 s2)) (AX h8) (eD (Aia s2 k2) (AZ h9) (eE))) ?_
     refine .ghs (fr 70 [(0,Sl.v 1 s2),(1,Sl.v 1 s3),(5,(zI (Int.ofNat k2))),(8,zI z0),(9,(zI (Int.ofNat k2))),(16,(Ah6 s10)),(17,(zI (0:Int)))]) FD (.k0 [false] [] [0,1,5,8,9,16,17]) ?_
     refine .block (.loopM (v:=v) (λy:Sl×Sl×Int×Int×Int×Int×Int=>((fr 70 [(0,(Sl.v 1 y.1)),(1,(Sl.v 1 y.2.1)),(5,(zI y.2.2.1)),(8,(zI y.2.2.2.1)),(9,(zI (AaW y))),(16,(zI (Acq y))),(17,(zI (AcK y)))]),FD)) (λw y=>RU pu n (K9 pu n w0) w y.1 y.2.1 y.2.2.1 y.2.2.2.1 (AaW y) (Acq y) (AcK y)) n ⟨(s2,s3,(Int.ofNat k2),z0,(Int.ofNat k2),(Int.ofNat (Sl.n s10)),(0:Int)),hm,(.k0 [false] [] [0,1,5,8,9,16,17])⟩ (λ_=>rfl) ?_)
     rintro w1 ⟨s11,s12,z7,z8,z9,z10,z11⟩ hm
     replace hm:WS pu n (K9 pu n w0) (RU pu n (K9 pu n w0) w1) s11 s12 z7 z8 z9 z10 z11=some v:=hm
     unfold WS at hm
     refine .then (.rK (.ghs (fr 70 [(0,Sl.v 1 s11),(1,Sl.v 1 s12),(5,zI z7),(8,zI z8),(9,zI z9),(16,zI z10),(17,zI z11),(18,(zB (AY z11 z10)))]) FD (.k0 [false] [] [0,1,5,8,9,16,17,18]) ?_))
     refine .then ?_
     replace hm:=Ag hm;rcases hm with⟨h10,hm⟩|⟨h10,hm⟩
     ·refine Gq (AY z11 z10) h10 ?_
      refine .skip (.ghs (fr 70 [(0,Sl.v 1 s11),(1,Sl.v 1 s12),(5,zI z7),(8,zI z8),(9,zI z9),(16,zI z10),(17,zI z11)]) FD (.k0 [false] [] [0,1,5,8,9,16,17]) ?_)
      refine .then (.block (.then (.rK (.ghs (fr 70 [(0,Sl.v 1 s11),(1,Sl.v 1 s12),(5,zI z7),(6,zI z11),(8,zI z8),(9,zI z9),(16,zI z10),(17,zI z11)]) FD (.k0 [false] [] [0,1,5,6,8,9,16,17]) ?_))))
      refine .then (.then ?_)
      replace⟨k3,h11,hm⟩:=Ab hm
      obtain rfl:=AR h11
      replace⟨h12,hm⟩:=Ae hm
      replace⟨s13,h13,hm⟩:=Sm hm
      refine .reg (eC 3 (keep FD (Aht k3 s12)) (AX h12) (eD (Aia s12 k3) (AZ h13) (eE))) ?_
      refine .ghs (fr 70 [(0,Sl.v 1 s11),(1,Sl.v 1 s12),(5,(zI (Int.ofNat k3))),(6,zI z11),(8,zI z8),(9,zI z9),(16,zI z10),(17,zI z11),(26,(zB (Aji z11 s13)))]) FD (.k0 [false] [] [0,1,5,6,8,9,16,17,26]) ?_
      replace hm:=Ag hm;rcases hm with⟨h14,hm⟩|⟨h14,hm⟩
      ·refine Gq (Aji z11 s13) h14 ?_
       refine .then (.rK (.ghs (fr 70 [(4,zB false)]) FD (.k0 [false] [] [4]) ?_))
       refine .ret ?_
       exact Fp (zB false) hm
      ·refine Gs (Aji z11 s13) h14 ?_
       refine .skip (.ghs (fr 70 [(0,Sl.v 1 s11),(1,Sl.v 1 s12),(5,(zI (Int.ofNat k3))),(6,zI z11),(8,zI z8),(9,zI z9),(16,zI z10),(17,zI z11)]) FD (.k0 [false] [] [0,1,5,6,8,9,16,17]) ?_)
       refine .then ?_
       replace⟨h15,hm⟩:=Ae hm
       replace⟨s14,h16,hm⟩:=Sm hm
       replace⟨k4,h17,hm⟩:=Ab hm
       obtain rfl:=AR h17
       replace⟨h18,hm⟩:=Ae hm
       replace⟨x0,h19,hm⟩:=Hw hm
       replace⟨h20,hm⟩:=Ae hm
       replace⟨s15,h21,hm⟩:=Sm hm
       replace⟨h22,hm⟩:=Ae hm
       replace⟨x1,h23,hm⟩:=Hw hm
       refine .reg (eN 6 (Fr.puts (fr 70 [(0,Sl.v 1 s11),(1,Sl.v 1 s12),(5,(zI (Int.ofNat k3))),(6,(zI (Int.ofNat k4))),(8,zI z8),(9,zI z9),(16,zI z10),(17,(zI (Int.ofNat k4)))]) [(27,Sl.v 1 s11),(28,(zI (Int.ofNat k3))),(29,(Cv (k3*1) (Sl.cs s11))),(30,Sl.v 1 s14),(31,(zI (Int.ofNat k4))),(32,(Cv (k4*1) (Sl.cs s14)))]) FD (eC 2 (keep FD (Aht k3 s11)) (AX h15) (eD (Aia s11 k3) (AZ h16) (eC 1 (keep FD (Aht k4 s14)) (AX h18) (by kernel_rfl)))) (eD (Aia s14 k4) (AZ h19) (eC 2 (keep FD (Aht k3 s12)) (AX h20) (eD (Aia s12 k3) (AZ h21) (eC 1 (keep FD (Aht k4 s15)) (AX h22) (eD (Aia s15 k4) (AZ h23) (eE))))))) ?_
       refine .ghs (fr 70 [(0,Sl.v 1 s11),(1,Sl.v 1 s12),(5,(zI (Int.ofNat k3))),(6,(zI (Int.ofNat k4))),(8,zI z8),(9,zI z9),(16,zI z10),(17,(zI (Int.ofNat k4))),(41,(zB (nt (Bd x0 x1))))]) FD (.k0 [false] [] [0,1,5,6,8,9,16,17,41]) ?_
       replace hm:=Ag hm;rcases hm with⟨h24,hm⟩|⟨h24,hm⟩
       ·refine Gq (nt (Bd x0 x1)) h24 ?_
        refine .then ?_
        replace⟨h25,hm⟩:=Ae hm
        replace⟨s16,h26,hm⟩:=Sm hm
        replace⟨h27,hm⟩:=Ae hm
        replace⟨x2,h28,hm⟩:=Hw hm
        replace⟨h29,hm⟩:=Ae hm
        replace⟨s17,h30,hm⟩:=Sm hm
        replace⟨h31,hm⟩:=Ae hm
        replace⟨x3,h32,hm⟩:=Hw hm
        refine .reg (eN 6 (Fr.puts (fr 70 [(0,Sl.v 1 s11),(1,Sl.v 1 s12),(5,(zI (Int.ofNat k3))),(6,(zI (Int.ofNat k4))),(8,zI z8),(9,zI z9),(16,zI z10),(17,(zI (Int.ofNat k4))),(41,(zB (nt (Bd x0 x1))))]) [(42,Sl.v 1 s11),(43,(zI (Int.ofNat k3))),(44,(Cv (k3*1) (Sl.cs s11))),(45,Sl.v 1 s16),(46,(zI (Int.ofNat k4))),(47,(Cv (k4*1) (Sl.cs s16)))]) FD (eC 2 (keep FD (Aht k3 s11)) (AX h25) (eD (Aia s11 k3) (AZ h26) (eC 1 (keep FD (Aht k4 s16)) (AX h27) (by kernel_rfl)))) (eD (Aia s16 k4) (AZ h28) (eC 2 (keep FD (Aht k3 s12)) (AX h29) (eD (Aia s12 k3) (AZ h30) (eC 1 (keep FD (Aht k4 s17)) (AX h31) (eD (Aia s17 k4) (AZ h32) (eE))))))) ?_
        refine .ghs (fr 70 [(4,(zB (AY x2 x3)))]) FD (.k0 [false] [] [4]) ?_
        refine .ret ?_
        exact Fp (zB (AY x2 x3)) hm
       ·refine Gs (nt (Bd x0 x1)) h24 ?_
        refine .skip (.ghs (fr 70 [(0,Sl.v 1 s11),(1,Sl.v 1 s12),(5,(zI (Int.ofNat k3))),(8,zI z8),(9,zI z9),(16,zI z10),(17,(zI (Int.ofNat k4)))]) FD (.k0 [false] [] [0,1,5,8,9,16,17]) ?_)
        refine .rK ?_
        exact⟨(s11,s12,(Int.ofNat k3),z8,z9,z10,(AhP k4)),hm,(.k0 [false] [] [0,1,5,8,9,16,17])⟩
     ·refine Gs (AY z11 z10) h10 ?_
      refine .exit ?_
      exact⟨(s11,s12,z7,z8,z9),hm,(.k0 [false] [] [0,1,5,8,9])⟩
  ·refine Gs (AY z1 z0) h0 ?_
   refine .exit ?_
   exact⟨(),hm,(.k0 [false] [] [])⟩
def Zx (pu:Af) (n n0 c0:Nat) (q0:LV):OV:=
 (bb (Au Ah q0) (bb (an (Nat.ble (0+n0*1) (len q0)) (Au Ah (Aq (n0*1) (Am 0 q0)))) (some (Sl.v 1 (Sl.mk n0 0 (Aq (n0*1) (Am 0 q0))))) none) none)
def fT (pu:Af) (n:Nat) (ih0:Int→Nat→Nat→LV→OV) (z0:Int) (n0 c0:Nat) (q0:LV):OV:=
 (bb (Au Ah q0) (bb (nt (Bd z0 (0:Int))) (oo (pu 67 [.int .u16 z0]) none λv0=>(oo (Bi .i64 v0) none λx0=>(bb (GV 1 8 n0 c0 1 q0) (bb (Au Ah (Br (Am 0 q0) [.int .i64 x0])) (ih0 (Np .u16 z0 (Aj .u16 (Int.sub z0 (1:Int)))) (n0+1) (2*(n0+1)+bb false 1 0) (Br (Am 0 q0) [.int .i64 x0])) none) none))) (Zx pu n n0 c0 q0)) none)
def fU (pu:Af) (n w:Nat):Int→Nat→Nat→LV→OV:=
 Nat.rec (motive:=λ_=>Int→Nat→Nat→LV→OV) (λ_ _ _ _=>none) (λ_ ih0=>fT pu n ih0) w
def AfO (pu:Af) (n:Nat) (x0:Int):OV:=
 (fU pu n n x0 0 0 ([]:LV))
def m62 (pu:Af) (n:Nat) (args:LV):OV:=
 (ll args none λa0 args=>(ll args (oo (Bi .u16 a0) none λx0=>(AfO pu n x0)) λ_ _=>none))
theorem AfP (pu:Af) (n n0 c0:Nat) (q0:LV) {v:Value} (hm:Zx pu n n0 c0 q0=some v):BN tt (Bb tabs Ir pu (inl pu)) 1 fB (fr 16 [(3,sc 1 0 1 n0 c0)]) (hT 2 [oC q0]) (Fin tt 1 [.tmp 2] v):=by
 unfold Zx at hm
 refine .then (.rK ?_)
 replace⟨h0,hm⟩:=Ae hm
 refine .ghs (fr 16 [(2,sc 1 0 1 n0 c0)]) (hT 2 [oC q0]) (.k [1] [false] [.tmp 2 false] [2] ⟨Fb h0,trivial⟩) ?_
 replace⟨h1,hm⟩:=Ae hm
 refine .ghs (Fr.puts (fr 16 [(2,sc 1 0 1 n0 c0)]) [(2,(Sl.v 1 (Ahx n0 q0)))]) (hT 2 [.dead]) (.freezeC 1 2 1 (Aij n0 q0) (F1:=(Fr.puts (fr 16 [(2,sc 1 0 1 n0 c0)]) [(2,(Sl.v 1 (Ahx n0 q0)))])) (H1:=(hT 2 [.dead])) (by kernel_rfl) (by kernel_rfl) h1 (E9.id _ _)) ?_
 refine .ret ?_
 exact Fp (Sl.v 1 (Ahx n0 q0)) hm
theorem r62 {call:A8} (pu:Af) (n:Nat) (hcall:call=Bb tabs Ir pu (inl pu)) {args:LV} {v:Value} (hm:m62 pu n args=some v) (_:∀ x∈args,closed2 x=true):args.length≤16∧BN tt call 1 UV (Fr.made 16 args) (Ao tabs) (Fin tt 1 [.tmp 2] v):=by
 subst hcall
 unfold m62 at hm
 replace hm:=Ad hm;obtain⟨a0,args_0,rfl,hm⟩:=hm
 replace hm:=AC hm;obtain⟨rfl,hm⟩:=hm
 replace hm:=Ai hm;obtain⟨x0,rfl,hm⟩:=hm
 unfold AfO at hm
 refine⟨by simp,?_⟩
 refine .same (F':=(fr 16 [(0,.int .u16 x0)])) (H':=FD) (by kernel_rfl) (by kernel_rfl) ?_
 refine .then (.rK (.ghs (fr 16 [(0,.int .u16 x0)]) FD (.k0 [false] [] [0]) ?_))
 refine .then (.rK (.ghs (fr 16 [(0,.int .u16 x0),(3,(.slice none 0 0))]) FD (.k0 [false] [] [0,3]) ?_))
 refine .join (v:=v) (λy:Nat×Nat×LV=>((fr 16 [(3,(sc 1 0 1 y.1 y.2.1))]),(hT 2 [(oC y.2.2)]))) (λy=>Zx pu n y.1 y.2.1 y.2.2) ?_ ?_
 ·rintro⟨n0,c0,q0⟩ hm
  exact AfP pu n n0 c0 q0 hm
 ·refine .block (.loopM (v:=v) (λy:Int×Nat×Nat×LV=>((fr 16 [(0,(.int .u16 y.1)),(3,(sc 1 0 1 y.2.1 y.2.2.1))]),(hT 2 [(oC y.2.2.2)]))) (λw y=>fU pu n w y.1 y.2.1 y.2.2.1 y.2.2.2) n ⟨(x0,0,0,([]:LV)),hm,(.thaw 3 1 (by kernel_rfl) (.k0 [false] [.tmp 3 false] [0,3]))⟩ (λ_=>rfl) ?_)
  rintro w0 ⟨z0,n1,c1,q1⟩ hm
  replace hm:fT pu n (fU pu n w0) z0 n1 c1 q1=some v:=hm
  unfold fT at hm
  refine .then (.then (.rK ?_))
  replace⟨h0,hm⟩:=Ae hm
  refine .ghs (fr 16 [(0,.int .u16 z0),(3,sc 1 0 1 n1 c1),(5,(zB (nt (Bd z0 (0:Int)))))]) (hT 2 [oC q1]) (.k [1] [false] [.tmp 3 false] [0,3,5] ⟨Fb h0,trivial⟩) ?_
  replace hm:=Ag hm;rcases hm with⟨h1,hm⟩|⟨h1,hm⟩
  ·refine Gq (nt (Bd z0 (0:Int))) h1 ?_
   refine .skip (.ghs (fr 16 [(0,.int .u16 z0),(3,sc 1 0 1 n1 c1)]) (hT 2 [oC q1]) (.k [1] [false] [.tmp 3 false] [0,3] ⟨Fb h0,trivial⟩) ?_)
   refine .then (.block ?_)
   replace⟨x1,h2,hm⟩:=Hw hm
   replace⟨h3,hm⟩:=Ae hm
   refine .reg (eC 2 ((oo (pu 67 [.int .u16 z0]) none λv=>some (v,(hT 2 [oC q1])))) (AB h2) (eC 1 (Oc 1 8 n1 c1 1 1 q1 [zI x1] [] (hT 3 [oC q1,(oC [zI x1])])) (I1 h3) (eE))) ?_
   replace⟨h4,hm⟩:=Ae hm
   refine .ghs (fr 16 [(0,.int .u16 z0),(3,(sc 1 0 1 (n1+1) (d2 (n1+1))))]) (hT 2 [(AiO q1 x1)]) (.k [3] [false] [.tmp 3 false] [0,3] ⟨Fb h4,trivial⟩) ?_
   refine .rK ?_
   exact⟨((Np .u16 z0 (Aj .u16 (Int.sub z0 (1:Int)))),(n1+1),(d2 (n1+1)),(Br (Am 0 q1) [zI x1])),hm,(.k [1] [false] [.tmp 3 false] [0,3] ⟨Fb h4,trivial⟩)⟩
  ·refine Gs (nt (Bd z0 (0:Int))) h1 ?_
   refine .exit ?_
   exact⟨(n1,c1,q1),hm,(.k [1] [false] [.tmp 3 false] [3] ⟨Fb h0,trivial⟩)⟩
def nP (pu:Af) (n:Nat) (x0:Int):OV:=
 (oo (EA (G6 .u16 x0 8)) none λk1=>(oo (mK[k1]?) none λc0=>(oo (EA (Np .u16 x0 (255:Int))) none λk2=>(oo (mK[k2]?) none λc1=>(some (.int .i64 (Aj .i64 (Aj .u8 (Int.add (Int.ofNat (UInt8.toNat c0)) (Int.ofNat (UInt8.toNat c1)))))))))))
def m64 (pu:Af) (n:Nat) (args:LV):OV:=
 (ll args none λa0 args=>(ll args (oo (Bi .u16 a0) none λx0=>(nP pu n x0)) λ_ _=>none))
theorem r64 {call:A8} (pu:Af) (n:Nat) (hcall:call=Bb tabs Ir pu (inl pu)) {args:LV} {v:Value} (hm:m64 pu n args=some v) (_:∀ x∈args,closed2 x=true):args.length≤11∧BN tt call 1 Yw (Fr.made 11 args) (Ao tabs) (Fin tt 1 [.tmp 2] v):=by
 subst hcall
 unfold m64 at hm
 replace hm:=Ad hm;obtain⟨a0,args_0,rfl,hm⟩:=hm
 replace hm:=AC hm;obtain⟨rfl,hm⟩:=hm
 replace hm:=Ai hm;obtain⟨x0,rfl,hm⟩:=hm
 unfold nP at hm
 refine⟨by simp,?_⟩
 refine .same (F':=(fr 11 [(0,.int .u16 x0)])) (H':=FD) (by kernel_rfl) (by kernel_rfl) ?_
 refine .then (.rK (.ghs (fr 11 [(0,.int .u16 x0)]) FD (.k0 [false] [] [0]) ?_))
 refine .then ?_
 replace⟨k1,h0,hm⟩:=Ab hm
 replace⟨c0,h1,hm⟩:=Ab hm
 replace⟨k2,h2,hm⟩:=Ab hm
 replace⟨c1,h3,hm⟩:=Ab hm
 refine .reg (eC 1 (some ((.int .u16 (G6 .u16 x0 8)),FD)) (show _=some ((.int .u16 (Int.ofNat k1)),_) from (by rw[AR h0])) (eD (keep FD (oo (mK[k1]?) none λb=>iv .u8 (.ofNat b.toNat))) (nE h1) (eC 1 (some ((.int .u16 (Np .u16 x0 (255:Int))),FD)) (show _=some ((.int .u16 (Int.ofNat k2)),_) from (by rw[AR h2])) (eD (keep FD (oo (mK[k2]?) none λb=>iv .u8 (.ofNat b.toNat))) (nE h3) (eE))))) ?_
 refine .ghs (fr 11 [(2,(zI (Aj .i64 (Aj .u8 (Int.add (Int.ofNat (UInt8.toNat c0)) (Int.ofNat (UInt8.toNat c1)))))))]) FD (.k0 [false] [] [2]) ?_
 refine .ret ?_
 exact Fp (zI (Aj .i64 (Aj .u8 (Int.add (Int.ofNat (UInt8.toNat c0)) (Int.ofNat (UInt8.toNat c1)))))) hm
def nQ (pu:Af) (n:Nat) (x0:Int):OV:=
 (bb (Bd x0 (0:Int)) (some (.int .i64 (16:Int))) (oo (EA (G6 .u32 (Aj .u32 (Int.mul (Aj .u32 (Np .u16 x0 (Aj .u16 (Int.sub (.ofNat 0) x0)))) (125613361:Int))) 27)) none λk1=>(bb (Nat.blt k1 32) (oo (AL UY (0+k1*1)) none λv0=>(oo (Bi .u8 v0) none λx1=>(some (.int .i64 (Aj .i64 x1))))) none)))
def m67 (pu:Af) (n:Nat) (args:LV):OV:=
 (ll args none λa0 args=>(ll args (oo (Bi .u16 a0) none λx0=>(nQ pu n x0)) λ_ _=>none))
theorem r67 {call:A8} (pu:Af) (n:Nat) (hcall:call=Bb tabs Ir pu (inl pu)) {args:LV} {v:Value} (hm:m67 pu n args=some v) (_:∀ x∈args,closed2 x=true):args.length≤15∧BN tt call 1 Yx (Fr.made 15 args) (Ao tabs) (Fin tt 1 [.tmp 2] v):=by
 subst hcall
 unfold m67 at hm
 replace hm:=Ad hm;obtain⟨a0,args_0,rfl,hm⟩:=hm
 replace hm:=AC hm;obtain⟨rfl,hm⟩:=hm
 replace hm:=Ai hm;obtain⟨x0,rfl,hm⟩:=hm
 unfold nQ at hm
 refine⟨by simp,?_⟩
 refine .same (F':=(fr 15 [(0,.int .u16 x0)])) (H':=FD) (by kernel_rfl) (by kernel_rfl) ?_
 refine .then (.rK (.ghs (fr 15 [(0,.int .u16 x0)]) FD (.k0 [false] [] [0]) ?_))
 refine .then (.then (.rK (.ghs (fr 15 [(0,.int .u16 x0),(4,(zB (Bd x0 (0:Int))))]) FD (.k0 [false] [] [0,4]) ?_)))
 replace hm:=Ag hm;rcases hm with⟨h0,hm⟩|⟨h0,hm⟩
 ·refine Gq (Bd x0 (0:Int)) h0 ?_
  refine .then (.rK (.ghs (fr 15 [(2,(zI (16:Int)))]) FD (.k0 [false] [] [2]) ?_))
  refine .ret ?_
  exact Fp (zI (16:Int)) hm
 ·refine Gs (Bd x0 (0:Int)) h0 ?_
  refine .skip (.ghs (fr 15 [(0,.int .u16 x0)]) FD (.k0 [false] [] [0]) ?_)
  refine .then ?_
  replace⟨k1,h1,hm⟩:=Ab hm
  replace⟨h2,hm⟩:=Ae hm
  replace⟨x1,h3,hm⟩:=Hw hm
  refine .reg (eC 6 (some ((.int .u32 (G6 .u32 (Aj .u32 (Int.mul (Aj .u32 (Np .u16 x0 (Aj .u16 (Int.sub (.ofNat 0) x0)))) (125613361:Int))) 27)),FD)) (show _=some ((.int .u32 (Int.ofNat k1)),_) from (by rw[AR h1])) (eD (keep FD (bb (Nat.blt k1 32) (some (.pointer (some ⟨0,(0+k1*1),none⟩))) none)) (AX h2) (eD (keep FD (AL UY (0+k1*1))) (AZ h3) (eE)))) ?_
  refine .ghs (fr 15 [(2,(zI (Aj .i64 x1)))]) FD (.k0 [false] [] [2]) ?_
  refine .ret ?_
  exact Fp (zI (Aj .i64 x1)) hm
def WU (pu:Af) (n:Nat) (q0:LV):OV:=
 (bb (Nat.ble (0+5) (len q0)) (oo (AL q0 0) none λv0=>(oo (Bi .i64 v0) none λx0=>(oo (AL q0 (0+1)) none λv1=>(oo (Bi .i64 v1) none λx1=>(oo (AL q0 ((0+1)+1)) none λv2=>(oo (Bi .i64 v2) none λx2=>(oo (AL q0 (((0+1)+1)+1)) none λv3=>(oo (Bi .i64 v3) none λx3=>(oo (AL q0 ((((0+1)+1)+1)+1)) none λv4=>(oo (Bi .i64 v4) none λx4=>(some (.bool (bq true (an (Bd x0 (0:Int)) (an (Bd x1 (0:Int)) (an (Bd x2 (0:Int)) (an (Bd x3 (0:Int)) (an (Bd x4 (0:Int)) true)))))))))))))))))) none)
def Ud (pu:Af) (n:Nat) (ih0:AjK) (z0 z1 z2 z3:Int) (s0 s1:Sl) (q0:LV):OV:=
 (bb (Au Ah q0) (ih0 z0 z1 (Aj .i64 (Int.add z2 (1:Int))) z3 s0 s1 q0) none)
def WV (pu:Af) (n:Nat) (ih0:AjK) (z0 z1 z2 z3:Int) (s0 s1:Sl) (q0:LV):OV:=
 (bb (Au Ah q0) (bb (AY z2 z1) (oo (pu 53 [.int .u16 z0,.int .i64 z2]) none λv0=>(oo (Bf v0) none λb0=>(bb b0 (oo (EA z2) none λk1=>(bb (an (Nat.blt k1 (Sl.n s0)) true) (oo (AL (Sl.cs s0) (k1*1)) none λv1=>(oo (Bi .i64 v1) none λx0=>(oo (EA x0) none λk2=>(bb (Nat.blt k2 5) (oo (AL q0 (0+k2*1)) none λv2=>(oo (Bi .i64 v2) none λx1=>(bb (Nat.blt k2 5) (bb (an (Nat.ble ((0+k2*1)+1) (len q0)) true) (bb (Au Ah (BM ([(.int .i64 (Aj .i64 (Int.add x1 (1:Int))))]:LV) (0+k2*1) q0)) (bb (an (Nat.blt k1 (Sl.n s1)) true) (oo (AL (Sl.cs s1) (k1*1)) none λv3=>(oo (Bi .i64 v3) none λx2=>(oo (EA x2) none λk3=>(bb (Nat.blt k3 5) (oo (AL (BM ([(.int .i64 (Aj .i64 (Int.add x1 (1:Int))))]:LV) (0+k2*1) q0) (0+k3*1)) none λv4=>(oo (Bi .i64 v4) none λx3=>(bb (Nat.blt k3 5) (bb (an (Nat.ble ((0+k3*1)+1) (len (BM ([(.int .i64 (Aj .i64 (Int.add x1 (1:Int))))]:LV) (0+k2*1) q0))) true) (bb (Au Ah (BM ([(.int .i64 (Aj .i64 (Int.sub x3 (1:Int))))]:LV) (0+k3*1) (BM ([(.int .i64 (Aj .i64 (Int.add x1 (1:Int))))]:LV) (0+k2*1) q0))) (Ud pu n ih0 z0 z1 (Int.ofNat k1) z3 s0 s1 (BM ([(.int .i64 (Aj .i64 (Int.sub x3 (1:Int))))]:LV) (0+k3*1) (BM ([(.int .i64 (Aj .i64 (Int.add x1 (1:Int))))]:LV) (0+k2*1) q0))) none) none) none))) none)))) none) none) none) none))) none)))) none)) (Ud pu n ih0 z0 z1 z2 z3 s0 s1 q0)))) (WU pu n q0)) none)
def RX (pu:Af) (n w:Nat):AjK:=
 Nat.rec (motive:=λ_=>AjK) (λ_ _ _ _ _ _ _=>none) (λ_ ih0=>WV pu n ih0) w
def AfQ (pu:Af) (n:Nat) (x0:Int) (s0 s1:Sl) (x1:Int):OV:=
 (RX pu n n x1 (Int.ofNat (Sl.n s0)) (0:Int) x0 s0 s1 ([(.int .i64 (0:Int)),(.int .i64 (0:Int)),(.int .i64 (0:Int)),(.int .i64 (0:Int)),(.int .i64 (0:Int))]:LV))
def m71 (pu:Af) (n:Nat) (args:LV):OV:=
 (ll args none λa0 args=>(ll args none λa1 args=>(ll args (oo (Bt a0) none λl0=>(ll l0 none λv0 l0=>(ll l0 none λv1 l0=>(ll l0 none λv2 l0=>(ll l0 (oo (Bi .i64 v0) none λx0=>(oo (Bj 1 v1) none λs0=>(oo (Bj 1 v2) none λs1=>(oo (Bi .u16 a1) none λx1=>(AfQ pu n x0 s0 s1 x1))))) λ_ _=>none))))) λ_ _=>none)))
theorem AfR (pu:Af) (n:Nat) (q0:LV) {v:Value} (hm:WU pu n q0=some v):BN tt (Bb tabs Ir pu (inl pu)) 1 fD (fr 38 [(5,pt 1 0)]) (hT 2 [oC q0]) (Fin tt 1 [.tmp 4] v):=by
 unfold WU at hm
 refine .then ?_
 replace⟨h0,hm⟩:=Ae hm
 replace⟨x0,h1,hm⟩:=Hw hm
 replace⟨x1,h2,hm⟩:=Hw hm
 replace⟨x2,h3,hm⟩:=Hw hm
 replace⟨x3,h4,hm⟩:=Hw hm
 replace⟨x4,h5,hm⟩:=Hw hm
 refine .reg (eD (keep (hT 2 [oC q0]) (bb (Nat.ble (0+5) (len q0)) (some (.agg ⟨Aq 5 (Am 0 q0)⟩)) none)) (Pd h0 (Ca h1 (Ca h2 (Ca h3 (Ca h4 (Ca h5 rfl)))))) (eE)) ?_
 refine .ghs (fr 38 [(4,(zB (bq true (Ah4 x0 x1 x2 x3 x4))))]) FD (.k0 [false] [] [4]) ?_
 refine .ret ?_
 exact Fp (zB (bq true (Ah4 x0 x1 x2 x3 x4))) hm
theorem r71 {call:A8} (pu:Af) (n:Nat) (hcall:call=Bb tabs Ir pu (inl pu)) {args:LV} {v:Value} (hm:m71 pu n args=some v) (_:∀ x∈args,closed2 x=true):args.length≤38∧BN tt call 1 UW (Fr.made 38 args) (Ao tabs) (Fin tt 1 [.tmp 4] v):=by
 subst hcall
 unfold m71 at hm
 replace hm:=Ad hm;obtain⟨a0,args_0,rfl,hm⟩:=hm
 replace hm:=Ad hm;obtain⟨a1,args_1,rfl,hm⟩:=hm
 replace hm:=AC hm;obtain⟨rfl,hm⟩:=hm
 replace hm:=BG hm;obtain⟨l0,rfl,hm⟩:=hm
 replace hm:=Ad hm;obtain⟨v0,l41269_0,rfl,hm⟩:=hm
 replace hm:=Ad hm;obtain⟨v1,l41269_1,rfl,hm⟩:=hm
 replace hm:=Ad hm;obtain⟨v2,l41269_2,rfl,hm⟩:=hm
 replace hm:=AC hm;obtain⟨rfl,hm⟩:=hm
 replace hm:=Ai hm;obtain⟨x0,rfl,hm⟩:=hm
 replace hm:=Al hm;obtain⟨s0,rfl,hm⟩:=hm
 replace hm:=Al hm;obtain⟨s1,rfl,hm⟩:=hm
 replace hm:=Ai hm;obtain⟨x1,rfl,hm⟩:=hm
 unfold AfQ at hm
 refine⟨by simp,?_⟩
 refine .same (F':=(fr 38 [(0,(AhC x0 s0 s1)),(1,.int .u16 x1)])) (H':=FD) (by kernel_rfl) (by kernel_rfl) ?_
 refine .then (.rK (.ghs (fr 38 [(1,.int .u16 x1),(2,pt 1 0)]) (hT 2 [(Ahr x0 s0 s1)]) (.k0 [false] [.tmp 2 false] [1,2]) ?_))
 refine .then (.rK (.ghs (fr 38 [(1,.int .u16 x1),(2,pt 1 0),(5,(pt 2 0))]) (hT 3 [(Ahr x0 s0 s1),(oC Ah9)]) (.k0 [false] AiI [1,2,5]) ?_))
 refine .join (v:=v) (λy:LV=>((fr 38 [(5,pt 1 0)]),(hT 2 [oC y]))) (λy=>WU pu n y) ?_ ?_
 ·rintro q0 hm
  exact AfR pu n q0 hm
 ·refine .then (.rK (.ghs (fr 38 [(1,.int .u16 x1),(2,pt 1 0),(5,(pt 2 0)),(9,(Ah6 s0)),(10,(zI (0:Int)))]) (hT 3 [(Ahr x0 s0 s1),(oC Ah9)]) (.k0 [false] AiI [1,2,5,9,10]) ?_))
  refine .block (.loopM (v:=v) (λy:Int×Int×Int×Int×Sl×Sl×LV=>((fr 38 [(1,(.int .u16 y.1)),(2,pt 1 0),(5,(pt 2 0)),(9,(zI y.2.1)),(10,(zI y.2.2.1))]),(hT 3 [(AhF y.2.2.2.1 (AaW y) (Acq y)),(oC (AcK y))]))) (λw y=>RX pu n w y.1 y.2.1 y.2.2.1 y.2.2.2.1 (AaW y) (Acq y) (AcK y)) n ⟨(x1,(Int.ofNat (Sl.n s0)),(0:Int),x0,s0,s1,(Ah9:LV)),hm,(.k0 [false] AiI [1,2,5,9,10])⟩ (λ_=>rfl) ?_)
  rintro w0 ⟨z0,z1,z2,z3,s2,s3,q1⟩ hm
  replace hm:WV pu n (RX pu n w0) z0 z1 z2 z3 s2 s3 q1=some v:=hm
  unfold WV at hm
  refine .then (.rK ?_)
  replace⟨h0,hm⟩:=Ae hm
  refine .ghs (fr 38 [(1,.int .u16 z0),(2,pt 1 0),(5,(pt 2 0)),(9,zI z1),(10,zI z2),(11,(zB (AY z2 z1)))]) (Ais z3 s2 s3 q1) (.k [2] [false] AiI [1,2,5,9,10,11] ⟨Fb h0,trivial⟩) ?_
  refine .then ?_
  replace hm:=Ag hm;rcases hm with⟨h1,hm⟩|⟨h1,hm⟩
  ·refine Gq (AY z2 z1) h1 ?_
   refine .skip (.ghs (fr 38 [(1,.int .u16 z0),(2,pt 1 0),(5,(pt 2 0)),(9,zI z1),(10,zI z2)]) (Ais z3 s2 s3 q1) (.k [2] [false] AiI [1,2,5,9,10] ⟨Fb h0,trivial⟩) ?_)
   refine .join (v:=v) (λy:Int×Int×Int×Int×Sl×Sl×LV=>((fr 38 [(1,(.int .u16 y.1)),(2,pt 1 0),(5,(pt 2 0)),(9,(zI y.2.1)),(10,(zI y.2.2.1))]),(hT 3 [(AhF y.2.2.2.1 (AaW y) (Acq y)),(oC (AcK y))]))) (λy=>Ud pu n (RX pu n w0) y.1 y.2.1 y.2.2.1 y.2.2.2.1 (AaW y) (Acq y) (AcK y)) ?_ ?_
   ·rintro⟨z4,z5,z6,z7,s4,s5,q2⟩ hm
    unfold Ud at hm
    refine .rK ?_
    replace⟨h2,hm⟩:=Ae hm
    exact⟨(z4,z5,(AhE z6),z7,s4,s5,q2),hm,(.k [2] [false] AiI [1,2,5,9,10] ⟨Fb h2,trivial⟩)⟩
   ·refine .block (.then (.rK (.ghs (fr 38 [(1,.int .u16 z0),(2,pt 1 0),(5,(pt 2 0)),(6,zI z2),(9,zI z1),(10,zI z2)]) (Ais z3 s2 s3 q1) (.k [2] [false] AiI [1,2,5,6,9,10] ⟨Fb h0,trivial⟩) ?_)))
    refine .then ?_
    replace⟨b0,h3,hm⟩:=bW hm
    refine .reg (eC 2 ((oo (pu 53 [.int .u16 z0,zI z2]) none λv=>some (v,(Ais z3 s2 s3 q1)))) (AB h3) (eE)) ?_
    refine .ghs (fr 38 [(1,.int .u16 z0),(2,pt 1 0),(5,(pt 2 0)),(6,zI z2),(9,zI z1),(10,zI z2),(15,zB b0)]) (Ais z3 s2 s3 q1) (.k [2] [false] AiI [1,2,5,6,9,10,15] ⟨Fb h0,trivial⟩) ?_
    replace hm:=Ag hm;rcases hm with⟨h4,hm⟩|⟨h4,hm⟩
    ·refine .ifT b0 (by kernel_rfl) h4 ?_
     refine .then ?_
     replace⟨k1,h5,hm⟩:=Ab hm
     obtain rfl:=AR h5
     replace⟨h6,hm⟩:=Ae hm
     replace⟨x2,h7,hm⟩:=Hw hm
     replace⟨k2,h8,hm⟩:=Ab hm
     obtain rfl:=AR h8
     replace⟨h9,hm⟩:=Ae hm
     replace⟨x3,h10,hm⟩:=Hw hm
     replace⟨h11,hm⟩:=Ae hm
     replace⟨h12,hm⟩:=Ae hm
     refine .reg (eN 6 (Fr.puts (fr 38 [(1,.int .u16 z0),(2,pt 1 0),(5,(pt 2 0)),(6,(zI (Int.ofNat k1))),(9,zI z1),(10,(zI (Int.ofNat k1))),(15,zB b0)]) [(16,pt 1 1),(17,Sl.v 1 s2),(18,(zI (Int.ofNat k1))),(19,(Cv (k1*1) (Sl.cs s2))),(20,(zI (Int.ofNat k2))),(21,(.pointer (some ⟨2,(0+k2*1),none⟩)))]) (Ais z3 s2 s3 q1) (eC 3 (keep (Ais z3 s2 s3 q1) (Aht k1 s2)) (AX h6) (eD (keep (Ais z3 s2 s3 q1) (AL (Sl.cs s2) (k1*1))) (AZ h7) (eD (keep (Ais z3 s2 s3 q1) (AhZ k2)) (AX h9) (by kernel_rfl)))) (eD (keep (Ais z3 s2 s3 q1) (AL q1 (0+k2*1))) (AZ h10) (eC 1 (keep (Ais z3 s2 s3 q1) (AhZ k2)) (AX h11) (eD (done (bb (an (Nat.ble ((0+k2*1)+1) (len q1)) true) (some (AhV z3 s2 s3 x3 k2 q1)) none) undef) (Js h12) (eE))))) ?_
     replace⟨h13,hm⟩:=Ae hm
     refine .ghs (fr 38 [(1,.int .u16 z0),(2,pt 1 0),(5,(pt 2 0)),(6,(zI (Int.ofNat k1))),(9,zI z1),(10,(zI (Int.ofNat k1)))]) (AhV z3 s2 s3 x3 k2 q1) (.k [2] [false] AiI [1,2,5,6,9,10] ⟨Fb h13,trivial⟩) ?_
     replace⟨h14,hm⟩:=Ae hm
     replace⟨x4,h15,hm⟩:=Hw hm
     replace⟨k3,h16,hm⟩:=Ab hm
     obtain rfl:=AR h16
     replace⟨h17,hm⟩:=Ae hm
     replace⟨x5,h18,hm⟩:=Hw hm
     replace⟨h19,hm⟩:=Ae hm
     replace⟨h20,hm⟩:=Ae hm
     refine .reg (eN 6 (Fr.puts (fr 38 [(1,.int .u16 z0),(2,pt 1 0),(5,(pt 2 0)),(6,(zI (Int.ofNat k1))),(9,zI z1),(10,(zI (Int.ofNat k1)))]) [(25,pt 1 2),(26,Sl.v 1 s3),(27,(zI (Int.ofNat k1))),(28,(Cv (k1*1) (Sl.cs s3))),(29,(zI (Int.ofNat k3))),(30,(.pointer (some ⟨2,(0+k3*1),none⟩)))]) (AhV z3 s2 s3 x3 k2 q1) (eC 3 (keep (AhV z3 s2 s3 x3 k2 q1) (Aht k1 s3)) (AX h14) (eD (keep (AhV z3 s2 s3 x3 k2 q1) (AL (Sl.cs s3) (k1*1))) (AZ h15) (eD (keep (AhV z3 s2 s3 x3 k2 q1) (AhZ k3)) (AX h17) (by kernel_rfl)))) (eD (keep (AhV z3 s2 s3 x3 k2 q1) (AL (BM ([(zI (AhE x3))]:LV) (0+k2*1) q1) (0+k3*1))) (AZ h18) (eC 1 (keep (AhV z3 s2 s3 x3 k2 q1) (AhZ k3)) (AX h19) (eD (done (bb (an (Nat.ble ((0+k3*1)+1) (len (BM ([(zI (AhE x3))]:LV) (0+k2*1) q1))) true) (some (hT 3 [(Ahr z3 s2 s3),(oC (Aiu x5 k3 x3 k2 q1))])) none) undef) (Js h20) (eE))))) ?_
     replace⟨h21,hm⟩:=Ae hm
     exact⟨(z0,z1,(Int.ofNat k1),z3,s2,s3,(Aiu x5 k3 x3 k2 q1)),hm,(.k [2] [false] AiI [1,2,5,9,10] ⟨Fb h21,trivial⟩)⟩
    ·refine .ifF b0 (by kernel_rfl) h4 ?_
     refine .skip ?_
     exact⟨(z0,z1,z2,z3,s2,s3,q1),hm,(.k [2] [false] AiI [1,2,5,9,10] ⟨Fb h0,trivial⟩)⟩
  ·refine Gs (AY z2 z1) h1 ?_
   refine .exit ?_
   exact⟨q1,hm,(.k [2] [false] [.tmp 5 false] [5] ⟨Fb h0,trivial⟩)⟩
end
end Go.MnSM
