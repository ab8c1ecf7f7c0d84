import Derived.Test.YtlgmapibifphaaaDoorMnSMod0x
set_option maxRecDepth 100000
set_option maxHeartbeats 20000000
set_option linter.unusedVariables false
namespace Go.MnSM
open Go.Sp Go.MnS
noncomputable section
def Sz (pu:Af) (n:Nat) (b0:Bool):OV:=
 (some (.bool b0))
def SA (pu:Af) (n:Nat) (s0:Sl) (b0:Bool) (z0:Int) (s1 s2:Sl):OV:=
 (bb b0 (some (.bool false)) (oo (pu 18 [(.agg ⟨[.int .i64 z0,Sl.v 1 s1,Sl.v 1 s2]⟩),Sl.v 1 s0]) none λv0=>(oo (CQ v0) none λl0=>(ll l0 none λv1 l0=>(ll l0 none λv2 l0=>(ll l0 (oo (Bi .i64 v1) none λx0=>(oo (Bi .i64 v2) none λx1=>(bb (Bd x1 (0:Int)) (bb (Bd x0 (Int.ofNat (Sl.n s0))) (oo (pu 12 []) none λv3=>(oo (Bf v3) none λb3=>(Sz pu n b3))) (Sz pu n false)) (Sz pu n false)))) λ_ _=>none))))))
def SB (pu:Af) (n:Nat) (z0:Int) (s0:Sl) (b0:Bool) (z1:Int) (s1 s2:Sl):OV:=
 (bb b0 (some (.bool false)) (oo (pu 36 [(.agg ⟨[.int .i64 z1,Sl.v 1 s1,Sl.v 1 s2]⟩)]) none λv0=>(oo (Bj 1 v0) none λs3=>(oo (pu 20 [Sl.v 1 s0,Sl.v 1 s3]) none λv1=>(oo (Bf v1) none λb3=>(bb (nt b3) (SA pu n s0 true z1 s1 s2) (oo (pu 37 [(.agg ⟨[.int .i64 z1,Sl.v 1 s1,Sl.v 1 s2]⟩)]) none λv2=>(oo (Bi .i64 v2) none λx0=>(SA pu n s0 (nt (Bd z0 (Aj .i64 (Int.sub x0 (Int.ofNat (Sl.n s0)))))) z1 s1 s2)))))))))
def QJ (pu:Af) (n:Nat) (z0:Int) (s0 s1 s2:Sl) (z1:Int) (s3 s4:Sl):OV:=
 (oo (pu 26 [Sl.v 1 s2,Sl.v 1 s4]) none λv0=>(oo (Bf v0) none λb0=>(bb (nt b0) (SB pu n z0 s1 true z1 s3 s4) (oo (pu 34 [(.agg ⟨[.int .i64 z1,Sl.v 1 s3,Sl.v 1 s4]⟩),(Sl.v 2 s0)]) none λv1=>(oo (Bi .i64 v1) none λx0=>(SB pu n z0 s1 (nt (Bd x0 (0:Int))) z1 s3 s4))))))
def SC (pu:Af) (n:Nat) (ih0:AjC) (z0:Int) (s0 s1 s2 s3:Sl) (z1 z2:Int) (b0:Bool) (z3:Int) (s4 s5:Sl) (z4 z5:Int):OV:=
 (bb b0 (some (.bool false)) (oo (pu 24 [Sl.v 1 s2,.int .i64 z4,.int .i64 z5]) none λv0=>(oo (Bj 1 v0) none λs6=>(ih0 z0 s0 s1 s6 s3 z1 (Aj .i64 (Int.add z2 (1:Int))) z3 s4 s5))))
def Wp (pu:Af) (n:Nat) (ih0:AjC) (z0:Int) (s0 s1 s2 s3:Sl) (z1 z2 z3:Int) (s4 s5:Sl):OV:=
 (bb (AY z2 z1) (oo (EA z2) none λk1=>(bb (an (Nat.blt k1 (Sl.n s3)) true) (bb (Nat.ble ((k1*2)+2) (len (Sl.cs s3))) (oo (AL (Sl.cs s3) (k1*2)) none λv0=>(oo (Bi .i64 v0) none λx0=>(oo (AL (Sl.cs s3) ((k1*2)+1)) none λv1=>(oo (Bi .i64 v1) none λx1=>(bb (AY x0 (0:Int)) (SC pu n ih0 z0 s0 s1 s2 s3 z1 (Int.ofNat k1) true z3 s4 s5 x0 x1) (bb (nt (AY x0 x1)) (SC pu n ih0 z0 s0 s1 s2 s3 z1 (Int.ofNat k1) true z3 s4 s5 x0 x1) (SC pu n ih0 z0 s0 s1 s2 s3 z1 (Int.ofNat k1) (nt (AY x1 (Int.ofNat (Sl.n s2)))) z3 s4 s5 x0 x1))))))) none) none)) (QJ pu n z0 s0 s1 s2 z3 s4 s5))
def QK (pu:Af) (n w:Nat):AjC:=
 Nat.rec (motive:=λ_=>AjC) (λ_ _ _ _ _ _ _ _ _ _=>none) (λ_ ih0=>Wp pu n ih0) w
def Ps (pu:Af) (n:Nat) (z0:Int) (s0 s1:Sl) (b0:Bool) (z1:Int) (s2 s3:Sl):OV:=
 (bb b0 (some (.bool false)) (QK pu n n z0 s0 s1 s2 s0 (Int.ofNat (Sl.n s0)) (0:Int) z1 s2 s3))
def fP (pu:Af) (n:Nat) (q1:LV):OV:=
 (bb (Au Ah q1) (bb (Nat.ble (0+22) (len q1)) (oo (pu 21 [(.agg ⟨(Aq 22 (Am 0 q1))⟩),(.int .i64 (6:Int)),(.int .i64 (4:Int))]) none λv21=>(oo (Bt v21) none λlU=>(ll lU none λv25 lU=>(ll lU none λv26 lU=>(ll lU none λv27 lU=>(ll lU (oo (Bi .i64 v25) none λx28=>(oo (Bj 1 v26) none λs30=>(oo (Bj 1 v27) none λs32=>(bb (Au closed2 [(.agg ⟨(Aq 22 (Am 0 q1))⟩),(.int .i64 (6:Int)),(.int .i64 (4:Int))]) (oo (pu 10220 [Sl.v 1 s32,(.bool false)]) none λv0=>(oo (CQ v0) none λl0=>(ll l0 none λv1 l0=>(ll l0 none λv2 l0=>(ll l0 (bb (FC v1 1) (oo (Fj v2) none λy0=>(bb (Au F4 (Akd.es y0)) (bb (Au F4 (Akd.es y0)) (oo (pu 29 [(.agg ⟨[.int .i64 x28,Sl.v 1 s30,Sl.v 1 s32]⟩)]) none λv3=>(oo (CQ v3) none λl1=>(ll l1 none λv4 l1=>(ll l1 none λv5 l1=>(ll l1 (oo (Bi .i64 v4) none λx0=>(oo (Bi .i64 v5) none λx1=>(oo (pu 33 [(.agg ⟨[.int .i64 x28,Sl.v 1 s30,Sl.v 1 s32]⟩)]) none λv6=>(oo (CQ v6) none λl2=>(ll l2 none λv7 l2=>(ll l2 none λv8 l2=>(ll l2 (oo (Bj 2 v7) none λs0=>(oo (Bi .i64 v8) none λx2=>(oo (pu 16 [(.agg ⟨[.int .i64 x28,Sl.v 1 s30,Sl.v 1 s32]⟩)]) none λv9=>(oo (CQ v9) none λl3=>(ll l3 none λv10 l3=>(ll l3 none λv11 l3=>(ll l3 (oo (Bj 1 v10) none λs1=>(oo (Bi .i64 v11) none λx3=>(bb (nt (Bd x1 (0:Int))) (Ps pu n x0 s0 s1 true x28 s30 s32) (bb (nt (Bd x2 (0:Int))) (Ps pu n x0 s0 s1 true x28 s30 s32) (bb (nt (Bd x3 (0:Int))) (Ps pu n x0 s0 s1 true x28 s30 s32) (oo (pu 23 [Sl.v 1 s30]) none λv12=>(oo (Bi .i64 v12) none λx4=>(oo (GD (.int .i64 x4) (Akd.es y0) 0) none λr0=>(oo (Bi .i64 (Wd r0 (.int .i64 (0:Int)))) none λx5=>(bb (nt (Bd x0 x5)) (Ps pu n x0 s0 s1 true x28 s30 s32) (Ps pu n x0 s0 s1 (nt (Bd (Int.ofNat (Sl.n s0)) x0)) x28 s30 s32))))))))))) λ_ _=>none))))))) λ_ _=>none))))))) λ_ _=>none))))) none) none)) none) λ_ _=>none))))) none)))) λ_ _=>none)))))) none) none)
def m10 (pu:Af) (n:Nat) (args:LV):OV:=
 (ll args none λa0 args=>(ll args (oo (Bt a0) none λq1=>(bb (an (Nat.beq (len q1) 22) (Au Ah q1)) (fP pu n q1) none)) λ_ _=>none))
theorem Afp (pu:Af) (n:Nat) (b0:Bool) {v:Value} (hm:Sz pu n b0=some v):BN tt (Bb tabs Ir pu (inl pu)) 1 .ret (fr 137 [(2,zB b0)]) FD (Fin tt 1 [.tmp 2] v):=by
 unfold Sz at hm
 refine .ret ?_
 exact Fp (zB b0) hm
theorem Afq (pu:Af) (n:Nat) (z0:Int) (s0 s1 s2:Sl) (z1:Int) (s3 s4:Sl) {v:Value} (hm:QJ pu n z0 s0 s1 s2 z1 s3 s4=some v):BN tt (Bb tabs Ir pu (inl pu)) 1 dR (fr 137 [(3,pt 1 0),(5,zI z0),(7,(Sl.v 2 s0)),(9,Sl.v 1 s1),(11,Sl.v 1 s2)]) (hT 2 [(oC [zI z1,Sl.v 1 s3,Sl.v 1 s4])]) (Fin tt 1 [.tmp 2] v):=by
 unfold QJ at hm
 refine .then (.join (v:=v) (λy:Int×Sl×Bool×Int×Sl×Sl=>((fr 137 [(3,pt 1 0),(5,(zI y.1)),(9,(Sl.v 1 y.2.1)),(104,(zB y.2.2.1))]),(Ai7 y.2.2.2.1 (AaW y) (AaX y)))) (λy=>SB pu n y.1 y.2.1 y.2.2.1 y.2.2.2.1 (AaW y) (AaX y)) ?_ ?_)
 ·rintro⟨z2,s5,b0,z3,s6,s7⟩ hm
  unfold SB at hm
  replace hm:=Ag hm;rcases hm with⟨h0,hm⟩|⟨h0,hm⟩
  ·refine .ifT b0 (by kernel_rfl) h0 ?_
   refine .then (.rK (.ghs (fr 137 [(2,zB false)]) FD (.k0 [false] [] [2]) ?_))
   refine .ret ?_
   exact Fp (zB false) hm
  ·refine .ifF b0 (by kernel_rfl) h0 ?_
   refine .skip (.ghs (fr 137 [(3,pt 1 0),(5,zI z2),(9,Sl.v 1 s5)]) (hT 2 [(Ahr z3 s6 s7)]) (.k0 [false] [.tmp 3 false] [3,5,9]) ?_)
   refine .then ?_
   replace⟨s8,h1,hm⟩:=Sm hm
   refine .reg (eC 1 ((oo (pu 36 [(AhC z3 s6 s7)]) none λv=>some (v,(hT 2 [(Ahr z3 s6 s7)])))) (AB h1) (eE)) ?_
   refine .ghs (fr 137 [(3,pt 1 0),(5,zI z2),(9,Sl.v 1 s5),(14,Sl.v 1 s8)]) (hT 2 [(Ahr z3 s6 s7)]) (.k0 [false] [.tmp 3 false] [3,5,9,14]) ?_
   refine .then (.join (v:=v) (λy:Sl×Bool×Int×Sl×Sl=>((fr 137 [(3,pt 1 0),(9,(Sl.v 1 y.1)),(119,(zB y.2.1))]),(Ai7 y.2.2.1 y.2.2.2.1 y.2.2.2.2))) (λy=>SA pu n y.1 y.2.1 y.2.2.1 y.2.2.2.1 y.2.2.2.2) ?_ ?_)
   ·rintro⟨s9,b3,z4,s10,s11⟩ hm
    unfold SA at hm
    replace hm:=Ag hm;rcases hm with⟨h2,hm⟩|⟨h2,hm⟩
    ·refine .ifT b3 (by kernel_rfl) h2 ?_
     refine .then (.rK (.ghs (fr 137 [(2,zB false)]) FD (.k0 [false] [] [2]) ?_))
     refine .ret ?_
     exact Fp (zB false) hm
    ·refine .ifF b3 (by kernel_rfl) h2 ?_
     refine .skip (.ghs (fr 137 [(3,pt 1 0),(9,Sl.v 1 s9)]) (Aic z4 s10 s11) (.k0 [false] [.tmp 3 false] [3,9]) ?_)
     refine .then ?_
     replace⟨v0,h3,hm⟩:=Ab hm
     replace hm:=Ch hm;obtain⟨l0,rfl,hm⟩:=hm
     replace hm:=Ad hm;obtain⟨v1,l14956_0,rfl,hm⟩:=hm
     replace hm:=Ad hm;obtain⟨v2,l14956_1,rfl,hm⟩:=hm
     replace hm:=AC hm;obtain⟨rfl,hm⟩:=hm
     replace hm:=Ai hm;obtain⟨x0,rfl,hm⟩:=hm
     replace hm:=Ai hm;obtain⟨x1,rfl,hm⟩:=hm
     refine .reg (eC 2 ((oo (pu 18 [(AhC z4 s10 s11),Sl.v 1 s9]) none λv=>some (v,(Aic z4 s10 s11)))) (AB h3) (eE)) ?_
     refine .ghs (fr 137 [(9,Sl.v 1 s9),(15,zI x0),(16,zI x1)]) FD (.k0 [false] [] [9,15,16]) ?_
     refine .join (v:=v) (λy:Bool=>((fr 137 [(2,zB y)]),FD)) (λy=>Sz pu n y) ?_ ?_
     ·rintro b4 hm
      exact Afp pu n b4 hm
     ·replace hm:=Ag hm;rcases hm with⟨h4,hm⟩|⟨h4,hm⟩
      ·replace hm:=Ag hm;rcases hm with⟨h5,hm⟩|⟨h5,hm⟩
       ·replace⟨b5,h6,hm⟩:=bW hm
        refine .reg (eC 1 (some ((zB (Bd x1 (0:Int))),FD)) (show _=some ((zB true),_) from (by rw[show (Bd x1 (0:Int))=true from h4])) (eC 4 (some ((zB (Aji x0 s9)),FD)) (show _=some ((zB true),_) from (by rw[show (Aji x0 s9)=true from h5])) (eC 2 ((oo (pu 12 []) none λv=>some (v,FD))) (AB h6) (eE)))) ?_
        exact⟨b5,hm,(.k0 [false] [] [2])⟩
       ·refine .reg (eC 1 (some ((zB (Bd x1 (0:Int))),FD)) (show _=some ((zB true),_) from (by rw[show (Bd x1 (0:Int))=true from h4])) (eC 4 (some ((zB (Aji x0 s9)),FD)) (show _=some ((zB false),_) from (by rw[show (Aji x0 s9)=false from h5])) (eE))) ?_
        exact⟨false,hm,(.k0 [false] [] [2])⟩
      ·refine .reg (eC 1 (some ((zB (Bd x1 (0:Int))),FD)) (show _=some ((zB false),_) from (by rw[show (Bd x1 (0:Int))=false from h4])) (eE)) ?_
       exact⟨false,hm,(.k0 [false] [] [2])⟩
   ·replace⟨b6,h7,hm⟩:=bW hm
    replace hm:=Ag hm;rcases hm with⟨h8,hm⟩|⟨h8,hm⟩
    ·refine .reg (eC 2 ((oo (pu 20 [Sl.v 1 s5,Sl.v 1 s8]) none λv=>some (v,(hT 2 [(Ahr z3 s6 s7)])))) (AB h7) (eD (some ((zB (nt b6)),(hT 2 [(Ahr z3 s6 s7)]))) (show _=some ((zB true),_) from (by rw[show (nt b6)=true from h8])) (eE))) ?_
     exact⟨(s5,true,z3,s6,s7),hm,(.k0 [false] [.tmp 3 false] [3,9,119])⟩
    ·replace⟨x2,h9,hm⟩:=Hw hm
     refine .reg (eC 2 ((oo (pu 20 [Sl.v 1 s5,Sl.v 1 s8]) none λv=>some (v,(hT 2 [(Ahr z3 s6 s7)])))) (AB h7) (eD (some ((zB (nt b6)),(hT 2 [(Ahr z3 s6 s7)]))) (show _=some ((zB false),_) from (by rw[show (nt b6)=false from h8])) (eC 3 ((oo (pu 37 [(AhC z3 s6 s7)]) none λv=>some (v,(hT 2 [(Ahr z3 s6 s7)])))) (AB h9) (eE)))) ?_
     exact⟨(s5,(nt (Bd z2 (Aj .i64 (Int.sub x2 (Int.ofNat (Sl.n s5)))))),z3,s6,s7),hm,(.k0 [false] [.tmp 3 false] [3,9,119])⟩
 ·replace⟨b7,h10,hm⟩:=bW hm
  replace hm:=Ag hm;rcases hm with⟨h11,hm⟩|⟨h11,hm⟩
  ·refine .reg (eC 3 ((oo (pu 26 [Sl.v 1 s2,Sl.v 1 s4]) none λv=>some (v,(hT 2 [(Ahr z1 s3 s4)])))) (AB h10) (eD (some ((zB (nt b7)),(hT 2 [(Ahr z1 s3 s4)]))) (show _=some ((zB true),_) from (by rw[show (nt b7)=true from h11])) (eE))) ?_
   exact⟨(z0,s1,true,z1,s3,s4),hm,(.k0 [false] [.tmp 3 false] [3,5,9,104])⟩
  ·replace⟨x3,h12,hm⟩:=Hw hm
   refine .reg (eC 3 ((oo (pu 26 [Sl.v 1 s2,Sl.v 1 s4]) none λv=>some (v,(hT 2 [(Ahr z1 s3 s4)])))) (AB h10) (eD (some ((zB (nt b7)),(hT 2 [(Ahr z1 s3 s4)]))) (show _=some ((zB false),_) from (by rw[show (nt b7)=false from h11])) (eC 3 ((oo (pu 34 [(AhC z1 s3 s4),(Sl.v 2 s0)]) none λv=>some (v,(hT 2 [(Ahr z1 s3 s4)])))) (AB h12) (eE)))) ?_
   exact⟨(z0,s1,(nt (Bd x3 (0:Int))),z1,s3,s4),hm,(.k0 [false] [.tmp 3 false] [3,5,9,104])⟩
theorem r10 {call:A8} (pu:Af) (n:Nat) (hcall:call=Bb tabs Ir pu (inl pu)) {args:LV} {v:Value} (hm:m10 pu n args=some v) (_:∀ x∈args,closed2 x=true):args.length≤137∧BN tt call 1 UB (Fr.made 137 args) (Ao tabs) (Fin tt 1 [.tmp 2] v):=by
 subst hcall
 unfold m10 at hm
 replace hm:=Ad hm;obtain⟨a0,args_0,rfl,hm⟩:=hm
 replace hm:=AC hm;obtain⟨rfl,hm⟩:=hm
 replace hm:=BG hm;obtain⟨q1,rfl,hm⟩:=hm
 replace⟨h3,hm⟩:=Ae hm
 unfold fP at hm
 refine⟨by simp,?_⟩
 refine .same (F':=(fr 137 [(0,(.agg ⟨q1⟩))])) (H':=FD) (by kernel_rfl) (by kernel_rfl) ?_
 refine .then (.rK ?_)
 replace⟨h4,hm⟩:=Ae hm
 refine .ghs (fr 137 [(1,pt 1 0)]) (hT 2 [oC q1]) (.k [1] [false] [.tmp 1 false] [1] ⟨Fb h4,trivial⟩) ?_
 refine .then ?_
 replace⟨h20,hm⟩:=Ae hm
 replace⟨v21,h22,hm⟩:=Ab hm
 replace hm:=BG hm;obtain⟨lU,rfl,hm⟩:=hm
 replace hm:=Ad hm;obtain⟨v25,l23_0,rfl,hm⟩:=hm
 replace hm:=Ad hm;obtain⟨v26,QR,rfl,hm⟩:=hm
 replace hm:=Ad hm;obtain⟨v27,l23_2,rfl,hm⟩:=hm
 replace hm:=AC hm;obtain⟨rfl,hm⟩:=hm
 replace hm:=Ai hm;obtain⟨x28,rfl,hm⟩:=hm
 replace hm:=Al hm;obtain⟨s30,rfl,hm⟩:=hm
 replace hm:=Al hm;obtain⟨s32,rfl,hm⟩:=hm
 replace⟨h34,hm⟩:=Ae hm
 refine .reg (eD (keep (hT 2 [oC q1]) (bb (Nat.ble (0+22) (len q1)) (some (.agg ⟨(Aq 22 (Am 0 q1))⟩)) none)) (AX h20) (eD (bb (Au closed2 (Ajh q1)) (oo (pu 21 (Ajh q1)) none λv=>some (v,(hT 2 [oC q1]))) (oo (CG (RG (hT 2 [oC q1])) (Ajh q1)) none λl1=>oo (pu 21 l1) none λv=>bb (RH v) (some (v,(hT 2 [oC q1]))) none)) (SL h34 h22) (eE))) ?_
 refine .ghs (fr 137 [(3,pt 1 0)]) (Aic x28 s30 s32) (.k0 [false] [.tmp 3 false] [3]) ?_
 refine .then ?_
 replace⟨v0,h0,hm⟩:=Ab hm
 replace hm:=Ch hm;obtain⟨l0,rfl,hm⟩:=hm
 replace hm:=Ad hm;obtain⟨v1,l14581_0,rfl,hm⟩:=hm
 replace hm:=Ad hm;obtain⟨v2,l14581_1,rfl,hm⟩:=hm
 replace hm:=AC hm;obtain⟨rfl,hm⟩:=hm
 replace⟨h1,hm⟩:=Ae hm
 obtain rfl:=Ey h1
 replace⟨y0,h2,hm⟩:=Ab hm
 replace⟨h5,hm⟩:=Ae hm
 refine .reg (eC 2 (EK tabs [[some 1],[none]] 2 [] [false] (pu 10220) [Sl.v 1 s32,zB false] (Aic x28 s30 s32)) (EL (as:=[Sl.v 1 s32,zB false]) (H1:=(Aic x28 s30 s32)) (BS (Dm (KQ (CV (z:=1) (v:=(Sl.v 1 s32)) (H:=(Aic x28 s30 s32)) (by kernel_rfl) (by kernel_rfl) (by kernel_rfl)))) (BS (Dm Dk) Gj)) (EI (H2:=(Ah0 x28 s30 s32 y0)) (v:=(.map (some 1))) (v':=(.map (some 2))) [some 0] [] [] [Sl.v 1 s32,zB false] [v2] [(Ahv y0)] [some 0,none,some 1] [(false,(Ahv y0))] [(Ahv y0)] (by kernel_rfl) BX (Eq.trans (by kernel_rfl) h0) (En (CK h2) BX) (En (GZ h5) BX))) (eE)) ?_
 replace⟨h6,hm⟩:=Ae hm
 refine .ghs (fr 137 [(3,pt 1 0),(4,(.map (some 2)))]) (Ah0 x28 s30 s32 y0) (.k [2] [false] [.tmp 3 false,.tmp 4 false] [3,4] ⟨Fb h6,trivial⟩) ?_
 refine .then ?_
 replace⟨v3,h7,hm⟩:=Ab hm
 replace hm:=Ch hm;obtain⟨l2,rfl,hm⟩:=hm
 replace hm:=Ad hm;obtain⟨v4,l14602_0,rfl,hm⟩:=hm
 replace hm:=Ad hm;obtain⟨v5,l14602_1,rfl,hm⟩:=hm
 replace hm:=AC hm;obtain⟨rfl,hm⟩:=hm
 replace hm:=Ai hm;obtain⟨x0,rfl,hm⟩:=hm
 replace hm:=Ai hm;obtain⟨x1,rfl,hm⟩:=hm
 refine .reg (eC 1 ((oo (pu 29 [(AhC x28 s30 s32)]) none λv=>some (v,(Ah0 x28 s30 s32 y0)))) (AB h7) (eE)) ?_
 refine .ghs (fr 137 [(3,pt 1 0),(4,(.map (some 2))),(5,zI x0),(6,zI x1)]) (Ah0 x28 s30 s32 y0) (.k [2] [false] [.tmp 3 false,.tmp 4 false] [3,4,5,6] ⟨Fb h6,trivial⟩) ?_
 refine .then ?_
 replace⟨v6,h8,hm⟩:=Ab hm
 replace hm:=Ch hm;obtain⟨l3,rfl,hm⟩:=hm
 replace hm:=Ad hm;obtain⟨v7,l14622_0,rfl,hm⟩:=hm
 replace hm:=Ad hm;obtain⟨v8,l14622_1,rfl,hm⟩:=hm
 replace hm:=AC hm;obtain⟨rfl,hm⟩:=hm
 replace hm:=Al hm;obtain⟨s0,rfl,hm⟩:=hm
 replace hm:=Ai hm;obtain⟨x2,rfl,hm⟩:=hm
 refine .reg (eC 1 ((oo (pu 33 [(AhC x28 s30 s32)]) none λv=>some (v,(Ah0 x28 s30 s32 y0)))) (AB h8) (eE)) ?_
 refine .ghs (fr 137 [(3,pt 1 0),(4,(.map (some 2))),(5,zI x0),(6,zI x1),(7,(Sl.v 2 s0)),(8,zI x2)]) (Ah0 x28 s30 s32 y0) (.k [2] [false] [.tmp 3 false,.tmp 4 false] [3,4,5,6,7,8] ⟨Fb h6,trivial⟩) ?_
 refine .then ?_
 replace⟨v9,h9,hm⟩:=Ab hm
 replace hm:=Ch hm;obtain⟨l4,rfl,hm⟩:=hm
 replace hm:=Ad hm;obtain⟨v10,l14642_0,rfl,hm⟩:=hm
 replace hm:=Ad hm;obtain⟨v11,l14642_1,rfl,hm⟩:=hm
 replace hm:=AC hm;obtain⟨rfl,hm⟩:=hm
 replace hm:=Al hm;obtain⟨s1,rfl,hm⟩:=hm
 replace hm:=Ai hm;obtain⟨x3,rfl,hm⟩:=hm
 refine .reg (eC 1 ((oo (pu 16 [(AhC x28 s30 s32)]) none λv=>some (v,(Ah0 x28 s30 s32 y0)))) (AB h9) (eE)) ?_
 refine .ghs (AiS x0 x1 s0 x2 s1 x3) (Ah0 x28 s30 s32 y0) (.k [2] [false] [.tmp 3 false,.tmp 4 false] [3,4,5,6,7,8,9,10] ⟨Fb h6,trivial⟩) ?_
 refine .then (.join (v:=v) (λy:Int×Sl×Sl×Bool×Int×Sl×Sl=>((fr 137 [(3,pt 1 0),(5,(zI y.1)),(7,(Sl.v 2 y.2.1)),(9,(Sl.v 1 y.2.2.1)),(61,(zB y.2.2.2.1))]),(Ai7 (AaW y) (Acq y) (AcK y)))) (λy=>Ps pu n y.1 y.2.1 y.2.2.1 y.2.2.2.1 (AaW y) (Acq y) (AcK y)) ?_ ?_)
 ·rintro⟨z0,s2,s3,b0,z1,s4,s5⟩ hm
  unfold Ps at hm
  replace hm:=Ag hm;rcases hm with⟨h10,hm⟩|⟨h10,hm⟩
  ·refine .ifT b0 (by kernel_rfl) h10 ?_
   refine .then (.rK (.ghs (fr 137 [(2,zB false)]) FD (.k0 [false] [] [2]) ?_))
   refine .ret ?_
   exact Fp (zB false) hm
  ·refine .ifF b0 (by kernel_rfl) h10 ?_
   refine .skip (.ghs (fr 137 [(3,pt 1 0),(5,zI z0),(7,(Sl.v 2 s2)),(9,Sl.v 1 s3)]) (hT 2 [(Ahr z1 s4 s5)]) (.k0 [false] [.tmp 3 false] [3,5,7,9]) ?_)
   refine .then (.rK (.ghs (fr 137 [(3,pt 1 0),(5,zI z0),(7,(Sl.v 2 s2)),(9,Sl.v 1 s3),(11,Sl.v 1 s4)]) (hT 2 [(Ahr z1 s4 s5)]) (.k0 [false] [.tmp 3 false] [3,5,7,9,11]) ?_))
   refine .join (v:=v) (λy:Int×Sl×Sl×Sl×Int×Sl×Sl=>((fr 137 [(3,pt 1 0),(5,(zI y.1)),(7,(Sl.v 2 y.2.1)),(9,(Sl.v 1 y.2.2.1)),(11,(Sl.v 1 y.2.2.2.1))]),(Ai7 (AaW y) (Acq y) (AcK y)))) (λy=>QJ pu n y.1 y.2.1 y.2.2.1 y.2.2.2.1 (AaW y) (Acq y) (AcK y)) ?_ ?_
   ·rintro⟨z2,s6,s7,s8,z3,s9,s10⟩ hm
    exact Afq pu n z2 s6 s7 s8 z3 s9 s10 hm
   ·refine .then (.rK (.ghs (fr 137 [(3,pt 1 0),(5,zI z0),(7,(Sl.v 2 s2)),(9,Sl.v 1 s3),(11,Sl.v 1 s4),(64,(Sl.v 2 s2)),(65,(Ah6 s2)),(66,(zI (0:Int)))]) (hT 2 [(Ahr z1 s4 s5)]) (.k0 [false] [.tmp 3 false] [3,5,7,9,11,64,65,66]) ?_))
    refine .block (.loopM (v:=v) (λy:Int×Sl×Sl×Sl×Sl×Int×Int×Int×Sl×Sl=>((fr 137 [(3,pt 1 0),(5,(zI y.1)),(7,(Sl.v 2 y.2.1)),(9,(Sl.v 1 y.2.2.1)),(11,(Sl.v 1 y.2.2.2.1)),(64,(Sl.v 2 (AaW y))),(65,(zI (Acq y))),(66,(zI (Ac3 y)))]),(Ai7 (Ac4 y) (Ac5 y) (Ac6 y)))) (λw y=>QK pu n w y.1 y.2.1 y.2.2.1 y.2.2.2.1 (AaW y) (Acq y) (Ac3 y) (Ac4 y) (Ac5 y) (Ac6 y)) n ⟨(z0,s2,s3,s4,s2,(Int.ofNat (Sl.n s2)),(0:Int),z1,s4,s5),hm,(.k0 [false] [.tmp 3 false] [3,5,7,9,11,64,65,66])⟩ (λ_=>rfl) ?_)
    rintro w0 ⟨z4,s11,s12,s13,s14,z5,z6,z7,s15,s16⟩ hm
    replace hm:Wp pu n (QK pu n w0) z4 s11 s12 s13 s14 z5 z6 z7 s15 s16=some v:=hm
    unfold Wp at hm
    refine .then (.rK (.ghs (fr 137 [(3,pt 1 0),(5,zI z4),(7,(Sl.v 2 s11)),(9,Sl.v 1 s12),(11,Sl.v 1 s13),(64,(Sl.v 2 s14)),(65,zI z5),(66,zI z6),(67,(zB (AY z6 z5)))]) (Aic z7 s15 s16) (.k0 [false] [.tmp 3 false] [3,5,7,9,11,64,65,66,67]) ?_))
    refine .then ?_
    replace hm:=Ag hm;rcases hm with⟨h11,hm⟩|⟨h11,hm⟩
    ·refine Gq (AY z6 z5) h11 ?_
     refine .skip (.ghs (fr 137 [(3,pt 1 0),(5,zI z4),(7,(Sl.v 2 s11)),(9,Sl.v 1 s12),(11,Sl.v 1 s13),(64,(Sl.v 2 s14)),(65,zI z5),(66,zI z6)]) (Aic z7 s15 s16) (.k0 [false] [.tmp 3 false] [3,5,7,9,11,64,65,66]) ?_)
     refine .then (.block (.then ?_))
     replace⟨k1,h12,hm⟩:=Ab hm
     obtain rfl:=AR h12
     replace⟨h13,hm⟩:=Ae hm
     replace⟨h14,hm⟩:=Ae hm
     replace⟨x4,h15,hm⟩:=Hw hm
     replace⟨x5,h16,hm⟩:=Hw hm
     refine .reg (eD (keep (Aic z7 s15 s16) (bb (an (Nat.blt k1 (Sl.n s14)) true) (some (Cv (k1*2) (Sl.cs s14))) none)) (AX h13) (eD (keep (Aic z7 s15 s16) (bb (Nat.ble ((k1*2)+2) (len (Sl.cs s14))) (some (.agg ⟨Aq 2 (Am (k1*2) (Sl.cs s14))⟩)) none)) (Pd h14 (Ca h15 (Ca h16 rfl))) (eE))) ?_
     refine .ghs (fr 137 [(3,pt 1 0),(5,zI z4),(7,(Sl.v 2 s11)),(9,Sl.v 1 s12),(11,Sl.v 1 s13),(13,(pt 2 0)),(64,(Sl.v 2 s14)),(65,zI z5),(66,(zI (Int.ofNat k1)))]) (AiG z7 s15 s16 x4 x5) (.k0 [false] Ajb [3,5,7,9,11,13,64,65,66]) ?_
     refine .then (.join (v:=v) (λy:Int×Sl×Sl×Sl×Sl×Int×Int×Bool×Int×Sl×Sl×Int×Int=>((fr 137 [(3,pt 1 0),(5,(zI y.1)),(7,(Sl.v 2 y.2.1)),(9,(Sl.v 1 y.2.2.1)),(11,(Sl.v 1 y.2.2.2.1)),(13,(pt 2 0)),(64,(Sl.v 2 (AaW y))),(65,(zI (Acq y))),(66,(zI (Ac3 y))),(86,(zB (Ac4 y)))]),(hT 3 [(AhF (Ac5 y) (Ac7 y) (Ac8 y)),(oC [(zI (Ac9 y)),(zI (Ada y))])]))) (λy=>SC pu n (QK pu n w0) y.1 y.2.1 y.2.2.1 y.2.2.2.1 (AaW y) (Acq y) (Ac3 y) (Ac4 y) (Ac5 y) (Ac7 y) (Ac8 y) (Ac9 y) (Ada y)) ?_ ?_)
     ·rintro⟨z8,s17,s18,s19,s20,z9,z10,b3,z11,s21,s22,z12,z13⟩ hm
      unfold SC at hm
      replace hm:=Ag hm;rcases hm with⟨h17,hm⟩|⟨h17,hm⟩
      ·refine .ifT b3 (by kernel_rfl) h17 ?_
       refine .then (.rK (.ghs (fr 137 [(2,zB false)]) FD (.k0 [false] [] [2]) ?_))
       refine .ret ?_
       exact Fp (zB false) hm
      ·refine .ifF b3 (by kernel_rfl) h17 ?_
       refine .skip (.ghs (fr 137 [(3,pt 1 0),(5,zI z8),(7,(Sl.v 2 s17)),(9,Sl.v 1 s18),(11,Sl.v 1 s19),(13,(pt 2 0)),(64,(Sl.v 2 s20)),(65,zI z9),(66,zI z10)]) (AiG z11 s21 s22 z12 z13) (.k0 [false] Ajb [3,5,7,9,11,13,64,65,66]) ?_)
       replace⟨s23,h18,hm⟩:=Sm hm
       refine .reg (eC 5 ((oo (pu 24 [Sl.v 1 s19,zI z12,zI z13]) none λv=>some (v,(AiG z11 s21 s22 z12 z13)))) (AB h18) (eE)) ?_
       refine .ghs (fr 137 [(3,pt 1 0),(5,zI z8),(7,(Sl.v 2 s17)),(9,Sl.v 1 s18),(11,Sl.v 1 s23),(64,(Sl.v 2 s20)),(65,zI z9),(66,zI z10)]) (Aic z11 s21 s22) (.k0 [false] [.tmp 3 false] [3,5,7,9,11,64,65,66]) ?_
       refine .rK ?_
       exact⟨(z8,s17,s18,s23,s20,z9,(AhE z10),z11,s21,s22),hm,(.k0 [false] [.tmp 3 false] [3,5,7,9,11,64,65,66])⟩
     ·replace hm:=Ag hm;rcases hm with⟨h19,hm⟩|⟨h19,hm⟩
      ·refine .reg (eC 2 (some ((zB (AY x4 (0:Int))),(AiG z7 s15 s16 x4 x5))) (show _=some ((zB true),_) from (by rw[show (AY x4 (0:Int))=true from h19])) (eE)) ?_
       exact⟨(z4,s11,s12,s13,s14,z5,(Int.ofNat k1),true,z7,s15,s16,x4,x5),hm,(.k0 [false] Ajb [3,5,7,9,11,13,64,65,66,86])⟩
      ·replace hm:=Ag hm;rcases hm with⟨h21,hm⟩|⟨h21,hm⟩
       ·refine .reg (eC 2 (some ((zB (AY x4 (0:Int))),(AiG z7 s15 s16 x4 x5))) (show _=some ((zB false),_) from (by rw[show (AY x4 (0:Int))=false from h19])) (eC 5 (some ((zB (nt (AY x4 x5))),(AiG z7 s15 s16 x4 x5))) (show _=some ((zB true),_) from (by rw[show (nt (AY x4 x5))=true from h21])) (eE))) ?_
        exact⟨(z4,s11,s12,s13,s14,z5,(Int.ofNat k1),true,z7,s15,s16,x4,x5),hm,(.k0 [false] Ajb [3,5,7,9,11,13,64,65,66,86])⟩
       ·refine .reg (eC 2 (some ((zB (AY x4 (0:Int))),(AiG z7 s15 s16 x4 x5))) (show _=some ((zB false),_) from (by rw[show (AY x4 (0:Int))=false from h19])) (eC 5 (some ((zB (nt (AY x4 x5))),(AiG z7 s15 s16 x4 x5))) (show _=some ((zB false),_) from (by rw[show (nt (AY x4 x5))=false from h21])) (eE))) ?_
        exact⟨(z4,s11,s12,s13,s14,z5,(Int.ofNat k1),(nt (Aie x5 s13)),z7,s15,s16,x4,x5),hm,(.k0 [false] Ajb [3,5,7,9,11,13,64,65,66,86])⟩
    ·refine Gs (AY z6 z5) h11 ?_
     refine .exit ?_
     exact⟨(z4,s11,s12,s13,z7,s15,s16),hm,(.k0 [false] [.tmp 3 false] [3,5,7,9,11])⟩
 ·replace hm:=Ag hm;rcases hm with⟨h23,hm⟩|⟨h23,hm⟩
  ·refine .reg (eC 1 (some ((zB (nt (Bd x1 (0:Int)))),(Ah0 x28 s30 s32 y0))) (show _=some ((zB true),_) from (by rw[show (nt (Bd x1 (0:Int)))=true from h23])) (eE)) ?_
   exact⟨(x0,s0,s1,true,x28,s30,s32),hm,(.k0 [false] [.tmp 3 false] [3,5,7,9,61])⟩
  ·replace hm:=Ag hm;rcases hm with⟨h24,hm⟩|⟨h24,hm⟩
   ·refine .reg (eC 1 (some ((zB (nt (Bd x1 (0:Int)))),(Ah0 x28 s30 s32 y0))) (show _=some ((zB false),_) from (by rw[show (nt (Bd x1 (0:Int)))=false from h23])) (eC 2 (some ((zB (nt (Bd x2 (0:Int)))),(Ah0 x28 s30 s32 y0))) (show _=some ((zB true),_) from (by rw[show (nt (Bd x2 (0:Int)))=true from h24])) (eE))) ?_
    exact⟨(x0,s0,s1,true,x28,s30,s32),hm,(.k0 [false] [.tmp 3 false] [3,5,7,9,61])⟩
   ·replace hm:=Ag hm;rcases hm with⟨h25,hm⟩|⟨h25,hm⟩
    ·refine .reg (eC 1 (some ((zB (nt (Bd x1 (0:Int)))),(Ah0 x28 s30 s32 y0))) (show _=some ((zB false),_) from (by rw[show (nt (Bd x1 (0:Int)))=false from h23])) (eC 2 (some ((zB (nt (Bd x2 (0:Int)))),(Ah0 x28 s30 s32 y0))) (show _=some ((zB false),_) from (by rw[show (nt (Bd x2 (0:Int)))=false from h24])) (eC 3 (some ((zB (nt (Bd x3 (0:Int)))),(Ah0 x28 s30 s32 y0))) (show _=some ((zB true),_) from (by rw[show (nt (Bd x3 (0:Int)))=true from h25])) (eE)))) ?_
     exact⟨(x0,s0,s1,true,x28,s30,s32),hm,(.k0 [false] [.tmp 3 false] [3,5,7,9,61])⟩
    ·replace⟨x6,h26,hm⟩:=Hw hm
     replace⟨r0,h27,hm⟩:=Ab hm
     replace⟨x7,h28,hm⟩:=Ab hm
     replace hm:=Ag hm;rcases hm with⟨h29,hm⟩|⟨h29,hm⟩
     ·refine .reg (eN 9 (Fr.puts (AiS x0 x1 s0 x2 s1 x3) [(37,zI x1),(38,zB false),(39,zB false),(40,zI x2),(41,zB false),(42,zB false),(43,zB false),(44,zI x3),(45,zB false)]) (Ah0 x28 s30 s32 y0) (eC 1 (some ((zB (nt (Bd x1 (0:Int)))),(Ah0 x28 s30 s32 y0))) (show _=some ((zB false),_) from (by rw[show (nt (Bd x1 (0:Int)))=false from h23])) (eC 2 (some ((zB (nt (Bd x2 (0:Int)))),(Ah0 x28 s30 s32 y0))) (show _=some ((zB false),_) from (by rw[show (nt (Bd x2 (0:Int)))=false from h24])) (eC 3 (some ((zB (nt (Bd x3 (0:Int)))),(Ah0 x28 s30 s32 y0))) (show _=some ((zB false),_) from (by rw[show (nt (Bd x3 (0:Int)))=false from h25])) (by kernel_rfl)))) (eC 6 ((oo (pu 23 [Sl.v 1 s30]) none λv=>some (v,(Ah0 x28 s30 s32 y0)))) (AB h26) (eD (keep (Ah0 x28 s30 s32 y0) (oo (GD (zI x6) (Akd.es y0) 0) none λr=>oo r Ajq λp=>pp p λ_ v=>okV false v true)) (MM h27 (Eh h28)) (eD (some ((zB (nt (Bd x0 x7))),(Ah0 x28 s30 s32 y0))) (show _=some ((zB true),_) from (by rw[show (nt (Bd x0 x7))=true from h29])) (eE))))) ?_
      exact⟨(x0,s0,s1,true,x28,s30,s32),hm,(.k0 [false] [.tmp 3 false] [3,5,7,9,61])⟩
     ·refine .reg (eN 9 (Fr.puts (AiS x0 x1 s0 x2 s1 x3) [(37,zI x1),(38,zB false),(39,zB false),(40,zI x2),(41,zB false),(42,zB false),(43,zB false),(44,zI x3),(45,zB false)]) (Ah0 x28 s30 s32 y0) (eC 1 (some ((zB (nt (Bd x1 (0:Int)))),(Ah0 x28 s30 s32 y0))) (show _=some ((zB false),_) from (by rw[show (nt (Bd x1 (0:Int)))=false from h23])) (eC 2 (some ((zB (nt (Bd x2 (0:Int)))),(Ah0 x28 s30 s32 y0))) (show _=some ((zB false),_) from (by rw[show (nt (Bd x2 (0:Int)))=false from h24])) (eC 3 (some ((zB (nt (Bd x3 (0:Int)))),(Ah0 x28 s30 s32 y0))) (show _=some ((zB false),_) from (by rw[show (nt (Bd x3 (0:Int)))=false from h25])) (by kernel_rfl)))) (eC 6 ((oo (pu 23 [Sl.v 1 s30]) none λv=>some (v,(Ah0 x28 s30 s32 y0)))) (AB h26) (eD (keep (Ah0 x28 s30 s32 y0) (oo (GD (zI x6) (Akd.es y0) 0) none λr=>oo r Ajq λp=>pp p λ_ v=>okV false v true)) (MM h27 (Eh h28)) (eD (some ((zB (nt (Bd x0 x7))),(Ah0 x28 s30 s32 y0))) (show _=some ((zB false),_) from (by rw[show (nt (Bd x0 x7))=false from h29])) (eE))))) ?_
      exact⟨(x0,s0,s1,(nt (Bd (Int.ofNat (Sl.n s0)) x0)),x28,s30,s32),hm,(.k0 [false] [.tmp 3 false] [3,5,7,9,61])⟩
def mM (pu:Af) (n:Nat) (x0:Int) (s0 s1:Sl):OV:=
 (oo (pu 47 [(.agg ⟨[.int .i64 x0,Sl.v 1 s0,Sl.v 1 s1]⟩)]) none λv0=>(oo (Bi .i64 v0) none λx1=>(bb (nt (Bd x1 (0:Int))) (some (.tuple ⟨[(Sl.v 1 (Sl.mk 0 2 [])),.int .i64 x1]⟩)) (oo (pu 48 [(.agg ⟨[.int .i64 x0,Sl.v 1 s0,Sl.v 1 s1]⟩)]) none λv1=>(oo (Bj 1 v1) none λs2=>(some (.tuple ⟨[Sl.v 1 s2,(.int .i64 (0:Int))]⟩)))))))
def m16 (pu:Af) (n:Nat) (args:LV):OV:=
 (ll args none λa0 args=>(ll args (oo (Bt a0) none λl0=>(ll l0 none λv0 l0=>(ll l0 none λv1 l0=>(ll l0 none λv2 l0=>(ll l0 (oo (Bi .i64 v0) none λx0=>(oo (Bj 1 v1) none λs0=>(oo (Bj 1 v2) none λs1=>(mM pu n x0 s0 s1)))) λ_ _=>none))))) λ_ _=>none))
theorem r16 {call:A8} (pu:Af) (n:Nat) (hcall:call=Bb tabs Ir pu (inl pu)) {args:LV} {v:Value} (hm:m16 pu n args=some v) (_:∀ x∈args,closed2 x=true):args.length≤12∧BN tt call 1 UC (Fr.made 12 args) (Ao tabs) (Fin tt 1 [.tmp 2,.tmp 3] v):=by
 subst hcall
 unfold m16 at hm
 replace hm:=Ad hm;obtain⟨a0,args_0,rfl,hm⟩:=hm
 replace hm:=AC hm;obtain⟨rfl,hm⟩:=hm
 replace hm:=BG hm;obtain⟨l0,rfl,hm⟩:=hm
 replace hm:=Ad hm;obtain⟨v0,l15130_0,rfl,hm⟩:=hm
 replace hm:=Ad hm;obtain⟨v1,l15130_1,rfl,hm⟩:=hm
 replace hm:=Ad hm;obtain⟨v2,l15130_2,rfl,hm⟩:=hm
 replace hm:=AC hm;obtain⟨rfl,hm⟩:=hm
 replace hm:=Ai hm;obtain⟨x0,rfl,hm⟩:=hm
 replace hm:=Al hm;obtain⟨s0,rfl,hm⟩:=hm
 replace hm:=Al hm;obtain⟨s1,rfl,hm⟩:=hm
 unfold mM at hm
 refine⟨by simp,?_⟩
 refine .same (F':=(fr 12 [(0,(AhC x0 s0 s1))])) (H':=FD) (by kernel_rfl) (by kernel_rfl) ?_
 refine .then (.rK (.ghs (fr 12 [(1,pt 1 0)]) (hT 2 [(Ahr x0 s0 s1)]) (.k0 [false] [.tmp 1 false] [1]) ?_))
 refine .then (.then ?_)
 replace⟨x1,h0,hm⟩:=Hw hm
 refine .reg (eC 1 ((oo (pu 47 [(AhC x0 s0 s1)]) none λv=>some (v,(hT 2 [(Ahr x0 s0 s1)])))) (AB h0) (eE)) ?_
 refine .ghs (fr 12 [(1,pt 1 0),(4,zI x1)]) (hT 2 [(Ahr x0 s0 s1)]) (.k0 [false] [.tmp 1 false] [1,4]) ?_
 refine .then (.rK (.ghs (fr 12 [(1,pt 1 0),(4,zI x1),(8,(zB (nt (Bd x1 (0:Int)))))]) (hT 2 [(Ahr x0 s0 s1)]) (.k0 [false] [.tmp 1 false] [1,4,8]) ?_))
 replace hm:=Ag hm;rcases hm with⟨h1,hm⟩|⟨h1,hm⟩
 ·refine Gq (nt (Bd x1 (0:Int))) h1 ?_
  refine .then (.rK (.ghs (fr 12 [(2,(.slice none 0 0)),(3,zI x1)]) FD (.k0 [false] [] [2,3]) ?_))
  refine .ghs (Fr.puts (fr 12 [(2,(.slice none 0 0)),(3,zI x1)]) [(2,(Sl.v 1 (Sl.mk 0 2 [])))]) FD (.freeze 1 2 1 (by kernel_rfl) (by kernel_rfl) (E9.id _ _)) ?_
  refine .ret ?_
  exact Fp (.tuple ⟨[(Sl.v 1 (Sl.mk 0 2 [])),zI x1]⟩) hm
 ·refine Gs (nt (Bd x1 (0:Int))) h1 ?_
  refine .skip (.ghs (fr 12 [(1,pt 1 0)]) (hT 2 [(Ahr x0 s0 s1)]) (.k0 [false] [.tmp 1 false] [1]) ?_)
  refine .then ?_
  replace⟨s2,h2,hm⟩:=Sm hm
  refine .reg (eC 1 ((oo (pu 48 [(AhC x0 s0 s1)]) none λv=>some (v,(hT 2 [(Ahr x0 s0 s1)])))) (AB h2) (eE)) ?_
  refine .ghs (fr 12 [(2,Sl.v 1 s2),(3,(zI (0:Int)))]) FD (.k0 [false] [] [2,3]) ?_
  refine .ret ?_
  exact Fp (.tuple ⟨[Sl.v 1 s2,(zI (0:Int))]⟩) hm
def Wq (pu:Af) (n:Nat) (s0:Sl) (z0 z1:Int):OV:=
 (bb (nt (Bd z1 z0)) (some (.tuple ⟨[(.int .i64 (0:Int)),(.int .i64 (21:Int))]⟩)) (some (.tuple ⟨[(.int .i64 (Int.ofNat (Sl.n s0))),(.int .i64 (0:Int))]⟩)))
def Ws (pu:Af) (n:Nat) (ih0:Ajv) (s0:Sl) (z0 z1:Int) (s1:Sl) (z2 z3 z4:Int) (s2 s3:Sl):OV:=
 (ih0 s0 z0 z1 s1 z2 (Aj .i64 (Int.add z3 (1:Int))) z4 s2 s3)
def Wt (pu:Af) (n:Nat) (ih0:Ajv) (ih1:AjB) (s0:Sl) (z0 z1 z2:Int) (s1:Sl) (z3 z4:Int) (s2:Sl) (z5 z6 z7:Int) (s3 s4:Sl):OV:=
 (bb (AY z6 z5) (oo (EA z6) none λk1=>(bb (an (Nat.blt k1 (Sl.n s2)) true) (oo (AL (Sl.cs s2) (k1*1)) none λv0=>(oo (Bi .i64 v0) none λx0=>(oo (EA z2) none λk2=>(bb (an (Nat.blt k2 (Sl.n s4)) true) (oo (AL (Sl.cs s4) (k2*1)) none λv1=>(oo (Bi .i64 v1) none λx1=>(oo (EA x0) none λk3=>(bb (an (Nat.blt k3 (Sl.n s3)) true) (oo (AL (Sl.cs s3) (k3*1)) none λv2=>(oo (Bi .i64 v2) none λx2=>(bb (nt (Bd x1 x2)) (some (.tuple ⟨[(.int .i64 (0:Int)),(.int .i64 (14:Int))]⟩)) (ih1 s0 z0 z1 (Int.ofNat k3) s1 z3 z4 s2 z5 (Aj .i64 (Int.add (Int.ofNat k1) (1:Int))) z7 s3 s4)))) none)))) none)))) none)) (Ws pu n ih0 s0 z0 z1 s1 z3 z4 z7 s3 s4))
def QL (pu:Af) (n:Nat) (ih0:Ajv) (w:Nat):AjB:=
 Nat.rec (motive:=λ_=>AjB) (λ_ _ _ _ _ _ _ _ _ _ _ _ _=>none) (λ_ ih1=>Wt pu n ih0 ih1) w
def Wu (pu:Af) (n:Nat) (ih0:Ajv) (s0:Sl) (z0 z1:Int) (s1 s2:Sl) (z2 z3 z4:Int) (s3 s4:Sl):OV:=
 (oo (EA (Aj .i64 (Int.sub (Int.ofNat (Sl.n s1)) (1:Int)))) none λk1=>(bb (an (Nat.blt k1 (Sl.n s1)) true) (oo (AL (Sl.cs s1) (k1*1)) none λv0=>(oo (Bi .i64 v0) none λx0=>(QL pu n ih0 n s0 z0 z1 x0 s2 z2 z3 s1 (Int.ofNat (Sl.n s1)) (0:Int) z4 s3 s4))) none))
def Wv (pu:Af) (n:Nat) (ih0:Ajv) (ih1:AjD) (s0:Sl) (z0 z1:Int) (s1 s2:Sl) (z2 z3:Int) (s3:Sl) (z4 z5 z6:Int) (s4 s5:Sl):OV:=
 (bb (AY z5 z4) (oo (EA z5) none λk1=>(bb (an (Nat.blt k1 (Sl.n s3)) true) (oo (AL (Sl.cs s3) (k1*1)) none λv0=>(oo (Bi .i64 v0) none λx0=>(oo (pu 52 [(.int .i64 (0:Int)),.int .i64 x0,(.int .i64 (Aj .i64 (Int.sub (Int.ofNat (Sl.n s4)) (1:Int))))]) none λv1=>(oo (Bf v1) none λb0=>(bb (nt b0) (some (.tuple ⟨[(.int .i64 (0:Int)),(.int .i64 (2:Int))]⟩)) (oo (pu 53 [.int .u16 z1,.int .i64 x0]) none λv2=>(oo (Bf v2) none λb3=>(bb b3 (some (.tuple ⟨[(.int .i64 (0:Int)),(.int .i64 (6:Int))]⟩)) (oo (pu 53 [.int .u16 z0,.int .i64 x0]) none λv3=>(oo (Bf v3) none λb4=>(bb (nt b4) (some (.tuple ⟨[(.int .i64 (0:Int)),(.int .i64 (13:Int))]⟩)) (oo (EA x0) none λk2=>(ih1 s0 z0 (jF .u16 z1 (QW .u16 (1:Int) k2)) s1 s2 z2 z3 s3 z4 (Aj .i64 (Int.add (Int.ofNat k1) (1:Int))) z6 s4 s5))))))))))))) none)) (Wu pu n ih0 s0 z0 z1 s1 s2 z2 z3 z6 s4 s5))
def SE (pu:Af) (n:Nat) (ih0:Ajv) (w:Nat):AjD:=
 Nat.rec (motive:=λ_=>AjD) (λ_ _ _ _ _ _ _ _ _ _ _ _ _=>none) (λ_ ih1=>Wv pu n ih0 ih1) w
def Ww (pu:Af) (n:Nat) (ih0:Ajv) (s0:Sl) (z0 z1:Int) (s1:Sl) (z2 z3 z4:Int) (s2 s3:Sl):OV:=
 (bb (AY z3 z2) (oo (EA z3) none λk1=>(bb (an (Nat.blt k1 (Sl.n s1)) true) (oo (AL (Sl.cs s1) (k1*1)) none λv0=>(oo (Bj 1 v0) none λs4=>(bb (Bd (Int.ofNat (Sl.n s4)) (0:Int)) (some (.tuple ⟨[(.int .i64 (0:Int)),(.int .i64 (4:Int))]⟩)) (SE pu n ih0 n s0 z0 z1 s4 s1 z2 (Int.ofNat k1) s4 (Int.ofNat (Sl.n s4)) (0:Int) z4 s2 s3)))) none)) (Wq pu n s0 z0 z1))
def Ke (pu:Af) (n w:Nat):Ajv:=
 Nat.rec (motive:=λ_=>Ajv) (λ_ _ _ _ _ _ _ _ _=>none) (λ_ ih0=>Ww pu n ih0) w
def mO (pu:Af) (n:Nat) (x0:Int) (s0 s1 s2:Sl):OV:=
 (oo (pu 47 [(.agg ⟨[.int .i64 x0,Sl.v 1 s0,Sl.v 1 s1]⟩)]) none λv0=>(oo (Bi .i64 v0) none λx1=>(bb (nt (Bd x1 (0:Int))) (some (.tuple ⟨[(.int .i64 (0:Int)),.int .i64 x1]⟩)) (oo (pu 51 [(.agg ⟨[.int .i64 x0,Sl.v 1 s0,Sl.v 1 s1]⟩)]) none λv1=>(oo (Bi .u16 v1) none λx2=>(Ke pu n n s2 x2 (0:Int) s2 (Int.ofNat (Sl.n s2)) (0:Int) x0 s0 s1))))))
def m18 (pu:Af) (n:Nat) (args:LV):OV:=
 (ll args none λa0 args=>(ll args none λa1 args=>(ll args (oo (Bt a0) none λl0=>(ll l0 none λv0 l0=>(ll l0 none λv1 l0=>(ll l0 none λv2 l0=>(ll l0 (oo (Bi .i64 v0) none λx0=>(oo (Bj 1 v1) none λs0=>(oo (Bj 1 v2) none λs1=>(oo (Bj 1 a1) none λs2=>(mO pu n x0 s0 s1 s2))))) λ_ _=>none))))) λ_ _=>none)))
theorem Afr (pu:Af) (n:Nat) (s0:Sl) (z0 z1:Int) {v:Value} (hm:Wq pu n s0 z0 z1=some v):BN tt (Bb tabs Ir pu (inl pu)) 1 dS (fr 91 [(1,Sl.v 1 s0),(7,.int .u16 z0),(8,.int .u16 z1)]) FD (Fin tt 1 [.tmp 4,.tmp 5] v):=by
 unfold Wq at hm
 refine .then (.then (.rK (.ghs (fr 91 [(1,Sl.v 1 s0),(88,(zB (nt (Bd z1 z0))))]) FD (.k0 [false] [] [1,88]) ?_)))
 replace hm:=Ag hm;rcases hm with⟨h0,hm⟩|⟨h0,hm⟩
 ·refine Gq (nt (Bd z1 z0)) h0 ?_
  refine .then (.rK (.ghs (fr 91 [(4,(zI (0:Int))),(5,(zI (21:Int)))]) FD (.k0 [false] [] [4,5]) ?_))
  refine .ret ?_
  exact Fp (.tuple ⟨[(zI (0:Int)),(zI (21:Int))]⟩) hm
 ·refine Gs (nt (Bd z1 z0)) h0 ?_
  refine .skip (.ghs (fr 91 [(1,Sl.v 1 s0)]) FD (.k0 [false] [] [1]) ?_)
  refine .then (.rK (.ghs (fr 91 [(4,(Ah6 s0)),(5,(zI (0:Int)))]) FD (.k0 [false] [] [4,5]) ?_))
  refine .ret ?_
  exact Fp (.tuple ⟨[(Ah6 s0),(zI (0:Int))]⟩) hm
theorem r18 {call:A8} (pu:Af) (n:Nat) (hcall:call=Bb tabs Ir pu (inl pu)) {args:LV} {v:Value} (hm:m18 pu n args=some v) (_:∀ x∈args,closed2 x=true):args.length≤91∧BN tt call 1 UD (Fr.made 91 args) (Ao tabs) (Fin tt 1 [.tmp 4,.tmp 5] v):=by
 subst hcall
 unfold m18 at hm
 replace hm:=Ad hm;obtain⟨a0,args_0,rfl,hm⟩:=hm
 replace hm:=Ad hm;obtain⟨a1,args_1,rfl,hm⟩:=hm
 replace hm:=AC hm;obtain⟨rfl,hm⟩:=hm
 replace hm:=BG hm;obtain⟨l0,rfl,hm⟩:=hm
 replace hm:=Ad hm;obtain⟨v0,l15158_0,rfl,hm⟩:=hm
 replace hm:=Ad hm;obtain⟨v1,l15158_1,rfl,hm⟩:=hm
 replace hm:=Ad hm;obtain⟨v2,l15158_2,rfl,hm⟩:=hm
 replace hm:=AC hm;obtain⟨rfl,hm⟩:=hm
 replace hm:=Ai hm;obtain⟨x0,rfl,hm⟩:=hm
 replace hm:=Al hm;obtain⟨s0,rfl,hm⟩:=hm
 replace hm:=Al hm;obtain⟨s1,rfl,hm⟩:=hm
 replace hm:=Al hm;obtain⟨s2,rfl,hm⟩:=hm
 unfold mO at hm
 refine⟨by simp,?_⟩
 refine .same (F':=(fr 91 [(0,(AhC x0 s0 s1)),(1,Sl.v 1 s2)])) (H':=FD) (by kernel_rfl) (by kernel_rfl) ?_
 refine .then (.rK (.ghs (fr 91 [(1,Sl.v 1 s2),(2,pt 1 0)]) (hT 2 [(Ahr x0 s0 s1)]) (.k0 [false] [.tmp 2 false] [1,2]) ?_))
 refine .then (.then ?_)
 replace⟨x1,h0,hm⟩:=Hw hm
 refine .reg (eC 1 ((oo (pu 47 [(AhC x0 s0 s1)]) none λv=>some (v,(hT 2 [(Ahr x0 s0 s1)])))) (AB h0) (eE)) ?_
 refine .ghs (fr 91 [(1,Sl.v 1 s2),(2,pt 1 0),(6,zI x1)]) (hT 2 [(Ahr x0 s0 s1)]) (.k0 [false] [.tmp 2 false] [1,2,6]) ?_
 refine .then (.rK (.ghs (fr 91 [(1,Sl.v 1 s2),(2,pt 1 0),(6,zI x1),(19,(zB (nt (Bd x1 (0:Int)))))]) (hT 2 [(Ahr x0 s0 s1)]) (.k0 [false] [.tmp 2 false] [1,2,6,19]) ?_))
 replace hm:=Ag hm;rcases hm with⟨h1,hm⟩|⟨h1,hm⟩
 ·refine Gq (nt (Bd x1 (0:Int))) h1 ?_
  refine .then (.rK (.ghs (fr 91 [(4,(zI (0:Int))),(5,zI x1)]) FD (.k0 [false] [] [4,5]) ?_))
  refine .ret ?_
  exact Fp (.tuple ⟨[(zI (0:Int)),zI x1]⟩) hm
 ·refine Gs (nt (Bd x1 (0:Int))) h1 ?_
  refine .skip (.ghs (fr 91 [(1,Sl.v 1 s2),(2,pt 1 0)]) (hT 2 [(Ahr x0 s0 s1)]) (.k0 [false] [.tmp 2 false] [1,2]) ?_)
  refine .then ?_
  replace⟨x2,h2,hm⟩:=Hw hm
  refine .reg (eC 1 ((oo (pu 51 [(AhC x0 s0 s1)]) none λv=>some (v,(hT 2 [(Ahr x0 s0 s1)])))) (AB h2) (eE)) ?_
  refine .ghs (fr 91 [(1,Sl.v 1 s2),(2,pt 1 0),(7,.int .u16 x2)]) (hT 2 [(Ahr x0 s0 s1)]) (.k0 [false] [.tmp 2 false] [1,2,7]) ?_
  refine .then (.rK (.ghs (fr 91 [(1,Sl.v 1 s2),(2,pt 1 0),(7,.int .u16 x2),(8,(.int .u16 (0:Int)))]) (hT 2 [(Ahr x0 s0 s1)]) (.k0 [false] [.tmp 2 false] [1,2,7,8]) ?_))
  refine .join (v:=v) (λy:Sl×Int×Int=>((fr 91 [(1,(Sl.v 1 y.1)),(7,(.int .u16 y.2.1)),(8,(.int .u16 y.2.2))]),FD)) (λy=>Wq pu n y.1 y.2.1 y.2.2) ?_ ?_
  ·rintro⟨s3,z0,z1⟩ hm
   exact Afr pu n s3 z0 z1 hm
  ·refine .then (.rK (.ghs (fr 91 [(1,Sl.v 1 s2),(2,pt 1 0),(7,.int .u16 x2),(8,(.int .u16 (0:Int))),(23,Sl.v 1 s2),(24,(Ah6 s2)),(25,(zI (0:Int)))]) (hT 2 [(Ahr x0 s0 s1)]) (.k0 [false] [.tmp 2 false] [1,2,7,8,23,24,25]) ?_))
   refine .block (.loopM (v:=v) (λy:Sl×Int×Int×Sl×Int×Int×Int×Sl×Sl=>((fr 91 [(1,(Sl.v 1 y.1)),(2,pt 1 0),(7,(.int .u16 y.2.1)),(8,(.int .u16 y.2.2.1)),(23,(Sl.v 1 y.2.2.2.1)),(24,(zI (AaW y))),(25,(zI (Acq y)))]),(Ai7 (Ac3 y) (Ac4 y) (Adb y)))) (λw y=>Ke pu n w y.1 y.2.1 y.2.2.1 y.2.2.2.1 (AaW y) (Acq y) (Ac3 y) (Ac4 y) (Adb y)) n ⟨(s2,x2,(0:Int),s2,(Int.ofNat (Sl.n s2)),(0:Int),x0,s0,s1),hm,(.k0 [false] [.tmp 2 false] [1,2,7,8,23,24,25])⟩ (λ_=>rfl) ?_)
   rintro w0 ⟨s4,z2,z3,s5,z4,z5,z6,s6,s7⟩ hm
   replace hm:Ww pu n (Ke pu n w0) s4 z2 z3 s5 z4 z5 z6 s6 s7=some v:=hm
   unfold Ww at hm
   refine .then (.rK (.ghs (fr 91 [(1,Sl.v 1 s4),(2,pt 1 0),(7,.int .u16 z2),(8,.int .u16 z3),(23,Sl.v 1 s5),(24,zI z4),(25,zI z5),(26,(zB (AY z5 z4)))]) (hT 2 [(Ahr z6 s6 s7)]) (.k0 [false] [.tmp 2 false] [1,2,7,8,23,24,25,26]) ?_))
   refine .then ?_
   replace hm:=Ag hm;rcases hm with⟨h3,hm⟩|⟨h3,hm⟩
   ·refine Gq (AY z5 z4) h3 ?_
    refine .skip (.ghs (fr 91 [(1,Sl.v 1 s4),(2,pt 1 0),(7,.int .u16 z2),(8,.int .u16 z3),(23,Sl.v 1 s5),(24,zI z4),(25,zI z5)]) (hT 2 [(Ahr z6 s6 s7)]) (.k0 [false] [.tmp 2 false] [1,2,7,8,23,24,25]) ?_)
    refine .join (v:=v) (λy:Sl×Int×Int×Sl×Int×Int×Int×Sl×Sl=>((fr 91 [(1,(Sl.v 1 y.1)),(2,pt 1 0),(7,(.int .u16 y.2.1)),(8,(.int .u16 y.2.2.1)),(23,(Sl.v 1 y.2.2.2.1)),(24,(zI (AaW y))),(25,(zI (Acq y)))]),(Ai7 (Ac3 y) (Ac4 y) (Adb y)))) (λy=>Ws pu n (Ke pu n w0) y.1 y.2.1 y.2.2.1 y.2.2.2.1 (AaW y) (Acq y) (Ac3 y) (Ac4 y) (Adb y)) ?_ ?_
    ·rintro⟨s8,z7,z8,s9,z9,z10,z11,s10,s11⟩ hm
     unfold Ws at hm
     refine .rK ?_
     exact⟨(s8,z7,z8,s9,z9,(AhE z10),z11,s10,s11),hm,(.k0 [false] [.tmp 2 false] [1,2,7,8,23,24,25])⟩
    ·refine .block (.then ?_)
     replace⟨k1,h4,hm⟩:=Ab hm
     obtain rfl:=AR h4
     replace⟨h5,hm⟩:=Ae hm
     replace⟨s12,h6,hm⟩:=Sm hm
     refine .reg (eD (keep (hT 2 [(Ahr z6 s6 s7)]) (Aht k1 s5)) (AX h5) (eD (keep (hT 2 [(Ahr z6 s6 s7)]) (AL (Sl.cs s5) (k1*1))) (AZ h6) (eE))) ?_
     refine .ghs (fr 91 [(1,Sl.v 1 s4),(2,pt 1 0),(7,.int .u16 z2),(8,.int .u16 z3),(10,Sl.v 1 s12),(23,Sl.v 1 s5),(24,zI z4),(25,(zI (Int.ofNat k1)))]) (hT 2 [(Ahr z6 s6 s7)]) (.k0 [false] [.tmp 2 false] [1,2,7,8,10,23,24,25]) ?_
     refine .then (.then (.rK (.ghs (fr 91 [(1,Sl.v 1 s4),(2,pt 1 0),(7,.int .u16 z2),(8,.int .u16 z3),(10,Sl.v 1 s12),(23,Sl.v 1 s5),(24,zI z4),(25,(zI (Int.ofNat k1))),(31,(zB (AiX s12)))]) (hT 2 [(Ahr z6 s6 s7)]) (.k0 [false] [.tmp 2 false] [1,2,7,8,10,23,24,25,31]) ?_)))
     replace hm:=Ag hm;rcases hm with⟨h7,hm⟩|⟨h7,hm⟩
     ·refine Gq (AiX s12) h7 ?_
      refine .then (.rK (.ghs (fr 91 [(4,(zI (0:Int))),(5,(zI (4:Int)))]) FD (.k0 [false] [] [4,5]) ?_))
      refine .ret ?_
      exact Fp (.tuple ⟨[(zI (0:Int)),(zI (4:Int))]⟩) hm
     ·refine Gs (AiX s12) h7 ?_
      refine .skip (.ghs (fr 91 [(1,Sl.v 1 s4),(2,pt 1 0),(7,.int .u16 z2),(8,.int .u16 z3),(10,Sl.v 1 s12),(23,Sl.v 1 s5),(24,zI z4),(25,(zI (Int.ofNat k1)))]) (hT 2 [(Ahr z6 s6 s7)]) (.k0 [false] [.tmp 2 false] [1,2,7,8,10,23,24,25]) ?_)
      refine .join (v:=v) (λy:Sl×Int×Int×Sl×Sl×Int×Int×Int×Sl×Sl=>((fr 91 [(1,(Sl.v 1 y.1)),(2,pt 1 0),(7,(.int .u16 y.2.1)),(8,(.int .u16 y.2.2.1)),(10,(Sl.v 1 y.2.2.2.1)),(23,(Sl.v 1 (AaW y))),(24,(zI (Acq y))),(25,(zI (Ac3 y)))]),(Ai7 (Ac4 y) (Ac5 y) (Ac6 y)))) (λy=>Wu pu n (Ke pu n w0) y.1 y.2.1 y.2.2.1 y.2.2.2.1 (AaW y) (Acq y) (Ac3 y) (Ac4 y) (Ac5 y) (Ac6 y)) ?_ ?_
      ·rintro⟨s13,z12,z13,s14,s15,z14,z15,z16,s16,s17⟩ hm
       unfold Wu at hm
       refine .then ?_
       replace⟨k2,h8,hm⟩:=Ab hm
       replace⟨h9,hm⟩:=Ae hm
       replace⟨x3,h10,hm⟩:=Hw hm
       refine .reg (eC 3 (some ((zI (Aj .i64 (Int.sub (Int.ofNat (Sl.n s14)) (1:Int)))),(Aic z16 s16 s17))) (show _=some ((zI (Int.ofNat k2)),_) from (by rw[AR h8])) (eD (keep (Aic z16 s16 s17) (Aht k2 s14)) (AX h9) (eD (keep (Aic z16 s16 s17) (AL (Sl.cs s14) (k2*1))) (AZ h10) (eE)))) ?_
       refine .ghs (fr 91 [(1,Sl.v 1 s13),(2,pt 1 0),(7,.int .u16 z12),(8,.int .u16 z13),(10,Sl.v 1 s14),(13,zI x3),(23,Sl.v 1 s15),(24,zI z14),(25,zI z15)]) (Aic z16 s16 s17) (.k0 [false] [.tmp 2 false] [1,2,7,8,10,13,23,24,25]) ?_
       refine .then (.rK (.ghs (fr 91 [(1,Sl.v 1 s13),(2,pt 1 0),(7,.int .u16 z12),(8,.int .u16 z13),(13,zI x3),(23,Sl.v 1 s15),(24,zI z14),(25,zI z15),(66,Sl.v 1 s14),(67,(Ah6 s14)),(68,(zI (0:Int)))]) (Aic z16 s16 s17) (.k0 [false] [.tmp 2 false] Ai3) ?_))
       refine .block (.loopM (v:=v) (λy:Sl×Int×Int×Int×Sl×Int×Int×Sl×Int×Int×Int×Sl×Sl=>((fr 91 [(1,(Sl.v 1 y.1)),(2,pt 1 0),(7,(.int .u16 y.2.1)),(8,(.int .u16 y.2.2.1)),(13,(zI y.2.2.2.1)),(23,(Sl.v 1 (AaW y))),(24,(zI (Acq y))),(25,(zI (Ac3 y))),(66,(Sl.v 1 (Ac4 y))),(67,(zI (Ac5 y))),(68,(zI (Ac7 y)))]),(Ai7 (Ac8 y) (Ac9 y) (Ada y)))) (λw y=>QL pu n (Ke pu n w0) w y.1 y.2.1 y.2.2.1 y.2.2.2.1 (AaW y) (Acq y) (Ac3 y) (Ac4 y) (Ac5 y) (Ac7 y) (Ac8 y) (Ac9 y) (Ada y)) n ⟨(s13,z12,z13,x3,s15,z14,z15,s14,(Int.ofNat (Sl.n s14)),(0:Int),z16,s16,s17),hm,(.k0 [false] [.tmp 2 false] Ai3)⟩ (λ_=>rfl) ?_)
       rintro w1 ⟨s18,z17,z18,z19,s19,z20,z21,s20,z22,z23,z24,s21,s22⟩ hm
       replace hm:Wt pu n (Ke pu n w0) (QL pu n (Ke pu n w0) w1) s18 z17 z18 z19 s19 z20 z21 s20 z22 z23 z24 s21 s22=some v:=hm
       unfold Wt at hm
       refine .then (.rK (.ghs (fr 91 [(1,Sl.v 1 s18),(2,pt 1 0),(7,.int .u16 z17),(8,.int .u16 z18),(13,zI z19),(23,Sl.v 1 s19),(24,zI z20),(25,zI z21),(66,Sl.v 1 s20),(67,zI z22),(68,zI z23),(69,(zB (AY z23 z22)))]) (Aic z24 s21 s22) (.k0 [false] [.tmp 2 false] [1,2,7,8,13,23,24,25,66,67,68,69]) ?_))
       refine .then ?_
       replace hm:=Ag hm;rcases hm with⟨h11,hm⟩|⟨h11,hm⟩
       ·refine Gq (AY z23 z22) h11 ?_
        refine .skip (.ghs (fr 91 [(1,Sl.v 1 s18),(2,pt 1 0),(7,.int .u16 z17),(8,.int .u16 z18),(13,zI z19),(23,Sl.v 1 s19),(24,zI z20),(25,zI z21),(66,Sl.v 1 s20),(67,zI z22),(68,zI z23)]) (Aic z24 s21 s22) (.k0 [false] [.tmp 2 false] Ai3) ?_)
        refine .then (.block (.then ?_))
        replace⟨k3,h12,hm⟩:=Ab hm
        obtain rfl:=AR h12
        replace⟨h13,hm⟩:=Ae hm
        replace⟨x4,h14,hm⟩:=Hw hm
        refine .reg (eD (keep (Aic z24 s21 s22) (Aht k3 s20)) (AX h13) (eD (keep (Aic z24 s21 s22) (AL (Sl.cs s20) (k3*1))) (AZ h14) (eE))) ?_
        refine .ghs (fr 91 [(1,Sl.v 1 s18),(2,pt 1 0),(7,.int .u16 z17),(8,.int .u16 z18),(13,zI z19),(15,zI x4),(23,Sl.v 1 s19),(24,zI z20),(25,zI z21),(66,Sl.v 1 s20),(67,zI z22),(68,(zI (Int.ofNat k3)))]) (Aic z24 s21 s22) (.k0 [false] [.tmp 2 false] [1,2,7,8,13,15,23,24,25,66,67,68]) ?_
        refine .then (.then ?_)
        replace⟨k4,h15,hm⟩:=Ab hm
        obtain rfl:=AR h15
        replace⟨h16,hm⟩:=Ae hm
        replace⟨x5,h17,hm⟩:=Hw hm
        replace⟨k5,h18,hm⟩:=Ab hm
        obtain rfl:=AR h18
        replace⟨h19,hm⟩:=Ae hm
        replace⟨x6,h20,hm⟩:=Hw hm
        refine .reg (eC 3 (keep (Aic z24 s21 s22) (Aht k4 s22)) (AX h16) (eD (keep (Aic z24 s21 s22) (AL (Sl.cs s22) (k4*1))) (AZ h17) (eC 3 (keep (Aic z24 s21 s22) (Aht k5 s21)) (AX h19) (eD (keep (Aic z24 s21 s22) (AL (Sl.cs s21) (k5*1))) (AZ h20) (eE))))) ?_
        refine .ghs (fr 91 [(1,Sl.v 1 s18),(2,pt 1 0),(7,.int .u16 z17),(8,.int .u16 z18),(15,(zI (Int.ofNat k5))),(23,Sl.v 1 s19),(24,zI z20),(25,zI z21),(66,Sl.v 1 s20),(67,zI z22),(68,(zI (Int.ofNat k3))),(82,(zB (nt (Bd x5 x6))))]) (Aic z24 s21 s22) (.k0 [false] [.tmp 2 false] [1,2,7,8,15,23,24,25,66,67,68,82]) ?_
        replace hm:=Ag hm;rcases hm with⟨h21,hm⟩|⟨h21,hm⟩
        ·refine Gq (nt (Bd x5 x6)) h21 ?_
         refine .then (.rK (.ghs (fr 91 [(4,(zI (0:Int))),(5,(zI (14:Int)))]) FD (.k0 [false] [] [4,5]) ?_))
         refine .ret ?_
         exact Fp (.tuple ⟨[(zI (0:Int)),(zI (14:Int))]⟩) hm
        ·refine Gs (nt (Bd x5 x6)) h21 ?_
         refine .skip (.ghs (fr 91 [(1,Sl.v 1 s18),(2,pt 1 0),(7,.int .u16 z17),(8,.int .u16 z18),(15,(zI (Int.ofNat k5))),(23,Sl.v 1 s19),(24,zI z20),(25,zI z21),(66,Sl.v 1 s20),(67,zI z22),(68,(zI (Int.ofNat k3)))]) (Aic z24 s21 s22) (.k0 [false] [.tmp 2 false] [1,2,7,8,15,23,24,25,66,67,68]) ?_)
         refine .rK (.ghs (fr 91 [(1,Sl.v 1 s18),(2,pt 1 0),(7,.int .u16 z17),(8,.int .u16 z18),(13,(zI (Int.ofNat k5))),(23,Sl.v 1 s19),(24,zI z20),(25,zI z21),(66,Sl.v 1 s20),(67,zI z22),(68,(zI (Int.ofNat k3)))]) (Aic z24 s21 s22) (.k0 [false] [.tmp 2 false] Ai3) ?_)
         refine .rK ?_
         exact⟨(s18,z17,z18,(Int.ofNat k5),s19,z20,z21,s20,z22,(AhP k3),z24,s21,s22),hm,(.k0 [false] [.tmp 2 false] Ai3)⟩
       ·refine Gs (AY z23 z22) h11 ?_
        refine .exit ?_
        exact⟨(s18,z17,z18,s19,z20,z21,z24,s21,s22),hm,(.k0 [false] [.tmp 2 false] [1,2,7,8,23,24,25])⟩
      ·refine .then (.rK (.ghs (fr 91 [(1,Sl.v 1 s4),(2,pt 1 0),(7,.int .u16 z2),(8,.int .u16 z3),(10,Sl.v 1 s12),(23,Sl.v 1 s5),(24,zI z4),(25,(zI (Int.ofNat k1))),(32,Sl.v 1 s12),(33,(Ah6 s12)),(34,(zI (0:Int)))]) (hT 2 [(Ahr z6 s6 s7)]) (.k0 [false] [.tmp 2 false] Ai4) ?_))
       refine .block (.loopM (v:=v) (λy:Sl×Int×Int×Sl×Sl×Int×Int×Sl×Int×Int×Int×Sl×Sl=>((fr 91 [(1,(Sl.v 1 y.1)),(2,pt 1 0),(7,(.int .u16 y.2.1)),(8,(.int .u16 y.2.2.1)),(10,(Sl.v 1 y.2.2.2.1)),(23,(Sl.v 1 (AaW y))),(24,(zI (Acq y))),(25,(zI (Ac3 y))),(32,(Sl.v 1 (Ac4 y))),(33,(zI (Ac5 y))),(34,(zI (Ac7 y)))]),(Ai7 (Ac8 y) (Ac9 y) (Ada y)))) (λw y=>SE pu n (Ke pu n w0) w y.1 y.2.1 y.2.2.1 y.2.2.2.1 (AaW y) (Acq y) (Ac3 y) (Ac4 y) (Ac5 y) (Ac7 y) (Ac8 y) (Ac9 y) (Ada y)) n ⟨(s4,z2,z3,s12,s5,z4,(Int.ofNat k1),s12,(Int.ofNat (Sl.n s12)),(0:Int),z6,s6,s7),hm,(.k0 [false] [.tmp 2 false] Ai4)⟩ (λ_=>rfl) ?_)
       rintro w1 ⟨s23,z25,z26,s24,s25,z27,z28,s26,z29,z30,z31,s27,s28⟩ hm
       replace hm:Wv pu n (Ke pu n w0) (SE pu n (Ke pu n w0) w1) s23 z25 z26 s24 s25 z27 z28 s26 z29 z30 z31 s27 s28=some v:=hm
       unfold Wv at hm
       refine .then (.rK (.ghs (fr 91 [(1,Sl.v 1 s23),(2,pt 1 0),(7,.int .u16 z25),(8,.int .u16 z26),(10,Sl.v 1 s24),(23,Sl.v 1 s25),(24,zI z27),(25,zI z28),(32,Sl.v 1 s26),(33,zI z29),(34,zI z30),(35,(zB (AY z30 z29)))]) (Aic z31 s27 s28) (.k0 [false] [.tmp 2 false] [1,2,7,8,10,23,24,25,32,33,34,35]) ?_))
       refine .then ?_
       replace hm:=Ag hm;rcases hm with⟨h22,hm⟩|⟨h22,hm⟩
       ·refine Gq (AY z30 z29) h22 ?_
        refine .skip (.ghs (fr 91 [(1,Sl.v 1 s23),(2,pt 1 0),(7,.int .u16 z25),(8,.int .u16 z26),(10,Sl.v 1 s24),(23,Sl.v 1 s25),(24,zI z27),(25,zI z28),(32,Sl.v 1 s26),(33,zI z29),(34,zI z30)]) (Aic z31 s27 s28) (.k0 [false] [.tmp 2 false] Ai4) ?_)
        refine .then (.block (.then ?_))
        replace⟨k6,h23,hm⟩:=Ab hm
        obtain rfl:=AR h23
        replace⟨h24,hm⟩:=Ae hm
        replace⟨x7,h25,hm⟩:=Hw hm
        refine .reg (eD (keep (Aic z31 s27 s28) (Aht k6 s26)) (AX h24) (eD (keep (Aic z31 s27 s28) (AL (Sl.cs s26) (k6*1))) (AZ h25) (eE))) ?_
        refine .ghs (fr 91 [(1,Sl.v 1 s23),(2,pt 1 0),(7,.int .u16 z25),(8,.int .u16 z26),(10,Sl.v 1 s24),(12,zI x7),(23,Sl.v 1 s25),(24,zI z27),(25,zI z28),(32,Sl.v 1 s26),(33,zI z29),(34,(zI (Int.ofNat k6)))]) (Aic z31 s27 s28) (.k0 [false] [.tmp 2 false] [1,2,7,8,10,12,23,24,25,32,33,34]) ?_
        refine .then (.block (.then ?_))
        replace⟨b0,h26,hm⟩:=bW hm
        refine .reg (eC 5 ((oo (pu 52 [(zI (0:Int)),zI x7,(zI (Aj .i64 (Int.sub (Int.ofNat (Sl.n s27)) (1:Int))))]) none λv=>some (v,(Aic z31 s27 s28)))) (AB h26) (eE)) ?_
        refine .ghs (fr 91 [(1,Sl.v 1 s23),(2,pt 1 0),(7,.int .u16 z25),(8,.int .u16 z26),(10,Sl.v 1 s24),(12,zI x7),(23,Sl.v 1 s25),(24,zI z27),(25,zI z28),(32,Sl.v 1 s26),(33,zI z29),(34,(zI (Int.ofNat k6))),(38,(zB (nt b0)))]) (Aic z31 s27 s28) (.k0 [false] [.tmp 2 false] [1,2,7,8,10,12,23,24,25,32,33,34,38]) ?_
        replace hm:=Ag hm;rcases hm with⟨h27,hm⟩|⟨h27,hm⟩
        ·refine Gq (nt b0) h27 ?_
         refine .then (.rK (.ghs (fr 91 [(4,(zI (0:Int))),(5,(zI (2:Int)))]) FD (.k0 [false] [] [4,5]) ?_))
         refine .ret ?_
         exact Fp (.tuple ⟨[(zI (0:Int)),(zI (2:Int))]⟩) hm
        ·refine Gs (nt b0) h27 ?_
         refine .then ?_
         replace⟨b3,h28,hm⟩:=bW hm
         refine .reg (eC 2 ((oo (pu 53 [.int .u16 z26,zI x7]) none λv=>some (v,(Aic z31 s27 s28)))) (AB h28) (eE)) ?_
         refine .ghs (fr 91 [(1,Sl.v 1 s23),(2,pt 1 0),(7,.int .u16 z25),(8,.int .u16 z26),(10,Sl.v 1 s24),(12,zI x7),(23,Sl.v 1 s25),(24,zI z27),(25,zI z28),(32,Sl.v 1 s26),(33,zI z29),(34,(zI (Int.ofNat k6))),(46,zB b3)]) (Aic z31 s27 s28) (.k0 [false] [.tmp 2 false] [1,2,7,8,10,12,23,24,25,32,33,34,46]) ?_
         replace hm:=Ag hm;rcases hm with⟨h29,hm⟩|⟨h29,hm⟩
         ·refine .ifT b3 (by kernel_rfl) h29 ?_
          refine .then (.rK (.ghs (fr 91 [(4,(zI (0:Int))),(5,(zI (6:Int)))]) FD (.k0 [false] [] [4,5]) ?_))
          refine .ret ?_
          exact Fp (.tuple ⟨[(zI (0:Int)),(zI (6:Int))]⟩) hm
         ·refine .ifF b3 (by kernel_rfl) h29 ?_
          refine .then ?_
          replace⟨b4,h30,hm⟩:=bW hm
          refine .reg (eC 2 ((oo (pu 53 [.int .u16 z25,zI x7]) none λv=>some (v,(Aic z31 s27 s28)))) (AB h30) (eE)) ?_
          refine .ghs (fr 91 [(1,Sl.v 1 s23),(2,pt 1 0),(7,.int .u16 z25),(8,.int .u16 z26),(10,Sl.v 1 s24),(12,zI x7),(23,Sl.v 1 s25),(24,zI z27),(25,zI z28),(32,Sl.v 1 s26),(33,zI z29),(34,(zI (Int.ofNat k6))),(50,(zB (nt b4)))]) (Aic z31 s27 s28) (.k0 [false] [.tmp 2 false] [1,2,7,8,10,12,23,24,25,32,33,34,50]) ?_
          replace hm:=Ag hm;rcases hm with⟨h31,hm⟩|⟨h31,hm⟩
          ·refine Gq (nt b4) h31 ?_
           refine .then (.rK (.ghs (fr 91 [(4,(zI (0:Int))),(5,(zI (13:Int)))]) FD (.k0 [false] [] [4,5]) ?_))
           refine .ret ?_
           exact Fp (.tuple ⟨[(zI (0:Int)),(zI (13:Int))]⟩) hm
          ·refine Gs (nt b4) h31 ?_
           refine .skip (.ghs (fr 91 [(1,Sl.v 1 s23),(2,pt 1 0),(7,.int .u16 z25),(8,.int .u16 z26),(10,Sl.v 1 s24),(12,zI x7),(23,Sl.v 1 s25),(24,zI z27),(25,zI z28),(32,Sl.v 1 s26),(33,zI z29),(34,(zI (Int.ofNat k6)))]) (Aic z31 s27 s28) (.k0 [false] [.tmp 2 false] [1,2,7,8,10,12,23,24,25,32,33,34]) ?_)
           replace⟨k7,h32,hm⟩:=Ab hm
           obtain rfl:=AR h32
           refine .rK (.ghs (fr 91 [(1,Sl.v 1 s23),(2,pt 1 0),(7,.int .u16 z25),(8,(.int .u16 (jF .u16 z26 (QW .u16 (1:Int) k7)))),(10,Sl.v 1 s24),(23,Sl.v 1 s25),(24,zI z27),(25,zI z28),(32,Sl.v 1 s26),(33,zI z29),(34,(zI (Int.ofNat k6)))]) (Aic z31 s27 s28) (.k0 [false] [.tmp 2 false] Ai4) ?_)
           refine .rK ?_
           exact⟨(s23,z25,(jF .u16 z26 (QW .u16 (1:Int) k7)),s24,s25,z27,z28,s26,z29,(AhP k6),z31,s27,s28),hm,(.k0 [false] [.tmp 2 false] Ai4)⟩
       ·refine Gs (AY z30 z29) h22 ?_
        refine .exit ?_
        exact⟨(s23,z25,z26,s24,s25,z27,z28,z31,s27,s28),hm,(.k0 [false] [.tmp 2 false] [1,2,7,8,10,23,24,25])⟩
   ·refine Gs (AY z5 z4) h3 ?_
    refine .exit ?_
    exact⟨(s4,z2,z3),hm,(.k0 [false] [] [1,7,8])⟩
end
end Go.MnSM
