/- Made from wip. -/
import Derived.Test.YtlgmapibifphaaaDoorMnWMod1x

set_option maxRecDepth 100000
set_option maxHeartbeats 20000000
set_option linter.unusedVariables false
namespace Go.MnWM
open Go.Sp Go.MnW
noncomputable section
def QK (pu:Af) (n:Nat) (z0:Int):OV:=
 (some (.int .u16 z0))
def QL (pu:Af) (n:Nat) (ih0:Int→Sl→Int→Int→Int→Sl→Sl→OV) (z0:Int) (s0:Sl) (z1 z2 z3:Int) (s1 s2:Sl):OV:=
 (ih0 z0 s0 z1 (Aj .i64 (Int.add z2 (1:Int))) z3 s1 s2)
def QM (pu:Af) (n:Nat) (ih0:Int→Sl→Int→Int→Int→Sl→Sl→OV) (z0:Int) (s0:Sl) (z1 z2 z3:Int) (s1 s2:Sl):OV:=
 (bb (AY z2 z1) (oo (EA z2) none fun k1=>(bb (an (Nat.blt k1 (Sl.n s0)) true) (oo (AL (Sl.cs s0) (k1*1)) none fun v0=>(oo (Bi .i64 v0) none fun x0=>(bb (an (Nat.blt k1 (Sl.n s2)) true) (oo (AL (Sl.cs s2) (k1*1)) none fun v1=>(oo (Bi .i64 v1) none fun x1=>(bb (nt (Bd x0 x1)) (QL pu n ih0 (jF .u16 z0 (QW .u16 (1:Int) k1)) s0 z1 (Int.ofNat k1) z3 s1 s2) (QL pu n ih0 z0 s0 z1 (Int.ofNat k1) z3 s1 s2)))) none))) none)) (QK pu n z0))
def OE (pu:Af) (n w:Nat):Int→Sl→Int→Int→Int→Sl→Sl→OV:=
 Nat.rec (motive:=fun _=>Int→Sl→Int→Int→Int→Sl→Sl→OV) (fun _ _ _ _ _ _ _=>none) (fun _ ih0=>QM pu n ih0) w
def sU (pu:Af) (n:Nat) (x0:Int) (s0 s1:Sl):OV:=
 (OE pu n n (0:Int) s0 (Int.ofNat (Sl.n s0)) (0:Int) x0 s0 s1)
def xH (pu:Af) (n:Nat) (args:LV):OV:=
 (ll args none fun a0 args=>(ll args (oo (Bt a0) none fun l0=>(ll l0 none fun v0 l0=>(ll l0 none fun v1 l0=>(ll l0 none fun v2 l0=>(ll l0 (oo (Bi .i64 v0) none fun x0=>(oo (Bj 1 v1) none fun s0=>(oo (Bj 1 v2) none fun s1=>(sU pu n x0 s0 s1)))) fun _ _=>none))))) fun _ _=>none))
theorem sV (pu:Af) (n:Nat) (z0:Int) {v:Value} (hm:QK pu n z0=some v):BN tt (Bb tabs Iq pu (inl pu)) 1 V4 (fr 27 [(3,.int .u16 z0)]) FM (Fin tt 1 [.tmp 2] v):=by
 unfold QK at hm
 refine .then (.rK (.ghs (fr 27 [(2,.int .u16 z0)]) FM (.k0 [false] [] [2]) ?_))
 refine .ret ?_
 exact FK (.int .u16 z0) hm
theorem r51 {call:A8} (pu:Af) (n:Nat) (hcall:call=Bb tabs Iq pu (inl pu)) {args:LV} {v:Value} (hm:xH pu n args=some v) (_:∀ x∈args,closed2 x=true):args.length≤27∧BN tt call 1 PI (Fr.made 27 args) (Ao tabs) (Fin tt 1 [.tmp 2] v):=by
 subst hcall
 unfold xH at hm
 replace hm:=Ad hm;obtain⟨a0,args_0,rfl,hm⟩:=hm
 replace hm:=AC hm;obtain⟨rfl,hm⟩:=hm
 replace hm:=BG hm;obtain⟨l0,rfl,hm⟩:=hm
 replace hm:=Ad hm;obtain⟨v0,l17866_0,rfl,hm⟩:=hm
 replace hm:=Ad hm;obtain⟨v1,l17866_1,rfl,hm⟩:=hm
 replace hm:=Ad hm;obtain⟨v2,l17866_2,rfl,hm⟩:=hm
 replace hm:=AC hm;obtain⟨rfl,hm⟩:=hm
 replace hm:=Ai hm;obtain⟨x0,rfl,hm⟩:=hm
 replace hm:=Al hm;obtain⟨s0,rfl,hm⟩:=hm
 replace hm:=Al hm;obtain⟨s1,rfl,hm⟩:=hm
 unfold sU at hm
 refine⟨by simp,?_⟩
 refine .same (F':=(fr 27 [(0,(.agg ⟨[zI x0,Sl.v 1 s0,Sl.v 1 s1]⟩))])) (H':=FM) (by kernel_rfl) (by kernel_rfl) ?_
 refine .then (.rK (.ghs (fr 27 [(1,pt 1 0)]) (hT 2 [(oC [zI x0,Sl.v 1 s0,Sl.v 1 s1])]) (.k0 [false] [.tmp 1 false] [1]) ?_))
 refine .then (.rK (.ghs (fr 27 [(1,pt 1 0),(3,(.int .u16 (0:Int)))]) (hT 2 [(oC [zI x0,Sl.v 1 s0,Sl.v 1 s1])]) (.k0 [false] [.tmp 1 false] [1,3]) ?_))
 refine .join (v:=v) (fun y:Int=>((fr 27 [(3,.int .u16 y)]),FM)) (fun y=>QK pu n y) ?_ ?_
 ·rintro z0 hm
  exact sV pu n z0 hm
 ·refine .then (.rK (.ghs (fr 27 [(1,pt 1 0),(3,(.int .u16 (0:Int))),(7,Sl.v 1 s0),(8,(zI (Int.ofNat (Sl.n s0)))),(9,(zI (0:Int)))]) (hT 2 [(oC [zI x0,Sl.v 1 s0,Sl.v 1 s1])]) (.k0 [false] [.tmp 1 false] [1,3,7,8,9]) ?_))
  refine .block (.loopM (v:=v) (fun y:Int×Sl×Int×Int×Int×Sl×Sl=>((fr 27 [(1,pt 1 0),(3,(.int .u16 y.1)),(7,(Sl.v 1 y.2.1)),(8,(zI y.2.2.1)),(9,(zI y.2.2.2.1))]),(hT 2 [(oC [(zI y.2.2.2.2.1),(Sl.v 1 y.2.2.2.2.2.1),(Sl.v 1 y.2.2.2.2.2.2)])]))) (fun w y=>OE pu n w y.1 y.2.1 y.2.2.1 y.2.2.2.1 y.2.2.2.2.1 y.2.2.2.2.2.1 y.2.2.2.2.2.2) n ⟨((0:Int),s0,(Int.ofNat (Sl.n s0)),(0:Int),x0,s0,s1),hm,(.k0 [false] [.tmp 1 false] [1,3,7,8,9])⟩ (fun _=>rfl) ?_)
  rintro w0 ⟨z1,s2,z2,z3,z4,s3,s4⟩ hm
  replace hm:QM pu n (OE pu n w0) z1 s2 z2 z3 z4 s3 s4=some v:=hm
  unfold QM at hm
  refine .then (.rK (.ghs (fr 27 [(1,pt 1 0),(3,.int .u16 z1),(7,Sl.v 1 s2),(8,zI z2),(9,zI z3),(10,(zB (AY z3 z2)))]) (hT 2 [(oC [zI z4,Sl.v 1 s3,Sl.v 1 s4])]) (.k0 [false] [.tmp 1 false] [1,3,7,8,9,10]) ?_))
  refine .then ?_
  replace hm:=Ag hm;rcases hm with⟨h0,hm⟩ | ⟨h0,hm⟩
  ·refine Hy (AY z3 z2) h0 ?_
   refine .skip (.ghs (fr 27 [(1,pt 1 0),(3,.int .u16 z1),(7,Sl.v 1 s2),(8,zI z2),(9,zI z3)]) (hT 2 [(oC [zI z4,Sl.v 1 s3,Sl.v 1 s4])]) (.k0 [false] [.tmp 1 false] [1,3,7,8,9]) ?_)
   refine .join (v:=v) (fun y:Int×Sl×Int×Int×Int×Sl×Sl=>((fr 27 [(1,pt 1 0),(3,(.int .u16 y.1)),(7,(Sl.v 1 y.2.1)),(8,(zI y.2.2.1)),(9,(zI y.2.2.2.1))]),(hT 2 [(oC [(zI y.2.2.2.2.1),(Sl.v 1 y.2.2.2.2.2.1),(Sl.v 1 y.2.2.2.2.2.2)])]))) (fun y=>QL pu n (OE pu n w0) y.1 y.2.1 y.2.2.1 y.2.2.2.1 y.2.2.2.2.1 y.2.2.2.2.2.1 y.2.2.2.2.2.2) ?_ ?_
   ·rintro⟨z5,s5,z6,z7,z8,s6,s7⟩ hm
    unfold QL at hm
    refine .rK ?_
    exact⟨(z5,s5,z6,(Aj .i64 (Int.add z7 (1:Int))),z8,s6,s7),hm,(.k0 [false] [.tmp 1 false] [1,3,7,8,9])⟩
   ·refine .block (.then ?_)
    replace hm:=Ab hm;obtain⟨k1,h1,hm⟩:=hm
    obtain rfl:=AR h1
    replace hm:=Ae hm;obtain⟨h2,hm⟩:=hm
    replace hm:=Ke hm;obtain⟨x1,h3,hm⟩:=hm
    refine .reg (eC 1 (keep (hT 2 [(oC [zI z4,Sl.v 1 s3,Sl.v 1 s4])]) (bb (an (Nat.blt k1 (Sl.n s2)) true) (some (Cv (k1*1) (Sl.cs s2))) none)) (AX h2) (eD (keep (hT 2 [(oC [zI z4,Sl.v 1 s3,Sl.v 1 s4])]) (AL (Sl.cs s2) (k1*1))) (AZ h3) (eE))) ?_
    refine .ghs (fr 27 [(1,pt 1 0),(3,.int .u16 z1),(4,(zI (Int.ofNat k1))),(5,zI x1),(7,Sl.v 1 s2),(8,zI z2),(9,(zI (Int.ofNat k1)))]) (hT 2 [(oC [zI z4,Sl.v 1 s3,Sl.v 1 s4])]) (.k0 [false] [.tmp 1 false] [1,3,4,5,7,8,9]) ?_
    refine .then ?_
    replace hm:=Ae hm;obtain⟨h4,hm⟩:=hm
    replace hm:=Ke hm;obtain⟨x2,h5,hm⟩:=hm
    refine .reg (eC 4 (keep (hT 2 [(oC [zI z4,Sl.v 1 s3,Sl.v 1 s4])]) (bb (an (Nat.blt k1 (Sl.n s4)) true) (some (Cv (k1*1) (Sl.cs s4))) none)) (AX h4) (eD (keep (hT 2 [(oC [zI z4,Sl.v 1 s3,Sl.v 1 s4])]) (AL (Sl.cs s4) (k1*1))) (AZ h5) (eE))) ?_
    refine .ghs (fr 27 [(1,pt 1 0),(3,.int .u16 z1),(4,(zI (Int.ofNat k1))),(7,Sl.v 1 s2),(8,zI z2),(9,(zI (Int.ofNat k1))),(20,(zB (nt (Bd x1 x2))))]) (hT 2 [(oC [zI z4,Sl.v 1 s3,Sl.v 1 s4])]) (.k0 [false] [.tmp 1 false] [1,3,4,7,8,9,20]) ?_
    replace hm:=Ag hm;rcases hm with⟨h6,hm⟩ | ⟨h6,hm⟩
    ·refine Hy (nt (Bd x1 x2)) h6 ?_
     refine .rK ?_
     exact⟨((jF .u16 z1 (QW .u16 (1:Int) k1)),s2,z2,(Int.ofNat k1),z4,s3,s4),hm,(.k0 [false] [.tmp 1 false] [1,3,7,8,9])⟩
    ·refine Hz (nt (Bd x1 x2)) h6 ?_
     refine .skip ?_
     exact⟨(z1,s2,z2,(Int.ofNat k1),z4,s3,s4),hm,(.k0 [false] [.tmp 1 false] [1,3,7,8,9])⟩
  ·refine Hz (AY z3 z2) h0 ?_
   refine .exit ?_
   exact⟨z1,hm,(.k0 [false] [] [3])⟩
def QN (pu:Af) (n:Nat) (b0:Bool):OV:=
 (some (.bool b0))
def sZ (pu:Af) (n:Nat) (x0 x1 x2:Int):OV:=
 (bb (nt (AY x1 x0)) (QN pu n (nt (AY x2 x1))) (QN pu n false))
def xI (pu:Af) (n:Nat) (args:LV):OV:=
 (ll args none fun a0 args=>(ll args none fun a1 args=>(ll args none fun a2 args=>(ll args (oo (Bi .i64 a0) none fun x0=>(oo (Bi .i64 a1) none fun x1=>(oo (Bi .i64 a2) none fun x2=>(sZ pu n x0 x1 x2)))) fun _ _=>none))))
theorem tC (pu:Af) (n:Nat) (b0:Bool) {v:Value} (hm:QN pu n b0=some v):BN tt (Bb tabs Iq pu (inl pu)) 1 .ret (fr 15 [(6,zB b0)]) FM (Fin tt 1 [.tmp 6] v):=by
 unfold QN at hm
 refine .ret ?_
 exact FK (zB b0) hm
theorem r52 {call:A8} (pu:Af) (n:Nat) (hcall:call=Bb tabs Iq pu (inl pu)) {args:LV} {v:Value} (hm:xI pu n args=some v) (_:∀ x∈args,closed2 x=true):args.length≤15∧BN tt call 1 Uf (Fr.made 15 args) (Ao tabs) (Fin tt 1 [.tmp 6] v):=by
 subst hcall
 unfold xI at hm
 replace hm:=Ad hm;obtain⟨a0,args_0,rfl,hm⟩:=hm
 replace hm:=Ad hm;obtain⟨a1,args_1,rfl,hm⟩:=hm
 replace hm:=Ad hm;obtain⟨a2,args_2,rfl,hm⟩:=hm
 replace hm:=AC hm;obtain⟨rfl,hm⟩:=hm
 replace hm:=Ai hm;obtain⟨x0,rfl,hm⟩:=hm
 replace hm:=Ai hm;obtain⟨x1,rfl,hm⟩:=hm
 replace hm:=Ai hm;obtain⟨x2,rfl,hm⟩:=hm
 unfold sZ at hm
 refine⟨by simp,?_⟩
 refine .same (F':=(fr 15 [(0,zI x0),(1,zI x1),(2,zI x2)])) (H':=FM) (by kernel_rfl) (by kernel_rfl) ?_
 refine .then (.rK (.ghs (fr 15 [(0,zI x0),(1,zI x1),(2,zI x2)]) FM (.k0 [false] [] [0,1,2]) ?_))
 refine .join (v:=v) (fun y:Bool=>((fr 15 [(6,zB y)]),FM)) (fun y=>QN pu n y) ?_ ?_
 ·rintro b0 hm
  exact tC pu n b0 hm
 ·replace hm:=Ag hm;rcases hm with⟨h0,hm⟩ | ⟨h0,hm⟩
  ·refine .reg (eC 2 (some ((zB (nt (AY x1 x0))),FM)) (show _=some ((zB true),_) from (by rw[show (nt (AY x1 x0))=true from h0])) (eE)) ?_
   exact⟨(nt (AY x2 x1)),hm,(.k0 [false] [] [6])⟩
  ·refine .reg (eC 2 (some ((zB (nt (AY x1 x0))),FM)) (show _=some ((zB false),_) from (by rw[show (nt (AY x1 x0))=false from h0])) (eE)) ?_
   exact⟨false,hm,(.k0 [false] [] [6])⟩

def XR (pu:Af) (n:Nat) (x0 x1:Int):OV:=
 (oo (EA x1) none fun k1=>(some (.bool (Bd (Np .u16 (G6 .u16 x0 k1) (1:Int)) (1:Int)))))
def xJ (pu:Af) (n:Nat) (args:LV):OV:=
 (ll args none fun a0 args=>(ll args none fun a1 args=>(ll args (oo (Bi .u16 a0) none fun x0=>(oo (Bi .i64 a1) none fun x1=>(XR pu n x0 x1))) fun _ _=>none)))
theorem r53 {call:A8} (pu:Af) (n:Nat) (hcall:call=Bb tabs Iq pu (inl pu)) {args:LV} {v:Value} (hm:xJ pu n args=some v) (_:∀ x∈args,closed2 x=true):args.length≤10∧BN tt call 1 Ug (Fr.made 10 args) (Ao tabs) (Fin tt 1 [.tmp 4] v):=by
 subst hcall
 unfold xJ at hm
 replace hm:=Ad hm;obtain⟨a0,args_0,rfl,hm⟩:=hm
 replace hm:=Ad hm;obtain⟨a1,args_1,rfl,hm⟩:=hm
 replace hm:=AC hm;obtain⟨rfl,hm⟩:=hm
 replace hm:=Ai hm;obtain⟨x0,rfl,hm⟩:=hm
 replace hm:=Ai hm;obtain⟨x1,rfl,hm⟩:=hm
 unfold XR at hm
 refine⟨by simp,?_⟩
 refine .same (F':=(fr 10 [(0,.int .u16 x0),(1,zI x1)])) (H':=FM) (by kernel_rfl) (by kernel_rfl) ?_
 refine .then (.rK (.ghs (fr 10 [(0,.int .u16 x0),(1,zI x1)]) FM (.k0 [false] [] [0,1]) ?_))
 refine .then ?_
 replace hm:=Ab hm;obtain⟨k1,h0,hm⟩:=hm
 obtain rfl:=AR h0
 refine .rK (.ghs (fr 10 [(4,(zB (Bd (Np .u16 (G6 .u16 x0 k1) (1:Int)) (1:Int))))]) FM (.k0 [false] [] [4]) ?_)
 refine .ret ?_
 exact FK (zB (Bd (Np .u16 (G6 .u16 x0 k1) (1:Int)) (1:Int))) hm
def Ul (pu:Af) (n n0 c0:Nat) (q0:LV):OV:=
 (bb (Au Ah q0) (bb (an (Nat.ble (0+n0*1) (len q0)) (Au Ah (Aq (n0*1) (Am 0 q0)))) (some (Sl.v 1 (Sl.mk n0 0 (Aq (n0*1) (Am 0 q0))))) none) none)
def Wq (pu:Af) (n:Nat) (ih0:Int→Nat→Nat→LV→OV) (z0:Int) (n0 c0:Nat) (q0:LV):OV:=
 (bb (Au Ah q0) (bb (nt (Bd z0 (0:Int))) (oo (pu 67 [.int .u16 z0]) none fun v0=>(oo (Bi .i64 v0) none fun x0=>(bb (GV 1 8 n0 c0 1 q0) (bb (Au Ah (Br (Am 0 q0) [.int .i64 x0])) (ih0 (Np .u16 z0 (Aj .u16 (Int.sub z0 (1:Int)))) (n0+1) (2*(n0+1)+bb false 1 0) (Br (Am 0 q0) [.int .i64 x0])) none) none))) (Ul pu n n0 c0 q0)) none)
def Ws (pu:Af) (n w:Nat):Int→Nat→Nat→LV→OV:=
 Nat.rec (motive:=fun _=>Int→Nat→Nat→LV→OV) (fun _ _ _ _=>none) (fun _ ih0=>Wq pu n ih0) w
def tF (pu:Af) (n:Nat) (x0:Int):OV:=
 (Ws pu n n x0 0 0 ([]:LV))
def xK (pu:Af) (n:Nat) (args:LV):OV:=
 (ll args none fun a0 args=>(ll args (oo (Bi .u16 a0) none fun x0=>(tF pu n x0)) fun _ _=>none))
theorem tH (pu:Af) (n n0 c0:Nat) (q0:LV) {v:Value} (hm:Ul pu n n0 c0 q0=some v):BN tt (Bb tabs Iq pu (inl pu)) 1 V5 (fr 16 [(3,sc 1 0 1 n0 c0)]) (hT 2 [oC q0]) (Fin tt 1 [.tmp 2] v):=by
 unfold Ul at hm
 refine .then (.rK ?_)
 replace hm:=Ae hm;obtain⟨h0,hm⟩:=hm
 refine .ghs (fr 16 [(2,sc 1 0 1 n0 c0)]) (hT 2 [oC q0]) (.k [1] [false] [.tmp 2 false] [2] ⟨DL h0,trivial⟩) ?_
 replace hm:=Ae hm;obtain⟨h1,hm⟩:=hm
 refine .ghs (Fr.puts (fr 16 [(2,sc 1 0 1 n0 c0)]) [(2,(Sl.v 1 (Sl.mk n0 0 (Aq (n0*1) (Am 0 q0)))))]) (hT 2 [.dead]) (.freezeC 1 2 1 (an (Nat.ble (0+n0*1) (len q0)) (Au Ah (Aq (n0*1) (Am 0 q0)))) (F1:=(Fr.puts (fr 16 [(2,sc 1 0 1 n0 c0)]) [(2,(Sl.v 1 (Sl.mk n0 0 (Aq (n0*1) (Am 0 q0)))))])) (H1:=(hT 2 [.dead])) (by kernel_rfl) (by kernel_rfl) h1 (E9.id _ _)) ?_
 refine .ret ?_
 exact FK (Sl.v 1 (Sl.mk n0 0 (Aq (n0*1) (Am 0 q0)))) hm
theorem r62 {call:A8} (pu:Af) (n:Nat) (hcall:call=Bb tabs Iq pu (inl pu)) {args:LV} {v:Value} (hm:xK pu n args=some v) (_:∀ x∈args,closed2 x=true):args.length≤16∧BN tt call 1 PK (Fr.made 16 args) (Ao tabs) (Fin tt 1 [.tmp 2] v):=by
 subst hcall
 unfold xK at hm
 replace hm:=Ad hm;obtain⟨a0,args_0,rfl,hm⟩:=hm
 replace hm:=AC hm;obtain⟨rfl,hm⟩:=hm
 replace hm:=Ai hm;obtain⟨x0,rfl,hm⟩:=hm
 unfold tF at hm
 refine⟨by simp,?_⟩
 refine .same (F':=(fr 16 [(0,.int .u16 x0)])) (H':=FM) (by kernel_rfl) (by kernel_rfl) ?_
 refine .then (.rK (.ghs (fr 16 [(0,.int .u16 x0)]) FM (.k0 [false] [] [0]) ?_))
 refine .then (.rK (.ghs (fr 16 [(0,.int .u16 x0),(3,(.slice none 0 0))]) FM (.k0 [false] [] [0,3]) ?_))
 refine .join (v:=v) (fun y:Nat×Nat×LV=>((fr 16 [(3,(sc 1 0 1 y.1 y.2.1))]),(hT 2 [(oC y.2.2)]))) (fun y=>Ul pu n y.1 y.2.1 y.2.2) ?_ ?_
 ·rintro⟨n0,c0,q0⟩ hm
  exact tH pu n n0 c0 q0 hm
 ·refine .block (.loopM (v:=v) (fun y:Int×Nat×Nat×LV=>((fr 16 [(0,(.int .u16 y.1)),(3,(sc 1 0 1 y.2.1 y.2.2.1))]),(hT 2 [(oC y.2.2.2)]))) (fun w y=>Ws pu n w y.1 y.2.1 y.2.2.1 y.2.2.2) n ⟨(x0,0,0,([]:LV)),hm,(.thaw 3 1 (by kernel_rfl) (.k0 [false] [.tmp 3 false] [0,3]))⟩ (fun _=>rfl) ?_)
  rintro w0 ⟨z0,n1,c1,q1⟩ hm
  replace hm:Wq pu n (Ws pu n w0) z0 n1 c1 q1=some v:=hm
  unfold Wq at hm
  refine .then (.then (.rK ?_))
  replace hm:=Ae hm;obtain⟨h0,hm⟩:=hm
  refine .ghs (fr 16 [(0,.int .u16 z0),(3,sc 1 0 1 n1 c1),(5,(zB (nt (Bd z0 (0:Int)))))]) (hT 2 [oC q1]) (.k [1] [false] [.tmp 3 false] [0,3,5] ⟨DL h0,trivial⟩) ?_
  replace hm:=Ag hm;rcases hm with⟨h1,hm⟩ | ⟨h1,hm⟩
  ·refine Hy (nt (Bd z0 (0:Int))) h1 ?_
   refine .skip (.ghs (fr 16 [(0,.int .u16 z0),(3,sc 1 0 1 n1 c1)]) (hT 2 [oC q1]) (.k [1] [false] [.tmp 3 false] [0,3] ⟨DL h0,trivial⟩) ?_)
   refine .then (.block ?_)
   replace hm:=Ke hm;obtain⟨x1,h2,hm⟩:=hm
   replace hm:=Ae hm;obtain⟨h3,hm⟩:=hm
   refine .reg (eC 2 ((oo (pu 67 [.int .u16 z0]) none fun v=>some (v,(hT 2 [oC q1])))) (AB h2) (eC 1 (Oc 1 8 n1 c1 1 1 q1 [zI x1] [] (hT 3 [oC q1,(oC [zI x1])])) (I1 h3) (eE))) ?_
   replace hm:=Ae hm;obtain⟨h4,hm⟩:=hm
   refine .ghs (fr 16 [(0,.int .u16 z0),(3,(sc 1 0 1 (n1+1) (d2 (n1+1))))]) (hT 2 [(oC (Br (Am 0 q1) [zI x1]))]) (.k [3] [false] [.tmp 3 false] [0,3] ⟨DL h4,trivial⟩) ?_
   refine .rK ?_
   exact⟨((Np .u16 z0 (Aj .u16 (Int.sub z0 (1:Int)))),(n1+1),(d2 (n1+1)),(Br (Am 0 q1) [zI x1])),hm,(.k [1] [false] [.tmp 3 false] [0,3] ⟨DL h4,trivial⟩)⟩
  ·refine Hz (nt (Bd z0 (0:Int))) h1 ?_
   refine .exit ?_
   exact⟨(n1,c1,q1),hm,(.k [1] [false] [.tmp 3 false] [3] ⟨DL h0,trivial⟩)⟩

def XT (pu:Af) (n:Nat) (x0:Int):OV:=
 (oo (EA (G6 .u16 x0 8)) none fun k1=>(oo (XM[k1]?) none fun c0=>(oo (EA (Np .u16 x0 (255:Int))) none fun k2=>(oo (XM[k2]?) none fun c1=>(some (.int .i64 (Aj .i64 (Aj .u8 (Int.add (Int.ofNat (UInt8.toNat c0)) (Int.ofNat (UInt8.toNat c1)))))))))))
def m64 (pu:Af) (n:Nat) (args:LV):OV:=
 (ll args none fun a0 args=>(ll args (oo (Bi .u16 a0) none fun x0=>(XT pu n x0)) fun _ _=>none))
theorem r64 {call:A8} (pu:Af) (n:Nat) (hcall:call=Bb tabs Iq pu (inl pu)) {args:LV} {v:Value} (hm:m64 pu n args=some v) (_:∀ x∈args,closed2 x=true):args.length≤11∧BN tt call 1 Uh (Fr.made 11 args) (Ao tabs) (Fin tt 1 [.tmp 2] v):=by
 subst hcall
 unfold m64 at hm
 replace hm:=Ad hm;obtain⟨a0,args_0,rfl,hm⟩:=hm
 replace hm:=AC hm;obtain⟨rfl,hm⟩:=hm
 replace hm:=Ai hm;obtain⟨x0,rfl,hm⟩:=hm
 unfold XT at hm
 refine⟨by simp,?_⟩
 refine .same (F':=(fr 11 [(0,.int .u16 x0)])) (H':=FM) (by kernel_rfl) (by kernel_rfl) ?_
 refine .then (.rK (.ghs (fr 11 [(0,.int .u16 x0)]) FM (.k0 [false] [] [0]) ?_))
 refine .then ?_
 replace hm:=Ab hm;obtain⟨k1,h0,hm⟩:=hm
 replace hm:=Ab hm;obtain⟨c0,h1,hm⟩:=hm
 replace hm:=Ab hm;obtain⟨k2,h2,hm⟩:=hm
 replace hm:=Ab hm;obtain⟨c1,h3,hm⟩:=hm
 refine .reg (eC 1 (some ((.int .u16 (G6 .u16 x0 8)),FM)) (show _=some ((.int .u16 (Int.ofNat k1)),_) from (by rw[AR h0])) (eD (keep FM (oo (XM[k1]?) none fun b=>iv .u8 (.ofNat b.toNat))) (nE h1) (eC 1 (some ((.int .u16 (Np .u16 x0 (255:Int))),FM)) (show _=some ((.int .u16 (Int.ofNat k2)),_) from (by rw[AR h2])) (eD (keep FM (oo (XM[k2]?) none fun b=>iv .u8 (.ofNat b.toNat))) (nE h3) (eE))))) ?_
 refine .ghs (fr 11 [(2,(zI (Aj .i64 (Aj .u8 (Int.add (Int.ofNat (UInt8.toNat c0)) (Int.ofNat (UInt8.toNat c1)))))))]) FM (.k0 [false] [] [2]) ?_
 refine .ret ?_
 exact FK (zI (Aj .i64 (Aj .u8 (Int.add (Int.ofNat (UInt8.toNat c0)) (Int.ofNat (UInt8.toNat c1)))))) hm

def XU (pu:Af) (n:Nat) (x0:Int):OV:=
 (bb (Bd x0 (0:Int)) (some (.int .i64 (16:Int))) (oo (EA (G6 .u32 (Aj .u32 (Int.mul (Aj .u32 (Np .u16 x0 (Aj .u16 (Int.sub (.ofNat 0) x0)))) (125613361:Int))) 27)) none fun k1=>(bb (Nat.blt k1 32) (oo (AL PN (0+k1*1)) none fun v0=>(oo (Bi .u8 v0) none fun x1=>(some (.int .i64 (Aj .i64 x1))))) none)))
def xL (pu:Af) (n:Nat) (args:LV):OV:=
 (ll args none fun a0 args=>(ll args (oo (Bi .u16 a0) none fun x0=>(XU pu n x0)) fun _ _=>none))
theorem Um {call:A8} (pu:Af) (n:Nat) (hcall:call=Bb tabs Iq pu (inl pu)) {args:LV} {v:Value} (hm:xL pu n args=some v) (_:∀ x∈args,closed2 x=true):args.length≤15∧BN tt call 1 Ui (Fr.made 15 args) (Ao tabs) (Fin tt 1 [.tmp 2] v):=by
 subst hcall
 unfold xL at hm
 replace hm:=Ad hm;obtain⟨a0,args_0,rfl,hm⟩:=hm
 replace hm:=AC hm;obtain⟨rfl,hm⟩:=hm
 replace hm:=Ai hm;obtain⟨x0,rfl,hm⟩:=hm
 unfold XU at hm
 refine⟨by simp,?_⟩
 refine .same (F':=(fr 15 [(0,.int .u16 x0)])) (H':=FM) (by kernel_rfl) (by kernel_rfl) ?_
 refine .then (.rK (.ghs (fr 15 [(0,.int .u16 x0)]) FM (.k0 [false] [] [0]) ?_))
 refine .then (.then (.rK (.ghs (fr 15 [(0,.int .u16 x0),(4,(zB (Bd x0 (0:Int))))]) FM (.k0 [false] [] [0,4]) ?_)))
 replace hm:=Ag hm;rcases hm with⟨h0,hm⟩ | ⟨h0,hm⟩
 ·refine Hy (Bd x0 (0:Int)) h0 ?_
  refine .then (.rK (.ghs (fr 15 [(2,(zI (16:Int)))]) FM (.k0 [false] [] [2]) ?_))
  refine .ret ?_
  exact FK (zI (16:Int)) hm
 ·refine Hz (Bd x0 (0:Int)) h0 ?_
  refine .skip (.ghs (fr 15 [(0,.int .u16 x0)]) FM (.k0 [false] [] [0]) ?_)
  refine .then ?_
  replace hm:=Ab hm;obtain⟨k1,h1,hm⟩:=hm
  replace hm:=Ae hm;obtain⟨h2,hm⟩:=hm
  replace hm:=Ke hm;obtain⟨x1,h3,hm⟩:=hm
  refine .reg (eC 6 (some ((.int .u32 (G6 .u32 (Aj .u32 (Int.mul (Aj .u32 (Np .u16 x0 (Aj .u16 (Int.sub (.ofNat 0) x0)))) (125613361:Int))) 27)),FM)) (show _=some ((.int .u32 (Int.ofNat k1)),_) from (by rw[AR h1])) (eD (keep FM (bb (Nat.blt k1 32) (some (.pointer (some ⟨0,(0+k1*1),none⟩))) none)) (AX h2) (eD (keep FM (AL PN (0+k1*1))) (AZ h3) (eE)))) ?_
  refine .ghs (fr 15 [(2,(zI (Aj .i64 x1)))]) FM (.k0 [false] [] [2]) ?_
  refine .ret ?_
  exact FK (zI (Aj .i64 x1)) hm
def QO (pu:Af) (n:Nat) (q0:LV):OV:=
 (bb (Nat.ble (0+5) (len q0)) (oo (AL q0 0) none fun v0=>(oo (Bi .i64 v0) none fun x0=>(oo (AL q0 (0+1)) none fun v1=>(oo (Bi .i64 v1) none fun x1=>(oo (AL q0 ((0+1)+1)) none fun v2=>(oo (Bi .i64 v2) none fun x2=>(oo (AL q0 (((0+1)+1)+1)) none fun v3=>(oo (Bi .i64 v3) none fun x3=>(oo (AL q0 ((((0+1)+1)+1)+1)) none fun v4=>(oo (Bi .i64 v4) none fun x4=>(some (.bool (bq true (an (Bd x0 (0:Int)) (an (Bd x1 (0:Int)) (an (Bd x2 (0:Int)) (an (Bd x3 (0:Int)) (an (Bd x4 (0:Int)) true)))))))))))))))))) none)
def O5 (pu:Af) (n:Nat) (ih0:Int→Int→Int→Int→Sl→Sl→LV→OV) (z0 z1 z2 z3:Int) (s0 s1:Sl) (q0:LV):OV:=
 (bb (Au Ah q0) (ih0 z0 z1 (Aj .i64 (Int.add z2 (1:Int))) z3 s0 s1 q0) none)
def QR (pu:Af) (n:Nat) (ih0:Int→Int→Int→Int→Sl→Sl→LV→OV) (z0 z1 z2 z3:Int) (s0 s1:Sl) (q0:LV):OV:=
 (bb (Au Ah q0) (bb (AY z2 z1) (oo (pu 53 [.int .u16 z0,.int .i64 z2]) none fun v0=>(oo (Bf v0) none fun b0=>(bb b0 (oo (EA z2) none fun k1=>(bb (an (Nat.blt k1 (Sl.n s0)) true) (oo (AL (Sl.cs s0) (k1*1)) none fun v1=>(oo (Bi .i64 v1) none fun x0=>(oo (EA x0) none fun k2=>(bb (Nat.blt k2 5) (oo (AL q0 (0+k2*1)) none fun v2=>(oo (Bi .i64 v2) none fun x1=>(bb (Nat.blt k2 5) (bb (an (Nat.ble ((0+k2*1)+1) (len q0)) true) (bb (Au Ah (BM ([(.int .i64 (Aj .i64 (Int.add x1 (1:Int))))]:LV) (0+k2*1) q0)) (bb (an (Nat.blt k1 (Sl.n s1)) true) (oo (AL (Sl.cs s1) (k1*1)) none fun v3=>(oo (Bi .i64 v3) none fun x2=>(oo (EA x2) none fun k3=>(bb (Nat.blt k3 5) (oo (AL (BM ([(.int .i64 (Aj .i64 (Int.add x1 (1:Int))))]:LV) (0+k2*1) q0) (0+k3*1)) none fun v4=>(oo (Bi .i64 v4) none fun x3=>(bb (Nat.blt k3 5) (bb (an (Nat.ble ((0+k3*1)+1) (len (BM ([(.int .i64 (Aj .i64 (Int.add x1 (1:Int))))]:LV) (0+k2*1) q0))) true) (bb (Au Ah (BM ([(.int .i64 (Aj .i64 (Int.sub x3 (1:Int))))]:LV) (0+k3*1) (BM ([(.int .i64 (Aj .i64 (Int.add x1 (1:Int))))]:LV) (0+k2*1) q0))) (O5 pu n ih0 z0 z1 (Int.ofNat k1) z3 s0 s1 (BM ([(.int .i64 (Aj .i64 (Int.sub x3 (1:Int))))]:LV) (0+k3*1) (BM ([(.int .i64 (Aj .i64 (Int.add x1 (1:Int))))]:LV) (0+k2*1) q0))) none) none) none))) none)))) none) none) none) none))) none)))) none)) (O5 pu n ih0 z0 z1 z2 z3 s0 s1 q0)))) (QO pu n q0)) none)
def OG (pu:Af) (n w:Nat):Int→Int→Int→Int→Sl→Sl→LV→OV:=
 Nat.rec (motive:=fun _=>Int→Int→Int→Int→Sl→Sl→LV→OV) (fun _ _ _ _ _ _ _=>none) (fun _ ih0=>QR pu n ih0) w
def tJ (pu:Af) (n:Nat) (x0:Int) (s0 s1:Sl) (x1:Int):OV:=
 (OG pu n n x1 (Int.ofNat (Sl.n s0)) (0:Int) x0 s0 s1 ([(.int .i64 (0:Int)),(.int .i64 (0:Int)),(.int .i64 (0:Int)),(.int .i64 (0:Int)),(.int .i64 (0:Int))]:LV))
def xM (pu:Af) (n:Nat) (args:LV):OV:=
 (ll args none fun a0 args=>(ll args none fun a1 args=>(ll args (oo (Bt a0) none fun l0=>(ll l0 none fun v0 l0=>(ll l0 none fun v1 l0=>(ll l0 none fun v2 l0=>(ll l0 (oo (Bi .i64 v0) none fun x0=>(oo (Bj 1 v1) none fun s0=>(oo (Bj 1 v2) none fun s1=>(oo (Bi .u16 a1) none fun x1=>(tJ pu n x0 s0 s1 x1))))) fun _ _=>none))))) fun _ _=>none)))
theorem tK (pu:Af) (n:Nat) (q0:LV) {v:Value} (hm:QO pu n q0=some v):BN tt (Bb tabs Iq pu (inl pu)) 1 V6 (fr 38 [(5,pt 1 0)]) (hT 2 [oC q0]) (Fin tt 1 [.tmp 4] v):=by
 unfold QO at hm
 refine .then ?_
 replace hm:=Ae hm;obtain⟨h0,hm⟩:=hm
 replace hm:=Ke hm;obtain⟨x0,h1,hm⟩:=hm
 replace hm:=Ke hm;obtain⟨x1,h2,hm⟩:=hm
 replace hm:=Ke hm;obtain⟨x2,h3,hm⟩:=hm
 replace hm:=Ke hm;obtain⟨x3,h4,hm⟩:=hm
 replace hm:=Ke hm;obtain⟨x4,h5,hm⟩:=hm
 refine .reg (eD (keep (hT 2 [oC q0]) (bb (Nat.ble (0+5) (len q0)) (some (.agg ⟨Aq 5 (Am 0 q0)⟩)) none)) (Pd h0 (Ca h1 (Ca h2 (Ca h3 (Ca h4 (Ca h5 rfl)))))) (eE)) ?_
 refine .ghs (fr 38 [(4,(zB (bq true (an (Bd x0 (0:Int)) (an (Bd x1 (0:Int)) (an (Bd x2 (0:Int)) (an (Bd x3 (0:Int)) (an (Bd x4 (0:Int)) true))))))))]) FM (.k0 [false] [] [4]) ?_
 refine .ret ?_
 exact FK (zB (bq true (an (Bd x0 (0:Int)) (an (Bd x1 (0:Int)) (an (Bd x2 (0:Int)) (an (Bd x3 (0:Int)) (an (Bd x4 (0:Int)) true))))))) hm
theorem r71 {call:A8} (pu:Af) (n:Nat) (hcall:call=Bb tabs Iq pu (inl pu)) {args:LV} {v:Value} (hm:xM pu n args=some v) (_:∀ x∈args,closed2 x=true):args.length≤38∧BN tt call 1 PM (Fr.made 38 args) (Ao tabs) (Fin tt 1 [.tmp 4] v):=by
 subst hcall
 unfold xM at hm
 replace hm:=Ad hm;obtain⟨a0,args_0,rfl,hm⟩:=hm
 replace hm:=Ad hm;obtain⟨a1,args_1,rfl,hm⟩:=hm
 replace hm:=AC hm;obtain⟨rfl,hm⟩:=hm
 replace hm:=BG hm;obtain⟨l0,rfl,hm⟩:=hm
 replace hm:=Ad hm;obtain⟨v0,l18262_0,rfl,hm⟩:=hm
 replace hm:=Ad hm;obtain⟨v1,l18262_1,rfl,hm⟩:=hm
 replace hm:=Ad hm;obtain⟨v2,l18262_2,rfl,hm⟩:=hm
 replace hm:=AC hm;obtain⟨rfl,hm⟩:=hm
 replace hm:=Ai hm;obtain⟨x0,rfl,hm⟩:=hm
 replace hm:=Al hm;obtain⟨s0,rfl,hm⟩:=hm
 replace hm:=Al hm;obtain⟨s1,rfl,hm⟩:=hm
 replace hm:=Ai hm;obtain⟨x1,rfl,hm⟩:=hm
 unfold tJ at hm
 refine⟨by simp,?_⟩
 refine .same (F':=(fr 38 [(0,(.agg ⟨[zI x0,Sl.v 1 s0,Sl.v 1 s1]⟩)),(1,.int .u16 x1)])) (H':=FM) (by kernel_rfl) (by kernel_rfl) ?_
 refine .then (.rK (.ghs (fr 38 [(1,.int .u16 x1),(2,pt 1 0)]) (hT 2 [(oC [zI x0,Sl.v 1 s0,Sl.v 1 s1])]) (.k0 [false] [.tmp 2 false] [1,2]) ?_))
 refine .then (.rK (.ghs (fr 38 [(1,.int .u16 x1),(2,pt 1 0),(5,(pt 2 0))]) (hT 3 [(oC [zI x0,Sl.v 1 s0,Sl.v 1 s1]),(oC [(zI (0:Int)),(zI (0:Int)),(zI (0:Int)),(zI (0:Int)),(zI (0:Int))])]) (.k0 [false] [.tmp 2 false,.tmp 5 false] [1,2,5]) ?_))
 refine .join (v:=v) (fun y:LV=>((fr 38 [(5,pt 1 0)]),(hT 2 [oC y]))) (fun y=>QO pu n y) ?_ ?_
 ·rintro q0 hm
  exact tK pu n q0 hm
 ·refine .then (.rK (.ghs (fr 38 [(1,.int .u16 x1),(2,pt 1 0),(5,(pt 2 0)),(9,(zI (Int.ofNat (Sl.n s0)))),(10,(zI (0:Int)))]) (hT 3 [(oC [zI x0,Sl.v 1 s0,Sl.v 1 s1]),(oC [(zI (0:Int)),(zI (0:Int)),(zI (0:Int)),(zI (0:Int)),(zI (0:Int))])]) (.k0 [false] [.tmp 2 false,.tmp 5 false] [1,2,5,9,10]) ?_))
  refine .block (.loopM (v:=v) (fun y:Int×Int×Int×Int×Sl×Sl×LV=>((fr 38 [(1,(.int .u16 y.1)),(2,pt 1 0),(5,(pt 2 0)),(9,(zI y.2.1)),(10,(zI y.2.2.1))]),(hT 3 [(oC [(zI y.2.2.2.1),(Sl.v 1 y.2.2.2.2.1),(Sl.v 1 y.2.2.2.2.2.1)]),(oC y.2.2.2.2.2.2)]))) (fun w y=>OG pu n w y.1 y.2.1 y.2.2.1 y.2.2.2.1 y.2.2.2.2.1 y.2.2.2.2.2.1 y.2.2.2.2.2.2) n ⟨(x1,(Int.ofNat (Sl.n s0)),(0:Int),x0,s0,s1,([(zI (0:Int)),(zI (0:Int)),(zI (0:Int)),(zI (0:Int)),(zI (0:Int))]:LV)),hm,(.k0 [false] [.tmp 2 false,.tmp 5 false] [1,2,5,9,10])⟩ (fun _=>rfl) ?_)
  rintro w0 ⟨z0,z1,z2,z3,s2,s3,q1⟩ hm
  replace hm:QR pu n (OG pu n w0) z0 z1 z2 z3 s2 s3 q1=some v:=hm
  unfold QR at hm
  refine .then (.rK ?_)
  replace hm:=Ae hm;obtain⟨h0,hm⟩:=hm
  refine .ghs (fr 38 [(1,.int .u16 z0),(2,pt 1 0),(5,(pt 2 0)),(9,zI z1),(10,zI z2),(11,(zB (AY z2 z1)))]) (hT 3 [(oC [zI z3,Sl.v 1 s2,Sl.v 1 s3]),oC q1]) (.k [2] [false] [.tmp 2 false,.tmp 5 false] [1,2,5,9,10,11] ⟨DL h0,trivial⟩) ?_
  refine .then ?_
  replace hm:=Ag hm;rcases hm with⟨h1,hm⟩ | ⟨h1,hm⟩
  ·refine Hy (AY z2 z1) h1 ?_
   refine .skip (.ghs (fr 38 [(1,.int .u16 z0),(2,pt 1 0),(5,(pt 2 0)),(9,zI z1),(10,zI z2)]) (hT 3 [(oC [zI z3,Sl.v 1 s2,Sl.v 1 s3]),oC q1]) (.k [2] [false] [.tmp 2 false,.tmp 5 false] [1,2,5,9,10] ⟨DL h0,trivial⟩) ?_)
   refine .join (v:=v) (fun y:Int×Int×Int×Int×Sl×Sl×LV=>((fr 38 [(1,(.int .u16 y.1)),(2,pt 1 0),(5,(pt 2 0)),(9,(zI y.2.1)),(10,(zI y.2.2.1))]),(hT 3 [(oC [(zI y.2.2.2.1),(Sl.v 1 y.2.2.2.2.1),(Sl.v 1 y.2.2.2.2.2.1)]),(oC y.2.2.2.2.2.2)]))) (fun y=>O5 pu n (OG pu n w0) y.1 y.2.1 y.2.2.1 y.2.2.2.1 y.2.2.2.2.1 y.2.2.2.2.2.1 y.2.2.2.2.2.2) ?_ ?_
   ·rintro⟨z4,z5,z6,z7,s4,s5,q2⟩ hm
    unfold O5 at hm
    refine .rK ?_
    replace hm:=Ae hm;obtain⟨h2,hm⟩:=hm
    exact⟨(z4,z5,(Aj .i64 (Int.add z6 (1:Int))),z7,s4,s5,q2),hm,(.k [2] [false] [.tmp 2 false,.tmp 5 false] [1,2,5,9,10] ⟨DL h2,trivial⟩)⟩
   ·refine .block (.then (.rK (.ghs (fr 38 [(1,.int .u16 z0),(2,pt 1 0),(5,(pt 2 0)),(6,zI z2),(9,zI z1),(10,zI z2)]) (hT 3 [(oC [zI z3,Sl.v 1 s2,Sl.v 1 s3]),oC q1]) (.k [2] [false] [.tmp 2 false,.tmp 5 false] [1,2,5,6,9,10] ⟨DL h0,trivial⟩) ?_)))
    refine .then ?_
    replace hm:=gV hm;obtain⟨b0,h3,hm⟩:=hm
    refine .reg (eC 2 ((oo (pu 53 [.int .u16 z0,zI z2]) none fun v=>some (v,(hT 3 [(oC [zI z3,Sl.v 1 s2,Sl.v 1 s3]),oC q1])))) (AB h3) (eE)) ?_
    refine .ghs (fr 38 [(1,.int .u16 z0),(2,pt 1 0),(5,(pt 2 0)),(6,zI z2),(9,zI z1),(10,zI z2),(15,zB b0)]) (hT 3 [(oC [zI z3,Sl.v 1 s2,Sl.v 1 s3]),oC q1]) (.k [2] [false] [.tmp 2 false,.tmp 5 false] [1,2,5,6,9,10,15] ⟨DL h0,trivial⟩) ?_
    replace hm:=Ag hm;rcases hm with⟨h4,hm⟩ | ⟨h4,hm⟩
    ·refine .ifT b0 (by kernel_rfl) h4 ?_
     refine .then ?_
     replace hm:=Ab hm;obtain⟨k1,h5,hm⟩:=hm
     obtain rfl:=AR h5
     replace hm:=Ae hm;obtain⟨h6,hm⟩:=hm
     replace hm:=Ke hm;obtain⟨x2,h7,hm⟩:=hm
     replace hm:=Ab hm;obtain⟨k2,h8,hm⟩:=hm
     obtain rfl:=AR h8
     replace hm:=Ae hm;obtain⟨h9,hm⟩:=hm
     replace hm:=Ke hm;obtain⟨x3,h10,hm⟩:=hm
     replace hm:=Ae hm;obtain⟨h11,hm⟩:=hm
     replace hm:=Ae hm;obtain⟨h12,hm⟩:=hm
     refine .reg (eN 6 (Fr.puts (fr 38 [(1,.int .u16 z0),(2,pt 1 0),(5,(pt 2 0)),(6,(zI (Int.ofNat k1))),(9,zI z1),(10,(zI (Int.ofNat k1))),(15,zB b0)]) [(16,pt 1 1),(17,Sl.v 1 s2),(18,(zI (Int.ofNat k1))),(19,(Cv (k1*1) (Sl.cs s2))),(20,(zI (Int.ofNat k2))),(21,(.pointer (some ⟨2,(0+k2*1),none⟩)))]) (hT 3 [(oC [zI z3,Sl.v 1 s2,Sl.v 1 s3]),oC q1]) (eC 3 (keep (hT 3 [(oC [zI z3,Sl.v 1 s2,Sl.v 1 s3]),oC q1]) (bb (an (Nat.blt k1 (Sl.n s2)) true) (some (Cv (k1*1) (Sl.cs s2))) none)) (AX h6) (eD (keep (hT 3 [(oC [zI z3,Sl.v 1 s2,Sl.v 1 s3]),oC q1]) (AL (Sl.cs s2) (k1*1))) (AZ h7) (eD (keep (hT 3 [(oC [zI z3,Sl.v 1 s2,Sl.v 1 s3]),oC q1]) (bb (Nat.blt k2 5) (some (.pointer (some ⟨2,(0+k2*1),none⟩))) none)) (AX h9) (by kernel_rfl)))) (eD (keep (hT 3 [(oC [zI z3,Sl.v 1 s2,Sl.v 1 s3]),oC q1]) (AL q1 (0+k2*1))) (AZ h10) (eC 1 (keep (hT 3 [(oC [zI z3,Sl.v 1 s2,Sl.v 1 s3]),oC q1]) (bb (Nat.blt k2 5) (some (.pointer (some ⟨2,(0+k2*1),none⟩))) none)) (AX h11) (eD (done (bb (an (Nat.ble ((0+k2*1)+1) (len q1)) true) (some (hT 3 [(oC [zI z3,Sl.v 1 s2,Sl.v 1 s3]),(oC (BM ([(zI (Aj .i64 (Int.add x3 (1:Int))))]:LV) (0+k2*1) q1))])) none) undef) (Js h12) (eE))))) ?_
     replace hm:=Ae hm;obtain⟨h13,hm⟩:=hm
     refine .ghs (fr 38 [(1,.int .u16 z0),(2,pt 1 0),(5,(pt 2 0)),(6,(zI (Int.ofNat k1))),(9,zI z1),(10,(zI (Int.ofNat k1)))]) (hT 3 [(oC [zI z3,Sl.v 1 s2,Sl.v 1 s3]),(oC (BM ([(zI (Aj .i64 (Int.add x3 (1:Int))))]:LV) (0+k2*1) q1))]) (.k [2] [false] [.tmp 2 false,.tmp 5 false] [1,2,5,6,9,10] ⟨DL h13,trivial⟩) ?_
     replace hm:=Ae hm;obtain⟨h14,hm⟩:=hm
     replace hm:=Ke hm;obtain⟨x4,h15,hm⟩:=hm
     replace hm:=Ab hm;obtain⟨k3,h16,hm⟩:=hm
     obtain rfl:=AR h16
     replace hm:=Ae hm;obtain⟨h17,hm⟩:=hm
     replace hm:=Ke hm;obtain⟨x5,h18,hm⟩:=hm
     replace hm:=Ae hm;obtain⟨h19,hm⟩:=hm
     replace hm:=Ae hm;obtain⟨h20,hm⟩:=hm
     refine .reg (eN 6 (Fr.puts (fr 38 [(1,.int .u16 z0),(2,pt 1 0),(5,(pt 2 0)),(6,(zI (Int.ofNat k1))),(9,zI z1),(10,(zI (Int.ofNat k1)))]) [(25,pt 1 2),(26,Sl.v 1 s3),(27,(zI (Int.ofNat k1))),(28,(Cv (k1*1) (Sl.cs s3))),(29,(zI (Int.ofNat k3))),(30,(.pointer (some ⟨2,(0+k3*1),none⟩)))]) (hT 3 [(oC [zI z3,Sl.v 1 s2,Sl.v 1 s3]),(oC (BM ([(zI (Aj .i64 (Int.add x3 (1:Int))))]:LV) (0+k2*1) q1))]) (eC 3 (keep (hT 3 [(oC [zI z3,Sl.v 1 s2,Sl.v 1 s3]),(oC (BM ([(zI (Aj .i64 (Int.add x3 (1:Int))))]:LV) (0+k2*1) q1))]) (bb (an (Nat.blt k1 (Sl.n s3)) true) (some (Cv (k1*1) (Sl.cs s3))) none)) (AX h14) (eD (keep (hT 3 [(oC [zI z3,Sl.v 1 s2,Sl.v 1 s3]),(oC (BM ([(zI (Aj .i64 (Int.add x3 (1:Int))))]:LV) (0+k2*1) q1))]) (AL (Sl.cs s3) (k1*1))) (AZ h15) (eD (keep (hT 3 [(oC [zI z3,Sl.v 1 s2,Sl.v 1 s3]),(oC (BM ([(zI (Aj .i64 (Int.add x3 (1:Int))))]:LV) (0+k2*1) q1))]) (bb (Nat.blt k3 5) (some (.pointer (some ⟨2,(0+k3*1),none⟩))) none)) (AX h17) (by kernel_rfl)))) (eD (keep (hT 3 [(oC [zI z3,Sl.v 1 s2,Sl.v 1 s3]),(oC (BM ([(zI (Aj .i64 (Int.add x3 (1:Int))))]:LV) (0+k2*1) q1))]) (AL (BM ([(zI (Aj .i64 (Int.add x3 (1:Int))))]:LV) (0+k2*1) q1) (0+k3*1))) (AZ h18) (eC 1 (keep (hT 3 [(oC [zI z3,Sl.v 1 s2,Sl.v 1 s3]),(oC (BM ([(zI (Aj .i64 (Int.add x3 (1:Int))))]:LV) (0+k2*1) q1))]) (bb (Nat.blt k3 5) (some (.pointer (some ⟨2,(0+k3*1),none⟩))) none)) (AX h19) (eD (done (bb (an (Nat.ble ((0+k3*1)+1) (len (BM ([(zI (Aj .i64 (Int.add x3 (1:Int))))]:LV) (0+k2*1) q1))) true) (some (hT 3 [(oC [zI z3,Sl.v 1 s2,Sl.v 1 s3]),(oC (BM ([(zI (Aj .i64 (Int.sub x5 (1:Int))))]:LV) (0+k3*1) (BM ([(zI (Aj .i64 (Int.add x3 (1:Int))))]:LV) (0+k2*1) q1)))])) none) undef) (Js h20) (eE))))) ?_
     replace hm:=Ae hm;obtain⟨h21,hm⟩:=hm
     exact⟨(z0,z1,(Int.ofNat k1),z3,s2,s3,(BM ([(zI (Aj .i64 (Int.sub x5 (1:Int))))]:LV) (0+k3*1) (BM ([(zI (Aj .i64 (Int.add x3 (1:Int))))]:LV) (0+k2*1) q1))),hm,(.k [2] [false] [.tmp 2 false,.tmp 5 false] [1,2,5,9,10] ⟨DL h21,trivial⟩)⟩
    ·refine .ifF b0 (by kernel_rfl) h4 ?_
     refine .skip ?_
     exact⟨(z0,z1,z2,z3,s2,s3,q1),hm,(.k [2] [false] [.tmp 2 false,.tmp 5 false] [1,2,5,9,10] ⟨DL h0,trivial⟩)⟩
  ·refine Hz (AY z2 z1) h1 ?_
   refine .exit ?_
   exact⟨q1,hm,(.k [2] [false] [.tmp 5 false] [5] ⟨DL h0,trivial⟩)⟩
def Kg (pu:Af) (n:Nat) (ih0:Int→Int→Int→Nat→Nat→Int→Int→LV→OV) (z0 z1 z2:Int) (n0 c0:Nat) (z3 z4:Int) (q0:LV):OV:=
 (bb (Au Ah q0) (bb (AY z1 z4) (oo (EA z0) none fun k1=>(bb (an (Nat.blt k1 n0) true) (bb (an (Nat.ble ((0+k1*1)+1) (len q0)) true) (bb (Au Ah (BM ([.int .i64 z1]:LV) (0+k1*1) q0)) (bb (Dp (Nat.ble 2 c0) (MQ (BM ([.int .i64 z1]:LV) (0+k1*1) q0))) (bb (Au Ah (BM ([.int .i64 z1]:LV) (0+k1*1) q0)) (oo (pu 10280 [(.int .i64 (Aj .i64 (Int.add (Int.ofNat k1) (1:Int)))),(.pointer (some ⟨1,0,none⟩)),(.pointer (some ⟨2,0,none⟩)),(.pointer (some ⟨3,0,none⟩)),(.pointer (some ⟨4,0,none⟩)),(.pointer (some ⟨5,0,none⟩)),(.agg ⟨[.int .i64 z2]⟩),(.agg ⟨[(.slice (some ⟨6,0,some 1⟩) n0 c0)]⟩),(.agg ⟨[.int .i64 z3]⟩),(.agg ⟨[.int .i64 z4]⟩),(.agg ⟨[(.func (.func 28) ⟨[]⟩ ⟨[(.pointer (some ⟨1,0,none⟩)),(.pointer (some ⟨2,0,none⟩)),(.pointer (some ⟨3,0,none⟩)),(.pointer (some ⟨4,0,none⟩)),(.pointer (some ⟨5,0,none⟩))]⟩)]⟩),(.agg ⟨(BM ([.int .i64 z1]:LV) (0+k1*1) q0)⟩)]) none fun v0=>(oo (CQ v0) none fun l0=>(ll l0 none fun v1 l0=>(ll l0 none fun v2 l0=>(ll l0 none fun v3 l0=>(ll l0 none fun v4 l0=>(ll l0 none fun v5 l0=>(ll l0 none fun v6 l0=>(ll l0 none fun v7 l0=>(ll l0 (bb (MC v1) (oo (Bt v2) none fun l1=>(ll l1 none fun v8 l1=>(ll l1 (oo (Bi .i64 v8) none fun x0=>(oo (Bt v3) none fun l2=>(ll l2 none fun v9 l2=>(ll l2 (oo (KP 6 0 1 v9) none fun y0=>(oo (Bt v4) none fun l3=>(ll l3 none fun v10 l3=>(ll l3 (oo (Bi .i64 v10) none fun x1=>(oo (Bt v5) none fun l4=>(ll l4 none fun v11 l4=>(ll l4 (oo (Bi .i64 v11) none fun x2=>(oo (Bt v6) none fun l5=>(ll l5 none fun v12 l5=>(ll l5 (oo (Om 28 0 v12) none fun l6=>(ll l6 none fun v13 l6=>(ll l6 none fun v14 l6=>(ll l6 none fun v15 l6=>(ll l6 none fun v16 l6=>(ll l6 none fun v17 l6=>(ll l6 (bb (MK v13 1 0) (bb (MK v14 2 0) (bb (MK v15 3 0) (bb (MK v16 4 0) (bb (MK v17 5 0) (oo (Bt v7) none fun q1=>(bb (Au Ah q1) (bb (Au Ah q1) (ih0 (Int.ofNat k1) (Aj .i64 (Int.add z1 (1:Int))) x0 (NC.n y0) (NC.c y0) x1 x2 q1) none) none)) none) none) none) none) none) fun _ _=>none))))))) fun _ _=>none)))) fun _ _=>none)))) fun _ _=>none)))) fun _ _=>none)))) fun _ _=>none))) none) fun _ _=>none)))))))))) none) none) none) none) none)) (some (.tuple ⟨[(.tuple ⟨[]⟩),(.agg ⟨[.int .i64 z2]⟩),(.agg ⟨[(.slice (some ⟨6,0,some 1⟩) n0 c0)]⟩),(.agg ⟨[.int .i64 z3]⟩),(.agg ⟨[.int .i64 z4]⟩),(.agg ⟨[(.func (.func 28) ⟨[]⟩ ⟨[(.pointer (some ⟨1,0,none⟩)),(.pointer (some ⟨2,0,none⟩)),(.pointer (some ⟨3,0,none⟩)),(.pointer (some ⟨4,0,none⟩)),(.pointer (some ⟨5,0,none⟩))]⟩)]⟩),(.agg ⟨q0⟩)]⟩))) none)
def Ji (pu:Af) (n w:Nat):Int→Int→Int→Nat→Nat→Int→Int→LV→OV:=
 Nat.rec (motive:=fun _=>Int→Int→Int→Nat→Nat→Int→Int→LV→OV) (fun _ _ _ _ _ _ _ _=>none) (fun _ ih0=>Kg pu n ih0) w
def Ir (pu:Af) (n:Nat) (z0 z1 z2:Int) (n0 c0:Nat) (z3 z4:Int) (q0:LV):OV:=
 (bb (Au Ah q0) (Ji pu n n z0 z1 z2 n0 c0 z3 z4 q0) none)
def Kh (pu:Af) (n:Nat) (z0 z1:Int) (n0 c0:Nat) (z2 z3:Int) (q0:LV):OV:=
 (bb (Au Ah q0) (bb (AY (0:Int) z0) (oo (EA (Aj .i64 (Int.sub z0 (1:Int)))) none fun k1=>(bb (an (Nat.blt k1 n0) true) (oo (AL q0 (0+k1*1)) none fun v0=>(oo (Bi .i64 v0) none fun x0=>(Ir pu n z0 x0 z1 n0 c0 z2 z3 q0))) none)) (Ir pu n z0 (0:Int) z1 n0 c0 z2 z3 q0)) none)
def Iy (pu:Af) (n:Nat) (z0:Int) (n0 c0:Nat) (z1 z2:Int) (q0:LV):OV:=
 (bb (Au Ah q0) (some (.tuple ⟨[(.tuple ⟨[]⟩),(.agg ⟨[.int .i64 z0]⟩),(.agg ⟨[(.slice (some ⟨6,0,some 1⟩) n0 c0)]⟩),(.agg ⟨[.int .i64 z1]⟩),(.agg ⟨[.int .i64 z2]⟩),(.agg ⟨[(.func (.func 28) ⟨[]⟩ ⟨[(.pointer (some ⟨1,0,none⟩)),(.pointer (some ⟨2,0,none⟩)),(.pointer (some ⟨3,0,none⟩)),(.pointer (some ⟨4,0,none⟩)),(.pointer (some ⟨5,0,none⟩))]⟩)]⟩),(.agg ⟨q0⟩)]⟩)) none)
def Ki (pu:Af) (n:Nat) (ih0:Int→Nat→Nat→Int→Int→LV→Nat→List Nat→Nat→List EO→Nat→OV) (z0:Int) (n0 c0:Nat) (z1 z2:Int) (q0:LV) (k1:Nat) (l0:List Nat) (k2:Nat) (e0:List EO) (k3:Nat):OV:=
 (bb (Au (fun e=>Nat.blt (EO.born e) k1) e0) (bb (Nat.ble k1 k2) (bK e0 l0 (bb (Au Ah q0) (bb (Au F4 e0) (Iy pu n z0 n0 c0 z1 z2 q0) none) none) (fun e1:EO=>(bb (Au Ah q0) (bb (Au F4 e0) (oo (bL e0 k3 (Br l0 [(EO.born e1)]) k3) none fun v0=>(oo (CQ v0) none fun l1=>(ll l1 none fun v1 l1=>(ll l1 none fun v2 l1=>(ll l1 (oo (Bi .i64 v1) none fun x0=>(oo (Bi .i64 v2) none fun x1=>(ih0 z0 n0 c0 (bb (AY z1 x1) x1 z1) z2 q0 k1 (Br l0 [(EO.born e1)]) k3 e0 k3))) fun _ _=>none))))) none) none))) none) none)
def KJ (pu:Af) (n w:Nat):Int→Nat→Nat→Int→Int→LV→Nat→List Nat→Nat→List EO→Nat→OV:=
 Nat.rec (motive:=fun _=>Int→Nat→Nat→Int→Int→LV→Nat→List Nat→Nat→List EO→Nat→OV) (fun _ _ _ _ _ _ _ _ _ _ _=>none) (fun _ ih0=>Ki pu n ih0) w
def Jw (pu:Af) (n:Nat) (z45 z46:Int) (n47 Si:Nat) (z49 z50:Int) (q51:LV):OV:=
 (bb (Au Ah q51) (bb (Bd z45 z46) (bb (an (Nat.ble (0+n47*1) (len q51)) (Au Ah (Aq (n47*1) (Am 0 q51)))) (oo (pu 10220 [(Sl.v 1 (Sl.mk n47 0 (Aq (n47*1) (Am 0 q51)))),(.bool false)]) none fun v0=>(oo (CQ v0) none fun l0=>(ll l0 none fun v1 l0=>(ll l0 none fun v2 l0=>(ll l0 (bb (FC v1 1) (oo (Fj v2) none fun y0=>(bb (Au MI (Akd.es y0)) (bb (Au F4 (Akd.es y0)) (KJ pu n n z46 n47 Si z49 z50 q51 (Akd.clock y0) ([]:List Nat) (Akd.clock y0) (Akd.es y0) (Akd.clock y0)) none) none)) none) fun _ _=>none))))) none) (Kh pu n z45 z46 n47 Si z49 z50 q51)) none)
def K7 (pu:Af) (n:Nat) (args:LV):OV:=
 (ll args none fun a0 args=>(ll args none fun a1 args=>(ll args none fun a2 args=>(ll args none fun a3 args=>(ll args none fun a4 args=>(ll args none fun a5 args=>(ll args none fun o0 args=>(ll args none fun o1 args=>(ll args none fun o2 args=>(ll args none fun o3 args=>(ll args none fun o4 args=>(ll args none fun o5 args=>(ll args (oo (Bi .i64 a0) none fun x0=>(bb (MK a1 1 0) (bb (MK a2 2 0) (bb (MK a3 3 0) (bb (MK a4 4 0) (bb (MK a5 5 0) (oo (Bt o0) none fun l0=>(ll l0 none fun v0 l0=>(ll l0 (oo (Bi .i64 v0) none fun x1=>(oo (Bt o1) none fun l1=>(ll l1 none fun v1 l1=>(ll l1 (oo (KP 6 0 1 v1) none fun y0=>(oo (Bt o2) none fun l2=>(ll l2 none fun v2 l2=>(ll l2 (oo (Bi .i64 v2) none fun x2=>(oo (Bt o3) none fun l3=>(ll l3 none fun v3 l3=>(ll l3 (oo (Bi .i64 v3) none fun x3=>(oo (Bt o4) none fun l4=>(ll l4 none fun v4 l4=>(ll l4 (oo (Om 28 0 v4) none fun l5=>(ll l5 none fun v5 l5=>(ll l5 none fun v6 l5=>(ll l5 none fun v7 l5=>(ll l5 none fun v8 l5=>(ll l5 none fun v9 l5=>(ll l5 (bb (MK v5 1 0) (bb (MK v6 2 0) (bb (MK v7 3 0) (bb (MK v8 4 0) (bb (MK v9 5 0) (oo (Bt o5) none fun q0=>(Jw pu n x0 x1 (NC.n y0) (NC.c y0) x2 x3 q0)) none) none) none) none) none) fun _ _=>none))))))) fun _ _=>none)))) fun _ _=>none)))) fun _ _=>none)))) fun _ _=>none)))) fun _ _=>none))) none) none) none) none) none)) fun _ _=>none)))))))))))))
theorem Wt (pu:Af) (n:Nat) (z0 z1 z2:Int) (n0 c0:Nat) (z3 z4:Int) (q0:LV) {v:Value} (hm:Ir pu n z0 z1 z2 n0 c0 z3 z4 q0=some v):BN tt (Bb tabs Iq pu (inl pu)) 7 V8 (fr 45 [(0,zI z0),(2,(pt 2 0)),(4,(pt 4 0)),(5,(pt 5 0)),(9,zI z1)]) (hT 7 [(oC [zI z2]),(oC [sc 6 0 1 n0 c0]),(oC [zI z3]),(oC [zI z4]),(oC [(.func (.func 28) ⟨[]⟩ ⟨[pt 1 0,(pt 2 0),(pt 3 0),(pt 4 0),(pt 5 0)]⟩)]),oC q0]) (FJ tt 1 6 [] v):=by
 unfold Ir at hm
 refine .then (.rK ?_)
 replace hm:=Ae hm;obtain⟨h0,hm⟩:=hm
 refine .ghs (fr 45 [(0,zI z0),(2,(pt 2 0)),(4,(pt 4 0)),(5,(pt 5 0)),(10,zI z1)]) (hT 7 [(oC [zI z2]),(oC [sc 6 0 1 n0 c0]),(oC [zI z3]),(oC [zI z4]),(oC [(.func (.func 28) ⟨[]⟩ ⟨[pt 1 0,(pt 2 0),(pt 3 0),(pt 4 0),(pt 5 0)]⟩)]),oC q0]) (.k [6] [false,false,true,false,false,true,false] [] [0,2,4,5,10] ⟨DL h0,trivial⟩) ?_
 refine .block (.loopM (v:=v) (fun y:Int×Int×Int×Nat×Nat×Int×Int×LV=>((fr 45 [(0,(zI y.1)),(2,(pt 2 0)),(4,(pt 4 0)),(5,(pt 5 0)),(10,(zI y.2.1))]),(hT 7 [(oC [(zI y.2.2.1)]),(oC [(sc 6 0 1 y.2.2.2.1 y.2.2.2.2.1)]),(oC [(zI y.2.2.2.2.2.1)]),(oC [(zI y.2.2.2.2.2.2.1)]),(oC [(.func (.func 28) ⟨[]⟩ ⟨[pt 1 0,(pt 2 0),(pt 3 0),(pt 4 0),(pt 5 0)]⟩)]),(oC y.2.2.2.2.2.2.2)]))) (fun w y=>Ji pu n w y.1 y.2.1 y.2.2.1 y.2.2.2.1 y.2.2.2.2.1 y.2.2.2.2.2.1 y.2.2.2.2.2.2.1 y.2.2.2.2.2.2.2) n ⟨(z0,z1,z2,n0,c0,z3,z4,q0),hm,(.k [6] [false,false,true,false,false,true,false] [] [0,2,4,5,10] ⟨DL h0,trivial⟩)⟩ (fun _=>rfl) ?_)
 rintro w0 ⟨z5,z6,z7,n1,c1,z8,z9,q1⟩ hm
 replace hm:Kg pu n (Ji pu n w0) z5 z6 z7 n1 c1 z8 z9 q1=some v:=hm
 unfold Kg at hm
 refine .then (.then (.rK ?_))
 replace hm:=Ae hm;obtain⟨h1,hm⟩:=hm
 refine .ghs (fr 45 [(0,zI z5),(2,(pt 2 0)),(4,(pt 4 0)),(5,(pt 5 0)),(10,zI z6),(34,(zB (AY z6 z9)))]) (hT 7 [(oC [zI z7]),(oC [sc 6 0 1 n1 c1]),(oC [zI z8]),(oC [zI z9]),(oC [(.func (.func 28) ⟨[]⟩ ⟨[pt 1 0,(pt 2 0),(pt 3 0),(pt 4 0),(pt 5 0)]⟩)]),oC q1]) (.k [6] [false,false,true,false,false,true,false] [] [0,2,4,5,10,34] ⟨DL h1,trivial⟩) ?_
 replace hm:=Ag hm;rcases hm with⟨h2,hm⟩ | ⟨h2,hm⟩
 ·refine Hy (AY z6 z9) h2 ?_
  refine .skip (.ghs (fr 45 [(0,zI z5),(2,(pt 2 0)),(4,(pt 4 0)),(5,(pt 5 0)),(10,zI z6)]) (hT 7 [(oC [zI z7]),(oC [sc 6 0 1 n1 c1]),(oC [zI z8]),(oC [zI z9]),(oC [(.func (.func 28) ⟨[]⟩ ⟨[pt 1 0,(pt 2 0),(pt 3 0),(pt 4 0),(pt 5 0)]⟩)]),oC q1]) (.k [6] [false,false,true,false,false,true,false] [] [0,2,4,5,10] ⟨DL h1,trivial⟩) ?_)
  refine .then (.block (.then ?_))
  replace hm:=Ab hm;obtain⟨k1,h3,hm⟩:=hm
  obtain rfl:=AR h3
  replace hm:=Ae hm;obtain⟨h4,hm⟩:=hm
  replace hm:=Ae hm;obtain⟨h5,hm⟩:=hm
  refine .reg (eC 3 (keep (hT 7 [(oC [zI z7]),(oC [sc 6 0 1 n1 c1]),(oC [zI z8]),(oC [zI z9]),(oC [(.func (.func 28) ⟨[]⟩ ⟨[pt 1 0,(pt 2 0),(pt 3 0),(pt 4 0),(pt 5 0)]⟩)]),oC q1]) (bb (an (Nat.blt k1 n1) true) (some (.pointer (some ⟨6,(0+k1*1),none⟩))) none)) (AX h4) (eD (done (bb (an (Nat.ble ((0+k1*1)+1) (len q1)) true) (some (hT 7 [(oC [zI z7]),(oC [sc 6 0 1 n1 c1]),(oC [zI z8]),(oC [zI z9]),(oC [(.func (.func 28) ⟨[]⟩ ⟨[pt 1 0,(pt 2 0),(pt 3 0),(pt 4 0),(pt 5 0)]⟩)]),(oC (BM ([zI z6]:LV) (0+k1*1) q1))])) none) undef) (Js h5) (eE))) ?_
  replace hm:=Ae hm;obtain⟨h6,hm⟩:=hm
  refine .ghs (fr 45 [(0,(zI (Int.ofNat k1))),(2,(pt 2 0)),(4,(pt 4 0)),(5,(pt 5 0)),(10,zI z6)]) (hT 7 [(oC [zI z7]),(oC [sc 6 0 1 n1 c1]),(oC [zI z8]),(oC [zI z9]),(oC [(.func (.func 28) ⟨[]⟩ ⟨[pt 1 0,(pt 2 0),(pt 3 0),(pt 4 0),(pt 5 0)]⟩)]),(oC (BM ([zI z6]:LV) (0+k1*1) q1))]) (.k [6] [false,false,true,false,false,true,false] [] [0,2,4,5,10] ⟨DL h6,trivial⟩) ?_
  replace hm:=Ae hm;obtain⟨h7,hm⟩:=hm
  replace hm:=Ae hm;obtain⟨h8,hm⟩:=hm
  replace hm:=Ab hm;obtain⟨v0,h9,hm⟩:=hm
  replace hm:=Ch hm;obtain⟨l0,rfl,hm⟩:=hm
  replace hm:=Ad hm;obtain⟨v1,l15142_0,rfl,hm⟩:=hm
  replace hm:=Ad hm;obtain⟨v2,l15142_1,rfl,hm⟩:=hm
  replace hm:=Ad hm;obtain⟨v3,l15142_2,rfl,hm⟩:=hm
  replace hm:=Ad hm;obtain⟨v4,l15142_3,rfl,hm⟩:=hm
  replace hm:=Ad hm;obtain⟨v5,l15142_4,rfl,hm⟩:=hm
  replace hm:=Ad hm;obtain⟨v6,l15142_5,rfl,hm⟩:=hm
  replace hm:=Ad hm;obtain⟨v7,l15142_6,rfl,hm⟩:=hm
  replace hm:=AC hm;obtain⟨rfl,hm⟩:=hm
  replace hm:=Ae hm;obtain⟨h10,hm⟩:=hm
  obtain rfl:=Oo h10
  replace hm:=BG hm;obtain⟨l1,rfl,hm⟩:=hm
  replace hm:=Ad hm;obtain⟨v8,l15152_0,rfl,hm⟩:=hm
  replace hm:=AC hm;obtain⟨rfl,hm⟩:=hm
  replace hm:=Ai hm;obtain⟨x0,rfl,hm⟩:=hm
  replace hm:=BG hm;obtain⟨l2,rfl,hm⟩:=hm
  replace hm:=Ad hm;obtain⟨v9,l15157_0,rfl,hm⟩:=hm
  replace hm:=AC hm;obtain⟨rfl,hm⟩:=hm
  replace hm:=Ab hm;obtain⟨y0,h11,hm⟩:=hm
  obtain rfl:=F5 h11
  replace hm:=BG hm;obtain⟨l3,rfl,hm⟩:=hm
  replace hm:=Ad hm;obtain⟨v10,l15162_0,rfl,hm⟩:=hm
  replace hm:=AC hm;obtain⟨rfl,hm⟩:=hm
  replace hm:=Ai hm;obtain⟨x1,rfl,hm⟩:=hm
  replace hm:=BG hm;obtain⟨l4,rfl,hm⟩:=hm
  replace hm:=Ad hm;obtain⟨v11,l15167_0,rfl,hm⟩:=hm
  replace hm:=AC hm;obtain⟨rfl,hm⟩:=hm
  replace hm:=Ai hm;obtain⟨x2,rfl,hm⟩:=hm
  replace hm:=BG hm;obtain⟨l5,rfl,hm⟩:=hm
  replace hm:=Ad hm;obtain⟨v12,l15172_0,rfl,hm⟩:=hm
  replace hm:=AC hm;obtain⟨rfl,hm⟩:=hm
  replace hm:=Ab hm;obtain⟨l6,h12,hm⟩:=hm
  obtain rfl:=Hu h12
  replace hm:=Ad hm;obtain⟨v13,l15175_0,rfl,hm⟩:=hm
  replace hm:=Ad hm;obtain⟨v14,l15175_1,rfl,hm⟩:=hm
  replace hm:=Ad hm;obtain⟨v15,l15175_2,rfl,hm⟩:=hm
  replace hm:=Ad hm;obtain⟨v16,l15175_3,rfl,hm⟩:=hm
  replace hm:=Ad hm;obtain⟨v17,l15175_4,rfl,hm⟩:=hm
  replace hm:=AC hm;obtain⟨rfl,hm⟩:=hm
  replace hm:=Ae hm;obtain⟨h13,hm⟩:=hm
  obtain rfl:=KR h13
  replace hm:=Ae hm;obtain⟨h14,hm⟩:=hm
  obtain rfl:=KR h14
  replace hm:=Ae hm;obtain⟨h15,hm⟩:=hm
  obtain rfl:=KR h15
  replace hm:=Ae hm;obtain⟨h16,hm⟩:=hm
  obtain rfl:=KR h16
  replace hm:=Ae hm;obtain⟨h17,hm⟩:=hm
  obtain rfl:=KR h17
  replace hm:=BG hm;obtain⟨q2,rfl,hm⟩:=hm
  replace hm:=Ae hm;obtain⟨h18,hm⟩:=hm
  refine .reg (eC 3 (EK tabs [[none],[none],[none],[none],[none],[none]] 6 [.tmp 1 false,.tmp 2 true,.tmp 3 false,.tmp 4 false,.tmp 5 true,.cell 2 0 false] [false,true,false,false,true,false] (pu 10280) [(zI (Aj .i64 (Int.add (Int.ofNat k1) (1:Int)))),pt 1 0,(pt 2 0),(pt 3 0),(pt 4 0),(pt 5 0)] (hT 7 [(oC [zI z7]),(oC [sc 6 0 1 n1 c1]),(oC [zI z8]),(oC [zI z9]),(oC [(.func (.func 28) ⟨[]⟩ ⟨[pt 1 0,(pt 2 0),(pt 3 0),(pt 4 0),(pt 5 0)]⟩)]),(oC (BM ([zI z6]:LV) (0+k1*1) q1))])) (EL (as:=[(zI (Aj .i64 (Int.add (Int.ofNat k1) (1:Int)))),pt 1 0,(pt 2 0),(pt 3 0),(pt 4 0),(pt 5 0)]) (H1:=(hT 7 [(oC [zI z7]),(oC [sc 6 0 1 n1 c1]),(oC [zI z8]),(oC [zI z9]),(oC [(.func (.func 28) ⟨[]⟩ ⟨[pt 1 0,(pt 2 0),(pt 3 0),(pt 4 0),(pt 5 0)]⟩)]),(oC (BM ([zI z6]:LV) (0+k1*1) q1))])) (BS (Dm Dk) (BS (Dm Dk) (BS (Dm Dk) (BS (Dm Dk) (BS (Dm Dk) (BS (Dm Dk) Gj)))))) (EI (H2:=(hT 7 [(oC [zI x0]),(oC [(sc 6 0 1 (NC.n y0) (NC.c y0))]),(oC [zI x1]),(oC [zI x2]),(oC [(.func (.func 28) ⟨[]⟩ ⟨[pt 1 0,(pt 2 0),(pt 3 0),(pt 4 0),(pt 5 0)]⟩)]),oC q2])) (v:=(.tuple ⟨[]⟩)) (v':=(.tuple ⟨[]⟩)) [some 0,some 1,some 2,some 3,some 4,some 5,some 6] [(false,some 1),(true,some 2),(false,some 3),(false,some 4),(true,some 5),(false,some 6)] [(oC [zI z7]),(oC [sc 6 0 1 n1 c1]),(oC [zI z8]),(oC [zI z9]),(oC [(.func (.func 28) ⟨[]⟩ ⟨[pt 1 0,(pt 2 0),(pt 3 0),(pt 4 0),(pt 5 0)]⟩)]),(oC (BM ([zI z6]:LV) (0+k1*1) q1))] [(zI (Aj .i64 (Int.add (Int.ofNat k1) (1:Int)))),pt 1 0,(pt 2 0),(pt 3 0),(pt 4 0),(pt 5 0)] [(.agg ⟨[zI x0]⟩),(.agg ⟨[(sc 6 0 1 (NC.n y0) (NC.c y0))]⟩),(.agg ⟨[zI x1]⟩),(.agg ⟨[zI x2]⟩),(.agg ⟨[(.func (.func 28) ⟨[]⟩ ⟨[pt 1 0,(pt 2 0),(pt 3 0),(pt 4 0),(pt 5 0)]⟩)]⟩),(.agg ⟨q2⟩)] [(oC [zI x0]),(oC [(sc 6 0 1 (NC.n y0) (NC.c y0))]),(oC [zI x1]),(oC [zI x2]),(oC [(.func (.func 28) ⟨[]⟩ ⟨[pt 1 0,(pt 2 0),(pt 3 0),(pt 4 0),(pt 5 0)]⟩)]),oC q2] [some 0,some 1,some 2,some 3,some 4,some 5,some 6] [(false,(oC [zI x0])),(true,(oC [(sc 6 0 1 (NC.n y0) (NC.c y0))])),(false,(oC [zI x1])),(false,(oC [zI x2])),(true,(oC [(.func (.func 28) ⟨[]⟩ ⟨[pt 1 0,(pt 2 0),(pt 3 0),(pt 4 0),(pt 5 0)]⟩)])),(false,oC q2)] [(oC [zI x0]),(oC [(sc 6 0 1 (NC.n y0) (NC.c y0))]),(oC [zI x1]),(oC [zI x2]),(oC [(.func (.func 28) ⟨[]⟩ ⟨[pt 1 0,(pt 2 0),(pt 3 0),(pt 4 0),(pt 5 0)]⟩)]),oC q2] (sF (by kernel_rfl) (XX h7 rfl)) (En (by kernel_rfl) (En (by kernel_rfl) (En (by kernel_rfl) (En (by kernel_rfl) (En (by kernel_rfl) (En (Nb (anc:=[]) h8) BX)))))) (Eq.trans (by kernel_rfl) h9) (En rfl (En rfl (En rfl (En rfl (En rfl (En rfl BX)))))) (En (by kernel_rfl) (En (by kernel_rfl) (En (by kernel_rfl) (En (by kernel_rfl) (En (by kernel_rfl) (En (KO h18) BX)))))))) (eE)) ?_
  replace hm:=Ae hm;obtain⟨h19,hm⟩:=hm
  refine .ghs (fr 45 [(0,(zI (Int.ofNat k1))),(2,(pt 2 0)),(4,(pt 4 0)),(5,(pt 5 0)),(10,zI z6)]) (hT 7 [(oC [zI x0]),(oC [(sc 6 0 1 (NC.n y0) (NC.c y0))]),(oC [zI x1]),(oC [zI x2]),(oC [(.func (.func 28) ⟨[]⟩ ⟨[pt 1 0,(pt 2 0),(pt 3 0),(pt 4 0),(pt 5 0)]⟩)]),oC q2]) (.k [6] [false,false,true,false,false,true,false] [] [0,2,4,5,10] ⟨DL h19,trivial⟩) ?_
  refine .rK ?_
  exact⟨((Int.ofNat k1),(Aj .i64 (Int.add z6 (1:Int))),x0,(NC.n y0),(NC.c y0),x1,x2,q2),hm,(.k [6] [false,false,true,false,false,true,false] [] [0,2,4,5,10] ⟨DL h19,trivial⟩)⟩
 ·refine Hz (AY z6 z9) h2 ?_
  refine .exit ?_
  refine .ghs (fr 45 []) (hT 7 [(oC [zI z7]),(oC [sc 6 0 1 n1 c1]),(oC [zI z8]),(oC [zI z9]),(oC [(.func (.func 28) ⟨[]⟩ ⟨[pt 1 0,(pt 2 0),(pt 3 0),(pt 4 0),(pt 5 0)]⟩)]),oC q1]) (.k [6] [false,false,true,false,false,true,false] [] [] ⟨DL h1,trivial⟩) ?_
  exact TU (.tuple ⟨[]⟩) [(oC [zI z7]),(oC [sc 6 0 1 n1 c1]),(oC [zI z8]),(oC [zI z9]),(oC [(.func (.func 28) ⟨[]⟩ ⟨[pt 1 0,(pt 2 0),(pt 3 0),(pt 4 0),(pt 5 0)]⟩)]),oC q1] (by kernel_rfl) hm (Nat.le_of_ble_eq_true rfl) (Fa (VT _) (Fa (VT _) (Fa (VT _) (Fa (VT _) (Fa (VT _) (Fa (VT _) EJ))))))
theorem Wu (pu:Af) (n:Nat) (z0 z1:Int) (n0 c0:Nat) (z2 z3:Int) (q0:LV) {v:Value} (hm:Kh pu n z0 z1 n0 c0 z2 z3 q0=some v):BN tt (Bb tabs Iq pu (inl pu)) 7 V9 (fr 45 [(0,zI z0),(2,(pt 2 0)),(4,(pt 4 0)),(5,(pt 5 0))]) (hT 7 [(oC [zI z1]),(oC [sc 6 0 1 n0 c0]),(oC [zI z2]),(oC [zI z3]),(oC [(.func (.func 28) ⟨[]⟩ ⟨[pt 1 0,(pt 2 0),(pt 3 0),(pt 4 0),(pt 5 0)]⟩)]),oC q0]) (FJ tt 1 6 [] v):=by
 unfold Kh at hm
 refine .then (.rK ?_)
 replace hm:=Ae hm;obtain⟨h0,hm⟩:=hm
 refine .ghs (fr 45 [(0,zI z0),(2,(pt 2 0)),(4,(pt 4 0)),(5,(pt 5 0)),(9,(zI (0:Int)))]) (hT 7 [(oC [zI z1]),(oC [sc 6 0 1 n0 c0]),(oC [zI z2]),(oC [zI z3]),(oC [(.func (.func 28) ⟨[]⟩ ⟨[pt 1 0,(pt 2 0),(pt 3 0),(pt 4 0),(pt 5 0)]⟩)]),oC q0]) (.k [6] [false,false,true,false,false,true,false] [] [0,2,4,5,9] ⟨DL h0,trivial⟩) ?_
 refine .join (v:=v) (fun y:Int×Int×Int×Nat×Nat×Int×Int×LV=>((fr 45 [(0,(zI y.1)),(2,(pt 2 0)),(4,(pt 4 0)),(5,(pt 5 0)),(9,(zI y.2.1))]),(hT 7 [(oC [(zI y.2.2.1)]),(oC [(sc 6 0 1 y.2.2.2.1 y.2.2.2.2.1)]),(oC [(zI y.2.2.2.2.2.1)]),(oC [(zI y.2.2.2.2.2.2.1)]),(oC [(.func (.func 28) ⟨[]⟩ ⟨[pt 1 0,(pt 2 0),(pt 3 0),(pt 4 0),(pt 5 0)]⟩)]),(oC y.2.2.2.2.2.2.2)]))) (fun y=>Ir pu n y.1 y.2.1 y.2.2.1 y.2.2.2.1 y.2.2.2.2.1 y.2.2.2.2.2.1 y.2.2.2.2.2.2.1 y.2.2.2.2.2.2.2) ?_ ?_
 ·rintro⟨z4,z5,z6,n1,c1,z7,z8,q1⟩ hm
  exact Wt pu n z4 z5 z6 n1 c1 z7 z8 q1 hm
 ·refine .then (.rK (.ghs (fr 45 [(0,zI z0),(2,(pt 2 0)),(4,(pt 4 0)),(5,(pt 5 0)),(9,(zI (0:Int))),(25,(zB (AY (0:Int) z0)))]) (hT 7 [(oC [zI z1]),(oC [sc 6 0 1 n0 c0]),(oC [zI z2]),(oC [zI z3]),(oC [(.func (.func 28) ⟨[]⟩ ⟨[pt 1 0,(pt 2 0),(pt 3 0),(pt 4 0),(pt 5 0)]⟩)]),oC q0]) (.k [6] [false,false,true,false,false,true,false] [] [0,2,4,5,9,25] ⟨DL h0,trivial⟩) ?_))
  replace hm:=Ag hm;rcases hm with⟨h1,hm⟩ | ⟨h1,hm⟩
  ·refine Hy (AY (0:Int) z0) h1 ?_
   replace hm:=Ab hm;obtain⟨k1,h2,hm⟩:=hm
   replace hm:=Ae hm;obtain⟨h3,hm⟩:=hm
   replace hm:=Ke hm;obtain⟨x0,h4,hm⟩:=hm
   refine .reg (eC 2 (some ((zI (Aj .i64 (Int.sub z0 (1:Int)))),(hT 7 [(oC [zI z1]),(oC [sc 6 0 1 n0 c0]),(oC [zI z2]),(oC [zI z3]),(oC [(.func (.func 28) ⟨[]⟩ ⟨[pt 1 0,(pt 2 0),(pt 3 0),(pt 4 0),(pt 5 0)]⟩)]),oC q0]))) (show _=some ((zI (Int.ofNat k1)),_) from (by rw[AR h2])) (eD (keep (hT 7 [(oC [zI z1]),(oC [sc 6 0 1 n0 c0]),(oC [zI z2]),(oC [zI z3]),(oC [(.func (.func 28) ⟨[]⟩ ⟨[pt 1 0,(pt 2 0),(pt 3 0),(pt 4 0),(pt 5 0)]⟩)]),oC q0]) (bb (an (Nat.blt k1 n0) true) (some (.pointer (some ⟨6,(0+k1*1),none⟩))) none)) (AX h3) (eD (keep (hT 7 [(oC [zI z1]),(oC [sc 6 0 1 n0 c0]),(oC [zI z2]),(oC [zI z3]),(oC [(.func (.func 28) ⟨[]⟩ ⟨[pt 1 0,(pt 2 0),(pt 3 0),(pt 4 0),(pt 5 0)]⟩)]),oC q0]) (AL q0 (0+k1*1))) (AZ h4) (eE)))) ?_
   exact⟨(z0,x0,z1,n0,c0,z2,z3,q0),hm,(.k [6] [false,false,true,false,false,true,false] [] [0,2,4,5,9] ⟨DL h0,trivial⟩)⟩
  ·refine Hz (AY (0:Int) z0) h1 ?_
   refine .skip ?_
   exact⟨(z0,(0:Int),z1,n0,c0,z2,z3,q0),hm,(.k [6] [false,false,true,false,false,true,false] [] [0,2,4,5,9] ⟨DL h0,trivial⟩)⟩
theorem iE (pu:Af) (n:Nat) (z45 z46:Int) (n47 Si:Nat) (z49 z50:Int) (q51:LV) {v:Value} (hm:Jw pu n z45 z46 n47 Si z49 z50 q51=some v):BN tt (Bb tabs Iq pu (inl pu)) 7 Oy (fr 45 [(0,zI z45),(1,pt 1 0),(2,(pt 2 0)),(3,(pt 3 0)),(4,(pt 4 0)),(5,(pt 5 0))]) (hT 7 [(oC [zI z46]),(oC [sc 6 0 1 n47 Si]),(oC [zI z49]),(oC [zI z50]),(oC [(.func (.func 28) ⟨[]⟩ ⟨[pt 1 0,(pt 2 0),(pt 3 0),(pt 4 0),(pt 5 0)]⟩)]),oC q51]) (FJ tt 1 6 [] v):=by
 unfold Jw at hm
 refine .join (v:=v) (fun y:Int×Int×Nat×Nat×Int×Int×LV=>((fr 45 [(0,(zI y.1)),(2,(pt 2 0)),(4,(pt 4 0)),(5,(pt 5 0))]),(hT 7 [(oC [(zI y.2.1)]),(oC [(sc 6 0 1 y.2.2.1 y.2.2.2.1)]),(oC [(zI y.2.2.2.2.1)]),(oC [(zI y.2.2.2.2.2.1)]),(oC [(.func (.func 28) ⟨[]⟩ ⟨[pt 1 0,(pt 2 0),(pt 3 0),(pt 4 0),(pt 5 0)]⟩)]),(oC y.2.2.2.2.2.2)]))) (fun y=>Kh pu n y.1 y.2.1 y.2.2.1 y.2.2.2.1 y.2.2.2.2.1 y.2.2.2.2.2.1 y.2.2.2.2.2.2) ?_ ?_
 ·rintro⟨z0,z1,n0,c0,z2,z3,q0⟩ hm
  exact Wu pu n z0 z1 n0 c0 z2 z3 q0 hm
 ·refine .then (.rK ?_)
  replace hm:=Ae hm;obtain⟨h0,hm⟩:=hm
  refine .ghs (fr 45 [(0,zI z45),(2,(pt 2 0)),(3,(pt 3 0)),(4,(pt 4 0)),(5,(pt 5 0)),(13,(zB (Bd z45 z46)))]) (hT 7 [(oC [zI z46]),(oC [sc 6 0 1 n47 Si]),(oC [zI z49]),(oC [zI z50]),(oC [(.func (.func 28) ⟨[]⟩ ⟨[pt 1 0,(pt 2 0),(pt 3 0),(pt 4 0),(pt 5 0)]⟩)]),oC q51]) (.k [6] [false,false,true,false,false,true,false] [] [0,2,3,4,5,13] ⟨DL h0,trivial⟩) ?_
  replace hm:=Ag hm;rcases hm with⟨h1,hm⟩ | ⟨h1,hm⟩
  ·refine Hy (Bd z45 z46) h1 ?_
   refine .join (v:=v) (fun y:Int×Nat×Nat×Int×Int×LV=>((fr 45 []),(hT 7 [(oC [(zI y.1)]),(oC [(sc 6 0 1 y.2.1 y.2.2.1)]),(oC [(zI y.2.2.2.1)]),(oC [(zI y.2.2.2.2.1)]),(oC [(.func (.func 28) ⟨[]⟩ ⟨[pt 1 0,(pt 2 0),(pt 3 0),(pt 4 0),(pt 5 0)]⟩)]),(oC y.2.2.2.2.2)]))) (fun y=>Iy pu n y.1 y.2.1 y.2.2.1 y.2.2.2.1 y.2.2.2.2.1 y.2.2.2.2.2) ?_ ?_
   ·rintro⟨z4,n1,c1,z5,z6,q1⟩ hm
    unfold Iy at hm
    replace hm:=Ae hm;obtain⟨h2,hm⟩:=hm
    refine .ghs (fr 45 []) (hT 7 [(oC [zI z4]),(oC [sc 6 0 1 n1 c1]),(oC [zI z5]),(oC [zI z6]),(oC [(.func (.func 28) ⟨[]⟩ ⟨[pt 1 0,(pt 2 0),(pt 3 0),(pt 4 0),(pt 5 0)]⟩)]),oC q1]) (.k [6] [false,false,true,false,false,true,false] [] [] ⟨DL h2,trivial⟩) ?_
    refine .ret ?_
    exact Gi (.tuple ⟨[]⟩) [(oC [zI z4]),(oC [sc 6 0 1 n1 c1]),(oC [zI z5]),(oC [zI z6]),(oC [(.func (.func 28) ⟨[]⟩ ⟨[pt 1 0,(pt 2 0),(pt 3 0),(pt 4 0),(pt 5 0)]⟩)]),oC q1] (by kernel_rfl) hm (Nat.le_of_ble_eq_true rfl) (Fa (VT _) (Fa (VT _) (Fa (VT _) (Fa (VT _) (Fa (VT _) (Fa (VT _) EJ))))))
   ·refine .then ?_
    replace hm:=Ae hm;obtain⟨h3,hm⟩:=hm
    replace hm:=Ab hm;obtain⟨v0,h4,hm⟩:=hm
    replace hm:=Ch hm;obtain⟨l0,rfl,hm⟩:=hm
    replace hm:=Ad hm;obtain⟨v1,l15379_0,rfl,hm⟩:=hm
    replace hm:=Ad hm;obtain⟨v2,l15379_1,rfl,hm⟩:=hm
    replace hm:=AC hm;obtain⟨rfl,hm⟩:=hm
    replace hm:=Ae hm;obtain⟨h5,hm⟩:=hm
    replace hm:=Ab hm;obtain⟨y0,h6,hm⟩:=hm
    replace hm:=Ae hm;obtain⟨h7,hm⟩:=hm
    refine .reg (eC 1 (Ox tabs 2 (pu 10220) [sc 6 0 1 n47 Si,zB false] (hT 7 [(oC [zI z46]),(oC [sc 6 0 1 n47 Si]),(oC [zI z49]),(oC [zI z50]),(oC [(.func (.func 28) ⟨[]⟩ ⟨[pt 1 0,(pt 2 0),(pt 3 0),(pt 4 0),(pt 5 0)]⟩)]),oC q51])) (XK (n:=7) (H2:=(hT 8 [(oC [zI z46]),(oC [sc 6 0 1 n47 Si]),(oC [zI z49]),(oC [zI z50]),(oC [(.func (.func 28) ⟨[]⟩ ⟨[pt 1 0,(pt 2 0),(pt 3 0),(pt 4 0),(pt 5 0)]⟩)]),oC q51,(.map (Akd.es y0) (Akd.clock y0))])) (QD (TY (by kernel_rfl) (Xg 6 0 1 n47 Si q51 false false [] (by kernel_rfl) (by kernel_rfl) h3)) (QD (TY (by kernel_rfl) (Xh (by kernel_rfl) (by kernel_rfl))) XJ)) h4 h5 h6 h7) (eE)) ?_
    replace hm:=Ae hm;obtain⟨h8,hm⟩:=hm
    refine .ghs (fr 45 [(3,(pt 3 0)),(16,(pt 7 0))]) (hT 9 [(oC [zI z46]),(oC [sc 6 0 1 n47 Si]),(oC [zI z49]),(oC [zI z50]),(oC [(.func (.func 28) ⟨[]⟩ ⟨[pt 1 0,(pt 2 0),(pt 3 0),(pt 4 0),(pt 5 0)]⟩)]),oC q51,(.iter (some 8) (Akd.clock y0) ([]:List Nat) (Akd.clock y0)),(.map (Akd.es y0) (Akd.clock y0))]) (.k [6,7] [false,false,true,false,false,true,false] [.tmp 16 false,.itm 7 false] [3,16] ⟨DL h0,DL h8,trivial⟩) ?_
    refine .block (.loopM (v:=v) (fun y:Int×Nat×Nat×Int×Int×LV×Nat×List Nat×Nat×List EO×Nat=>((fr 45 [(3,(pt 3 0)),(16,(pt 7 0))]),(hT 9 [(oC [(zI y.1)]),(oC [(sc 6 0 1 y.2.1 y.2.2.1)]),(oC [(zI y.2.2.2.1)]),(oC [(zI y.2.2.2.2.1)]),(oC [(.func (.func 28) ⟨[]⟩ ⟨[pt 1 0,(pt 2 0),(pt 3 0),(pt 4 0),(pt 5 0)]⟩)]),(oC y.2.2.2.2.2.1),(.iter (some 8) y.2.2.2.2.2.2.1 y.2.2.2.2.2.2.2.1 y.2.2.2.2.2.2.2.2.1),(.map y.2.2.2.2.2.2.2.2.2.1 y.2.2.2.2.2.2.2.2.2.2)]))) (fun w y=>KJ pu n w y.1 y.2.1 y.2.2.1 y.2.2.2.1 y.2.2.2.2.1 y.2.2.2.2.2.1 y.2.2.2.2.2.2.1 y.2.2.2.2.2.2.2.1 y.2.2.2.2.2.2.2.2.1 y.2.2.2.2.2.2.2.2.2.1 y.2.2.2.2.2.2.2.2.2.2) n ⟨(z46,n47,Si,z49,z50,q51,(Akd.clock y0),([]:List Nat),(Akd.clock y0),(Akd.es y0),(Akd.clock y0)),hm,(.k [6,8] [false,false,true,false,false,true,false] [.tmp 16 false,.itm 7 false] [3,16] ⟨DL h0,DL h8,trivial⟩)⟩ (fun _=>rfl) ?_)
    rintro w0 ⟨z7,n2,c2,z8,z9,q2,k1,l1,k2,e0,k3⟩ hm
    replace hm:Ki pu n (KJ pu n w0) z7 n2 c2 z8 z9 q2 k1 l1 k2 e0 k3=some v:=hm
    unfold Ki at hm
    refine .then ?_
    replace hm:=Ae hm;obtain⟨h9,hm⟩:=hm
    replace hm:=Ae hm;obtain⟨h10,hm⟩:=hm
    refine .nextK (id:=7) (mid:=8) (since:=k1) (st:=k2) (clock:=k3) (seen:=l1) (es:=e0) (d:=some 17) (x:=(tp 16)) (ty:=0) (os:=[EM 18 17 0 4]) (by kernel_rfl) (by kernel_rfl) (by kernel_rfl) (by kernel_rfl) h9 h10 (by kernel_rfl) (fun _=>by kernel_rfl) (fun h11=>?_) (fun e1 h12=>?_)
    ·replace hm:=mF hm h11
     replace hm:=Ae hm;obtain⟨h13,hm⟩:=hm
     replace hm:=Ae hm;obtain⟨h14,hm⟩:=hm
     refine .ghs (fr 45 [(3,(pt 3 0)),(16,(pt 7 0)),(18,zB false)]) (hT 9 [(oC [zI z7]),(oC [sc 6 0 1 n2 c2]),(oC [zI z8]),(oC [zI z9]),(oC [(.func (.func 28) ⟨[]⟩ ⟨[pt 1 0,(pt 2 0),(pt 3 0),(pt 4 0),(pt 5 0)]⟩)]),oC q2,(.iter (some 8) k1 l1 k2),(.map e0 k3)]) (.k [6,8] [false,false,true,false,false,true,false] [.tmp 16 false,.itm 7 false] [3,16,18] ⟨DL h13,DL h14,trivial⟩) ?_
     refine .then (.condF (by kernel_rfl) ?_)
     refine .exit ?_
     exact⟨(z7,n2,c2,z8,z9,q2),hm,(.k [6] [false,false,true,false,false,true,false] [] [] ⟨DL h13,trivial⟩)⟩
    ·replace hm:=mI hm h12
     replace hm:=Ae hm;obtain⟨h15,hm⟩:=hm
     replace hm:=Ae hm;obtain⟨h16,hm⟩:=hm
     refine .ghs (fr 45 [(3,(pt 3 0)),(16,(pt 7 0)),(18,zB true)]) (hT 9 [(oC [zI z7]),(oC [sc 6 0 1 n2 c2]),(oC [zI z8]),(oC [zI z9]),(oC [(.func (.func 28) ⟨[]⟩ ⟨[pt 1 0,(pt 2 0),(pt 3 0),(pt 4 0),(pt 5 0)]⟩)]),oC q2,(.iter (some 8) k1 (Br l1 [(EO.born e1)]) k3),(.map e0 k3)]) (.k [6,8] [false,false,true,false,false,true,false] [.tmp 16 false,.itm 7 false] [3,16,18] ⟨DL h15,DL h16,trivial⟩) ?_
     refine .then (.condT (by kernel_rfl) ?_)
     refine .skip (.ghs (fr 45 [(3,(pt 3 0)),(16,(pt 7 0))]) (hT 9 [(oC [zI z7]),(oC [sc 6 0 1 n2 c2]),(oC [zI z8]),(oC [zI z9]),(oC [(.func (.func 28) ⟨[]⟩ ⟨[pt 1 0,(pt 2 0),(pt 3 0),(pt 4 0),(pt 5 0)]⟩)]),oC q2,(.iter (some 8) k1 (Br l1 [(EO.born e1)]) k3),(.map e0 k3)]) (.k [6,8] [false,false,true,false,false,true,false] [.tmp 16 false,.itm 7 false] [3,16] ⟨DL h15,DL h16,trivial⟩) ?_)
     refine .block (.then ?_)
     replace hm:=Ab hm;obtain⟨v3,h17,hm⟩:=hm
     replace hm:=Ch hm;obtain⟨l2,rfl,hm⟩:=hm
     replace hm:=Ad hm;obtain⟨v4,l15420_0,rfl,hm⟩:=hm
     replace hm:=Ad hm;obtain⟨v5,l15420_1,rfl,hm⟩:=hm
     replace hm:=AC hm;obtain⟨rfl,hm⟩:=hm
     replace hm:=Ai hm;obtain⟨x0,rfl,hm⟩:=hm
     replace hm:=Ai hm;obtain⟨x1,rfl,hm⟩:=hm
     refine .reg (eD (keep (hT 9 [(oC [zI z7]),(oC [sc 6 0 1 n2 c2]),(oC [zI z8]),(oC [zI z9]),(oC [(.func (.func 28) ⟨[]⟩ ⟨[pt 1 0,(pt 2 0),(pt 3 0),(pt 4 0),(pt 5 0)]⟩)]),oC q2,(.iter (some 8) k1 (Br l1 [(EO.born e1)]) k3),(.map e0 k3)]) (bL e0 k3 (Br l1 [(EO.born e1)]) k3)) (AZ h17) (eE)) ?_
     refine .ghs (fr 45 [(3,(pt 3 0)),(8,zI x1),(16,(pt 7 0))]) (hT 9 [(oC [zI z7]),(oC [sc 6 0 1 n2 c2]),(oC [zI z8]),(oC [zI z9]),(oC [(.func (.func 28) ⟨[]⟩ ⟨[pt 1 0,(pt 2 0),(pt 3 0),(pt 4 0),(pt 5 0)]⟩)]),oC q2,(.iter (some 8) k1 (Br l1 [(EO.born e1)]) k3),(.map e0 k3)]) (.k [6,8] [false,false,true,false,false,true,false] [.tmp 16 false,.itm 7 false] [3,8,16] ⟨DL h15,DL h16,trivial⟩) ?_
     refine .rK ?_
     exact⟨(z7,n2,c2,(bb (AY z8 x1) x1 z8),z9,q2,k1,(Br l1 [(EO.born e1)]),k3,e0,k3),hm,(.k [6,8] [false,false,true,false,false,true,false] [.tmp 16 false,.itm 7 false] [3,16] ⟨DL h15,DL h16,trivial⟩)⟩
  ·refine Hz (Bd z45 z46) h1 ?_
   refine .skip ?_
   exact⟨(z45,z46,n47,Si,z49,z50,q51),hm,(.k [6] [false,false,true,false,false,true,false] [] [0,2,4,5] ⟨DL h0,trivial⟩)⟩
theorem iF {call:A8} (pu:Af) (n:Nat) (hcall:call=Bb tabs Iq pu (inl pu)) {args:LV} {os:List AJ} {z:Value} (ha:args.length=6) (hk:os.length=6) (hpl:∀ o∈os,plainO o) (hm:K7 pu n (args++os.map Ef)=some z):args.length≤45∧BN tt call (tabs.length+6) Oy (Fr.made 45 args) (BK tabs os) (FJ tt tabs.length 6 [] z):=by
 subst hcall
 have hq:=BC ha;clear ha;obtain⟨a0,args,rfl,ha⟩:=hq
 have hq:=BC ha;clear ha;obtain⟨a1,args,rfl,ha⟩:=hq
 have hq:=BC ha;clear ha;obtain⟨a2,args,rfl,ha⟩:=hq
 have hq:=BC ha;clear ha;obtain⟨a3,args,rfl,ha⟩:=hq
 have hq:=BC ha;clear ha;obtain⟨a4,args,rfl,ha⟩:=hq
 have hq:=BC ha;clear ha;obtain⟨a5,args,rfl,ha⟩:=hq
 obtain rfl:=len_nil ha
 have hq:=BC hk;clear hk;obtain⟨b0,os,rfl,hk⟩:=hq
 have hp0:plainO b0:=hpl b0 (by simp)
 have hq:=BC hk;clear hk;obtain⟨b1,os,rfl,hk⟩:=hq
 have hp1:plainO b1:=hpl b1 (by simp)
 have hq:=BC hk;clear hk;obtain⟨b2,os,rfl,hk⟩:=hq
 have hp2:plainO b2:=hpl b2 (by simp)
 have hq:=BC hk;clear hk;obtain⟨b3,os,rfl,hk⟩:=hq
 have hp3:plainO b3:=hpl b3 (by simp)
 have hq:=BC hk;clear hk;obtain⟨b4,os,rfl,hk⟩:=hq
 have hp4:plainO b4:=hpl b4 (by simp)
 have hq:=BC hk;clear hk;obtain⟨b5,os,rfl,hk⟩:=hq
 have hp5:plainO b5:=hpl b5 (by simp)
 obtain rfl:=len_nil hk
 replace hm:K7 pu n [a0,a1,a2,a3,a4,a5,Ef b0,Ef b1,Ef b2,Ef b3,Ef b4,Ef b5]=some z:=hm
 unfold K7 at hm
 replace hm:(oo (Bi .i64 a0) none fun x0=>(bb (MK a1 1 0) (bb (MK a2 2 0) (bb (MK a3 3 0) (bb (MK a4 4 0) (bb (MK a5 5 0) (oo (Bt (Ef b0)) none fun l0=>(ll l0 none fun v0 l0=>(ll l0 (oo (Bi .i64 v0) none fun x1=>(oo (Bt (Ef b1)) none fun l1=>(ll l1 none fun v1 l1=>(ll l1 (oo (KP 6 0 1 v1) none fun y0=>(oo (Bt (Ef b2)) none fun l2=>(ll l2 none fun v2 l2=>(ll l2 (oo (Bi .i64 v2) none fun x2=>(oo (Bt (Ef b3)) none fun l3=>(ll l3 none fun v3 l3=>(ll l3 (oo (Bi .i64 v3) none fun x3=>(oo (Bt (Ef b4)) none fun l4=>(ll l4 none fun v4 l4=>(ll l4 (oo (Om 28 0 v4) none fun l5=>(ll l5 none fun v5 l5=>(ll l5 none fun v6 l5=>(ll l5 none fun v7 l5=>(ll l5 none fun v8 l5=>(ll l5 none fun v9 l5=>(ll l5 (bb (MK v5 1 0) (bb (MK v6 2 0) (bb (MK v7 3 0) (bb (MK v8 4 0) (bb (MK v9 5 0) (oo (Bt (Ef b5)) none fun q0=>(Jw pu n x0 x1 (NC.n y0) (NC.c y0) x2 x3 q0)) none) none) none) none) none) fun _ _=>none))))))) fun _ _=>none)))) fun _ _=>none)))) fun _ _=>none)))) fun _ _=>none)))) fun _ _=>none))) none) none) none) none) none))=some z:=hm
 replace hm:=Ai hm;obtain⟨x0,rfl,hm⟩:=hm
 replace hm:=Ae hm;obtain⟨h0,hm⟩:=hm
 obtain rfl:=KR h0
 replace hm:=Ae hm;obtain⟨h1,hm⟩:=hm
 obtain rfl:=KR h1
 replace hm:=Ae hm;obtain⟨h2,hm⟩:=hm
 obtain rfl:=KR h2
 replace hm:=Ae hm;obtain⟨h3,hm⟩:=hm
 obtain rfl:=KR h3
 replace hm:=Ae hm;obtain⟨h4,hm⟩:=hm
 obtain rfl:=KR h4
 replace hm:=Ab hm;obtain⟨l0,h5,hm⟩:=hm
 obtain rfl:=I7 hp0 h5
 replace hm:=Ad hm;obtain⟨v0,l15435_0,rfl,hm⟩:=hm
 replace hm:=AC hm;obtain⟨rfl,hm⟩:=hm
 replace hm:=Ai hm;obtain⟨x1,rfl,hm⟩:=hm
 replace hm:=Ab hm;obtain⟨l1,h6,hm⟩:=hm
 obtain rfl:=I7 hp1 h6
 replace hm:=Ad hm;obtain⟨v1,l15440_0,rfl,hm⟩:=hm
 replace hm:=AC hm;obtain⟨rfl,hm⟩:=hm
 replace hm:=Ab hm;obtain⟨y0,h7,hm⟩:=hm
 obtain rfl:=F5 h7
 replace hm:=Ab hm;obtain⟨l2,h8,hm⟩:=hm
 obtain rfl:=I7 hp2 h8
 replace hm:=Ad hm;obtain⟨v2,l15445_0,rfl,hm⟩:=hm
 replace hm:=AC hm;obtain⟨rfl,hm⟩:=hm
 replace hm:=Ai hm;obtain⟨x2,rfl,hm⟩:=hm
 replace hm:=Ab hm;obtain⟨l3,h9,hm⟩:=hm
 obtain rfl:=I7 hp3 h9
 replace hm:=Ad hm;obtain⟨v3,l15450_0,rfl,hm⟩:=hm
 replace hm:=AC hm;obtain⟨rfl,hm⟩:=hm
 replace hm:=Ai hm;obtain⟨x3,rfl,hm⟩:=hm
 replace hm:=Ab hm;obtain⟨l4,h10,hm⟩:=hm
 obtain rfl:=I7 hp4 h10
 replace hm:=Ad hm;obtain⟨v4,l15455_0,rfl,hm⟩:=hm
 replace hm:=AC hm;obtain⟨rfl,hm⟩:=hm
 replace hm:=Ab hm;obtain⟨l5,h11,hm⟩:=hm
 obtain rfl:=Hu h11
 replace hm:=Ad hm;obtain⟨v5,l15458_0,rfl,hm⟩:=hm
 replace hm:=Ad hm;obtain⟨v6,l15458_1,rfl,hm⟩:=hm
 replace hm:=Ad hm;obtain⟨v7,l15458_2,rfl,hm⟩:=hm
 replace hm:=Ad hm;obtain⟨v8,l15458_3,rfl,hm⟩:=hm
 replace hm:=Ad hm;obtain⟨v9,l15458_4,rfl,hm⟩:=hm
 replace hm:=AC hm;obtain⟨rfl,hm⟩:=hm
 replace hm:=Ae hm;obtain⟨h12,hm⟩:=hm
 obtain rfl:=KR h12
 replace hm:=Ae hm;obtain⟨h13,hm⟩:=hm
 obtain rfl:=KR h13
 replace hm:=Ae hm;obtain⟨h14,hm⟩:=hm
 obtain rfl:=KR h14
 replace hm:=Ae hm;obtain⟨h15,hm⟩:=hm
 obtain rfl:=KR h15
 replace hm:=Ae hm;obtain⟨h16,hm⟩:=hm
 obtain rfl:=KR h16
 replace hm:=Ab hm;obtain⟨q0,h17,hm⟩:=hm
 obtain rfl:=I7 hp5 h17
 refine⟨by simp,?_⟩
 exact .same (F':=(fr 45 [(0,zI x0),(1,pt 1 0),(2,(pt 2 0)),(3,(pt 3 0)),(4,(pt 4 0)),(5,(pt 5 0))])) (H':=(hT 7 [(oC [zI x1]),(oC [(sc 6 0 1 (NC.n y0) (NC.c y0))]),(oC [zI x2]),(oC [zI x3]),(oC [(.func (.func 28) ⟨[]⟩ ⟨[pt 1 0,(pt 2 0),(pt 3 0),(pt 4 0),(pt 5 0)]⟩)]),oC q0])) (by kernel_rfl) (by kernel_rfl) (iE pu n x0 x1 (NC.n y0) (NC.c y0) x2 x3 q0 hm)
end
end Go.MnWM
