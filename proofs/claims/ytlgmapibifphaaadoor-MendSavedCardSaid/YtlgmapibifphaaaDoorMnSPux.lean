import Derived.Test.YtlgmapibifphaaaDoorMnSMod0x
import Derived.Test.YtlgmapibifphaaaDoorMnSMod1
import Derived.Test.YtlgmapibifphaaaDoorMnSMod2
import Derived.Test.YtlgmapibifphaaaDoorMnSMod3
import Derived.Test.YtlgmapibifphaaaDoorMnSMod4
import Derived.Test.YtlgmapibifphaaaDoorMnSMod5
import Derived.Test.YtlgmapibifphaaaDoorMnSMod6
import Derived.Test.YtlgmapibifphaaaDoorMnSMod7
set_option maxRecDepth 100000
set_option maxHeartbeats 20000000
set_option linter.unusedVariables false
namespace Go.MnSM
open Go.Sp Go.MnS
noncomputable section
def Qw (pu:Af) (n:Nat) (z0:Int) (s0 s1:Sl):OV:=
 (oo (GD (.int .u16 (0:Int)) ([]:List EO) 0) none λr0=>(bb (Au F4 (Gr (.int .u16 (0:Int)) (.int .i64 (0:Int)) 0 ([]:List EO) r0)) (some (.tuple ⟨[(.pointer (some ⟨1,0,none⟩)),(.agg ⟨[.int .i64 z0,Sl.v 1 s0,Sl.v 1 s1,(.map (some 2))]⟩),(Ef (.map (Gr (.int .u16 (0:Int)) (.int .i64 (0:Int)) 0 ([]:List EO) r0) (Ja 0 r0)))]⟩)) none))
def RZ (pu:Af) (n:Nat) (args:LV):OV:=
 (ll args none λa0 args=>(ll args (oo (Bt a0) none λl0=>(ll l0 none λv0 l0=>(ll l0 none λv1 l0=>(ll l0 none λv2 l0=>(ll l0 (oo (Bi .i64 v0) none λx0=>(oo (Bj 1 v1) none λs0=>(oo (Bj 1 v2) none λs1=>(Qw pu n x0 s0 s1)))) λ_ _=>none))))) λ_ _=>none))
theorem AbE (pu:Af) (n:Nat) (z0:Int) (s0 s1:Sl) {v:Value} (hm:Qw pu n z0 s0 s1=some v):BN tt (Bb tabs Ir pu (inl pu)) 1 Wn (fr 8 [(0,(.agg ⟨[zI z0,Sl.v 1 s0,Sl.v 1 s1]⟩))]) FD (FJ tt 1 0 [.tmp 2] v):=by
 unfold Qw at hm
 refine .then (.rK (.ghs (fr 8 [(1,pt 1 0)]) (hT 2 [(oC [zI z0,Sl.v 1 s0,Sl.v 1 s1])]) (.k0 [false] [.tmp 1 false] [1]) ?_))
 refine .then ?_
 replace hm:=Ab hm;obtain⟨r0,h0,hm⟩:=hm
 refine .reg (eC 2 (done (oo (GD (.int .u16 (0:Int)) ([]:List EO) 0) none λr=>oo r (some (Aa.set (hT 3 [(oC [zI z0,Sl.v 1 s0,Sl.v 1 s1]),(.map ([]:List EO) 0)]) 2 (.map (Br ([]:List EO) [⟨(.int .u16 (0:Int)),(zI (0:Int)),0⟩]) (0+1)))) λp=>pp p λj _=>some (Aa.set (hT 3 [(oC [zI z0,Sl.v 1 s0,Sl.v 1 s1]),(.map ([]:List EO) 0)]) 2 (.map (SS (λe=>⟨(.int .u16 (0:Int)),(zI (0:Int)),e.born⟩) j ([]:List EO)) 0))) undef) (Us (H2:=(hT 3 [(oC [zI z0,Sl.v 1 s0,Sl.v 1 s1]),(.map (Gr (.int .u16 (0:Int)) (zI (0:Int)) 0 ([]:List EO) r0) (Ja 0 r0))])) h0) (eE)) ?_
 replace hm:=Ae hm;obtain⟨h1,hm⟩:=hm
 refine .ghs (fr 8 [(2,pt 1 0)]) (hT 3 [(oC [zI z0,Sl.v 1 s0,Sl.v 1 s1,(.map (some 2))]),(.map (Gr (.int .u16 (0:Int)) (zI (0:Int)) 0 ([]:List EO) r0) (Ja 0 r0))]) (.k [2] [false] [.tmp 2 true,.cell 1 3 false] [2] ⟨Fb h1,trivial⟩) ?_
 refine .ghs (fr 8 [(2,pt 1 0)]) (hT 3 [(oC [zI z0,Sl.v 1 s0,Sl.v 1 s1,(.map (some 2))]),(.map (Gr (.int .u16 (0:Int)) (zI (0:Int)) 0 ([]:List EO) r0) (Ja 0 r0))]) (.k [2] [false] [.tmp 2 true,.cell 1 3 false] [2] ⟨Fb h1,trivial⟩) ?_
 refine .ret ?_
 exact Gi (pt 1 0) [(oC [zI z0,Sl.v 1 s0,Sl.v 1 s1,(.map (some 2))]),(.map (Gr (.int .u16 (0:Int)) (zI (0:Int)) 0 ([]:List EO) r0) (Ja 0 r0))] (by kernel_rfl) hm (Nat.le_of_ble_eq_true rfl) (Fa (VT _) (Fa (SH _ _) EJ))
theorem AbF {call:A8} (pu:Af) (n:Nat) (hcall:call=Bb tabs Ir pu (inl pu)) {args:LV} {os:List AJ} {z:Value} (ha:args.length=1) (hk:os.length=0) (hpl:∀ o∈os,plainO o) (hm:RZ pu n (args++os.map Ef)=some z):args.length≤8∧BN tt call (tabs.length+0) Wn (Fr.made 8 args) (BK tabs os) (FJ tt tabs.length 0 [.tmp 2] z):=by
 subst hcall
 have hq:=BC ha;clear ha;obtain⟨a0,args,rfl,ha⟩:=hq
 obtain rfl:=len_nil ha
 obtain rfl:=len_nil hk
 replace hm:RZ pu n [a0]=some z:=hm
 unfold RZ at hm
 replace hm:(oo (Bt a0) none λl0=>(ll l0 none λv0 l0=>(ll l0 none λv1 l0=>(ll l0 none λv2 l0=>(ll l0 (oo (Bi .i64 v0) none λx0=>(oo (Bj 1 v1) none λs0=>(oo (Bj 1 v2) none λs1=>(Qw pu n x0 s0 s1)))) λ_ _=>none)))))=some z:=hm
 replace hm:=BG hm;obtain⟨l0,rfl,hm⟩:=hm
 replace hm:=Ad hm;obtain⟨v0,l33651_0,rfl,hm⟩:=hm
 replace hm:=Ad hm;obtain⟨v1,l33651_1,rfl,hm⟩:=hm
 replace hm:=Ad hm;obtain⟨v2,l33651_2,rfl,hm⟩:=hm
 replace hm:=AC hm;obtain⟨rfl,hm⟩:=hm
 replace hm:=Ai hm;obtain⟨x0,rfl,hm⟩:=hm
 replace hm:=Al hm;obtain⟨s0,rfl,hm⟩:=hm
 replace hm:=Al hm;obtain⟨s1,rfl,hm⟩:=hm
 refine⟨by simp,?_⟩
 exact .same (F':=(fr 8 [(0,(.agg ⟨[zI x0,Sl.v 1 s0,Sl.v 1 s1]⟩))])) (H':=FD) (by kernel_rfl) (by kernel_rfl) (AbE pu n x0 s0 s1 hm)
def KW (pu:Af) (n:Nat) (z0 z1 z2:Int) (s0 s1:Sl) (e0:List EO) (k1:Nat):OV:=
 (oo (GD (.int .u16 z0) e0 0) none λr0=>(bb (Au F4 (Gr (.int .u16 z0) (.int .i64 z1) k1 e0 r0)) (some (.tuple ⟨[.int .i64 z1,(.agg ⟨[.int .i64 z2,Sl.v 1 s0,Sl.v 1 s1,(.map (some 2))]⟩),(Ef (.map (Gr (.int .u16 z0) (.int .i64 z1) k1 e0 r0) (Ja k1 r0)))]⟩)) none))
def LK (pu:Af) (n:Nat) (z0 z1 z2:Int) (s0 s1:Sl) (e0:List EO) (k1:Nat):OV:=
 (oo (pu 71 [(.agg ⟨[.int .i64 z2,Sl.v 1 s0,Sl.v 1 s1]⟩),.int .u16 z0]) none λv0=>(oo (Bf v0) none λb0=>(bb (Au F4 e0) (bb b0 (KW pu n z0 (Aj .i64 (Int.add z1 (1:Int))) z2 s0 s1 e0 k1) (KW pu n z0 z1 z2 s0 s1 e0 k1)) none)))
def ML (pu:Af) (n:Nat) (ih0:Int→Int→Sl→Int→Int→Int→Sl→Sl→List EO→Nat→OV) (z0 z1:Int) (s0:Sl) (z2 z3 z4:Int) (s1 s2:Sl) (e0:List EO) (k1:Nat):OV:=
 (bb (Au F4 e0) (bb (AY z3 z2) (oo (EA z3) none λk2=>(bb (an (Nat.blt k2 (Sl.n s0)) true) (oo (AL (Sl.cs s0) (k2*1)) none λv0=>(oo (Bi .i64 v0) none λx0=>(oo (EA x0) none λk3=>(bb (Au F4 e0) (oo (pu 10660 [(.pointer (some ⟨1,0,none⟩)),(.int .u16 (QV .u16 z0 (QW .u16 (1:Int) k3))),(.agg ⟨[.int .i64 z4,Sl.v 1 s1,Sl.v 1 s2,(.map (some 2))]⟩),(Ef (.map e0 k1))]) none λv1=>(oo (CQ v1) none λl0=>(ll l0 none λv2 l0=>(ll l0 none λv3 l0=>(ll l0 none λv4 l0=>(ll l0 (oo (Bi .i64 v2) none λx1=>(oo (Bt v3) none λl1=>(ll l1 none λv5 l1=>(ll l1 none λv6 l1=>(ll l1 none λv7 l1=>(ll l1 none λv8 l1=>(ll l1 (oo (Bi .i64 v5) none λx2=>(oo (Bj 1 v6) none λs3=>(oo (Bj 1 v7) none λs4=>(bb (FC v8 2) (oo (Fj v4) none λy0=>(bb (Au F4 (Akd.es y0)) (bb (Au F4 (Akd.es y0)) (ih0 z0 (bb (AY z1 x1) x1 z1) s0 z2 (Aj .i64 (Int.add (Int.ofNat k2) (1:Int))) x2 s3 s4 (Akd.es y0) (Akd.clock y0)) none) none)) none)))) λ_ _=>none))))))) λ_ _=>none)))))) none)))) none)) (LK pu n z0 z1 z4 s1 s2 e0 k1)) none)
def MR (pu:Af) (n w:Nat):Int→Int→Sl→Int→Int→Int→Sl→Sl→List EO→Nat→OV:=
 Nat.rec (motive:=λ_=>Int→Int→Sl→Int→Int→Int→Sl→Sl→List EO→Nat→OV) (λ_ _ _ _ _ _ _ _ _ _=>none) (λ_ ih0=>ML pu n ih0) w
def K6 (pu:Af) (n:Nat) (z0 z1:Int) (s0 s1:Sl) (e0:List EO) (k1:Nat):OV:=
 (bb (Au F4 e0) (oo (GD (.int .u16 z0) e0 0) none λr0=>(oo (Bi .i64 (Wd r0 (.int .i64 (0:Int)))) none λx0=>(bb (isS r0) (some (.tuple ⟨[.int .i64 x0,(.agg ⟨[.int .i64 z1,Sl.v 1 s0,Sl.v 1 s1,(.map (some 2))]⟩),(Ef (.map e0 k1))]⟩)) (oo (pu 62 [.int .u16 z0]) none λv0=>(oo (Bj 1 v0) none λs2=>(MR pu n n z0 (0:Int) s2 (Int.ofNat (Sl.n s2)) (0:Int) z1 s0 s1 e0 k1)))))) none)
def LU (pu:Af) (n:Nat) (args:LV):OV:=
 (ll args none λa0 args=>(ll args none λa1 args=>(ll args none λo0 args=>(ll args none λo1 args=>(ll args (bb (MK a0 1 0) (oo (Bi .u16 a1) none λx0=>(oo (Bt o0) none λl0=>(ll l0 none λv0 l0=>(ll l0 none λv1 l0=>(ll l0 none λv2 l0=>(ll l0 none λv3 l0=>(ll l0 (oo (Bi .i64 v0) none λx1=>(oo (Bj 1 v1) none λs0=>(oo (Bj 1 v2) none λs1=>(bb (FC v3 2) (oo (Fj o1) none λy0=>(K6 pu n x0 x1 s0 s1 (Akd.es y0) (Akd.clock y0))) none)))) λ_ _=>none))))))) none) λ_ _=>none)))))
theorem gG (pu:Af) (n:Nat) (z0 z1 z2:Int) (s0 s1:Sl) (e0:List EO) (k1:Nat) {v:Value} (hm:KW pu n z0 z1 z2 s0 s1 e0 k1=some v):BN tt (Bb tabs Ir pu (inl pu)) 3 fI (fr 52 [(0,pt 1 0),(1,.int .u16 z0),(7,zI z1)]) (hT 3 [(oC [zI z2,Sl.v 1 s0,Sl.v 1 s1,(.map (some 2))]),(.map e0 k1)]) (FJ tt 1 2 [.tmp 4] v):=by
 unfold KW at hm
 refine .then ?_
 replace hm:=Ab hm;obtain⟨r0,h0,hm⟩:=hm
 refine .reg (eC 6 (done (oo (GD (.int .u16 z0) e0 0) none λr=>oo r (some (Aa.set (hT 3 [(oC [zI z2,Sl.v 1 s0,Sl.v 1 s1,(.map (some 2))]),(.map e0 k1)]) 2 (.map (Br e0 [⟨.int .u16 z0,zI z1,k1⟩]) (k1+1)))) λp=>pp p λj _=>some (Aa.set (hT 3 [(oC [zI z2,Sl.v 1 s0,Sl.v 1 s1,(.map (some 2))]),(.map e0 k1)]) 2 (.map (SS (λe=>⟨.int .u16 z0,zI z1,e.born⟩) j e0) k1))) undef) (Us (H2:=(hT 3 [(oC [zI z2,Sl.v 1 s0,Sl.v 1 s1,(.map (some 2))]),(.map (Gr (.int .u16 z0) (zI z1) k1 e0 r0) (Ja k1 r0))])) h0) (eE)) ?_
 replace hm:=Ae hm;obtain⟨h1,hm⟩:=hm
 refine .ghs (fr 52 [(7,zI z1)]) (hT 3 [(oC [zI z2,Sl.v 1 s0,Sl.v 1 s1,(.map (some 2))]),(.map (Gr (.int .u16 z0) (zI z1) k1 e0 r0) (Ja k1 r0))]) (.k [2] [false,true,false] [] [7] ⟨Fb h1,trivial⟩) ?_
 refine .then (.rK (.ghs (fr 52 [(4,zI z1)]) (hT 3 [(oC [zI z2,Sl.v 1 s0,Sl.v 1 s1,(.map (some 2))]),(.map (Gr (.int .u16 z0) (zI z1) k1 e0 r0) (Ja k1 r0))]) (.k [2] [false,true,false] [] [4] ⟨Fb h1,trivial⟩) ?_))
 refine .ghs (fr 52 [(4,zI z1)]) (hT 3 [(oC [zI z2,Sl.v 1 s0,Sl.v 1 s1,(.map (some 2))]),(.map (Gr (.int .u16 z0) (zI z1) k1 e0 r0) (Ja k1 r0))]) (.k [2] [false,true,false] [] [4] ⟨Fb h1,trivial⟩) ?_
 refine .ret ?_
 exact Gi (zI z1) [(oC [zI z2,Sl.v 1 s0,Sl.v 1 s1,(.map (some 2))]),(.map (Gr (.int .u16 z0) (zI z1) k1 e0 r0) (Ja k1 r0))] (by kernel_rfl) hm (Nat.le_of_ble_eq_true rfl) (Fa (VT _) (Fa (SH _ _) EJ))
theorem gI (pu:Af) (n:Nat) (z0 z1 z2:Int) (s0 s1:Sl) (e0:List EO) (k1:Nat) {v:Value} (hm:LK pu n z0 z1 z2 s0 s1 e0 k1=some v):BN tt (Bb tabs Ir pu (inl pu)) 3 fK (fr 52 [(0,pt 1 0),(1,.int .u16 z0),(7,zI z1)]) (hT 3 [(oC [zI z2,Sl.v 1 s0,Sl.v 1 s1,(.map (some 2))]),(.map e0 k1)]) (FJ tt 1 2 [.tmp 4] v):=by
 unfold LK at hm
 refine .join (v:=v) (λy:Int×Int×Int×Sl×Sl×List EO×Nat=>((fr 52 [(0,pt 1 0),(1,(.int .u16 y.1)),(7,(zI y.2.1))]),(hT 3 [(oC [(zI y.2.2.1),(Sl.v 1 y.2.2.2.1),(Sl.v 1 y.2.2.2.2.1),(.map (some 2))]),(.map y.2.2.2.2.2.1 y.2.2.2.2.2.2)]))) (λy=>KW pu n y.1 y.2.1 y.2.2.1 y.2.2.2.1 y.2.2.2.2.1 y.2.2.2.2.2.1 y.2.2.2.2.2.2) ?_ ?_
 ·rintro⟨z3,z4,z5,s2,s3,e1,k2⟩ hm
  exact gG pu n z3 z4 z5 s2 s3 e1 k2 hm
 ·refine .then ?_
  replace hm:=bW hm;obtain⟨b0,h0,hm⟩:=hm
  refine .reg (eC 5 ((oo (pu 71 [(.agg ⟨[zI z2,Sl.v 1 s0,Sl.v 1 s1]⟩),.int .u16 z0]) none λv=>some (v,(hT 3 [(oC [zI z2,Sl.v 1 s0,Sl.v 1 s1,(.map (some 2))]),(.map e0 k1)])))) (AB h0) (eE)) ?_
  replace hm:=Ae hm;obtain⟨h1,hm⟩:=hm
  refine .ghs (fr 52 [(0,pt 1 0),(1,.int .u16 z0),(7,zI z1),(42,zB b0)]) (hT 3 [(oC [zI z2,Sl.v 1 s0,Sl.v 1 s1,(.map (some 2))]),(.map e0 k1)]) (.k [2] [false,true,false] [] [0,1,7,42] ⟨Fb h1,trivial⟩) ?_
  replace hm:=Ag hm;rcases hm with⟨h2,hm⟩|⟨h2,hm⟩
  ·refine .ifT b0 (by kernel_rfl) h2 ?_
   refine .rK ?_
   exact⟨(z0,(Aj .i64 (Int.add z1 (1:Int))),z2,s0,s1,e0,k1),hm,(.k [2] [false,true,false] [] [0,1,7] ⟨Fb h1,trivial⟩)⟩
  ·refine .ifF b0 (by kernel_rfl) h2 ?_
   refine .skip ?_
   exact⟨(z0,z1,z2,s0,s1,e0,k1),hm,(.k [2] [false,true,false] [] [0,1,7] ⟨Fb h1,trivial⟩)⟩
theorem AbG (pu:Af) (n:Nat) (z0 z1:Int) (s0 s1:Sl) (e0:List EO) (k1:Nat) {v:Value} (hm:K6 pu n z0 z1 s0 s1 e0 k1=some v):BN tt (Bb tabs Ir pu (inl pu)) 3 QF (fr 52 [(0,pt 1 0),(1,.int .u16 z0)]) (hT 3 [(oC [zI z1,Sl.v 1 s0,Sl.v 1 s1,(.map (some 2))]),(.map e0 k1)]) (FJ tt 1 2 [.tmp 4] v):=by
 unfold K6 at hm
 refine .then (.rK ?_)
 replace hm:=Ae hm;obtain⟨h0,hm⟩:=hm
 refine .ghs (fr 52 [(0,pt 1 0),(1,.int .u16 z0)]) (hT 3 [(oC [zI z1,Sl.v 1 s0,Sl.v 1 s1,(.map (some 2))]),(.map e0 k1)]) (.k [2] [false,true,false] [] [0,1] ⟨Fb h0,trivial⟩) ?_
 refine .then (.then ?_)
 replace hm:=Ab hm;obtain⟨r0,h1,hm⟩:=hm
 replace hm:=Ab hm;obtain⟨x0,h2,hm⟩:=hm
 refine .reg (eC 5 (keep (hT 3 [(oC [zI z1,Sl.v 1 s0,Sl.v 1 s1,(.map (some 2))]),(.map e0 k1)]) (oo (GD (.int .u16 z0) e0 0) none λr=>oo r (okV true (zI (0:Int)) false) λp=>pp p λ_ v=>okV true v true)) (Ur h1 (Eh h2)) (eE)) ?_
 refine .ghs (fr 52 [(0,pt 1 0),(1,.int .u16 z0),(5,zI x0),(6,(zB (isS r0)))]) (hT 3 [(oC [zI z1,Sl.v 1 s0,Sl.v 1 s1,(.map (some 2))]),(.map e0 k1)]) (.k [2] [false,true,false] [] [0,1,5,6] ⟨Fb h0,trivial⟩) ?_
 refine .then (.rK (.ghs (fr 52 [(0,pt 1 0),(1,.int .u16 z0),(5,zI x0),(19,(zB (isS r0)))]) (hT 3 [(oC [zI z1,Sl.v 1 s0,Sl.v 1 s1,(.map (some 2))]),(.map e0 k1)]) (.k [2] [false,true,false] [] [0,1,5,19] ⟨Fb h0,trivial⟩) ?_))
 replace hm:=Ag hm;rcases hm with⟨h3,hm⟩|⟨h3,hm⟩
 ·refine Gq (isS r0) h3 ?_
  refine .then (.rK (.ghs (fr 52 [(4,zI x0)]) (hT 3 [(oC [zI z1,Sl.v 1 s0,Sl.v 1 s1,(.map (some 2))]),(.map e0 k1)]) (.k [2] [false,true,false] [] [4] ⟨Fb h0,trivial⟩) ?_))
  refine .ghs (fr 52 [(4,zI x0)]) (hT 3 [(oC [zI z1,Sl.v 1 s0,Sl.v 1 s1,(.map (some 2))]),(.map e0 k1)]) (.k [2] [false,true,false] [] [4] ⟨Fb h0,trivial⟩) ?_
  refine .ret ?_
  exact Gi (zI x0) [(oC [zI z1,Sl.v 1 s0,Sl.v 1 s1,(.map (some 2))]),(.map e0 k1)] (by kernel_rfl) hm (Nat.le_of_ble_eq_true rfl) (Fa (VT _) (Fa (SH _ _) EJ))
 ·refine Gs (isS r0) h3 ?_
  refine .skip (.ghs (fr 52 [(0,pt 1 0),(1,.int .u16 z0)]) (hT 3 [(oC [zI z1,Sl.v 1 s0,Sl.v 1 s1,(.map (some 2))]),(.map e0 k1)]) (.k [2] [false,true,false] [] [0,1] ⟨Fb h0,trivial⟩) ?_)
  refine .then (.rK (.ghs (fr 52 [(0,pt 1 0),(1,.int .u16 z0),(7,(zI (0:Int)))]) (hT 3 [(oC [zI z1,Sl.v 1 s0,Sl.v 1 s1,(.map (some 2))]),(.map e0 k1)]) (.k [2] [false,true,false] [] [0,1,7] ⟨Fb h0,trivial⟩) ?_))
  refine .join (v:=v) (λy:Int×Int×Int×Sl×Sl×List EO×Nat=>((fr 52 [(0,pt 1 0),(1,(.int .u16 y.1)),(7,(zI y.2.1))]),(hT 3 [(oC [(zI y.2.2.1),(Sl.v 1 y.2.2.2.1),(Sl.v 1 y.2.2.2.2.1),(.map (some 2))]),(.map y.2.2.2.2.2.1 y.2.2.2.2.2.2)]))) (λy=>LK pu n y.1 y.2.1 y.2.2.1 y.2.2.2.1 y.2.2.2.2.1 y.2.2.2.2.2.1 y.2.2.2.2.2.2) ?_ ?_
  ·rintro⟨z2,z3,z4,s2,s3,e1,k2⟩ hm
   exact gI pu n z2 z3 z4 s2 s3 e1 k2 hm
  ·refine .then ?_
   replace hm:=Sm hm;obtain⟨s4,h4,hm⟩:=hm
   refine .reg (eC 1 ((oo (pu 62 [.int .u16 z0]) none λv=>some (v,(hT 3 [(oC [zI z1,Sl.v 1 s0,Sl.v 1 s1,(.map (some 2))]),(.map e0 k1)])))) (AB h4) (eE)) ?_
   refine .ghs (fr 52 [(0,pt 1 0),(1,.int .u16 z0),(7,(zI (0:Int))),(22,Sl.v 1 s4),(23,(zI (Int.ofNat (Sl.n s4)))),(24,(zI (0:Int)))]) (hT 3 [(oC [zI z1,Sl.v 1 s0,Sl.v 1 s1,(.map (some 2))]),(.map e0 k1)]) (.k [2] [false,true,false] [] [0,1,7,22,23,24] ⟨Fb h0,trivial⟩) ?_
   refine .block (.loopM (v:=v) (λy:Int×Int×Sl×Int×Int×Int×Sl×Sl×List EO×Nat=>((fr 52 [(0,pt 1 0),(1,(.int .u16 y.1)),(7,(zI y.2.1)),(22,(Sl.v 1 y.2.2.1)),(23,(zI y.2.2.2.1)),(24,(zI y.2.2.2.2.1))]),(hT 3 [(oC [(zI y.2.2.2.2.2.1),(Sl.v 1 y.2.2.2.2.2.2.1),(Sl.v 1 y.2.2.2.2.2.2.2.1),(.map (some 2))]),(.map y.2.2.2.2.2.2.2.2.1 y.2.2.2.2.2.2.2.2.2)]))) (λw y=>MR pu n w y.1 y.2.1 y.2.2.1 y.2.2.2.1 y.2.2.2.2.1 y.2.2.2.2.2.1 y.2.2.2.2.2.2.1 y.2.2.2.2.2.2.2.1 y.2.2.2.2.2.2.2.2.1 y.2.2.2.2.2.2.2.2.2) n ⟨(z0,(0:Int),s4,(Int.ofNat (Sl.n s4)),(0:Int),z1,s0,s1,e0,k1),hm,(.k [2] [false,true,false] [] [0,1,7,22,23,24] ⟨Fb h0,trivial⟩)⟩ (λ_=>rfl) ?_)
   rintro w0 ⟨z5,z6,s5,z7,z8,z9,s6,s7,e2,k3⟩ hm
   replace hm:ML pu n (MR pu n w0) z5 z6 s5 z7 z8 z9 s6 s7 e2 k3=some v:=hm
   unfold ML at hm
   refine .then (.rK ?_)
   replace hm:=Ae hm;obtain⟨h5,hm⟩:=hm
   refine .ghs (fr 52 [(0,pt 1 0),(1,.int .u16 z5),(7,zI z6),(22,Sl.v 1 s5),(23,zI z7),(24,zI z8),(25,(zB (AY z8 z7)))]) (hT 3 [(oC [zI z9,Sl.v 1 s6,Sl.v 1 s7,(.map (some 2))]),(.map e2 k3)]) (.k [2] [false,true,false] [] [0,1,7,22,23,24,25] ⟨Fb h5,trivial⟩) ?_
   refine .then ?_
   replace hm:=Ag hm;rcases hm with⟨h6,hm⟩|⟨h6,hm⟩
   ·refine Gq (AY z8 z7) h6 ?_
    refine .skip (.ghs (fr 52 [(0,pt 1 0),(1,.int .u16 z5),(7,zI z6),(22,Sl.v 1 s5),(23,zI z7),(24,zI z8)]) (hT 3 [(oC [zI z9,Sl.v 1 s6,Sl.v 1 s7,(.map (some 2))]),(.map e2 k3)]) (.k [2] [false,true,false] [] [0,1,7,22,23,24] ⟨Fb h5,trivial⟩) ?_)
    refine .then (.block (.then ?_))
    replace hm:=Ab hm;obtain⟨k4,h7,hm⟩:=hm
    obtain rfl:=AR h7
    replace hm:=Ae hm;obtain⟨h8,hm⟩:=hm
    replace hm:=Hw hm;obtain⟨x1,h9,hm⟩:=hm
    refine .reg (eD (keep (hT 3 [(oC [zI z9,Sl.v 1 s6,Sl.v 1 s7,(.map (some 2))]),(.map e2 k3)]) (bb (an (Nat.blt k4 (Sl.n s5)) true) (some (Cv (k4*1) (Sl.cs s5))) none)) (AX h8) (eD (keep (hT 3 [(oC [zI z9,Sl.v 1 s6,Sl.v 1 s7,(.map (some 2))]),(.map e2 k3)]) (AL (Sl.cs s5) (k4*1))) (AZ h9) (eE))) ?_
    refine .ghs (fr 52 [(0,pt 1 0),(1,.int .u16 z5),(7,zI z6),(9,zI x1),(22,Sl.v 1 s5),(23,zI z7),(24,(zI (Int.ofNat k4)))]) (hT 3 [(oC [zI z9,Sl.v 1 s6,Sl.v 1 s7,(.map (some 2))]),(.map e2 k3)]) (.k [2] [false,true,false] [] [0,1,7,9,22,23,24] ⟨Fb h5,trivial⟩) ?_
    replace hm:=Ab hm;obtain⟨k5,h10,hm⟩:=hm
    obtain rfl:=AR h10
    replace hm:=Ae hm;obtain⟨h11,hm⟩:=hm
    replace hm:=Ab hm;obtain⟨v0,h12,hm⟩:=hm
    replace hm:=Ch hm;obtain⟨l0,rfl,hm⟩:=hm
    replace hm:=Ad hm;obtain⟨v1,l34048_0,rfl,hm⟩:=hm
    replace hm:=Ad hm;obtain⟨v2,l34048_1,rfl,hm⟩:=hm
    replace hm:=Ad hm;obtain⟨v3,l34048_2,rfl,hm⟩:=hm
    replace hm:=AC hm;obtain⟨rfl,hm⟩:=hm
    replace hm:=Ai hm;obtain⟨x2,rfl,hm⟩:=hm
    replace hm:=BG hm;obtain⟨l1,rfl,hm⟩:=hm
    replace hm:=Ad hm;obtain⟨v4,l34055_0,rfl,hm⟩:=hm
    replace hm:=Ad hm;obtain⟨v5,l34055_1,rfl,hm⟩:=hm
    replace hm:=Ad hm;obtain⟨v6,l34055_2,rfl,hm⟩:=hm
    replace hm:=Ad hm;obtain⟨v7,l34055_3,rfl,hm⟩:=hm
    replace hm:=AC hm;obtain⟨rfl,hm⟩:=hm
    replace hm:=Ai hm;obtain⟨x3,rfl,hm⟩:=hm
    replace hm:=Al hm;obtain⟨s8,rfl,hm⟩:=hm
    replace hm:=Al hm;obtain⟨s9,rfl,hm⟩:=hm
    replace hm:=Ae hm;obtain⟨h13,hm⟩:=hm
    obtain rfl:=Ey h13
    replace hm:=Ab hm;obtain⟨y0,h14,hm⟩:=hm
    replace hm:=Ae hm;obtain⟨h15,hm⟩:=hm
    refine .reg (eC 6 (EK tabs [[none],[none]] 2 [.tmp 0 true,.cell 1 3 false] [true,false] (pu 10660) [pt 1 0,(.int .u16 (QV .u16 z5 (QW .u16 (1:Int) k5)))] (hT 3 [(oC [zI z9,Sl.v 1 s6,Sl.v 1 s7,(.map (some 2))]),(.map e2 k3)])) (EL (as:=[pt 1 0,(.int .u16 (QV .u16 z5 (QW .u16 (1:Int) k5)))]) (H1:=(hT 3 [(oC [zI z9,Sl.v 1 s6,Sl.v 1 s7,(.map (some 2))]),(.map e2 k3)])) (BS (Dm Dk) (BS (Dm Dk) Gj)) (EI (H2:=(hT 3 [(oC [zI x3,Sl.v 1 s8,Sl.v 1 s9,(.map (some 2))]),(.map (Akd.es y0) (Akd.clock y0))])) (v:=(zI x2)) (v':=(zI x2)) [some 0,some 1,some 2] [(true,some 1),(false,some 2)] [(oC [zI z9,Sl.v 1 s6,Sl.v 1 s7,(.map (some 2))]),(.map e2 k3)] [pt 1 0,(.int .u16 (QV .u16 z5 (QW .u16 (1:Int) k5)))] [(.agg ⟨[zI x3,Sl.v 1 s8,Sl.v 1 s9,(.map (some 2))]⟩),v3] [(oC [zI x3,Sl.v 1 s8,Sl.v 1 s9,(.map (some 2))]),(.map (Akd.es y0) (Akd.clock y0))] [some 0,some 1,some 2] [(true,(oC [zI x3,Sl.v 1 s8,Sl.v 1 s9,(.map (some 2))])),(false,(.map (Akd.es y0) (Akd.clock y0)))] [(oC [zI x3,Sl.v 1 s8,Sl.v 1 s9,(.map (some 2))]),(.map (Akd.es y0) (Akd.clock y0))] (by kernel_rfl) (En (by kernel_rfl) (En (Ka h11) BX)) (Eq.trans (by kernel_rfl) h12) (En rfl (En (CK h14) BX)) (En (by kernel_rfl) (En (GZ h15) BX)))) (eE)) ?_
    replace hm:=Ae hm;obtain⟨h16,hm⟩:=hm
    refine .ghs (fr 52 [(0,pt 1 0),(1,.int .u16 z5),(7,(zI (bb (AY z6 x2) x2 z6))),(22,Sl.v 1 s5),(23,zI z7),(24,(zI (Int.ofNat k4)))]) (hT 3 [(oC [zI x3,Sl.v 1 s8,Sl.v 1 s9,(.map (some 2))]),(.map (Akd.es y0) (Akd.clock y0))]) (.k [2] [false,true,false] [] [0,1,7,22,23,24] ⟨Fb h16,trivial⟩) ?_
    refine .rK ?_
    exact⟨(z5,(bb (AY z6 x2) x2 z6),s5,z7,(Aj .i64 (Int.add (Int.ofNat k4) (1:Int))),x3,s8,s9,(Akd.es y0),(Akd.clock y0)),hm,(.k [2] [false,true,false] [] [0,1,7,22,23,24] ⟨Fb h16,trivial⟩)⟩
   ·refine Gs (AY z8 z7) h6 ?_
    refine .exit ?_
    exact⟨(z5,z6,z9,s6,s7,e2,k3),hm,(.k [2] [false,true,false] [] [0,1,7] ⟨Fb h5,trivial⟩)⟩
theorem AbH {call:A8} (pu:Af) (n:Nat) (hcall:call=Bb tabs Ir pu (inl pu)) {args:LV} {os:List AJ} {z:Value} (ha:args.length=2) (hk:os.length=2) (hpl:∀ o∈os,plainO o) (hm:LU pu n (args++os.map Ef)=some z):args.length≤52∧BN tt call (tabs.length+2) QF (Fr.made 52 args) (BK tabs os) (FJ tt tabs.length 2 [.tmp 4] z):=by
 subst hcall
 have hq:=BC ha;clear ha;obtain⟨a0,args,rfl,ha⟩:=hq
 have hq:=BC ha;clear ha;obtain⟨a1,args,rfl,ha⟩:=hq
 obtain rfl:=len_nil ha
 have hq:=BC hk;clear hk;obtain⟨b0,os,rfl,hk⟩:=hq
 have hp0:plainO b0:=hpl b0 (by simp)
 have hq:=BC hk;clear hk;obtain⟨b1,os,rfl,hk⟩:=hq
 have hp1:plainO b1:=hpl b1 (by simp)
 obtain rfl:=len_nil hk
 replace hm:LU pu n [a0,a1,Ef b0,Ef b1]=some z:=hm
 unfold LU at hm
 replace hm:(bb (MK a0 1 0) (oo (Bi .u16 a1) none λx0=>(oo (Bt (Ef b0)) none λl0=>(ll l0 none λv0 l0=>(ll l0 none λv1 l0=>(ll l0 none λv2 l0=>(ll l0 none λv3 l0=>(ll l0 (oo (Bi .i64 v0) none λx1=>(oo (Bj 1 v1) none λs0=>(oo (Bj 1 v2) none λs1=>(bb (FC v3 2) (oo (Fj (Ef b1)) none λy0=>(K6 pu n x0 x1 s0 s1 (Akd.es y0) (Akd.clock y0))) none)))) λ_ _=>none))))))) none)=some z:=hm
 replace hm:=Ae hm;obtain⟨h0,hm⟩:=hm
 obtain rfl:=KR h0
 replace hm:=Ai hm;obtain⟨x0,rfl,hm⟩:=hm
 replace hm:=Ab hm;obtain⟨l0,h1,hm⟩:=hm
 obtain rfl:=I7 hp0 h1
 replace hm:=Ad hm;obtain⟨v0,l34075_0,rfl,hm⟩:=hm
 replace hm:=Ad hm;obtain⟨v1,l34075_1,rfl,hm⟩:=hm
 replace hm:=Ad hm;obtain⟨v2,l34075_2,rfl,hm⟩:=hm
 replace hm:=Ad hm;obtain⟨v3,l34075_3,rfl,hm⟩:=hm
 replace hm:=AC hm;obtain⟨rfl,hm⟩:=hm
 replace hm:=Ai hm;obtain⟨x1,rfl,hm⟩:=hm
 replace hm:=Al hm;obtain⟨s0,rfl,hm⟩:=hm
 replace hm:=Al hm;obtain⟨s1,rfl,hm⟩:=hm
 replace hm:=Ae hm;obtain⟨h2,hm⟩:=hm
 obtain rfl:=Ey h2
 replace hm:=Ab hm;obtain⟨y0,h3,hm⟩:=hm
 obtain rfl:=MS hp1 h3
 refine⟨by simp,?_⟩
 exact .same (F':=(fr 52 [(0,pt 1 0),(1,.int .u16 x0)])) (H':=(hT 3 [(oC [zI x1,Sl.v 1 s0,Sl.v 1 s1,(.map (some 2))]),(.map (Akd.es y0) (Akd.clock y0))])) (by kernel_rfl) (by kernel_rfl) (AbG pu n x0 x1 s0 s1 (Akd.es y0) (Akd.clock y0) hm)
def MU (pu:Af) (n:Nat) (z0:Int) (s0 s1:Sl) (e0:List EO) (k1:Nat):OV:=
 (bb (Au F4 e0) (some (.tuple ⟨[(Sl.v 1 (Sl.mk 0 2 [])),(.agg ⟨[.int .i64 z0,Sl.v 1 s0,Sl.v 1 s1,(.map (some 2))]⟩),(Ef (.map e0 k1))]⟩)) none)
def LM (pu:Af) (n:Nat) (ih0:Sl→Int→Int→Int→Sl→Int→Int→Int→Sl→Sl→List EO→Nat→OV) (s0:Sl) (z0 z1 z2:Int) (s1:Sl) (z3 z4 z5:Int) (s2 s3:Sl) (e0:List EO) (k1:Nat):OV:=
 (bb (Au F4 e0) (ih0 s0 z0 z1 z2 s1 z3 (Aj .i64 (Int.add z4 (1:Int))) z5 s2 s3 e0 k1) none)
def M8 (pu:Af) (n:Nat) (ih0:Sl→Int→Int→Int→Sl→Int→Int→Int→Sl→Sl→List EO→Nat→OV) (s0:Sl) (z0 z1 z2:Int) (s1:Sl) (z3 z4 z5:Int) (s2 s3:Sl) (e0:List EO) (k1:Nat):OV:=
 (bb (Au F4 e0) (bb (AY z4 z3) (oo (EA z4) none λk2=>(bb (an (Nat.blt k2 (Sl.n s1)) true) (oo (AL (Sl.cs s1) (k2*1)) none λv0=>(oo (Bi .i64 v0) none λx0=>(oo (EA x0) none λk3=>(bb (an (Nat.blt k3 (Sl.n s2)) true) (oo (AL (Sl.cs s2) (k3*1)) none λv1=>(oo (Bi .i64 v1) none λx1=>(oo (EA z2) none λk4=>(bb (an (Nat.blt k4 (Sl.n s3)) true) (oo (AL (Sl.cs s3) (k4*1)) none λv2=>(oo (Bi .i64 v2) none λx2=>(bb (Bd x1 x2) (oo (pu 72 [Sl.v 1 s0]) none λv3=>(oo (Bj 1 v3) none λs4=>(bb (an (Dp (Nat.beq (Sl.fl s4) 1) (Nat.beq (Sl.fl s4) 2)) (EQ ((Sl.n s4)+1) 8)) (bb (an (Nat.ble (0+((Sl.n s4)+1)*1) (len (Br (Sl.cs s4) ([(.int .i64 (Int.ofNat k3))]:LV)))) (Au Ah (Aq (((Sl.n s4)+1)*1) (Am 0 (Br (Sl.cs s4) ([(.int .i64 (Int.ofNat k3))]:LV)))))) (bb (Au F4 e0) (oo (pu 10680 [(.pointer (some ⟨1,0,none⟩)),(Sl.v 1 (Sl.mk ((Sl.n s4)+1) 0 (Aq (((Sl.n s4)+1)*1) (Am 0 (Br (Sl.cs s4) ([(.int .i64 (Int.ofNat k3))]:LV)))))),(.int .u16 (QV .u16 z0 (QW .u16 (1:Int) k3))),.int .i64 z1,(.agg ⟨[.int .i64 z5,Sl.v 1 s2,Sl.v 1 s3,(.map (some 2))]⟩),(Ef (.map e0 k1))]) none λv4=>(oo (CQ v4) none λl0=>(ll l0 none λv5 l0=>(ll l0 none λv6 l0=>(ll l0 none λv7 l0=>(ll l0 (oo (Bj 1 v5) none λs5=>(oo (Bt v6) none λl1=>(ll l1 none λv8 l1=>(ll l1 none λv9 l1=>(ll l1 none λv10 l1=>(ll l1 none λv11 l1=>(ll l1 (oo (Bi .i64 v8) none λx3=>(oo (Bj 1 v9) none λs6=>(oo (Bj 1 v10) none λs7=>(bb (FC v11 2) (oo (Fj v7) none λy0=>(bb (Au F4 (Akd.es y0)) (bb (Au F4 (Akd.es y0)) (bb (Dp (Nat.beq (Sl.fl s5) 2) (Dp (Nat.beq (Sl.fl s5) 3) (Nat.ble 1 (Sl.n s5)))) (bb (bq false (Nat.beq (Sl.fl s5) 2)) (some (.tuple ⟨[Sl.v 1 s5,(.agg ⟨[.int .i64 x3,Sl.v 1 s6,Sl.v 1 s7,(.map (some 2))]⟩),(Ef (.map (Akd.es y0) (Akd.clock y0)))]⟩)) (LM pu n ih0 s0 z0 z1 (Int.ofNat k4) s1 z3 (Int.ofNat k2) x3 s6 s7 (Akd.es y0) (Akd.clock y0))) none) none) none)) none)))) λ_ _=>none))))))) λ_ _=>none)))))) none) none) none))) (LM pu n ih0 s0 z0 z1 (Int.ofNat k4) s1 z3 (Int.ofNat k2) z5 s2 s3 e0 k1)))) none)))) none)))) none)) (MU pu n z5 s2 s3 e0 k1)) none)
def KX (pu:Af) (n w:Nat):Sl→Int→Int→Int→Sl→Int→Int→Int→Sl→Sl→List EO→Nat→OV:=
 Nat.rec (motive:=λ_=>Sl→Int→Int→Int→Sl→Int→Int→Int→Sl→Sl→List EO→Nat→OV) (λ_ _ _ _ _ _ _ _ _ _ _ _=>none) (λ_ ih0=>M8 pu n ih0) w
def KZ (pu:Af) (n:Nat) (s0:Sl) (z0 z1 z2:Int) (b0:Bool) (z3:Int) (s1 s2:Sl) (e0:List EO) (k1:Nat):OV:=
 (bb b0 (bb (Au F4 e0) (some (.tuple ⟨[Sl.v 1 s0,(.agg ⟨[.int .i64 z3,Sl.v 1 s1,Sl.v 1 s2,(.map (some 2))]⟩),(Ef (.map e0 k1))]⟩)) none) (bb (Au F4 e0) (oo (pu 62 [.int .u16 z0]) none λv0=>(oo (Bj 1 v0) none λs3=>(KX pu n n s0 z0 z1 z2 s3 (Int.ofNat (Sl.n s3)) (0:Int) z3 s1 s2 e0 k1))) none))
def Ni (pu:Af) (n:Nat) (s0:Sl) (z0 z1 z2:Int) (s1 s2:Sl) (e0:List EO) (k1:Nat):OV:=
 (bb (Au F4 e0) (oo (EA (Aj .i64 (Int.sub (Int.ofNat (Sl.n s0)) (1:Int)))) none λk2=>(bb (an (Nat.blt k2 (Sl.n s0)) true) (oo (AL (Sl.cs s0) (k2*1)) none λv0=>(oo (Bi .i64 v0) none λx0=>(oo (EA x0) none λk3=>(bb (an (Nat.blt k3 (Sl.n s2)) true) (oo (AL (Sl.cs s2) (k3*1)) none λv1=>(oo (Bi .i64 v1) none λx1=>(bb (an (Nat.blt 0 (Sl.n s0)) true) (oo (AL (Sl.cs s0) (0*1)) none λv2=>(oo (Bi .i64 v2) none λx2=>(oo (EA x2) none λk4=>(bb (an (Nat.blt k4 (Sl.n s1)) true) (oo (AL (Sl.cs s1) (k4*1)) none λv3=>(oo (Bi .i64 v3) none λx3=>(bb (Bd x1 x3) (oo (pu 71 [(.agg ⟨[.int .i64 z2,Sl.v 1 s1,Sl.v 1 s2]⟩),.int .u16 z0]) none λv4=>(oo (Bf v4) none λb0=>(bb b0 (bb (Au F4 e0) (oo (pu 10660 [(.pointer (some ⟨1,0,none⟩)),.int .u16 z0,(.agg ⟨[.int .i64 z2,Sl.v 1 s1,Sl.v 1 s2,(.map (some 2))]⟩),(Ef (.map e0 k1))]) none λv5=>(oo (CQ v5) none λl0=>(ll l0 none λv6 l0=>(ll l0 none λv7 l0=>(ll l0 none λv8 l0=>(ll l0 (oo (Bi .i64 v6) none λx4=>(oo (Bt v7) none λl1=>(ll l1 none λv9 l1=>(ll l1 none λv10 l1=>(ll l1 none λv11 l1=>(ll l1 none λv12 l1=>(ll l1 (oo (Bi .i64 v9) none λx5=>(oo (Bj 1 v10) none λs3=>(oo (Bj 1 v11) none λs4=>(bb (FC v12 2) (oo (Fj v8) none λy0=>(bb (Au F4 (Akd.es y0)) (bb (Au F4 (Akd.es y0)) (KZ pu n s0 z0 z1 (Int.ofNat k3) (Bd x4 z1) x5 s3 s4 (Akd.es y0) (Akd.clock y0)) none) none)) none)))) λ_ _=>none))))))) λ_ _=>none)))))) none) (KZ pu n s0 z0 z1 (Int.ofNat k3) false z2 s1 s2 e0 k1)))) (KZ pu n s0 z0 z1 (Int.ofNat k3) false z2 s1 s2 e0 k1)))) none)))) none))) none)))) none)) none)
def OE (pu:Af) (n:Nat) (args:LV):OV:=
 (ll args none λa0 args=>(ll args none λa1 args=>(ll args none λa2 args=>(ll args none λa3 args=>(ll args none λo0 args=>(ll args none λo1 args=>(ll args (bb (MK a0 1 0) (oo (Bj 1 a1) none λs0=>(oo (Bi .u16 a2) none λx0=>(oo (Bi .i64 a3) none λx1=>(oo (Bt o0) none λl0=>(ll l0 none λv0 l0=>(ll l0 none λv1 l0=>(ll l0 none λv2 l0=>(ll l0 none λv3 l0=>(ll l0 (oo (Bi .i64 v0) none λx2=>(oo (Bj 1 v1) none λs1=>(oo (Bj 1 v2) none λs2=>(bb (FC v3 2) (oo (Fj o1) none λy0=>(Ni pu n s0 x0 x1 x2 s1 s2 (Akd.es y0) (Akd.clock y0))) none)))) λ_ _=>none))))))))) none) λ_ _=>none)))))))
theorem gK (pu:Af) (n:Nat) (z0:Int) (s0 s1:Sl) (e0:List EO) (k1:Nat) {v:Value} (hm:MU pu n z0 s0 s1 e0 k1=some v):BN tt (Bb tabs Ir pu (inl pu)) 3 fM (fr 94 []) (hT 3 [(oC [zI z0,Sl.v 1 s0,Sl.v 1 s1,(.map (some 2))]),(.map e0 k1)]) (FJ tt 1 2 [.tmp 8] v):=by
 unfold MU at hm
 refine .then (.rK ?_)
 replace hm:=Ae hm;obtain⟨h0,hm⟩:=hm
 refine .ghs (fr 94 [(8,(.slice none 0 0))]) (hT 3 [(oC [zI z0,Sl.v 1 s0,Sl.v 1 s1,(.map (some 2))]),(.map e0 k1)]) (.k [2] [false,true,false] [] [8] ⟨Fb h0,trivial⟩) ?_
 refine .ghs (fr 94 [(8,(Sl.v 1 (Sl.mk 0 2 [])))]) (hT 3 [(oC [zI z0,Sl.v 1 s0,Sl.v 1 s1,(.map (some 2))]),(.map e0 k1)]) (.freeze 3 8 1 (by kernel_rfl) (by kernel_rfl) (.k [2] [false,true,false] [] [8] ⟨Fb h0,trivial⟩)) ?_
 refine .ret ?_
 exact Gi (Sl.v 1 (Sl.mk 0 2 [])) [(oC [zI z0,Sl.v 1 s0,Sl.v 1 s1,(.map (some 2))]),(.map e0 k1)] (by kernel_rfl) hm (Nat.le_of_ble_eq_true rfl) (Fa (VT _) (Fa (SH _ _) EJ))
theorem AbP (pu:Af) (n:Nat) (s0:Sl) (z0 z1 z2:Int) (s1 s2:Sl) (e0:List EO) (k1:Nat) {v:Value} (hm:Ni pu n s0 z0 z1 z2 s1 s2 e0 k1=some v):BN tt (Bb tabs Ir pu (inl pu)) 3 QG (fr 94 [(0,pt 1 0),(1,Sl.v 1 s0),(2,.int .u16 z0),(3,zI z1)]) (hT 3 [(oC [zI z2,Sl.v 1 s1,Sl.v 1 s2,(.map (some 2))]),(.map e0 k1)]) (FJ tt 1 2 [.tmp 8] v):=by
 unfold Ni at hm
 refine .then (.rK ?_)
 replace hm:=Ae hm;obtain⟨h0,hm⟩:=hm
 refine .ghs (fr 94 [(0,pt 1 0),(1,Sl.v 1 s0),(2,.int .u16 z0),(3,zI z1)]) (hT 3 [(oC [zI z2,Sl.v 1 s1,Sl.v 1 s2,(.map (some 2))]),(.map e0 k1)]) (.k [2] [false,true,false] [] [0,1,2,3] ⟨Fb h0,trivial⟩) ?_
 refine .then ?_
 replace hm:=Ab hm;obtain⟨k2,h1,hm⟩:=hm
 replace hm:=Ae hm;obtain⟨h2,hm⟩:=hm
 replace hm:=Hw hm;obtain⟨x0,h3,hm⟩:=hm
 refine .reg (eC 3 (some ((zI (Aj .i64 (Int.sub (Int.ofNat (Sl.n s0)) (1:Int)))),(hT 3 [(oC [zI z2,Sl.v 1 s1,Sl.v 1 s2,(.map (some 2))]),(.map e0 k1)]))) (show _=some ((zI (Int.ofNat k2)),_) from (by rw[AR h1])) (eD (keep (hT 3 [(oC [zI z2,Sl.v 1 s1,Sl.v 1 s2,(.map (some 2))]),(.map e0 k1)]) (bb (an (Nat.blt k2 (Sl.n s0)) true) (some (Cv (k2*1) (Sl.cs s0))) none)) (AX h2) (eD (keep (hT 3 [(oC [zI z2,Sl.v 1 s1,Sl.v 1 s2,(.map (some 2))]),(.map e0 k1)]) (AL (Sl.cs s0) (k2*1))) (AZ h3) (eE)))) ?_
 refine .ghs (fr 94 [(0,pt 1 0),(1,Sl.v 1 s0),(2,.int .u16 z0),(3,zI z1),(9,zI x0)]) (hT 3 [(oC [zI z2,Sl.v 1 s1,Sl.v 1 s2,(.map (some 2))]),(.map e0 k1)]) (.k [2] [false,true,false] [] [0,1,2,3,9] ⟨Fb h0,trivial⟩) ?_
 refine .then (.join (v:=v) (λy:Sl×Int×Int×Int×Bool×Int×Sl×Sl×List EO×Nat=>((fr 94 [(0,pt 1 0),(1,(Sl.v 1 y.1)),(2,(.int .u16 y.2.1)),(3,(zI y.2.2.1)),(9,(zI y.2.2.2.1)),(52,(zB y.2.2.2.2.1))]),(hT 3 [(oC [(zI y.2.2.2.2.2.1),(Sl.v 1 y.2.2.2.2.2.2.1),(Sl.v 1 y.2.2.2.2.2.2.2.1),(.map (some 2))]),(.map y.2.2.2.2.2.2.2.2.1 y.2.2.2.2.2.2.2.2.2)]))) (λy=>KZ pu n y.1 y.2.1 y.2.2.1 y.2.2.2.1 y.2.2.2.2.1 y.2.2.2.2.2.1 y.2.2.2.2.2.2.1 y.2.2.2.2.2.2.2.1 y.2.2.2.2.2.2.2.2.1 y.2.2.2.2.2.2.2.2.2) ?_ ?_)
 ·rintro⟨s3,z3,z4,z5,b0,z6,s4,s5,e1,k3⟩ hm
  unfold KZ at hm
  replace hm:=Ag hm;rcases hm with⟨h4,hm⟩|⟨h4,hm⟩
  ·refine .ifT b0 (by kernel_rfl) h4 ?_
   refine .then (.rK ?_)
   replace hm:=Ae hm;obtain⟨h5,hm⟩:=hm
   refine .ghs (fr 94 [(8,Sl.v 1 s3)]) (hT 3 [(oC [zI z6,Sl.v 1 s4,Sl.v 1 s5,(.map (some 2))]),(.map e1 k3)]) (.k [2] [false,true,false] [] [8] ⟨Fb h5,trivial⟩) ?_
   refine .ghs (fr 94 [(8,Sl.v 1 s3)]) (hT 3 [(oC [zI z6,Sl.v 1 s4,Sl.v 1 s5,(.map (some 2))]),(.map e1 k3)]) (.k [2] [false,true,false] [] [8] ⟨Fb h5,trivial⟩) ?_
   refine .ret ?_
   exact Gi (Sl.v 1 s3) [(oC [zI z6,Sl.v 1 s4,Sl.v 1 s5,(.map (some 2))]),(.map e1 k3)] (by kernel_rfl) hm (Nat.le_of_ble_eq_true rfl) (Fa (VT _) (Fa (SH _ _) EJ))
  ·refine .ifF b0 (by kernel_rfl) h4 ?_
   refine .skip ?_
   replace hm:=Ae hm;obtain⟨h6,hm⟩:=hm
   refine .ghs (fr 94 [(0,pt 1 0),(1,Sl.v 1 s3),(2,.int .u16 z3),(3,zI z4),(9,zI z5)]) (hT 3 [(oC [zI z6,Sl.v 1 s4,Sl.v 1 s5,(.map (some 2))]),(.map e1 k3)]) (.k [2] [false,true,false] [] [0,1,2,3,9] ⟨Fb h6,trivial⟩) ?_
   refine .join (v:=v) (λy:Int×Sl×Sl×List EO×Nat=>((fr 94 []),(hT 3 [(oC [(zI y.1),(Sl.v 1 y.2.1),(Sl.v 1 y.2.2.1),(.map (some 2))]),(.map y.2.2.2.1 y.2.2.2.2)]))) (λy=>MU pu n y.1 y.2.1 y.2.2.1 y.2.2.2.1 y.2.2.2.2) ?_ ?_
   ·rintro⟨z7,s6,s7,e2,k4⟩ hm
    exact gK pu n z7 s6 s7 e2 k4 hm
   ·refine .then ?_
    replace hm:=Sm hm;obtain⟨s8,h7,hm⟩:=hm
    refine .reg (eC 1 ((oo (pu 62 [.int .u16 z3]) none λv=>some (v,(hT 3 [(oC [zI z6,Sl.v 1 s4,Sl.v 1 s5,(.map (some 2))]),(.map e1 k3)])))) (AB h7) (eE)) ?_
    refine .ghs (fr 94 [(0,pt 1 0),(1,Sl.v 1 s3),(2,.int .u16 z3),(3,zI z4),(9,zI z5),(55,Sl.v 1 s8),(56,(zI (Int.ofNat (Sl.n s8)))),(57,(zI (0:Int)))]) (hT 3 [(oC [zI z6,Sl.v 1 s4,Sl.v 1 s5,(.map (some 2))]),(.map e1 k3)]) (.k [2] [false,true,false] [] [0,1,2,3,9,55,56,57] ⟨Fb h6,trivial⟩) ?_
    refine .block (.loopM (v:=v) (λy:Sl×Int×Int×Int×Sl×Int×Int×Int×Sl×Sl×List EO×Nat=>((fr 94 [(0,pt 1 0),(1,(Sl.v 1 y.1)),(2,(.int .u16 y.2.1)),(3,(zI y.2.2.1)),(9,(zI y.2.2.2.1)),(55,(Sl.v 1 y.2.2.2.2.1)),(56,(zI y.2.2.2.2.2.1)),(57,(zI y.2.2.2.2.2.2.1))]),(hT 3 [(oC [(zI y.2.2.2.2.2.2.2.1),(Sl.v 1 y.2.2.2.2.2.2.2.2.1),(Sl.v 1 y.2.2.2.2.2.2.2.2.2.1),(.map (some 2))]),(.map y.2.2.2.2.2.2.2.2.2.2.1 y.2.2.2.2.2.2.2.2.2.2.2)]))) (λw y=>KX pu n w y.1 y.2.1 y.2.2.1 y.2.2.2.1 y.2.2.2.2.1 y.2.2.2.2.2.1 y.2.2.2.2.2.2.1 y.2.2.2.2.2.2.2.1 y.2.2.2.2.2.2.2.2.1 y.2.2.2.2.2.2.2.2.2.1 y.2.2.2.2.2.2.2.2.2.2.1 y.2.2.2.2.2.2.2.2.2.2.2) n ⟨(s3,z3,z4,z5,s8,(Int.ofNat (Sl.n s8)),(0:Int),z6,s4,s5,e1,k3),hm,(.k [2] [false,true,false] [] [0,1,2,3,9,55,56,57] ⟨Fb h6,trivial⟩)⟩ (λ_=>rfl) ?_)
    rintro w0 ⟨s9,z8,z9,z10,s10,z11,z12,z13,s11,s12,e3,k5⟩ hm
    replace hm:M8 pu n (KX pu n w0) s9 z8 z9 z10 s10 z11 z12 z13 s11 s12 e3 k5=some v:=hm
    unfold M8 at hm
    refine .then (.rK ?_)
    replace hm:=Ae hm;obtain⟨h8,hm⟩:=hm
    refine .ghs (fr 94 [(0,pt 1 0),(1,Sl.v 1 s9),(2,.int .u16 z8),(3,zI z9),(9,zI z10),(55,Sl.v 1 s10),(56,zI z11),(57,zI z12),(58,(zB (AY z12 z11)))]) (hT 3 [(oC [zI z13,Sl.v 1 s11,Sl.v 1 s12,(.map (some 2))]),(.map e3 k5)]) (.k [2] [false,true,false] [] [0,1,2,3,9,55,56,57,58] ⟨Fb h8,trivial⟩) ?_
    refine .then ?_
    replace hm:=Ag hm;rcases hm with⟨h9,hm⟩|⟨h9,hm⟩
    ·refine Gq (AY z12 z11) h9 ?_
     refine .skip (.ghs (fr 94 [(0,pt 1 0),(1,Sl.v 1 s9),(2,.int .u16 z8),(3,zI z9),(9,zI z10),(55,Sl.v 1 s10),(56,zI z11),(57,zI z12)]) (hT 3 [(oC [zI z13,Sl.v 1 s11,Sl.v 1 s12,(.map (some 2))]),(.map e3 k5)]) (.k [2] [false,true,false] [] [0,1,2,3,9,55,56,57] ⟨Fb h8,trivial⟩) ?_)
     refine .join (v:=v) (λy:Sl×Int×Int×Int×Sl×Int×Int×Int×Sl×Sl×List EO×Nat=>((fr 94 [(0,pt 1 0),(1,(Sl.v 1 y.1)),(2,(.int .u16 y.2.1)),(3,(zI y.2.2.1)),(9,(zI y.2.2.2.1)),(55,(Sl.v 1 y.2.2.2.2.1)),(56,(zI y.2.2.2.2.2.1)),(57,(zI y.2.2.2.2.2.2.1))]),(hT 3 [(oC [(zI y.2.2.2.2.2.2.2.1),(Sl.v 1 y.2.2.2.2.2.2.2.2.1),(Sl.v 1 y.2.2.2.2.2.2.2.2.2.1),(.map (some 2))]),(.map y.2.2.2.2.2.2.2.2.2.2.1 y.2.2.2.2.2.2.2.2.2.2.2)]))) (λy=>LM pu n (KX pu n w0) y.1 y.2.1 y.2.2.1 y.2.2.2.1 y.2.2.2.2.1 y.2.2.2.2.2.1 y.2.2.2.2.2.2.1 y.2.2.2.2.2.2.2.1 y.2.2.2.2.2.2.2.2.1 y.2.2.2.2.2.2.2.2.2.1 y.2.2.2.2.2.2.2.2.2.2.1 y.2.2.2.2.2.2.2.2.2.2.2) ?_ ?_
     ·rintro⟨s13,z14,z15,z16,s14,z17,z18,z19,s15,s16,e4,k6⟩ hm
      unfold LM at hm
      refine .rK ?_
      replace hm:=Ae hm;obtain⟨h10,hm⟩:=hm
      exact⟨(s13,z14,z15,z16,s14,z17,(Aj .i64 (Int.add z18 (1:Int))),z19,s15,s16,e4,k6),hm,(.k [2] [false,true,false] [] [0,1,2,3,9,55,56,57] ⟨Fb h10,trivial⟩)⟩
     ·refine .block (.then ?_)
      replace hm:=Ab hm;obtain⟨k7,h11,hm⟩:=hm
      obtain rfl:=AR h11
      replace hm:=Ae hm;obtain⟨h12,hm⟩:=hm
      replace hm:=Hw hm;obtain⟨x1,h13,hm⟩:=hm
      refine .reg (eD (keep (hT 3 [(oC [zI z13,Sl.v 1 s11,Sl.v 1 s12,(.map (some 2))]),(.map e3 k5)]) (bb (an (Nat.blt k7 (Sl.n s10)) true) (some (Cv (k7*1) (Sl.cs s10))) none)) (AX h12) (eD (keep (hT 3 [(oC [zI z13,Sl.v 1 s11,Sl.v 1 s12,(.map (some 2))]),(.map e3 k5)]) (AL (Sl.cs s10) (k7*1))) (AZ h13) (eE))) ?_
      refine .ghs (fr 94 [(0,pt 1 0),(1,Sl.v 1 s9),(2,.int .u16 z8),(3,zI z9),(9,zI z10),(11,zI x1),(55,Sl.v 1 s10),(56,zI z11),(57,(zI (Int.ofNat k7)))]) (hT 3 [(oC [zI z13,Sl.v 1 s11,Sl.v 1 s12,(.map (some 2))]),(.map e3 k5)]) (.k [2] [false,true,false] [] [0,1,2,3,9,11,55,56,57] ⟨Fb h8,trivial⟩) ?_
      refine .then ?_
      replace hm:=Ab hm;obtain⟨k8,h14,hm⟩:=hm
      obtain rfl:=AR h14
      replace hm:=Ae hm;obtain⟨h15,hm⟩:=hm
      replace hm:=Hw hm;obtain⟨x2,h16,hm⟩:=hm
      replace hm:=Ab hm;obtain⟨k9,h17,hm⟩:=hm
      obtain rfl:=AR h17
      replace hm:=Ae hm;obtain⟨h18,hm⟩:=hm
      replace hm:=Hw hm;obtain⟨x3,h19,hm⟩:=hm
      refine .reg (eC 6 (keep (hT 3 [(oC [zI z13,Sl.v 1 s11,Sl.v 1 s12,(.map (some 2))]),(.map e3 k5)]) (bb (an (Nat.blt k8 (Sl.n s11)) true) (some (Cv (k8*1) (Sl.cs s11))) none)) (AX h15) (eD (keep (hT 3 [(oC [zI z13,Sl.v 1 s11,Sl.v 1 s12,(.map (some 2))]),(.map e3 k5)]) (AL (Sl.cs s11) (k8*1))) (AZ h16) (eC 6 (keep (hT 3 [(oC [zI z13,Sl.v 1 s11,Sl.v 1 s12,(.map (some 2))]),(.map e3 k5)]) (bb (an (Nat.blt k9 (Sl.n s12)) true) (some (Cv (k9*1) (Sl.cs s12))) none)) (AX h18) (eD (keep (hT 3 [(oC [zI z13,Sl.v 1 s11,Sl.v 1 s12,(.map (some 2))]),(.map e3 k5)]) (AL (Sl.cs s12) (k9*1))) (AZ h19) (eE))))) ?_
      refine .ghs (fr 94 [(0,pt 1 0),(1,Sl.v 1 s9),(2,.int .u16 z8),(3,zI z9),(9,(zI (Int.ofNat k9))),(11,(zI (Int.ofNat k8))),(55,Sl.v 1 s10),(56,zI z11),(57,(zI (Int.ofNat k7))),(77,(zB (Bd x2 x3)))]) (hT 3 [(oC [zI z13,Sl.v 1 s11,Sl.v 1 s12,(.map (some 2))]),(.map e3 k5)]) (.k [2] [false,true,false] [] [0,1,2,3,9,11,55,56,57,77] ⟨Fb h8,trivial⟩) ?_
      replace hm:=Ag hm;rcases hm with⟨h20,hm⟩|⟨h20,hm⟩
      ·refine Gq (Bd x2 x3) h20 ?_
       refine .then ?_
       replace hm:=Sm hm;obtain⟨s17,h21,hm⟩:=hm
       replace hm:=Ae hm;obtain⟨h22,hm⟩:=hm
       replace hm:=Ae hm;obtain⟨h23,hm⟩:=hm
       replace hm:=Ae hm;obtain⟨h24,hm⟩:=hm
       replace hm:=Ab hm;obtain⟨v0,h25,hm⟩:=hm
       replace hm:=Ch hm;obtain⟨l0,rfl,hm⟩:=hm
       replace hm:=Ad hm;obtain⟨v1,l36544_0,rfl,hm⟩:=hm
       replace hm:=Ad hm;obtain⟨v2,l36544_1,rfl,hm⟩:=hm
       replace hm:=Ad hm;obtain⟨v3,l36544_2,rfl,hm⟩:=hm
       replace hm:=AC hm;obtain⟨rfl,hm⟩:=hm
       replace hm:=Al hm;obtain⟨s18,rfl,hm⟩:=hm
       replace hm:=BG hm;obtain⟨l1,rfl,hm⟩:=hm
       replace hm:=Ad hm;obtain⟨v4,l36551_0,rfl,hm⟩:=hm
       replace hm:=Ad hm;obtain⟨v5,l36551_1,rfl,hm⟩:=hm
       replace hm:=Ad hm;obtain⟨v6,l36551_2,rfl,hm⟩:=hm
       replace hm:=Ad hm;obtain⟨v7,l36551_3,rfl,hm⟩:=hm
       replace hm:=AC hm;obtain⟨rfl,hm⟩:=hm
       replace hm:=Ai hm;obtain⟨x4,rfl,hm⟩:=hm
       replace hm:=Al hm;obtain⟨s19,rfl,hm⟩:=hm
       replace hm:=Al hm;obtain⟨s20,rfl,hm⟩:=hm
       replace hm:=Ae hm;obtain⟨h26,hm⟩:=hm
       obtain rfl:=Ey h26
       replace hm:=Ab hm;obtain⟨y0,h27,hm⟩:=hm
       replace hm:=Ae hm;obtain⟨h28,hm⟩:=hm
       refine .reg (eC 9 ((oo (pu 72 [Sl.v 1 s9]) none λv=>some (v,(hT 4 [(oC [zI z13,Sl.v 1 s11,Sl.v 1 s12,(.map (some 2))]),(.map e3 k5),(oC [(zI (Int.ofNat k8))])])))) (AB h21) (eD (Uu (hT 4 [(oC [zI z13,Sl.v 1 s11,Sl.v 1 s12,(.map (some 2))]),(.map e3 k5),(oC [(zI (Int.ofNat k8))])]) 1 8 s17 1 ([(zI (Int.ofNat k8))]:LV)) (Wi h22) (eD (EK tabs [[none],[some 1],[none],[none]] 4 [.tmp 0 true,.cell 1 3 false] [true,false] (pu 10680) [pt 1 0,(sc 4 0 1 ((Sl.n s17)+1) (d2 ((Sl.n s17)+1))),(.int .u16 (QV .u16 z8 (QW .u16 (1:Int) k8))),zI z9] (hT 5 [(oC [zI z13,Sl.v 1 s11,Sl.v 1 s12,(.map (some 2))]),(.map e3 k5),(oC [(zI (Int.ofNat k8))]),(oC (Br (Sl.cs s17) ([(zI (Int.ofNat k8))]:LV)))])) (EL (as:=[pt 1 0,(Sl.v 1 (Sl.mk ((Sl.n s17)+1) 0 (Aq (((Sl.n s17)+1)*1) (Am 0 (Br (Sl.cs s17) ([(zI (Int.ofNat k8))]:LV)))))),(.int .u16 (QV .u16 z8 (QW .u16 (1:Int) k8))),zI z9]) (H1:=(hT 5 [(oC [zI z13,Sl.v 1 s11,Sl.v 1 s12,(.map (some 2))]),(.map e3 k5),(oC [(zI (Int.ofNat k8))]),.dead])) (BS (Dm Dk) (BS (Dm (KQ (show ER 1 (sc 4 0 1 ((Sl.n s17)+1) (d2 ((Sl.n s17)+1))) (hT 5 [(oC [zI z13,Sl.v 1 s11,Sl.v 1 s12,(.map (some 2))]),(.map e3 k5),(oC [(zI (Int.ofNat k8))]),(oC (Br (Sl.cs s17) ([(zI (Int.ofNat k8))]:LV)))])=some ((Sl.v 1 (Sl.mk ((Sl.n s17)+1) 0 (Aq (((Sl.n s17)+1)*1) (Am 0 (Br (Sl.cs s17) ([(zI (Int.ofNat k8))]:LV)))))),(hT 5 [(oC [zI z13,Sl.v 1 s11,Sl.v 1 s12,(.map (some 2))]),(.map e3 k5),(oC [(zI (Int.ofNat k8))]),.dead])) from KH 4 0 1 ((Sl.n s17)+1) (d2 ((Sl.n s17)+1)) (Br (Sl.cs s17) ([(zI (Int.ofNat k8))]:LV)) [] (by kernel_rfl) (by kernel_rfl) h23))) (BS (Dm Dk) (BS (Dm Dk) Gj)))) (EI (H2:=(hT 5 [(oC [zI x4,Sl.v 1 s19,Sl.v 1 s20,(.map (some 2))]),(.map (Akd.es y0) (Akd.clock y0)),(oC [(zI (Int.ofNat k8))]),.dead])) (v:=(Sl.v 1 s18)) (v':=(Sl.v 1 s18)) [some 0,some 1,some 2] [(true,some 1),(false,some 2)] [(oC [zI z13,Sl.v 1 s11,Sl.v 1 s12,(.map (some 2))]),(.map e3 k5)] [pt 1 0,(Sl.v 1 (Sl.mk ((Sl.n s17)+1) 0 (Aq (((Sl.n s17)+1)*1) (Am 0 (Br (Sl.cs s17) ([(zI (Int.ofNat k8))]:LV)))))),(.int .u16 (QV .u16 z8 (QW .u16 (1:Int) k8))),zI z9] [(.agg ⟨[zI x4,Sl.v 1 s19,Sl.v 1 s20,(.map (some 2))]⟩),v3] [(oC [zI x4,Sl.v 1 s19,Sl.v 1 s20,(.map (some 2))]),(.map (Akd.es y0) (Akd.clock y0))] [some 0,some 1,some 2,none,none] [(true,(oC [zI x4,Sl.v 1 s19,Sl.v 1 s20,(.map (some 2))])),(false,(.map (Akd.es y0) (Akd.clock y0)))] [(oC [zI x4,Sl.v 1 s19,Sl.v 1 s20,(.map (some 2))]),(.map (Akd.es y0) (Akd.clock y0))] (by kernel_rfl) (En (by kernel_rfl) (En (Ka h24) BX)) (Eq.trans (by kernel_rfl) h25) (En rfl (En (CK h27) BX)) (En (by kernel_rfl) (En (GZ h28) BX)))) (eE)))) ?_
       replace hm:=Ae hm;obtain⟨h29,hm⟩:=hm
       refine .ghs (fr 94 [(0,pt 1 0),(1,Sl.v 1 s9),(2,.int .u16 z8),(3,zI z9),(9,(zI (Int.ofNat k9))),(12,Sl.v 1 s18),(55,Sl.v 1 s10),(56,zI z11),(57,(zI (Int.ofNat k7)))]) (hT 3 [(oC [zI x4,Sl.v 1 s19,Sl.v 1 s20,(.map (some 2))]),(.map (Akd.es y0) (Akd.clock y0))]) (.k [2] [false,true,false] [] [0,1,2,3,9,12,55,56,57] ⟨Fb h29,trivial⟩) ?_
       refine .then ?_
       replace hm:=Ae hm;obtain⟨h30,hm⟩:=hm
       refine .reg (eC 1 (keep (hT 3 [(oC [zI x4,Sl.v 1 s19,Sl.v 1 s20,(.map (some 2))]),(.map (Akd.es y0) (Akd.clock y0))]) (eZ false 1 s18)) (We h30) (eE)) ?_
       refine .ghs (fr 94 [(0,pt 1 0),(1,Sl.v 1 s9),(2,.int .u16 z8),(3,zI z9),(9,(zI (Int.ofNat k9))),(12,Sl.v 1 s18),(55,Sl.v 1 s10),(56,zI z11),(57,(zI (Int.ofNat k7))),(91,(zB (bq false (Nat.beq (Sl.fl s18) 2))))]) (hT 3 [(oC [zI x4,Sl.v 1 s19,Sl.v 1 s20,(.map (some 2))]),(.map (Akd.es y0) (Akd.clock y0))]) (.k [2] [false,true,false] [] [0,1,2,3,9,12,55,56,57,91] ⟨Fb h29,trivial⟩) ?_
       replace hm:=Ag hm;rcases hm with⟨h31,hm⟩|⟨h31,hm⟩
       ·refine Gq (bq false (Nat.beq (Sl.fl s18) 2)) h31 ?_
        refine .then (.rK (.ghs (fr 94 [(8,Sl.v 1 s18)]) (hT 3 [(oC [zI x4,Sl.v 1 s19,Sl.v 1 s20,(.map (some 2))]),(.map (Akd.es y0) (Akd.clock y0))]) (.k [2] [false,true,false] [] [8] ⟨Fb h29,trivial⟩) ?_))
        refine .ghs (fr 94 [(8,Sl.v 1 s18)]) (hT 3 [(oC [zI x4,Sl.v 1 s19,Sl.v 1 s20,(.map (some 2))]),(.map (Akd.es y0) (Akd.clock y0))]) (.k [2] [false,true,false] [] [8] ⟨Fb h29,trivial⟩) ?_
        refine .ret ?_
        exact Gi (Sl.v 1 s18) [(oC [zI x4,Sl.v 1 s19,Sl.v 1 s20,(.map (some 2))]),(.map (Akd.es y0) (Akd.clock y0))] (by kernel_rfl) hm (Nat.le_of_ble_eq_true rfl) (Fa (VT _) (Fa (SH _ _) EJ))
       ·refine Gs (bq false (Nat.beq (Sl.fl s18) 2)) h31 ?_
        refine .skip ?_
        exact⟨(s9,z8,z9,(Int.ofNat k9),s10,z11,(Int.ofNat k7),x4,s19,s20,(Akd.es y0),(Akd.clock y0)),hm,(.k [2] [false,true,false] [] [0,1,2,3,9,55,56,57] ⟨Fb h29,trivial⟩)⟩
      ·refine Gs (Bd x2 x3) h20 ?_
       refine .skip ?_
       exact⟨(s9,z8,z9,(Int.ofNat k9),s10,z11,(Int.ofNat k7),z13,s11,s12,e3,k5),hm,(.k [2] [false,true,false] [] [0,1,2,3,9,55,56,57] ⟨Fb h8,trivial⟩)⟩
    ·refine Gs (AY z12 z11) h9 ?_
     refine .exit ?_
     exact⟨(z13,s11,s12,e3,k5),hm,(.k [2] [false,true,false] [] [] ⟨Fb h8,trivial⟩)⟩
 ·replace hm:=Ab hm;obtain⟨k10,h32,hm⟩:=hm
  obtain rfl:=AR h32
  replace hm:=Ae hm;obtain⟨h33,hm⟩:=hm
  replace hm:=Hw hm;obtain⟨x5,h34,hm⟩:=hm
  replace hm:=Ae hm;obtain⟨h35,hm⟩:=hm
  replace hm:=Hw hm;obtain⟨x6,h36,hm⟩:=hm
  replace hm:=Ab hm;obtain⟨k11,h37,hm⟩:=hm
  obtain rfl:=AR h37
  replace hm:=Ae hm;obtain⟨h38,hm⟩:=hm
  replace hm:=Hw hm;obtain⟨x7,h39,hm⟩:=hm
  replace hm:=Ag hm;rcases hm with⟨h40,hm⟩|⟨h40,hm⟩
  ·replace hm:=bW hm;obtain⟨b3,h41,hm⟩:=hm
   replace hm:=Ag hm;rcases hm with⟨h42,hm⟩|⟨h42,hm⟩
   ·replace hm:=Ae hm;obtain⟨h43,hm⟩:=hm
    replace hm:=Ab hm;obtain⟨v8,h44,hm⟩:=hm
    replace hm:=Ch hm;obtain⟨l2,rfl,hm⟩:=hm
    replace hm:=Ad hm;obtain⟨v9,l36668_0,rfl,hm⟩:=hm
    replace hm:=Ad hm;obtain⟨v10,l36668_1,rfl,hm⟩:=hm
    replace hm:=Ad hm;obtain⟨v11,l36668_2,rfl,hm⟩:=hm
    replace hm:=AC hm;obtain⟨rfl,hm⟩:=hm
    replace hm:=Ai hm;obtain⟨x8,rfl,hm⟩:=hm
    replace hm:=BG hm;obtain⟨l3,rfl,hm⟩:=hm
    replace hm:=Ad hm;obtain⟨v12,l36675_0,rfl,hm⟩:=hm
    replace hm:=Ad hm;obtain⟨v13,l36675_1,rfl,hm⟩:=hm
    replace hm:=Ad hm;obtain⟨v14,l36675_2,rfl,hm⟩:=hm
    replace hm:=Ad hm;obtain⟨v15,l36675_3,rfl,hm⟩:=hm
    replace hm:=AC hm;obtain⟨rfl,hm⟩:=hm
    replace hm:=Ai hm;obtain⟨x9,rfl,hm⟩:=hm
    replace hm:=Al hm;obtain⟨s21,rfl,hm⟩:=hm
    replace hm:=Al hm;obtain⟨s22,rfl,hm⟩:=hm
    replace hm:=Ae hm;obtain⟨h45,hm⟩:=hm
    obtain rfl:=Ey h45
    replace hm:=Ab hm;obtain⟨y1,h46,hm⟩:=hm
    replace hm:=Ae hm;obtain⟨h47,hm⟩:=hm
    refine .reg (eN 15 (Fr.puts (fr 94 [(0,pt 1 0),(1,Sl.v 1 s0),(2,.int .u16 z0),(3,zI z1),(9,(zI (Int.ofNat k10)))]) [(19,pt 1 0),(20,pt 1 0),(21,pt 1 0),(22,pt 1 2),(23,Sl.v 1 s2),(24,(zI (Int.ofNat k10))),(25,(Cv (k10*1) (Sl.cs s2))),(26,zI x5),(27,pt 1 0),(28,pt 1 0),(29,pt 1 0),(30,pt 1 1),(31,Sl.v 1 s1),(32,Sl.v 1 s0),(33,(Cv (0*1) (Sl.cs s0)))]) (hT 3 [(oC [zI z2,Sl.v 1 s1,Sl.v 1 s2,(.map (some 2))]),(.map e0 k1)]) (eC 6 (keep (hT 3 [(oC [zI z2,Sl.v 1 s1,Sl.v 1 s2,(.map (some 2))]),(.map e0 k1)]) (bb (an (Nat.blt k10 (Sl.n s2)) true) (some (Cv (k10*1) (Sl.cs s2))) none)) (AX h33) (eD (keep (hT 3 [(oC [zI z2,Sl.v 1 s1,Sl.v 1 s2,(.map (some 2))]),(.map e0 k1)]) (AL (Sl.cs s2) (k10*1))) (AZ h34) (eC 6 (keep (hT 3 [(oC [zI z2,Sl.v 1 s1,Sl.v 1 s2,(.map (some 2))]),(.map e0 k1)]) (bb (an (Nat.blt 0 (Sl.n s0)) true) (some (Cv (0*1) (Sl.cs s0))) none)) (AX h35) (by kernel_rfl)))) (eN 3 (Fr.puts (fr 94 [(0,pt 1 0),(1,Sl.v 1 s0),(2,.int .u16 z0),(3,zI z1),(9,(zI (Int.ofNat k10)))]) [(19,pt 1 0),(20,pt 1 0),(21,pt 1 0),(22,pt 1 2),(23,Sl.v 1 s2),(24,(zI (Int.ofNat k10))),(25,(Cv (k10*1) (Sl.cs s2))),(26,zI x5),(27,pt 1 0),(28,pt 1 0),(29,pt 1 0),(30,pt 1 1),(31,Sl.v 1 s1),(32,Sl.v 1 s0),(33,(Cv (0*1) (Sl.cs s0))),(34,(zI (Int.ofNat k11))),(35,(Cv (k11*1) (Sl.cs s1))),(36,zI x7)]) (hT 3 [(oC [zI z2,Sl.v 1 s1,Sl.v 1 s2,(.map (some 2))]),(.map e0 k1)]) (eD (keep (hT 3 [(oC [zI z2,Sl.v 1 s1,Sl.v 1 s2,(.map (some 2))]),(.map e0 k1)]) (AL (Sl.cs s0) (0*1))) (AZ h36) (eD (keep (hT 3 [(oC [zI z2,Sl.v 1 s1,Sl.v 1 s2,(.map (some 2))]),(.map e0 k1)]) (bb (an (Nat.blt k11 (Sl.n s1)) true) (some (Cv (k11*1) (Sl.cs s1))) none)) (AX h38) (eD (keep (hT 3 [(oC [zI z2,Sl.v 1 s1,Sl.v 1 s2,(.map (some 2))]),(.map e0 k1)]) (AL (Sl.cs s1) (k11*1))) (AZ h39) (by kernel_rfl)))) (eD (some ((zB (Bd x5 x7)),(hT 3 [(oC [zI z2,Sl.v 1 s1,Sl.v 1 s2,(.map (some 2))]),(.map e0 k1)]))) (show _=some ((zB true),_) from (by rw[show (Bd x5 x7)=true from h40])) (eC 6 ((oo (pu 71 [(.agg ⟨[zI z2,Sl.v 1 s1,Sl.v 1 s2]⟩),.int .u16 z0]) none λv=>some (v,(hT 3 [(oC [zI z2,Sl.v 1 s1,Sl.v 1 s2,(.map (some 2))]),(.map e0 k1)])))) (show _=some ((zB true),_) from (by have hz:(oo (pu 71 [(.agg ⟨[zI z2,Sl.v 1 s1,Sl.v 1 s2]⟩),.int .u16 z0]) none λv=>some (v,(hT 3 [(oC [zI z2,Sl.v 1 s1,Sl.v 1 s2,(.map (some 2))]),(.map e0 k1)])))=some ((zB b3),(hT 3 [(oC [zI z2,Sl.v 1 s1,Sl.v 1 s2,(.map (some 2))]),(.map e0 k1)])):=(AB h41);rw[h42] at hz;exact hz)) (eC 5 (EK tabs [[none],[none]] 2 [.tmp 0 true,.cell 1 3 false] [true,false] (pu 10660) [pt 1 0,.int .u16 z0] (hT 3 [(oC [zI z2,Sl.v 1 s1,Sl.v 1 s2,(.map (some 2))]),(.map e0 k1)])) (EL (as:=[pt 1 0,.int .u16 z0]) (H1:=(hT 3 [(oC [zI z2,Sl.v 1 s1,Sl.v 1 s2,(.map (some 2))]),(.map e0 k1)])) (BS (Dm Dk) (BS (Dm Dk) Gj)) (EI (H2:=(hT 3 [(oC [zI x9,Sl.v 1 s21,Sl.v 1 s22,(.map (some 2))]),(.map (Akd.es y1) (Akd.clock y1))])) (v:=(zI x8)) (v':=(zI x8)) [some 0,some 1,some 2] [(true,some 1),(false,some 2)] [(oC [zI z2,Sl.v 1 s1,Sl.v 1 s2,(.map (some 2))]),(.map e0 k1)] [pt 1 0,.int .u16 z0] [(.agg ⟨[zI x9,Sl.v 1 s21,Sl.v 1 s22,(.map (some 2))]⟩),v11] [(oC [zI x9,Sl.v 1 s21,Sl.v 1 s22,(.map (some 2))]),(.map (Akd.es y1) (Akd.clock y1))] [some 0,some 1,some 2] [(true,(oC [zI x9,Sl.v 1 s21,Sl.v 1 s22,(.map (some 2))])),(false,(.map (Akd.es y1) (Akd.clock y1)))] [(oC [zI x9,Sl.v 1 s21,Sl.v 1 s22,(.map (some 2))]),(.map (Akd.es y1) (Akd.clock y1))] (by kernel_rfl) (En (by kernel_rfl) (En (Ka h43) BX)) (Eq.trans (by kernel_rfl) h44) (En rfl (En (CK h46) BX)) (En (by kernel_rfl) (En (GZ h47) BX)))) (eE)))))) ?_
    replace hm:=Ae hm;obtain⟨h48,hm⟩:=hm
    exact⟨(s0,z0,z1,(Int.ofNat k10),(Bd x8 z1),x9,s21,s22,(Akd.es y1),(Akd.clock y1)),hm,(.k [2] [false,true,false] [] [0,1,2,3,9,52] ⟨Fb h48,trivial⟩)⟩
   ·refine .reg (eN 15 (Fr.puts (fr 94 [(0,pt 1 0),(1,Sl.v 1 s0),(2,.int .u16 z0),(3,zI z1),(9,(zI (Int.ofNat k10)))]) [(19,pt 1 0),(20,pt 1 0),(21,pt 1 0),(22,pt 1 2),(23,Sl.v 1 s2),(24,(zI (Int.ofNat k10))),(25,(Cv (k10*1) (Sl.cs s2))),(26,zI x5),(27,pt 1 0),(28,pt 1 0),(29,pt 1 0),(30,pt 1 1),(31,Sl.v 1 s1),(32,Sl.v 1 s0),(33,(Cv (0*1) (Sl.cs s0)))]) (hT 3 [(oC [zI z2,Sl.v 1 s1,Sl.v 1 s2,(.map (some 2))]),(.map e0 k1)]) (eC 6 (keep (hT 3 [(oC [zI z2,Sl.v 1 s1,Sl.v 1 s2,(.map (some 2))]),(.map e0 k1)]) (bb (an (Nat.blt k10 (Sl.n s2)) true) (some (Cv (k10*1) (Sl.cs s2))) none)) (AX h33) (eD (keep (hT 3 [(oC [zI z2,Sl.v 1 s1,Sl.v 1 s2,(.map (some 2))]),(.map e0 k1)]) (AL (Sl.cs s2) (k10*1))) (AZ h34) (eC 6 (keep (hT 3 [(oC [zI z2,Sl.v 1 s1,Sl.v 1 s2,(.map (some 2))]),(.map e0 k1)]) (bb (an (Nat.blt 0 (Sl.n s0)) true) (some (Cv (0*1) (Sl.cs s0))) none)) (AX h35) (by kernel_rfl)))) (eD (keep (hT 3 [(oC [zI z2,Sl.v 1 s1,Sl.v 1 s2,(.map (some 2))]),(.map e0 k1)]) (AL (Sl.cs s0) (0*1))) (AZ h36) (eD (keep (hT 3 [(oC [zI z2,Sl.v 1 s1,Sl.v 1 s2,(.map (some 2))]),(.map e0 k1)]) (bb (an (Nat.blt k11 (Sl.n s1)) true) (some (Cv (k11*1) (Sl.cs s1))) none)) (AX h38) (eD (keep (hT 3 [(oC [zI z2,Sl.v 1 s1,Sl.v 1 s2,(.map (some 2))]),(.map e0 k1)]) (AL (Sl.cs s1) (k11*1))) (AZ h39) (eD (some ((zB (Bd x5 x7)),(hT 3 [(oC [zI z2,Sl.v 1 s1,Sl.v 1 s2,(.map (some 2))]),(.map e0 k1)]))) (show _=some ((zB true),_) from (by rw[show (Bd x5 x7)=true from h40])) (eC 6 ((oo (pu 71 [(.agg ⟨[zI z2,Sl.v 1 s1,Sl.v 1 s2]⟩),.int .u16 z0]) none λv=>some (v,(hT 3 [(oC [zI z2,Sl.v 1 s1,Sl.v 1 s2,(.map (some 2))]),(.map e0 k1)])))) (show _=some ((zB false),_) from (by have hz:(oo (pu 71 [(.agg ⟨[zI z2,Sl.v 1 s1,Sl.v 1 s2]⟩),.int .u16 z0]) none λv=>some (v,(hT 3 [(oC [zI z2,Sl.v 1 s1,Sl.v 1 s2,(.map (some 2))]),(.map e0 k1)])))=some ((zB b3),(hT 3 [(oC [zI z2,Sl.v 1 s1,Sl.v 1 s2,(.map (some 2))]),(.map e0 k1)])):=(AB h41);rw[h42] at hz;exact hz)) (eE))))))) ?_
    exact⟨(s0,z0,z1,(Int.ofNat k10),false,z2,s1,s2,e0,k1),hm,(.k [2] [false,true,false] [] [0,1,2,3,9,52] ⟨Fb h0,trivial⟩)⟩
  ·refine .reg (eN 15 (Fr.puts (fr 94 [(0,pt 1 0),(1,Sl.v 1 s0),(2,.int .u16 z0),(3,zI z1),(9,(zI (Int.ofNat k10)))]) [(19,pt 1 0),(20,pt 1 0),(21,pt 1 0),(22,pt 1 2),(23,Sl.v 1 s2),(24,(zI (Int.ofNat k10))),(25,(Cv (k10*1) (Sl.cs s2))),(26,zI x5),(27,pt 1 0),(28,pt 1 0),(29,pt 1 0),(30,pt 1 1),(31,Sl.v 1 s1),(32,Sl.v 1 s0),(33,(Cv (0*1) (Sl.cs s0)))]) (hT 3 [(oC [zI z2,Sl.v 1 s1,Sl.v 1 s2,(.map (some 2))]),(.map e0 k1)]) (eC 6 (keep (hT 3 [(oC [zI z2,Sl.v 1 s1,Sl.v 1 s2,(.map (some 2))]),(.map e0 k1)]) (bb (an (Nat.blt k10 (Sl.n s2)) true) (some (Cv (k10*1) (Sl.cs s2))) none)) (AX h33) (eD (keep (hT 3 [(oC [zI z2,Sl.v 1 s1,Sl.v 1 s2,(.map (some 2))]),(.map e0 k1)]) (AL (Sl.cs s2) (k10*1))) (AZ h34) (eC 6 (keep (hT 3 [(oC [zI z2,Sl.v 1 s1,Sl.v 1 s2,(.map (some 2))]),(.map e0 k1)]) (bb (an (Nat.blt 0 (Sl.n s0)) true) (some (Cv (0*1) (Sl.cs s0))) none)) (AX h35) (by kernel_rfl)))) (eD (keep (hT 3 [(oC [zI z2,Sl.v 1 s1,Sl.v 1 s2,(.map (some 2))]),(.map e0 k1)]) (AL (Sl.cs s0) (0*1))) (AZ h36) (eD (keep (hT 3 [(oC [zI z2,Sl.v 1 s1,Sl.v 1 s2,(.map (some 2))]),(.map e0 k1)]) (bb (an (Nat.blt k11 (Sl.n s1)) true) (some (Cv (k11*1) (Sl.cs s1))) none)) (AX h38) (eD (keep (hT 3 [(oC [zI z2,Sl.v 1 s1,Sl.v 1 s2,(.map (some 2))]),(.map e0 k1)]) (AL (Sl.cs s1) (k11*1))) (AZ h39) (eD (some ((zB (Bd x5 x7)),(hT 3 [(oC [zI z2,Sl.v 1 s1,Sl.v 1 s2,(.map (some 2))]),(.map e0 k1)]))) (show _=some ((zB false),_) from (by rw[show (Bd x5 x7)=false from h40])) (eE)))))) ?_
   exact⟨(s0,z0,z1,(Int.ofNat k10),false,z2,s1,s2,e0,k1),hm,(.k [2] [false,true,false] [] [0,1,2,3,9,52] ⟨Fb h0,trivial⟩)⟩
theorem AbQ {call:A8} (pu:Af) (n:Nat) (hcall:call=Bb tabs Ir pu (inl pu)) {args:LV} {os:List AJ} {z:Value} (ha:args.length=4) (hk:os.length=2) (hpl:∀ o∈os,plainO o) (hm:OE pu n (args++os.map Ef)=some z):args.length≤94∧BN tt call (tabs.length+2) QG (Fr.made 94 args) (BK tabs os) (FJ tt tabs.length 2 [.tmp 8] z):=by
 subst hcall
 have hq:=BC ha;clear ha;obtain⟨a0,args,rfl,ha⟩:=hq
 have hq:=BC ha;clear ha;obtain⟨a1,args,rfl,ha⟩:=hq
 have hq:=BC ha;clear ha;obtain⟨a2,args,rfl,ha⟩:=hq
 have hq:=BC ha;clear ha;obtain⟨a3,args,rfl,ha⟩:=hq
 obtain rfl:=len_nil ha
 have hq:=BC hk;clear hk;obtain⟨b0,os,rfl,hk⟩:=hq
 have hp0:plainO b0:=hpl b0 (by simp)
 have hq:=BC hk;clear hk;obtain⟨b1,os,rfl,hk⟩:=hq
 have hp1:plainO b1:=hpl b1 (by simp)
 obtain rfl:=len_nil hk
 replace hm:OE pu n [a0,a1,a2,a3,Ef b0,Ef b1]=some z:=hm
 unfold OE at hm
 replace hm:(bb (MK a0 1 0) (oo (Bj 1 a1) none λs0=>(oo (Bi .u16 a2) none λx0=>(oo (Bi .i64 a3) none λx1=>(oo (Bt (Ef b0)) none λl0=>(ll l0 none λv0 l0=>(ll l0 none λv1 l0=>(ll l0 none λv2 l0=>(ll l0 none λv3 l0=>(ll l0 (oo (Bi .i64 v0) none λx2=>(oo (Bj 1 v1) none λs1=>(oo (Bj 1 v2) none λs2=>(bb (FC v3 2) (oo (Fj (Ef b1)) none λy0=>(Ni pu n s0 x0 x1 x2 s1 s2 (Akd.es y0) (Akd.clock y0))) none)))) λ_ _=>none))))))))) none)=some z:=hm
 replace hm:=Ae hm;obtain⟨h0,hm⟩:=hm
 obtain rfl:=KR h0
 replace hm:=Al hm;obtain⟨s0,rfl,hm⟩:=hm
 replace hm:=Ai hm;obtain⟨x0,rfl,hm⟩:=hm
 replace hm:=Ai hm;obtain⟨x1,rfl,hm⟩:=hm
 replace hm:=Ab hm;obtain⟨l0,h1,hm⟩:=hm
 obtain rfl:=I7 hp0 h1
 replace hm:=Ad hm;obtain⟨v0,l36699_0,rfl,hm⟩:=hm
 replace hm:=Ad hm;obtain⟨v1,l36699_1,rfl,hm⟩:=hm
 replace hm:=Ad hm;obtain⟨v2,l36699_2,rfl,hm⟩:=hm
 replace hm:=Ad hm;obtain⟨v3,l36699_3,rfl,hm⟩:=hm
 replace hm:=AC hm;obtain⟨rfl,hm⟩:=hm
 replace hm:=Ai hm;obtain⟨x2,rfl,hm⟩:=hm
 replace hm:=Al hm;obtain⟨s1,rfl,hm⟩:=hm
 replace hm:=Al hm;obtain⟨s2,rfl,hm⟩:=hm
 replace hm:=Ae hm;obtain⟨h2,hm⟩:=hm
 obtain rfl:=Ey h2
 replace hm:=Ab hm;obtain⟨y0,h3,hm⟩:=hm
 obtain rfl:=MS hp1 h3
 refine⟨by simp,?_⟩
 exact .same (F':=(fr 94 [(0,pt 1 0),(1,Sl.v 1 s0),(2,.int .u16 x0),(3,zI x1)])) (H':=(hT 3 [(oC [zI x2,Sl.v 1 s1,Sl.v 1 s2,(.map (some 2))]),(.map (Akd.es y0) (Akd.clock y0))])) (by kernel_rfl) (by kernel_rfl) (AbP pu n s0 x0 x1 x2 s1 s2 (Akd.es y0) (Akd.clock y0) hm)
end
end Go.MnSM
set_option maxRecDepth 100000
namespace Go.MnSM
open Go.Sp Go.MnS
noncomputable section
def L:Nat:=1000000
def Yb (pu:Af):Af:=λg args=>
 bb (Nat.beq g 10) (m10 pu L args) (bb (Nat.beq g 16) (m16 pu L args) (bb (Nat.beq g 18) (m18 pu L args) (bb (Nat.beq g 20) (m20 pu L args) (bb (Nat.beq g 21) (m21 pu L args) (bb (Nat.beq g 23) (m23 pu L args) (bb (Nat.beq g 24) (m24 pu L args) (bb (Nat.beq g 26) (m26 pu L args) (bb (Nat.beq g 29) (m29 pu L args) (bb (Nat.beq g 33) (m33 pu L args) (bb (Nat.beq g 34) (m34 pu L args) (bb (Nat.beq g 36) (m36 pu L args) (bb (Nat.beq g 37) (m37 pu L args) (bb (Nat.beq g 43) (m43 pu L args) (bb (Nat.beq g 44) (m44 pu L args) (bb (Nat.beq g 47) (m47 pu L args) (bb (Nat.beq g 48) (m48 pu L args) (bb (Nat.beq g 51) (m51 pu L args) (bb (Nat.beq g 52) (m52 pu L args) (bb (Nat.beq g 53) (m53 pu L args) (bb (Nat.beq g 57) (m57 pu L args) (bb (Nat.beq g 61) (m61 pu L args) (bb (Nat.beq g 62) (m62 pu L args) (bb (Nat.beq g 64) (m64 pu L args) (bb (Nat.beq g 67) (m67 pu L args) (bb (Nat.beq g 71) (m71 pu L args) (bb (Nat.beq g 72) (m72 pu L args) (bb (Nat.beq g 10220) (RY pu L args) (bb (Nat.beq g 10600) (OD pu L args) (bb (Nat.beq g 10650) (RZ pu L args) (bb (Nat.beq g 10660) (LU pu L args) (bb (Nat.beq g 10680) (OE pu L args) (bb (Nat.beq g 12) (ll args (some (.bool true)) λ_ _=>none) (none)))))))))))))))))))))))))))))))))
def FK:Nat→Af:=λn=>Nat.rec (motive:=λ_=>Af) (λ_ _=>none) (λ_ ih=>Yb ih) n
end
end Go.MnSM
