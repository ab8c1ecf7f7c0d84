/- Made from wip. -/
import Derived.Test.YtflonlkiajhhjaaTpAMod1x
import Derived.Test.YtflonlkiajhhjaaTpAMod2
import Derived.Test.YtflonlkiajhhjaaTpAMod3
import Derived.Test.YtflonlkiajhhjaaTpAMod4
import Derived.Test.YtflonlkiajhhjaaTpAMod5
import Derived.Test.YtflonlkiajhhjaaTpAMod6

set_option maxRecDepth 100000
set_option maxHeartbeats 20000000
set_option linter.unusedVariables false
namespace Go.TpAM
open Go.Sp Go.TpA
noncomputable section

def KW (pu:Af) (n n0 c0:Nat) (q0:LV):OV:=
 (bb (Au Ah q0) (oo (pu 69 [(.int .u64 (Aj .u64 (Int.ofNat n0)))]) none fun v0=>(oo (Bi .i64 v0) none fun x0=>(bb (Dp (Nat.ble 2 c0) (MQ q0)) (bb (Au Ah q0) (oo (pu 10680 [(.slice (some ⟨0,0,some 1⟩) n0 c0),(.int .i64 (0:Int)),(.int .i64 (Int.ofNat n0)),.int .i64 x0,(.func (.func 45) ⟨[]⟩ ⟨[]⟩),(.agg ⟨q0⟩)]) none fun v1=>(oo (CQ v1) none fun l0=>(ll l0 none fun v2 l0=>(ll l0 none fun v3 l0=>(ll l0 (bb (QC v2) (oo (Bt v3) none fun q1=>(bb (Au Ah q1) (bb (Au Ah q1) (some (.tuple ⟨[(.tuple ⟨[]⟩),(.agg ⟨q1⟩)]⟩)) none) none)) none) fun _ _=>none))))) none) none))) none)
def Oy (pu:Af) (n:Nat) (args:LV):OV:=
 (ll args none fun a0 args=>(ll args none fun a1 args=>(ll args none fun o0 args=>(ll args (oo (Iz 0 0 1 a0) none fun y0=>(oo (I9 45 0 a1) none fun l0=>(ll l0 (oo (Bt o0) none fun q0=>(KW pu n (NC.n y0) (NC.c y0) q0)) fun _ _=>none))) fun _ _=>none))))
theorem tZ (pu:Af) (n n0 c0:Nat) (q0:LV) {v:Value} (hm:KW pu n n0 c0 q0=some v):BN tt (Bb tabs isP pu (inl pu)) 1 Qv (fr 14 [(0,sc 0 0 1 n0 c0),(1,(.func (.func 45) ⟨[]⟩ ⟨[]⟩))]) (hp 1 [oC q0]) (FJ tt 0 1 [] v):=by
 unfold KW at hm
 refine .then (.rK ?_)
 replace hm:=Ae hm;obtain⟨h0,hm⟩:=hm
 refine .ghs (fr 14 [(0,sc 0 0 1 n0 c0),(1,(.func (.func 45) ⟨[]⟩ ⟨[]⟩)),(4,(zI (Int.ofNat n0)))]) (hp 1 [oC q0]) (.k [0] [false] [] [0,1,4] ⟨BB h0,trivial⟩) ?_
 replace hm:=Hw hm;obtain⟨x0,h1,hm⟩:=hm
 replace hm:=Ae hm;obtain⟨h2,hm⟩:=hm
 replace hm:=Ae hm;obtain⟨h3,hm⟩:=hm
 replace hm:=Ab hm;obtain⟨v0,h4,hm⟩:=hm
 replace hm:=Ch hm;obtain⟨l0,rfl,hm⟩:=hm
 replace hm:=Ad hm;obtain⟨v1,l1537428_0,rfl,hm⟩:=hm
 replace hm:=Ad hm;obtain⟨v2,l1537428_1,rfl,hm⟩:=hm
 replace hm:=AC hm;obtain⟨rfl,hm⟩:=hm
 replace hm:=Ae hm;obtain⟨h5,hm⟩:=hm
 obtain rfl:=LY h5
 replace hm:=BG hm;obtain⟨q1,rfl,hm⟩:=hm
 replace hm:=Ae hm;obtain⟨h6,hm⟩:=hm
 refine .reg (eC 4 ((oo (pu 69 [(zU (Aj .u64 (Int.ofNat n0)))]) none fun v=>some (v,(hp 1 [oC q0])))) (AB h1) (eC 1 (Fp tabs [[none],[none],[none],[none],[none]] 5 [.tmp 0 false] [false] (pu 10680) [sc 0 0 1 n0 c0,(zI (0:Int)),(zI (Int.ofNat n0)),zI x0,(.func (.func 45) ⟨[]⟩ ⟨[]⟩)] (hp 1 [oC q0])) (FM (as:=[sc 0 0 1 n0 c0,(zI (0:Int)),(zI (Int.ofNat n0)),zI x0,(.func (.func 45) ⟨[]⟩ ⟨[]⟩)]) (H1:=(hp 1 [oC q0])) (BO (Eb Dn) (BO (Eb Dn) (BO (Eb Dn) (BO (Eb Dn) (BO (Eb Dn) FX))))) (FL (H2:=(hp 1 [oC q1])) (v:=(.tuple ⟨[]⟩)) (v':=(.tuple ⟨[]⟩)) [some 0] [(false,some 0)] [oC q0] [sc 0 0 1 n0 c0,(zI (0:Int)),(zI (Int.ofNat n0)),zI x0,(.func (.func 45) ⟨[]⟩ ⟨[]⟩)] [(.agg ⟨q1⟩)] [oC q1] [some 0] [(false,oC q1)] [oC q1] (sF (by kernel_rfl) (Sm h2 rfl)) (C8 (Kh (anc:=[]) h3) BI) (Eq.trans (by kernel_rfl) h4) (C8 rfl BI) (C8 (Ki h6) BI))) (eE))) ?_
 replace hm:=Ae hm;obtain⟨h7,hm⟩:=hm
 refine .ghs (fr 14 []) (hp 1 [oC q1]) (.k [0] [false] [] [] ⟨BB h7,trivial⟩) ?_
 exact LX (.tuple ⟨[]⟩) [oC q1] (by kernel_rfl) hm (Nat.le_of_ble_eq_true rfl) (Dr (PO _) DL)
theorem uA {call:A8} (pu:Af) (n:Nat) (hcall:call=Bb tabs isP pu (inl pu)) {args:LV} {os:List AJ} {z:Value} (ha:args.length=2) (hk:os.length=1) (hpl:∀ o∈os,plainO o) (hm:Oy pu n (args++os.map Ef)=some z):args.length≤14∧BN tt call (tabs.length+1) Qv (Fr.made 14 args) (BK tabs os) (FJ tt tabs.length 1 [] z):=by
 subst hcall
 have hq:=Bq ha;clear ha;obtain⟨a0,args,rfl,ha⟩:=hq
 have hq:=Bq ha;clear ha;obtain⟨a1,args,rfl,ha⟩:=hq
 obtain rfl:=len_nil ha
 have hq:=Bq hk;clear hk;obtain⟨b0,os,rfl,hk⟩:=hq
 have hp0:plainO b0:=hpl b0 (by simp)
 obtain rfl:=len_nil hk
 replace hm:Oy pu n [a0,a1,Ef b0]=some z:=hm
 unfold Oy at hm
 replace hm:(oo (Iz 0 0 1 a0) none fun y0=>(oo (I9 45 0 a1) none fun l0=>(ll l0 (oo (Bt (Ef b0)) none fun q0=>(KW pu n (NC.n y0) (NC.c y0) q0)) fun _ _=>none)))=some z:=hm
 replace hm:=Ab hm;obtain⟨y0,h0,hm⟩:=hm
 obtain rfl:=Gu h0
 replace hm:=Ab hm;obtain⟨l0,h1,hm⟩:=hm
 obtain rfl:=Gw h1
 replace hm:=AC hm;obtain⟨rfl,hm⟩:=hm
 replace hm:=Ab hm;obtain⟨q0,h2,hm⟩:=hm
 obtain rfl:=G5 hp0 h2
 refine⟨by simp,?_⟩
 exact .same (F':=(fr 14 [(0,(sc 0 0 1 (NC.n y0) (NC.c y0))),(1,(.func (.func 45) ⟨[]⟩ ⟨[]⟩))])) (H':=(hp 1 [oC q0])) (by kernel_rfl) (by kernel_rfl) (tZ pu n (NC.n y0) (NC.c y0) q0 hm)
def Oz (pu:Af) (n:Nat) (ih0:Nat→Nat→Int→Int→Int→Bool→Bool→LV→OV) (n0 c0:Nat) (z0 z1 z2:Int) (b0 b1:Bool) (z3:Int) (q0:LV):OV:=
 none
def OA (pu:Af) (n:Nat) (ih0:Nat→Nat→Int→Int→Int→Bool→Bool→LV→OV) (n0 c0:Nat) (z0 z1 z2:Int) (b0 b1:Bool) (q0:LV):OV:=
 (bb (Au Ah q0) (bb (nt (AY (12:Int) (Aj .i64 (Int.sub z1 z0)))) (bb (Dp (Nat.ble 2 c0) (MQ q0)) (bb (Au Ah q0) (oo (pu 10860 [(.slice (some ⟨0,0,some 1⟩) n0 c0),.int .i64 z0,.int .i64 z1,(.func (.func 45) ⟨[]⟩ ⟨[]⟩),(.agg ⟨q0⟩)]) none fun v0=>(oo (CQ v0) none fun l0=>(ll l0 none fun v1 l0=>(ll l0 none fun v2 l0=>(ll l0 (bb (QC v1) (oo (Bt v2) none fun q1=>(bb (Au Ah q1) (bb (Au Ah q1) (some (.tuple ⟨[(.tuple ⟨[]⟩),(.agg ⟨q1⟩)]⟩)) none) none)) none) fun _ _=>none))))) none) none) (bb (Bd z2 (0:Int)) none (bb (nt b0) none (Oz pu n ih0 n0 c0 z0 z1 z2 b0 b1 (Aj .i64 (Int.sub z1 z0)) q0)))) none)
def Jg (pu:Af) (n w:Nat):Nat→Nat→Int→Int→Int→Bool→Bool→LV→OV:=
 Nat.rec (motive:=fun _=>Nat→Nat→Int→Int→Int→Bool→Bool→LV→OV) (fun _ _ _ _ _ _ _ _=>none) (fun _ ih0=>OA pu n ih0) w
def KX (pu:Af) (n n0 c0:Nat) (z0 z1 z2:Int) (q0:LV):OV:=
 (bb (Au Ah q0) (Jg pu n n n0 c0 z0 z1 z2 true true q0) none)
def OB (pu:Af) (n:Nat) (args:LV):OV:=
 (ll args none fun a0 args=>(ll args none fun a1 args=>(ll args none fun a2 args=>(ll args none fun a3 args=>(ll args none fun a4 args=>(ll args none fun o0 args=>(ll args (oo (Iz 0 0 1 a0) none fun y0=>(oo (Bi .i64 a1) none fun x0=>(oo (Bi .i64 a2) none fun x1=>(oo (Bi .i64 a3) none fun x2=>(oo (I9 45 0 a4) none fun l0=>(ll l0 (oo (Bt o0) none fun q0=>(KX pu n (NC.n y0) (NC.c y0) x0 x1 x2 q0)) fun _ _=>none)))))) fun _ _=>none)))))))
theorem uB (pu:Af) (n n0 c0:Nat) (z0 z1 z2:Int) (q0:LV) {v:Value} (hm:KX pu n n0 c0 z0 z1 z2 q0=some v):BN tt (Bb tabs isP pu (inl pu)) 1 LM (fr 148 [(0,sc 0 0 1 n0 c0),(1,zI z0),(2,zI z1),(3,zI z2),(4,(.func (.func 45) ⟨[]⟩ ⟨[]⟩))]) (hp 1 [oC q0]) (FJ tt 0 1 [] v):=by
 unfold KX at hm
 refine .then (.rK ?_)
 replace hm:=Ae hm;obtain⟨h0,hm⟩:=hm
 refine .ghs (fr 148 [(0,sc 0 0 1 n0 c0),(1,zI z0),(2,zI z1),(3,zI z2),(4,(.func (.func 45) ⟨[]⟩ ⟨[]⟩)),(10,zB true)]) (hp 1 [oC q0]) (.k [0] [false] [] [0,1,2,3,4,10] ⟨BB h0,trivial⟩) ?_
 refine .then (.rK (.ghs (fr 148 [(0,sc 0 0 1 n0 c0),(1,zI z0),(2,zI z1),(3,zI z2),(4,(.func (.func 45) ⟨[]⟩ ⟨[]⟩)),(10,zB true),(11,zB true)]) (hp 1 [oC q0]) (.k [0] [false] [] [0,1,2,3,4,10,11] ⟨BB h0,trivial⟩) ?_))
 refine .block (.loopM (v:=v) (fun y:Nat×Nat×Int×Int×Int×Bool×Bool×LV=>((fr 148 [(0,(sc 0 0 1 y.1 y.2.1)),(1,(zI y.2.2.1)),(2,(zI y.2.2.2.1)),(3,(zI y.2.2.2.2.1)),(4,(.func (.func 45) ⟨[]⟩ ⟨[]⟩)),(10,(zB y.2.2.2.2.2.1)),(11,(zB y.2.2.2.2.2.2.1))]),(hp 1 [(oC y.2.2.2.2.2.2.2)]))) (fun w y=>Jg pu n w y.1 y.2.1 y.2.2.1 y.2.2.2.1 y.2.2.2.2.1 y.2.2.2.2.2.1 y.2.2.2.2.2.2.1 y.2.2.2.2.2.2.2) n ⟨(n0,c0,z0,z1,z2,true,true,q0),hm,(.k [0] [false] [] [0,1,2,3,4,10,11] ⟨BB h0,trivial⟩)⟩ (fun _=>rfl) ?_)
 rintro w0 ⟨n1,c1,z3,z4,z5,b0,b1,q1⟩ hm
 replace hm:OA pu n (Jg pu n w0) n1 c1 z3 z4 z5 b0 b1 q1=some v:=hm
 unfold OA at hm
 refine .block (.then (.rK ?_))
 replace hm:=Ae hm;obtain⟨h1,hm⟩:=hm
 refine .ghs (fr 148 [(0,sc 0 0 1 n1 c1),(1,zI z3),(2,zI z4),(3,zI z5),(4,(.func (.func 45) ⟨[]⟩ ⟨[]⟩)),(10,zB b0),(11,zB b1),(12,(zI (Aj .i64 (Int.sub z4 z3))))]) (hp 1 [oC q1]) (.k [0] [false] [] [0,1,2,3,4,10,11,12] ⟨BB h1,trivial⟩) ?_
 refine .then (.then (.rK (.ghs (fr 148 [(0,sc 0 0 1 n1 c1),(1,zI z3),(2,zI z4),(3,zI z5),(4,(.func (.func 45) ⟨[]⟩ ⟨[]⟩)),(10,zB b0),(11,zB b1),(12,(zI (Aj .i64 (Int.sub z4 z3)))),(25,(zB (nt (AY (12:Int) (Aj .i64 (Int.sub z4 z3))))))]) (hp 1 [oC q1]) (.k [0] [false] [] [0,1,2,3,4,10,11,12,25] ⟨BB h1,trivial⟩) ?_)))
 replace hm:=Ag hm;rcases hm with⟨h2,hm⟩ | ⟨h2,hm⟩
 ·refine Cs (nt (AY (12:Int) (Aj .i64 (Int.sub z4 z3)))) h2 ?_
  refine .then ?_
  replace hm:=Ae hm;obtain⟨h3,hm⟩:=hm
  replace hm:=Ae hm;obtain⟨h4,hm⟩:=hm
  replace hm:=Ab hm;obtain⟨v0,h5,hm⟩:=hm
  replace hm:=Ch hm;obtain⟨l0,rfl,hm⟩:=hm
  replace hm:=Ad hm;obtain⟨v1,l1537367_0,rfl,hm⟩:=hm
  replace hm:=Ad hm;obtain⟨v2,l1537367_1,rfl,hm⟩:=hm
  replace hm:=AC hm;obtain⟨rfl,hm⟩:=hm
  replace hm:=Ae hm;obtain⟨h6,hm⟩:=hm
  obtain rfl:=LY h6
  replace hm:=BG hm;obtain⟨q2,rfl,hm⟩:=hm
  replace hm:=Ae hm;obtain⟨h7,hm⟩:=hm
  refine .reg (eC 4 (Fp tabs [[none],[none],[none],[none]] 4 [.tmp 0 false] [false] (pu 10860) [sc 0 0 1 n1 c1,zI z3,zI z4,(.func (.func 45) ⟨[]⟩ ⟨[]⟩)] (hp 1 [oC q1])) (FM (as:=[sc 0 0 1 n1 c1,zI z3,zI z4,(.func (.func 45) ⟨[]⟩ ⟨[]⟩)]) (H1:=(hp 1 [oC q1])) (BO (Eb Dn) (BO (Eb Dn) (BO (Eb Dn) (BO (Eb Dn) FX)))) (FL (H2:=(hp 1 [oC q2])) (v:=(.tuple ⟨[]⟩)) (v':=(.tuple ⟨[]⟩)) [some 0] [(false,some 0)] [oC q1] [sc 0 0 1 n1 c1,zI z3,zI z4,(.func (.func 45) ⟨[]⟩ ⟨[]⟩)] [(.agg ⟨q2⟩)] [oC q2] [some 0] [(false,oC q2)] [oC q2] (sF (by kernel_rfl) (Sm h3 rfl)) (C8 (Kh (anc:=[]) h4) BI) (Eq.trans (by kernel_rfl) h5) (C8 rfl BI) (C8 (Ki h7) BI))) (eE)) ?_
  replace hm:=Ae hm;obtain⟨h8,hm⟩:=hm
  refine .ghs (fr 148 []) (hp 1 [oC q2]) (.k [0] [false] [] [] ⟨BB h8,trivial⟩) ?_
  refine .ghs (fr 148 []) (hp 1 [oC q2]) (.k [0] [false] [] [] ⟨BB h8,trivial⟩) ?_
  refine .ret ?_
  exact Eo (.tuple ⟨[]⟩) [oC q2] (by kernel_rfl) hm (Nat.le_of_ble_eq_true rfl) (Dr (PO _) DL)
 ·refine CY (nt (AY (12:Int) (Aj .i64 (Int.sub z4 z3)))) h2 ?_
  refine .skip (.ghs (fr 148 [(0,sc 0 0 1 n1 c1),(1,zI z3),(2,zI z4),(3,zI z5),(4,(.func (.func 45) ⟨[]⟩ ⟨[]⟩)),(10,zB b0),(11,zB b1),(12,(zI (Aj .i64 (Int.sub z4 z3))))]) (hp 1 [oC q1]) (.k [0] [false] [] [0,1,2,3,4,10,11,12] ⟨BB h1,trivial⟩) ?_)
  refine .then (.then (.rK (.ghs (fr 148 [(0,sc 0 0 1 n1 c1),(1,zI z3),(2,zI z4),(3,zI z5),(4,(.func (.func 45) ⟨[]⟩ ⟨[]⟩)),(10,zB b0),(11,zB b1),(12,(zI (Aj .i64 (Int.sub z4 z3)))),(32,(zB (Bd z5 (0:Int))))]) (hp 1 [oC q1]) (.k [0] [false] [] [0,1,2,3,4,10,11,12,32] ⟨BB h1,trivial⟩) ?_)))
  replace hm:=Ag hm;rcases hm with⟨h9,hm⟩ | ⟨h9,hm⟩
  ·refine Cs (Bd z5 (0:Int)) h9 ?_
   refine .then ?_
   cases hm
  ·refine CY (Bd z5 (0:Int)) h9 ?_
   refine .skip (.ghs (fr 148 [(0,sc 0 0 1 n1 c1),(1,zI z3),(2,zI z4),(3,zI z5),(4,(.func (.func 45) ⟨[]⟩ ⟨[]⟩)),(10,zB b0),(11,zB b1),(12,(zI (Aj .i64 (Int.sub z4 z3))))]) (hp 1 [oC q1]) (.k [0] [false] [] [0,1,2,3,4,10,11,12] ⟨BB h1,trivial⟩) ?_)
   refine .join (v:=v) (fun y:Nat×Nat×Int×Int×Int×Bool×Bool×Int×LV=>((fr 148 [(0,(sc 0 0 1 y.1 y.2.1)),(1,(zI y.2.2.1)),(2,(zI y.2.2.2.1)),(3,(zI y.2.2.2.2.1)),(4,(.func (.func 45) ⟨[]⟩ ⟨[]⟩)),(10,(zB y.2.2.2.2.2.1)),(11,(zB y.2.2.2.2.2.2.1)),(12,(zI y.2.2.2.2.2.2.2.1))]),(hp 1 [(oC y.2.2.2.2.2.2.2.2)]))) (fun y=>Oz pu n (Jg pu n w0) y.1 y.2.1 y.2.2.1 y.2.2.2.1 y.2.2.2.2.1 y.2.2.2.2.2.1 y.2.2.2.2.2.2.1 y.2.2.2.2.2.2.2.1 y.2.2.2.2.2.2.2.2) ?_ ?_
   ·rintro⟨n2,c2,z6,z7,z8,b2,b4,z9,q3⟩ hm
    unfold Oz at hm
    refine .then ?_
    cases hm
   ·refine .then (.rK (.ghs (fr 148 [(0,sc 0 0 1 n1 c1),(1,zI z3),(2,zI z4),(3,zI z5),(4,(.func (.func 45) ⟨[]⟩ ⟨[]⟩)),(10,zB b0),(11,zB b1),(12,(zI (Aj .i64 (Int.sub z4 z3)))),(39,(zB (nt b0)))]) (hp 1 [oC q1]) (.k [0] [false] [] [0,1,2,3,4,10,11,12,39] ⟨BB h1,trivial⟩) ?_))
    replace hm:=Ag hm;rcases hm with⟨h10,hm⟩ | ⟨h10,hm⟩
    ·refine Cs (nt b0) h10 ?_
     refine .then ?_
     cases hm
    ·refine CY (nt b0) h10 ?_
     refine .skip ?_
     exact⟨(n1,c1,z3,z4,z5,b0,b1,(Aj .i64 (Int.sub z4 z3)),q1),hm,(.k [0] [false] [] [0,1,2,3,4,10,11,12] ⟨BB h1,trivial⟩)⟩
theorem uC {call:A8} (pu:Af) (n:Nat) (hcall:call=Bb tabs isP pu (inl pu)) {args:LV} {os:List AJ} {z:Value} (ha:args.length=5) (hk:os.length=1) (hpl:∀ o∈os,plainO o) (hm:OB pu n (args++os.map Ef)=some z):args.length≤148∧BN tt call (tabs.length+1) LM (Fr.made 148 args) (BK tabs os) (FJ tt tabs.length 1 [] z):=by
 subst hcall
 have hq:=Bq ha;clear ha;obtain⟨a0,args,rfl,ha⟩:=hq
 have hq:=Bq ha;clear ha;obtain⟨a1,args,rfl,ha⟩:=hq
 have hq:=Bq ha;clear ha;obtain⟨a2,args,rfl,ha⟩:=hq
 have hq:=Bq ha;clear ha;obtain⟨a3,args,rfl,ha⟩:=hq
 have hq:=Bq ha;clear ha;obtain⟨a4,args,rfl,ha⟩:=hq
 obtain rfl:=len_nil ha
 have hq:=Bq hk;clear hk;obtain⟨b0,os,rfl,hk⟩:=hq
 have hp0:plainO b0:=hpl b0 (by simp)
 obtain rfl:=len_nil hk
 replace hm:OB pu n [a0,a1,a2,a3,a4,Ef b0]=some z:=hm
 unfold OB at hm
 replace hm:(oo (Iz 0 0 1 a0) none fun y0=>(oo (Bi .i64 a1) none fun x0=>(oo (Bi .i64 a2) none fun x1=>(oo (Bi .i64 a3) none fun x2=>(oo (I9 45 0 a4) none fun l0=>(ll l0 (oo (Bt (Ef b0)) none fun q0=>(KX pu n (NC.n y0) (NC.c y0) x0 x1 x2 q0)) fun _ _=>none))))))=some z:=hm
 replace hm:=Ab hm;obtain⟨y0,h0,hm⟩:=hm
 obtain rfl:=Gu h0
 replace hm:=Ai hm;obtain⟨x0,rfl,hm⟩:=hm
 replace hm:=Ai hm;obtain⟨x1,rfl,hm⟩:=hm
 replace hm:=Ai hm;obtain⟨x2,rfl,hm⟩:=hm
 replace hm:=Ab hm;obtain⟨l0,h1,hm⟩:=hm
 obtain rfl:=Gw h1
 replace hm:=AC hm;obtain⟨rfl,hm⟩:=hm
 replace hm:=Ab hm;obtain⟨q0,h2,hm⟩:=hm
 obtain rfl:=G5 hp0 h2
 refine⟨by simp,?_⟩
 exact .same (F':=(fr 148 [(0,(sc 0 0 1 (NC.n y0) (NC.c y0))),(1,zI x0),(2,zI x1),(3,zI x2),(4,(.func (.func 45) ⟨[]⟩ ⟨[]⟩))])) (H':=(hp 1 [oC q0])) (by kernel_rfl) (by kernel_rfl) (uB pu n (NC.n y0) (NC.c y0) x0 x1 x2 q0 hm)
def OC (pu:Af) (n:Nat) (ih0:Nat→Nat→Int→Int→Int→LV→OV) (n0 c0:Nat) (z0 z1 z2:Int) (q0:LV):OV:=
 (bb (Au Ah q0) (ih0 n0 c0 z0 z1 (Aj .i64 (Int.add z2 (1:Int))) q0) none)
def Jh (pu:Af) (n:Nat) (ih0:Nat→Nat→Int→Int→Int→LV→OV) (ih1:Nat→Nat→Int→Int→Int→Int→LV→OV) (n0 c0:Nat) (z0 z1 z2 z3:Int) (b0:Bool) (q0:LV):OV:=
 (bb b0 (bb (Au Ah q0) (oo (EA (Aj .i64 (Int.sub z3 (1:Int)))) none fun k1=>(oo (EA (Aj .i64 (Int.sub z3 (1:Int)))) none fun k2=>(bb (an (Nat.blt k2 n0) true) (oo (AL q0 (0+k2*1)) none fun v0=>(oo (Bj 1 v0) none fun s0=>(oo (EA z3) none fun k3=>(bb (an (Nat.blt k3 n0) true) (oo (AL q0 (0+k3*1)) none fun v1=>(oo (Bj 1 v1) none fun s1=>(bb (an (Nat.blt k3 n0) true) (bb (an (Nat.ble ((0+k3*1)+1) (len q0)) true) (bb (an (Nat.blt k1 n0) true) (bb (an (Nat.ble ((0+k1*1)+1) (len (BM ([Sl.v 1 s0]:LV) (0+k3*1) q0))) true) (bb (Au Ah (BM ([Sl.v 1 s1]:LV) (0+k1*1) (BM ([Sl.v 1 s0]:LV) (0+k3*1) q0))) (ih1 n0 c0 z0 z1 z2 (Aj .i64 (Int.sub (Int.ofNat k3) (1:Int))) (BM ([Sl.v 1 s1]:LV) (0+k1*1) (BM ([Sl.v 1 s0]:LV) (0+k3*1) q0))) none) none) none) none) none))) none)))) none))) none) (bb (Au Ah q0) (OC pu n ih0 n0 c0 z0 z1 z2 q0) none))
def OD (pu:Af) (n:Nat) (ih0:Nat→Nat→Int→Int→Int→LV→OV) (ih1:Nat→Nat→Int→Int→Int→Int→LV→OV) (n0 c0:Nat) (z0 z1 z2 z3:Int) (q0:LV):OV:=
 (bb (AY z0 z3) (oo (EA z3) none fun k1=>(bb (an (Nat.blt k1 n0) true) (oo (AL q0 (0+k1*1)) none fun v0=>(oo (Bj 1 v0) none fun s0=>(oo (EA (Aj .i64 (Int.sub (Int.ofNat k1) (1:Int)))) none fun k2=>(bb (an (Nat.blt k2 n0) true) (oo (AL q0 (0+k2*1)) none fun v1=>(oo (Bj 1 v1) none fun s1=>(oo (pu 45 [Sl.v 1 s0,Sl.v 1 s1]) none fun v2=>(oo (Bi .i64 v2) none fun x0=>(bb (Au Ah q0) (Jh pu n ih0 ih1 n0 c0 z0 z1 z2 (Int.ofNat k1) (AY x0 (0:Int)) q0) none))))) none)))) none)) (bb (Au Ah q0) (Jh pu n ih0 ih1 n0 c0 z0 z1 z2 z3 false q0) none))
def Ji (pu:Af) (n:Nat) (ih0:Nat→Nat→Int→Int→Int→LV→OV) (w:Nat):Nat→Nat→Int→Int→Int→Int→LV→OV:=
 Nat.rec (motive:=fun _=>Nat→Nat→Int→Int→Int→Int→LV→OV) (fun _ _ _ _ _ _ _=>none) (fun _ ih1=>OD pu n ih0 ih1) w
def OE (pu:Af) (n:Nat) (ih0:Nat→Nat→Int→Int→Int→LV→OV) (n0 c0:Nat) (z0 z1 z2:Int) (q0:LV):OV:=
 (bb (Au Ah q0) (bb (AY z2 z1) (Ji pu n ih0 n n0 c0 z0 z1 z2 z2 q0) (some (.tuple ⟨[(.tuple ⟨[]⟩),(.agg ⟨q0⟩)]⟩))) none)
def Gt (pu:Af) (n w:Nat):Nat→Nat→Int→Int→Int→LV→OV:=
 Nat.rec (motive:=fun _=>Nat→Nat→Int→Int→Int→LV→OV) (fun _ _ _ _ _ _=>none) (fun _ ih0=>OE pu n ih0) w
def KZ (pu:Af) (n n0 c0:Nat) (z0 z1:Int) (q0:LV):OV:=
 (bb (Au Ah q0) (Gt pu n n n0 c0 z0 z1 (Aj .i64 (Int.add z0 (1:Int))) q0) none)
def OG (pu:Af) (n:Nat) (args:LV):OV:=
 (ll args none fun a0 args=>(ll args none fun a1 args=>(ll args none fun a2 args=>(ll args none fun a3 args=>(ll args none fun o0 args=>(ll args (oo (Iz 0 0 1 a0) none fun y0=>(oo (Bi .i64 a1) none fun x0=>(oo (Bi .i64 a2) none fun x1=>(oo (I9 45 0 a3) none fun l0=>(ll l0 (oo (Bt o0) none fun q0=>(KZ pu n (NC.n y0) (NC.c y0) x0 x1 q0)) fun _ _=>none))))) fun _ _=>none))))))
theorem uD (pu:Af) (n n0 c0:Nat) (z0 z1:Int) (q0:LV) {v:Value} (hm:KZ pu n n0 c0 z0 z1 q0=some v):BN tt (Bb tabs isP pu (inl pu)) 1 LQ (fr 53 [(0,sc 0 0 1 n0 c0),(1,zI z0),(2,zI z1),(3,(.func (.func 45) ⟨[]⟩ ⟨[]⟩))]) (hp 1 [oC q0]) (FJ tt 0 1 [] v):=by
 unfold KZ at hm
 refine .then (.rK ?_)
 replace hm:=Ae hm;obtain⟨h0,hm⟩:=hm
 refine .ghs (fr 53 [(0,sc 0 0 1 n0 c0),(1,zI z0),(2,zI z1),(3,(.func (.func 45) ⟨[]⟩ ⟨[]⟩)),(8,(zI (Aj .i64 (Int.add z0 (1:Int)))))]) (hp 1 [oC q0]) (.k [0] [false] [] [0,1,2,3,8] ⟨BB h0,trivial⟩) ?_
 refine .block (.loopM (v:=v) (fun y:Nat×Nat×Int×Int×Int×LV=>((fr 53 [(0,(sc 0 0 1 y.1 y.2.1)),(1,(zI y.2.2.1)),(2,(zI y.2.2.2.1)),(3,(.func (.func 45) ⟨[]⟩ ⟨[]⟩)),(8,(zI y.2.2.2.2.1))]),(hp 1 [(oC y.2.2.2.2.2)]))) (fun w y=>Gt pu n w y.1 y.2.1 y.2.2.1 y.2.2.2.1 y.2.2.2.2.1 y.2.2.2.2.2) n ⟨(n0,c0,z0,z1,(Aj .i64 (Int.add z0 (1:Int))),q0),hm,(.k [0] [false] [] [0,1,2,3,8] ⟨BB h0,trivial⟩)⟩ (fun _=>rfl) ?_)
 rintro w0 ⟨n1,c1,z2,z3,z4,q1⟩ hm
 replace hm:OE pu n (Gt pu n w0) n1 c1 z2 z3 z4 q1=some v:=hm
 unfold OE at hm
 refine .then (.then (.rK ?_))
 replace hm:=Ae hm;obtain⟨h1,hm⟩:=hm
 refine .ghs (fr 53 [(0,sc 0 0 1 n1 c1),(1,zI z2),(2,zI z3),(3,(.func (.func 45) ⟨[]⟩ ⟨[]⟩)),(8,zI z4),(14,(zB (AY z4 z3)))]) (hp 1 [oC q1]) (.k [0] [false] [] [0,1,2,3,8,14] ⟨BB h1,trivial⟩) ?_
 replace hm:=Ag hm;rcases hm with⟨h2,hm⟩ | ⟨h2,hm⟩
 ·refine Cs (AY z4 z3) h2 ?_
  refine .skip (.ghs (fr 53 [(0,sc 0 0 1 n1 c1),(1,zI z2),(2,zI z3),(3,(.func (.func 45) ⟨[]⟩ ⟨[]⟩)),(8,zI z4)]) (hp 1 [oC q1]) (.k [0] [false] [] [0,1,2,3,8] ⟨BB h1,trivial⟩) ?_)
  refine .join (v:=v) (fun y:Nat×Nat×Int×Int×Int×LV=>((fr 53 [(0,(sc 0 0 1 y.1 y.2.1)),(1,(zI y.2.2.1)),(2,(zI y.2.2.2.1)),(3,(.func (.func 45) ⟨[]⟩ ⟨[]⟩)),(8,(zI y.2.2.2.2.1))]),(hp 1 [(oC y.2.2.2.2.2)]))) (fun y=>OC pu n (Gt pu n w0) y.1 y.2.1 y.2.2.1 y.2.2.2.1 y.2.2.2.2.1 y.2.2.2.2.2) ?_ ?_
  ·rintro⟨n2,c2,z5,z6,z7,q2⟩ hm
   unfold OC at hm
   refine .rK ?_
   replace hm:=Ae hm;obtain⟨h3,hm⟩:=hm
   exact⟨(n2,c2,z5,z6,(Aj .i64 (Int.add z7 (1:Int))),q2),hm,(.k [0] [false] [] [0,1,2,3,8] ⟨BB h3,trivial⟩)⟩
  ·refine .block (.then (.rK (.ghs (fr 53 [(0,sc 0 0 1 n1 c1),(1,zI z2),(2,zI z3),(3,(.func (.func 45) ⟨[]⟩ ⟨[]⟩)),(8,zI z4),(9,zI z4)]) (hp 1 [oC q1]) (.k [0] [false] [] [0,1,2,3,8,9] ⟨BB h1,trivial⟩) ?_)))
   refine .block (.loopM (v:=v) (fun y:Nat×Nat×Int×Int×Int×Int×LV=>((fr 53 [(0,(sc 0 0 1 y.1 y.2.1)),(1,(zI y.2.2.1)),(2,(zI y.2.2.2.1)),(3,(.func (.func 45) ⟨[]⟩ ⟨[]⟩)),(8,(zI y.2.2.2.2.1)),(9,(zI y.2.2.2.2.2.1))]),(hp 1 [(oC y.2.2.2.2.2.2)]))) (fun w y=>Ji pu n (Gt pu n w0) w y.1 y.2.1 y.2.2.1 y.2.2.2.1 y.2.2.2.2.1 y.2.2.2.2.2.1 y.2.2.2.2.2.2) n ⟨(n1,c1,z2,z3,z4,z4,q1),hm,(.k [0] [false] [] [0,1,2,3,8,9] ⟨BB h1,trivial⟩)⟩ (fun _=>rfl) ?_)
   rintro w1 ⟨n3,c4,z8,z9,z10,z11,q3⟩ hm
   replace hm:OD pu n (Gt pu n w0) (Ji pu n (Gt pu n w0) w1) n3 c4 z8 z9 z10 z11 q3=some v:=hm
   unfold OD at hm
   refine .then (.join (v:=v) (fun y:Nat×Nat×Int×Int×Int×Int×Bool×LV=>((fr 53 [(0,(sc 0 0 1 y.1 y.2.1)),(1,(zI y.2.2.1)),(2,(zI y.2.2.2.1)),(3,(.func (.func 45) ⟨[]⟩ ⟨[]⟩)),(8,(zI y.2.2.2.2.1)),(9,(zI y.2.2.2.2.2.1)),(34,(zB y.2.2.2.2.2.2.1))]),(hp 1 [(oC y.2.2.2.2.2.2.2)]))) (fun y=>Jh pu n (Gt pu n w0) (Ji pu n (Gt pu n w0) w1) y.1 y.2.1 y.2.2.1 y.2.2.2.1 y.2.2.2.2.1 y.2.2.2.2.2.1 y.2.2.2.2.2.2.1 y.2.2.2.2.2.2.2) ?_ ?_)
   ·rintro⟨n4,c10,z12,z13,z14,z15,b0,q4⟩ hm
    unfold Jh at hm
    replace hm:=Ag hm;rcases hm with⟨h4,hm⟩ | ⟨h4,hm⟩
    ·refine .ifT b0 (by kernel_rfl) h4 ?_
     refine .skip ?_
     replace hm:=Ae hm;obtain⟨h5,hm⟩:=hm
     refine .ghs (fr 53 [(0,sc 0 0 1 n4 c10),(1,zI z12),(2,zI z13),(3,(.func (.func 45) ⟨[]⟩ ⟨[]⟩)),(8,zI z14),(9,zI z15)]) (hp 1 [oC q4]) (.k [0] [false] [] [0,1,2,3,8,9] ⟨BB h5,trivial⟩) ?_
     refine .then (.block ?_)
     replace hm:=Ab hm;obtain⟨k1,h6,hm⟩:=hm
     replace hm:=Ab hm;obtain⟨k2,h7,hm⟩:=hm
     replace hm:=Ae hm;obtain⟨h8,hm⟩:=hm
     replace hm:=O4 hm;obtain⟨s0,h9,hm⟩:=hm
     replace hm:=Ab hm;obtain⟨k3,h10,hm⟩:=hm
     obtain rfl:=AR h10
     replace hm:=Ae hm;obtain⟨h11,hm⟩:=hm
     replace hm:=O4 hm;obtain⟨s1,h12,hm⟩:=hm
     replace hm:=Ae hm;obtain⟨h13,hm⟩:=hm
     replace hm:=Ae hm;obtain⟨h14,hm⟩:=hm
     replace hm:=Ae hm;obtain⟨h15,hm⟩:=hm
     replace hm:=Ae hm;obtain⟨h16,hm⟩:=hm
     refine .reg (eN 9 (Fr.puts (fr 53 [(0,sc 0 0 1 n4 c10),(1,zI z12),(2,zI z13),(3,(.func (.func 45) ⟨[]⟩ ⟨[]⟩)),(8,zI z14),(9,(zI (Int.ofNat k3)))]) [(37,sc 0 0 1 n4 c10),(38,(zI (Int.ofNat k3))),(39,sc 0 0 1 n4 c10),(40,(zI (Int.ofNat k3))),(41,(zI (Int.ofNat k1))),(42,sc 0 0 1 n4 c10),(43,(zI (Int.ofNat k3))),(44,(zI (Int.ofNat k2))),(45,(.pointer (some ⟨0,(0+k2*1),none⟩)))]) (hp 1 [oC q4]) (eC 4 (some ((zI (Aj .i64 (Int.sub (Int.ofNat k3) (1:Int)))),(hp 1 [oC q4]))) (show _=some ((zI (Int.ofNat k1)),_) from (by rw[AR h6])) (eC 2 (some ((zI (Aj .i64 (Int.sub (Int.ofNat k3) (1:Int)))),(hp 1 [oC q4]))) (show _=some ((zI (Int.ofNat k2)),_) from (by rw[AR h7])) (eD (keep (hp 1 [oC q4]) (bb (an (Nat.blt k2 n4) true) (some (.pointer (some ⟨0,(0+k2*1),none⟩))) none)) (AX h8) (by kernel_rfl)))) (eN 5 (Fr.puts (fr 53 [(0,sc 0 0 1 n4 c10),(1,zI z12),(2,zI z13),(3,(.func (.func 45) ⟨[]⟩ ⟨[]⟩)),(8,zI z14),(9,(zI (Int.ofNat k3)))]) [(37,sc 0 0 1 n4 c10),(38,(zI (Int.ofNat k3))),(39,sc 0 0 1 n4 c10),(40,(zI (Int.ofNat k3))),(41,(zI (Int.ofNat k1))),(42,sc 0 0 1 n4 c10),(43,(zI (Int.ofNat k3))),(44,(zI (Int.ofNat k2))),(45,(.pointer (some ⟨0,(0+k2*1),none⟩))),(46,Sl.v 1 s0),(47,sc 0 0 1 n4 c10),(48,(zI (Int.ofNat k3))),(49,(.pointer (some ⟨0,(0+k3*1),none⟩))),(50,Sl.v 1 s1)]) (hp 1 [oC q4]) (eD (keep (hp 1 [oC q4]) (AL q4 (0+k2*1))) (AZ h9) (eC 2 (keep (hp 1 [oC q4]) (bb (an (Nat.blt k3 n4) true) (some (.pointer (some ⟨0,(0+k3*1),none⟩))) none)) (AX h11) (eD (keep (hp 1 [oC q4]) (AL q4 (0+k3*1))) (AZ h12) (by kernel_rfl)))) (eD (keep (hp 1 [oC q4]) (bb (an (Nat.blt k3 n4) true) (some (.pointer (some ⟨0,(0+k3*1),none⟩))) none)) (AX h13) (eD (done (bb (an (Nat.ble ((0+k3*1)+1) (len q4)) true) (some (hp 1 [(oC (BM ([Sl.v 1 s0]:LV) (0+k3*1) q4))])) none) undef) (Js h14) (eD (keep (hp 1 [(oC (BM ([Sl.v 1 s0]:LV) (0+k3*1) q4))]) (bb (an (Nat.blt k1 n4) true) (some (.pointer (some ⟨0,(0+k1*1),none⟩))) none)) (AX h15) (eD (done (bb (an (Nat.ble ((0+k1*1)+1) (len (BM ([Sl.v 1 s0]:LV) (0+k3*1) q4))) true) (some (hp 1 [(oC (BM ([Sl.v 1 s1]:LV) (0+k1*1) (BM ([Sl.v 1 s0]:LV) (0+k3*1) q4)))])) none) undef) (Js h16) (eE))))))) ?_
     replace hm:=Ae hm;obtain⟨h17,hm⟩:=hm
     refine .ghs (fr 53 [(0,sc 0 0 1 n4 c10),(1,zI z12),(2,zI z13),(3,(.func (.func 45) ⟨[]⟩ ⟨[]⟩)),(8,zI z14),(9,(zI (Int.ofNat k3)))]) (hp 1 [(oC (BM ([Sl.v 1 s1]:LV) (0+k1*1) (BM ([Sl.v 1 s0]:LV) (0+k3*1) q4)))]) (.k [0] [false] [] [0,1,2,3,8,9] ⟨BB h17,trivial⟩) ?_
     refine .rK ?_
     exact⟨(n4,c10,z12,z13,z14,(Aj .i64 (Int.sub (Int.ofNat k3) (1:Int))),(BM ([Sl.v 1 s1]:LV) (0+k1*1) (BM ([Sl.v 1 s0]:LV) (0+k3*1) q4))),hm,(.k [0] [false] [] [0,1,2,3,8,9] ⟨BB h17,trivial⟩)⟩
    ·refine .ifF b0 (by kernel_rfl) h4 ?_
     refine .exit ?_
     replace hm:=Ae hm;obtain⟨h18,hm⟩:=hm
     exact⟨(n4,c10,z12,z13,z14,q4),hm,(.k [0] [false] [] [0,1,2,3,8] ⟨BB h18,trivial⟩)⟩
   ·replace hm:=Ag hm;rcases hm with⟨h19,hm⟩ | ⟨h19,hm⟩
    ·replace hm:=Ab hm;obtain⟨k4,h20,hm⟩:=hm
     obtain rfl:=AR h20
     replace hm:=Ae hm;obtain⟨h21,hm⟩:=hm
     replace hm:=O4 hm;obtain⟨s2,h22,hm⟩:=hm
     replace hm:=Ab hm;obtain⟨k5,h23,hm⟩:=hm
     replace hm:=Ae hm;obtain⟨h24,hm⟩:=hm
     replace hm:=O4 hm;obtain⟨s3,h25,hm⟩:=hm
     replace hm:=Hw hm;obtain⟨x0,h26,hm⟩:=hm
     refine .reg (eN 9 (Fr.puts (fr 53 [(0,sc 0 0 1 n3 c4),(1,zI z8),(2,zI z9),(3,(.func (.func 45) ⟨[]⟩ ⟨[]⟩)),(8,zI z10),(9,(zI (Int.ofNat k4)))]) [(18,(zI (Int.ofNat k4))),(19,zI z8),(20,zB true),(21,zB true),(22,(.func (.func 45) ⟨[]⟩ ⟨[]⟩)),(23,sc 0 0 1 n3 c4),(24,(zI (Int.ofNat k4))),(25,(.pointer (some ⟨0,(0+k4*1),none⟩))),(26,Sl.v 1 s2)]) (hp 1 [oC q3]) (eC 2 (some ((zB (AY z8 (Int.ofNat k4))),(hp 1 [oC q3]))) (show _=some ((zB true),_) from (by rw[show (AY z8 (Int.ofNat k4))=true from h19])) (eC 4 (keep (hp 1 [oC q3]) (bb (an (Nat.blt k4 n3) true) (some (.pointer (some ⟨0,(0+k4*1),none⟩))) none)) (AX h21) (eD (keep (hp 1 [oC q3]) (AL q3 (0+k4*1))) (AZ h22) (by kernel_rfl)))) (eC 2 (some ((zI (Aj .i64 (Int.sub (Int.ofNat k4) (1:Int)))),(hp 1 [oC q3]))) (show _=some ((zI (Int.ofNat k5)),_) from (by rw[AR h23])) (eD (keep (hp 1 [oC q3]) (bb (an (Nat.blt k5 n3) true) (some (.pointer (some ⟨0,(0+k5*1),none⟩))) none)) (AX h24) (eD (keep (hp 1 [oC q3]) (AL q3 (0+k5*1))) (AZ h25) (eD ((oo (pu 45 [Sl.v 1 s2,Sl.v 1 s3]) none fun v=>some (v,(hp 1 [oC q3])))) (AB h26) (eE)))))) ?_
     replace hm:=Ae hm;obtain⟨h27,hm⟩:=hm
     exact⟨(n3,c4,z8,z9,z10,(Int.ofNat k4),(AY x0 (0:Int)),q3),hm,(.k [0] [false] [] [0,1,2,3,8,9,34] ⟨BB h27,trivial⟩)⟩
    ·refine .reg (eC 2 (some ((zB (AY z8 z11)),(hp 1 [oC q3]))) (show _=some ((zB false),_) from (by rw[show (AY z8 z11)=false from h19])) (eE)) ?_
     replace hm:=Ae hm;obtain⟨h28,hm⟩:=hm
     exact⟨(n3,c4,z8,z9,z10,z11,false,q3),hm,(.k [0] [false] [] [0,1,2,3,8,9,34] ⟨BB h28,trivial⟩)⟩
 ·refine CY (AY z4 z3) h2 ?_
  refine .exit ?_
  refine .ghs (fr 53 []) (hp 1 [oC q1]) (.k [0] [false] [] [] ⟨BB h1,trivial⟩) ?_
  exact LX (.tuple ⟨[]⟩) [oC q1] (by kernel_rfl) hm (Nat.le_of_ble_eq_true rfl) (Dr (PO _) DL)
theorem uE {call:A8} (pu:Af) (n:Nat) (hcall:call=Bb tabs isP pu (inl pu)) {args:LV} {os:List AJ} {z:Value} (ha:args.length=4) (hk:os.length=1) (hpl:∀ o∈os,plainO o) (hm:OG pu n (args++os.map Ef)=some z):args.length≤53∧BN tt call (tabs.length+1) LQ (Fr.made 53 args) (BK tabs os) (FJ tt tabs.length 1 [] z):=by
 subst hcall
 have hq:=Bq ha;clear ha;obtain⟨a0,args,rfl,ha⟩:=hq
 have hq:=Bq ha;clear ha;obtain⟨a1,args,rfl,ha⟩:=hq
 have hq:=Bq ha;clear ha;obtain⟨a2,args,rfl,ha⟩:=hq
 have hq:=Bq ha;clear ha;obtain⟨a3,args,rfl,ha⟩:=hq
 obtain rfl:=len_nil ha
 have hq:=Bq hk;clear hk;obtain⟨b0,os,rfl,hk⟩:=hq
 have hp0:plainO b0:=hpl b0 (by simp)
 obtain rfl:=len_nil hk
 replace hm:OG pu n [a0,a1,a2,a3,Ef b0]=some z:=hm
 unfold OG at hm
 replace hm:(oo (Iz 0 0 1 a0) none fun y0=>(oo (Bi .i64 a1) none fun x0=>(oo (Bi .i64 a2) none fun x1=>(oo (I9 45 0 a3) none fun l0=>(ll l0 (oo (Bt (Ef b0)) none fun q0=>(KZ pu n (NC.n y0) (NC.c y0) x0 x1 q0)) fun _ _=>none)))))=some z:=hm
 replace hm:=Ab hm;obtain⟨y0,h0,hm⟩:=hm
 obtain rfl:=Gu h0
 replace hm:=Ai hm;obtain⟨x0,rfl,hm⟩:=hm
 replace hm:=Ai hm;obtain⟨x1,rfl,hm⟩:=hm
 replace hm:=Ab hm;obtain⟨l0,h1,hm⟩:=hm
 obtain rfl:=Gw h1
 replace hm:=AC hm;obtain⟨rfl,hm⟩:=hm
 replace hm:=Ab hm;obtain⟨q0,h2,hm⟩:=hm
 obtain rfl:=G5 hp0 h2
 refine⟨by simp,?_⟩
 exact .same (F':=(fr 53 [(0,(sc 0 0 1 (NC.n y0) (NC.c y0))),(1,zI x0),(2,zI x1),(3,(.func (.func 45) ⟨[]⟩ ⟨[]⟩))])) (H':=(hp 1 [oC q0])) (by kernel_rfl) (by kernel_rfl) (uD pu n (NC.n y0) (NC.c y0) x0 x1 q0 hm)
def Jj (pu:Af) (n n0 c0:Nat) (q0:LV):OV:=
 (bb (Au Ah q0) (some (.tuple ⟨[(.slice (some ⟨0,0,some 1⟩) n0 c0),(.agg ⟨q0⟩)]⟩)) none)
def OH (pu:Af) (n:Nat) (ih0:Nat→Nat→Int→LV→OV) (n0 c0:Nat) (z0:Int) (q0:LV):OV:=
 (bb (Au Ah q0) (ih0 n0 c0 (Aj .i64 (Int.add z0 (1:Int))) q0) none)
def OJ (pu:Af) (n:Nat) (ih0:Nat→Nat→Int→LV→OV) (n0 c0:Nat) (z0:Int) (q0:LV):OV:=
 (oo (EA z0) none fun k1=>(bb (Nat.ble k1 n0) (bb (nt (Nat.beq (n0 - k1) 0)) (bb (an (Nat.ble ((0+k1*1)+len (AF ([(.slice none 0 0)]:LV) (n0 - k1))) (len q0)) (Au D6 (AF ([(.slice none 0 0)]:LV) (n0 - k1)))) (bb (Au Ah (BM (AF ([(.slice none 0 0)]:LV) (n0 - k1)) (0+k1*1) q0)) (bb (Nat.ble k1 (c0 / 2)) (some (.tuple ⟨[(.slice (some ⟨0,0,some 1⟩) k1 (2*(c0 / 2)+bb (Dp false (Nat.beq (c0 % 2) 1)) 1 0)),(.agg ⟨(BM (AF ([(.slice none 0 0)]:LV) (n0 - k1)) (0+k1*1) q0)⟩)]⟩)) none) none) none) none) none))
def Jv (pu:Af) (n:Nat) (ih0:Nat→Nat→Int→LV→OV) (ih1:Nat→Nat→Int→Nat→Nat→Nat→Int→LV→OV) (n0 c0:Nat) (z0:Int) (n1 n2 c1:Nat) (z1:Int) (q0:LV):OV:=
 (bb (Au Ah q0) (ih1 n0 c0 z0 n1 n2 c1 (Aj .i64 (Int.add z1 (1:Int))) q0) none)
def OL (pu:Af) (n:Nat) (ih0:Nat→Nat→Int→LV→OV) (ih1:Nat→Nat→Int→Nat→Nat→Nat→Int→LV→OV) (n0 c0:Nat) (z0:Int) (n1 n2 c1:Nat) (z1:Int) (q0:LV):OV:=
 (bb (Au Ah q0) (bb (AY z1 (Int.ofNat n2)) (oo (EA z1) none fun k1=>(bb (an (Nat.blt k1 n2) true) (oo (AL q0 (n1+k1*1)) none fun v0=>(oo (Bj 1 v0) none fun s0=>(oo (EA (Aj .i64 (Int.sub (Int.ofNat k1) (1:Int)))) none fun k2=>(bb (an (Nat.blt k2 n2) true) (oo (AL q0 (n1+k2*1)) none fun v1=>(oo (Bj 1 v1) none fun s1=>(oo (pu 47 [Sl.v 1 s0,Sl.v 1 s1]) none fun v2=>(oo (Bf v2) none fun b0=>(bb (nt b0) (bb (an (Nat.blt k1 n2) true) (oo (AL q0 (n1+k1*1)) none fun v3=>(oo (Bj 1 v3) none fun s2=>(oo (EA z0) none fun k3=>(bb (an (Nat.blt k3 n0) true) (bb (an (Nat.ble ((0+k3*1)+1) (len q0)) true) (bb (Au Ah (BM ([Sl.v 1 s2]:LV) (0+k3*1) q0)) (Jv pu n ih0 ih1 n0 c0 (Aj .i64 (Int.add (Int.ofNat k3) (1:Int))) n1 n2 c1 (Int.ofNat k1) (BM ([Sl.v 1 s2]:LV) (0+k3*1) q0)) none) none) none)))) none) (Jv pu n ih0 ih1 n0 c0 z0 n1 n2 c1 (Int.ofNat k1) q0)))))) none)))) none)) (OJ pu n ih0 n0 c0 z0 q0)) none)
def Jw (pu:Af) (n:Nat) (ih0:Nat→Nat→Int→LV→OV) (w:Nat):Nat→Nat→Int→Nat→Nat→Nat→Int→LV→OV:=
 Nat.rec (motive:=fun _=>Nat→Nat→Int→Nat→Nat→Nat→Int→LV→OV) (fun _ _ _ _ _ _ _ _=>none) (fun _ ih1=>OL pu n ih0 ih1) w
def OM (pu:Af) (n:Nat) (ih0:Nat→Nat→Int→LV→OV) (n0 c0:Nat) (z0:Int) (q0:LV):OV:=
 (bb (Au Ah q0) (bb (AY z0 (Int.ofNat n0)) (oo (EA z0) none fun k1=>(bb (an (Nat.blt k1 n0) true) (oo (AL q0 (0+k1*1)) none fun v0=>(oo (Bj 1 v0) none fun s0=>(oo (EA (Aj .i64 (Int.sub (Int.ofNat k1) (1:Int)))) none fun k2=>(bb (an (Nat.blt k2 n0) true) (oo (AL q0 (0+k2*1)) none fun v1=>(oo (Bj 1 v1) none fun s1=>(oo (pu 47 [Sl.v 1 s0,Sl.v 1 s1]) none fun v2=>(oo (Bf v2) none fun b0=>(bb b0 (bb (Nat.ble k1 n0) (Jw pu n ih0 n n0 c0 (Int.ofNat k1) (0+k1*1) (n0 - k1) (2*(c0 / 2 - k1)+bb (Dp false (Nat.beq (c0 % 2) 1)) 1 0) (1:Int) q0) none) (OH pu n ih0 n0 c0 (Int.ofNat k1) q0)))))) none)))) none)) (Jj pu n n0 c0 q0)) none)
def FY (pu:Af) (n w:Nat):Nat→Nat→Int→LV→OV:=
 Nat.rec (motive:=fun _=>Nat→Nat→Int→LV→OV) (fun _ _ _ _=>none) (fun _ ih0=>OM pu n ih0) w
def K3 (pu:Af) (n n0 c0:Nat) (q0:LV):OV:=
 (bb (Au Ah q0) (bb (AY (Int.ofNat n0) (2:Int)) (some (.tuple ⟨[(.slice (some ⟨0,0,some 1⟩) n0 c0),(.agg ⟨q0⟩)]⟩)) (FY pu n n n0 c0 (1:Int) q0)) none)
def OO (pu:Af) (n:Nat) (args:LV):OV:=
 (ll args none fun a0 args=>(ll args none fun a1 args=>(ll args none fun o0 args=>(ll args (oo (Iz 0 0 1 a0) none fun y0=>(oo (I9 47 0 a1) none fun l0=>(ll l0 (oo (Bt o0) none fun q0=>(K3 pu n (NC.n y0) (NC.c y0) q0)) fun _ _=>none))) fun _ _=>none))))
theorem WL (pu:Af) (n n0 c0:Nat) (q0:LV) {v:Value} (hm:Jj pu n n0 c0 q0=some v):BN tt (Bb tabs isP pu (inl pu)) 1 UX (fr 66 [(0,sc 0 0 1 n0 c0)]) (hp 1 [oC q0]) (FJ tt 0 1 [.tmp 4] v):=by
 unfold Jj at hm
 refine .then (.rK ?_)
 replace hm:=Ae hm;obtain⟨h0,hm⟩:=hm
 refine .ghs (fr 66 [(4,sc 0 0 1 n0 c0)]) (hp 1 [oC q0]) (.k [0] [false] [] [4] ⟨BB h0,trivial⟩) ?_
 refine .ghs (fr 66 [(4,sc 0 0 1 n0 c0)]) (hp 1 [oC q0]) (.k [0] [false] [] [4] ⟨BB h0,trivial⟩) ?_
 refine .ret ?_
 exact Eo (sc 0 0 1 n0 c0) [oC q0] (by kernel_rfl) hm (Nat.le_of_ble_eq_true rfl) (Dr (PO _) DL)
theorem uF (pu:Af) (n n0 c0:Nat) (q0:LV) {v:Value} (hm:K3 pu n n0 c0 q0=some v):BN tt (Bb tabs isP pu (inl pu)) 1 LU (fr 66 [(0,sc 0 0 1 n0 c0),(1,(.func (.func 47) ⟨[]⟩ ⟨[]⟩))]) (hp 1 [oC q0]) (FJ tt 0 1 [.tmp 4] v):=by
 unfold K3 at hm
 refine .then (.rK ?_)
 replace hm:=Ae hm;obtain⟨h0,hm⟩:=hm
 refine .ghs (fr 66 [(0,sc 0 0 1 n0 c0),(1,(.func (.func 47) ⟨[]⟩ ⟨[]⟩))]) (hp 1 [oC q0]) (.k [0] [false] [] [0,1] ⟨BB h0,trivial⟩) ?_
 refine .then (.then (.rK (.ghs (fr 66 [(0,sc 0 0 1 n0 c0),(1,(.func (.func 47) ⟨[]⟩ ⟨[]⟩)),(10,(zB (AY (Int.ofNat n0) (2:Int))))]) (hp 1 [oC q0]) (.k [0] [false] [] [0,1,10] ⟨BB h0,trivial⟩) ?_)))
 replace hm:=Ag hm;rcases hm with⟨h1,hm⟩ | ⟨h1,hm⟩
 ·refine Cs (AY (Int.ofNat n0) (2:Int)) h1 ?_
  refine .then (.rK (.ghs (fr 66 [(4,sc 0 0 1 n0 c0)]) (hp 1 [oC q0]) (.k [0] [false] [] [4] ⟨BB h0,trivial⟩) ?_))
  refine .ghs (fr 66 [(4,sc 0 0 1 n0 c0)]) (hp 1 [oC q0]) (.k [0] [false] [] [4] ⟨BB h0,trivial⟩) ?_
  refine .ret ?_
  exact Eo (sc 0 0 1 n0 c0) [oC q0] (by kernel_rfl) hm (Nat.le_of_ble_eq_true rfl) (Dr (PO _) DL)
 ·refine CY (AY (Int.ofNat n0) (2:Int)) h1 ?_
  refine .skip (.ghs (fr 66 [(0,sc 0 0 1 n0 c0),(1,(.func (.func 47) ⟨[]⟩ ⟨[]⟩))]) (hp 1 [oC q0]) (.k [0] [false] [] [0,1] ⟨BB h0,trivial⟩) ?_)
  refine .join (v:=v) (fun y:Nat×Nat×LV=>((fr 66 [(0,(sc 0 0 1 y.1 y.2.1))]),(hp 1 [(oC y.2.2)]))) (fun y=>Jj pu n y.1 y.2.1 y.2.2) ?_ ?_
  ·rintro⟨n1,c1,q1⟩ hm
   exact WL pu n n1 c1 q1 hm
  ·refine .then (.rK (.ghs (fr 66 [(0,sc 0 0 1 n0 c0),(1,(.func (.func 47) ⟨[]⟩ ⟨[]⟩)),(5,(zI (1:Int)))]) (hp 1 [oC q0]) (.k [0] [false] [] [0,1,5] ⟨BB h0,trivial⟩) ?_))
   refine .block (.loopM (v:=v) (fun y:Nat×Nat×Int×LV=>((fr 66 [(0,(sc 0 0 1 y.1 y.2.1)),(1,(.func (.func 47) ⟨[]⟩ ⟨[]⟩)),(5,(zI y.2.2.1))]),(hp 1 [(oC y.2.2.2)]))) (fun w y=>FY pu n w y.1 y.2.1 y.2.2.1 y.2.2.2) n ⟨(n0,c0,(1:Int),q0),hm,(.k [0] [false] [] [0,1,5] ⟨BB h0,trivial⟩)⟩ (fun _=>rfl) ?_)
   rintro w0 ⟨n2,c2,z0,q2⟩ hm
   replace hm:OM pu n (FY pu n w0) n2 c2 z0 q2=some v:=hm
   unfold OM at hm
   refine .then (.then (.rK ?_))
   replace hm:=Ae hm;obtain⟨h2,hm⟩:=hm
   refine .ghs (fr 66 [(0,sc 0 0 1 n2 c2),(1,(.func (.func 47) ⟨[]⟩ ⟨[]⟩)),(5,zI z0),(15,(zB (AY z0 (Int.ofNat n2))))]) (hp 1 [oC q2]) (.k [0] [false] [] [0,1,5,15] ⟨BB h2,trivial⟩) ?_
   replace hm:=Ag hm;rcases hm with⟨h3,hm⟩ | ⟨h3,hm⟩
   ·refine Cs (AY z0 (Int.ofNat n2)) h3 ?_
    refine .skip (.ghs (fr 66 [(0,sc 0 0 1 n2 c2),(1,(.func (.func 47) ⟨[]⟩ ⟨[]⟩)),(5,zI z0)]) (hp 1 [oC q2]) (.k [0] [false] [] [0,1,5] ⟨BB h2,trivial⟩) ?_)
    refine .join (v:=v) (fun y:Nat×Nat×Int×LV=>((fr 66 [(0,(sc 0 0 1 y.1 y.2.1)),(1,(.func (.func 47) ⟨[]⟩ ⟨[]⟩)),(5,(zI y.2.2.1))]),(hp 1 [(oC y.2.2.2)]))) (fun y=>OH pu n (FY pu n w0) y.1 y.2.1 y.2.2.1 y.2.2.2) ?_ ?_
    ·rintro⟨n3,c4,z1,q3⟩ hm
     unfold OH at hm
     refine .rK ?_
     replace hm:=Ae hm;obtain⟨h4,hm⟩:=hm
     exact⟨(n3,c4,(Aj .i64 (Int.add z1 (1:Int))),q3),hm,(.k [0] [false] [] [0,1,5] ⟨BB h4,trivial⟩)⟩
    ·refine .block (.then ?_)
     replace hm:=Ab hm;obtain⟨k1,h5,hm⟩:=hm
     obtain rfl:=AR h5
     replace hm:=Ae hm;obtain⟨h6,hm⟩:=hm
     replace hm:=O4 hm;obtain⟨s0,h7,hm⟩:=hm
     replace hm:=Ab hm;obtain⟨k2,h8,hm⟩:=hm
     replace hm:=Ae hm;obtain⟨h9,hm⟩:=hm
     replace hm:=O4 hm;obtain⟨s1,h10,hm⟩:=hm
     replace hm:=WX hm;obtain⟨b0,h11,hm⟩:=hm
     refine .reg (eN 8 (Fr.puts (fr 66 [(0,sc 0 0 1 n2 c2),(1,(.func (.func 47) ⟨[]⟩ ⟨[]⟩)),(5,(zI (Int.ofNat k1)))]) [(18,(.func (.func 47) ⟨[]⟩ ⟨[]⟩)),(19,sc 0 0 1 n2 c2),(20,(zI (Int.ofNat k1))),(21,(.pointer (some ⟨0,(0+k1*1),none⟩))),(22,Sl.v 1 s0),(23,sc 0 0 1 n2 c2),(24,(zI (Int.ofNat k1))),(25,(zI (Int.ofNat k2)))]) (hp 1 [oC q2]) (eC 3 (keep (hp 1 [oC q2]) (bb (an (Nat.blt k1 n2) true) (some (.pointer (some ⟨0,(0+k1*1),none⟩))) none)) (AX h6) (eD (keep (hp 1 [oC q2]) (AL q2 (0+k1*1))) (AZ h7) (eC 2 (some ((zI (Aj .i64 (Int.sub (Int.ofNat k1) (1:Int)))),(hp 1 [oC q2]))) (show _=some ((zI (Int.ofNat k2)),_) from (by rw[AR h8])) (by kernel_rfl)))) (eD (keep (hp 1 [oC q2]) (bb (an (Nat.blt k2 n2) true) (some (.pointer (some ⟨0,(0+k2*1),none⟩))) none)) (AX h9) (eD (keep (hp 1 [oC q2]) (AL q2 (0+k2*1))) (AZ h10) (eD ((oo (pu 47 [Sl.v 1 s0,Sl.v 1 s1]) none fun v=>some (v,(hp 1 [oC q2])))) (AB h11) (eE))))) ?_
     refine .ghs (fr 66 [(0,sc 0 0 1 n2 c2),(1,(.func (.func 47) ⟨[]⟩ ⟨[]⟩)),(5,(zI (Int.ofNat k1))),(28,zB b0)]) (hp 1 [oC q2]) (.k [0] [false] [] [0,1,5,28] ⟨BB h2,trivial⟩) ?_
     replace hm:=Ag hm;rcases hm with⟨h12,hm⟩ | ⟨h12,hm⟩
     ·refine .ifT b0 (by kernel_rfl) h12 ?_
      refine .then ?_
      replace hm:=Ae hm;obtain⟨h13,hm⟩:=hm
      refine .reg (eC 2 (keep (hp 1 [oC q2]) (oo (bb (Nat.ble k1 n2) (some k1) none) none fun l=>some (sliceAt 0 (0+l*1) 1 (n2 - l) (c2 / 2 - l) (Dp false (Nat.beq (c2 % 2) 1))))) (show _=some ((.slice (some ⟨0,(0+k1*1),some 1⟩) (n2 - k1) (2*(c2 / 2 - k1)+bb (Dp false (Nat.beq (c2 % 2) 1)) 1 0)),(hp 1 [oC q2])) from (RJ h13).trans (by kernel_rfl)) (eE)) ?_
      refine .ghs (fr 66 [(0,sc 0 0 1 n2 c2),(1,(.func (.func 47) ⟨[]⟩ ⟨[]⟩)),(5,(zI (Int.ofNat k1))),(6,(.slice (some ⟨0,(0+k1*1),some 1⟩) (n2 - k1) (2*(c2 / 2 - k1)+bb (Dp false (Nat.beq (c2 % 2) 1)) 1 0)))]) (hp 1 [oC q2]) (.k [0] [false] [] [0,1,5,6] ⟨BB h2,trivial⟩) ?_
      refine .join (v:=v) (fun y:Nat×Nat×Int×LV=>((fr 66 [(0,(sc 0 0 1 y.1 y.2.1)),(5,(zI y.2.2.1))]),(hp 1 [(oC y.2.2.2)]))) (fun y=>OJ pu n (FY pu n w0) y.1 y.2.1 y.2.2.1 y.2.2.2) ?_ ?_
      ·rintro⟨n4,c10,z2,q4⟩ hm
       unfold OJ at hm
       refine .then ?_
       replace hm:=Ab hm;obtain⟨k3,h14,hm⟩:=hm
       obtain rfl:=AR h14
       replace hm:=Ae hm;obtain⟨h15,hm⟩:=hm
       replace hm:=Ae hm;obtain⟨h16,hm⟩:=hm
       replace hm:=Ae hm;obtain⟨h17,hm⟩:=hm
       refine .reg (eC 2 (keep (hp 1 [oC q4]) (oo (bb (Nat.ble k3 n4) (some k3) none) none fun l=>some (sliceAt 0 (0+l*1) 1 (n4 - l) (c10 / 2 - l) (Dp false (Nat.beq (c10 % 2) 1))))) (show _=some ((.slice (some ⟨0,(0+k3*1),some 1⟩) (n4 - k3) (2*(c10 / 2 - k3)+bb (Dp false (Nat.beq (c10 % 2) 1)) 1 0)),(hp 1 [oC q4])) from (RJ h15).trans (by kernel_rfl)) (eD (done (bb (nt (Nat.beq (n4 - k3) 0)) (bb (an (Nat.ble ((0+k3*1)+len (AF ([(.slice none 0 0)]:LV) (n4 - k3))) (len q4)) (Au D6 (AF ([(.slice none 0 0)]:LV) (n4 - k3)))) (some (hp 1 [(oC (BM (AF ([(.slice none 0 0)]:LV) (n4 - k3)) (0+k3*1) q4))])) none) none) undef) (bH h16 h17) (eE))) ?_
       replace hm:=Ae hm;obtain⟨h18,hm⟩:=hm
       refine .ghs (fr 66 [(0,sc 0 0 1 n4 c10),(5,(zI (Int.ofNat k3)))]) (hp 1 [(oC (BM (AF ([(.slice none 0 0)]:LV) (n4 - k3)) (0+k3*1) q4))]) (.k [0] [false] [] [0,5] ⟨BB h18,trivial⟩) ?_
       refine .then ?_
       replace hm:=Ae hm;obtain⟨h19,hm⟩:=hm
       refine .reg (eC 2 (keep (hp 1 [(oC (BM (AF ([(.slice none 0 0)]:LV) (n4 - k3)) (0+k3*1) q4))]) (oo (bb (Nat.ble k3 (c10 / 2)) (some k3) none) none fun h=>some (sliceAt 0 (0+0*1) 1 (h - 0) (c10 / 2 - 0) (Dp false (Nat.beq (c10 % 2) 1))))) (show _=some ((sc 0 0 1 k3 (2*(c10 / 2)+bb (Dp false (Nat.beq (c10 % 2) 1)) 1 0)),(hp 1 [(oC (BM (AF ([(.slice none 0 0)]:LV) (n4 - k3)) (0+k3*1) q4))])) from (RJ h19).trans (by kernel_rfl)) (eE)) ?_
       refine .ghs (fr 66 [(4,(sc 0 0 1 k3 (2*(c10 / 2)+bb (Dp false (Nat.beq (c10 % 2) 1)) 1 0)))]) (hp 1 [(oC (BM (AF ([(.slice none 0 0)]:LV) (n4 - k3)) (0+k3*1) q4))]) (.k [0] [false] [] [4] ⟨BB h18,trivial⟩) ?_
       refine .ghs (fr 66 [(4,(sc 0 0 1 k3 (2*(c10 / 2)+bb (Dp false (Nat.beq (c10 % 2) 1)) 1 0)))]) (hp 1 [(oC (BM (AF ([(.slice none 0 0)]:LV) (n4 - k3)) (0+k3*1) q4))]) (.k [0] [false] [] [4] ⟨BB h18,trivial⟩) ?_
       refine .ret ?_
       exact Eo (sc 0 0 1 k3 (2*(c10 / 2)+bb (Dp false (Nat.beq (c10 % 2) 1)) 1 0)) [(oC (BM (AF ([(.slice none 0 0)]:LV) (n4 - k3)) (0+k3*1) q4))] (by kernel_rfl) hm (Nat.le_of_ble_eq_true rfl) (Dr (PO _) DL)
      ·refine .then (.rK (.ghs (fr 66 [(0,sc 0 0 1 n2 c2),(1,(.func (.func 47) ⟨[]⟩ ⟨[]⟩)),(5,(zI (Int.ofNat k1))),(6,(.slice (some ⟨0,(0+k1*1),some 1⟩) (n2 - k1) (2*(c2 / 2 - k1)+bb (Dp false (Nat.beq (c2 % 2) 1)) 1 0))),(7,(zI (1:Int)))]) (hp 1 [oC q2]) (.k [0] [false] [] [0,1,5,6,7] ⟨BB h2,trivial⟩) ?_))
       refine .block (.loopM (v:=v) (fun y:Nat×Nat×Int×Nat×Nat×Nat×Int×LV=>((fr 66 [(0,(sc 0 0 1 y.1 y.2.1)),(1,(.func (.func 47) ⟨[]⟩ ⟨[]⟩)),(5,(zI y.2.2.1)),(6,(.slice (some ⟨0,y.2.2.2.1,some 1⟩) y.2.2.2.2.1 y.2.2.2.2.2.1)),(7,(zI y.2.2.2.2.2.2.1))]),(hp 1 [(oC y.2.2.2.2.2.2.2)]))) (fun w y=>Jw pu n (FY pu n w0) w y.1 y.2.1 y.2.2.1 y.2.2.2.1 y.2.2.2.2.1 y.2.2.2.2.2.1 y.2.2.2.2.2.2.1 y.2.2.2.2.2.2.2) n ⟨(n2,c2,(Int.ofNat k1),(0+k1*1),(n2 - k1),(2*(c2 / 2 - k1)+bb (Dp false (Nat.beq (c2 % 2) 1)) 1 0),(1:Int),q2),hm,(.k [0] [false] [] [0,1,5,6,7] ⟨BB h2,trivial⟩)⟩ (fun _=>rfl) ?_)
       rintro w1 ⟨n5,c11,z3,n6,n7,c12,z4,q5⟩ hm
       replace hm:OL pu n (FY pu n w0) (Jw pu n (FY pu n w0) w1) n5 c11 z3 n6 n7 c12 z4 q5=some v:=hm
       unfold OL at hm
       refine .then (.then (.rK ?_))
       replace hm:=Ae hm;obtain⟨h20,hm⟩:=hm
       refine .ghs (fr 66 [(0,sc 0 0 1 n5 c11),(1,(.func (.func 47) ⟨[]⟩ ⟨[]⟩)),(5,zI z3),(6,(.slice (some ⟨0,n6,some 1⟩) n7 c12)),(7,zI z4),(35,(zB (AY z4 (Int.ofNat n7))))]) (hp 1 [oC q5]) (.k [0] [false] [] [0,1,5,6,7,35] ⟨BB h20,trivial⟩) ?_
       replace hm:=Ag hm;rcases hm with⟨h21,hm⟩ | ⟨h21,hm⟩
       ·refine Cs (AY z4 (Int.ofNat n7)) h21 ?_
        refine .skip (.ghs (fr 66 [(0,sc 0 0 1 n5 c11),(1,(.func (.func 47) ⟨[]⟩ ⟨[]⟩)),(5,zI z3),(6,(.slice (some ⟨0,n6,some 1⟩) n7 c12)),(7,zI z4)]) (hp 1 [oC q5]) (.k [0] [false] [] [0,1,5,6,7] ⟨BB h20,trivial⟩) ?_)
        refine .join (v:=v) (fun y:Nat×Nat×Int×Nat×Nat×Nat×Int×LV=>((fr 66 [(0,(sc 0 0 1 y.1 y.2.1)),(1,(.func (.func 47) ⟨[]⟩ ⟨[]⟩)),(5,(zI y.2.2.1)),(6,(.slice (some ⟨0,y.2.2.2.1,some 1⟩) y.2.2.2.2.1 y.2.2.2.2.2.1)),(7,(zI y.2.2.2.2.2.2.1))]),(hp 1 [(oC y.2.2.2.2.2.2.2)]))) (fun y=>Jv pu n (FY pu n w0) (Jw pu n (FY pu n w0) w1) y.1 y.2.1 y.2.2.1 y.2.2.2.1 y.2.2.2.2.1 y.2.2.2.2.2.1 y.2.2.2.2.2.2.1 y.2.2.2.2.2.2.2) ?_ ?_
        ·rintro⟨n8,c13,z5,n9,n10,c14,z6,q6⟩ hm
         unfold Jv at hm
         refine .rK ?_
         replace hm:=Ae hm;obtain⟨h22,hm⟩:=hm
         exact⟨(n8,c13,z5,n9,n10,c14,(Aj .i64 (Int.add z6 (1:Int))),q6),hm,(.k [0] [false] [] [0,1,5,6,7] ⟨BB h22,trivial⟩)⟩
        ·refine .block (.then ?_)
         replace hm:=Ab hm;obtain⟨k4,h23,hm⟩:=hm
         obtain rfl:=AR h23
         replace hm:=Ae hm;obtain⟨h24,hm⟩:=hm
         replace hm:=O4 hm;obtain⟨s2,h25,hm⟩:=hm
         replace hm:=Ab hm;obtain⟨k5,h26,hm⟩:=hm
         replace hm:=Ae hm;obtain⟨h27,hm⟩:=hm
         replace hm:=O4 hm;obtain⟨s3,h28,hm⟩:=hm
         replace hm:=WX hm;obtain⟨b1,h29,hm⟩:=hm
         refine .reg (eN 8 (Fr.puts (fr 66 [(0,sc 0 0 1 n5 c11),(1,(.func (.func 47) ⟨[]⟩ ⟨[]⟩)),(5,zI z3),(6,(.slice (some ⟨0,n6,some 1⟩) n7 c12)),(7,(zI (Int.ofNat k4)))]) [(38,(.func (.func 47) ⟨[]⟩ ⟨[]⟩)),(39,(.slice (some ⟨0,n6,some 1⟩) n7 c12)),(40,(zI (Int.ofNat k4))),(41,(.pointer (some ⟨0,(n6+k4*1),none⟩))),(42,Sl.v 1 s2),(43,(.slice (some ⟨0,n6,some 1⟩) n7 c12)),(44,(zI (Int.ofNat k4))),(45,(zI (Int.ofNat k5)))]) (hp 1 [oC q5]) (eC 3 (keep (hp 1 [oC q5]) (bb (an (Nat.blt k4 n7) true) (some (.pointer (some ⟨0,(n6+k4*1),none⟩))) none)) (AX h24) (eD (keep (hp 1 [oC q5]) (AL q5 (n6+k4*1))) (AZ h25) (eC 2 (some ((zI (Aj .i64 (Int.sub (Int.ofNat k4) (1:Int)))),(hp 1 [oC q5]))) (show _=some ((zI (Int.ofNat k5)),_) from (by rw[AR h26])) (by kernel_rfl)))) (eD (keep (hp 1 [oC q5]) (bb (an (Nat.blt k5 n7) true) (some (.pointer (some ⟨0,(n6+k5*1),none⟩))) none)) (AX h27) (eD (keep (hp 1 [oC q5]) (AL q5 (n6+k5*1))) (AZ h28) (eD ((oo (pu 47 [Sl.v 1 s2,Sl.v 1 s3]) none fun v=>some (v,(hp 1 [oC q5])))) (AB h29) (eE))))) ?_
         refine .ghs (fr 66 [(0,sc 0 0 1 n5 c11),(1,(.func (.func 47) ⟨[]⟩ ⟨[]⟩)),(5,zI z3),(6,(.slice (some ⟨0,n6,some 1⟩) n7 c12)),(7,(zI (Int.ofNat k4))),(49,(zB (nt b1)))]) (hp 1 [oC q5]) (.k [0] [false] [] [0,1,5,6,7,49] ⟨BB h20,trivial⟩) ?_
         replace hm:=Ag hm;rcases hm with⟨h30,hm⟩ | ⟨h30,hm⟩
         ·refine Cs (nt b1) h30 ?_
          refine .then ?_
          replace hm:=Ae hm;obtain⟨h31,hm⟩:=hm
          replace hm:=O4 hm;obtain⟨s4,h32,hm⟩:=hm
          replace hm:=Ab hm;obtain⟨k6,h33,hm⟩:=hm
          obtain rfl:=AR h33
          replace hm:=Ae hm;obtain⟨h34,hm⟩:=hm
          replace hm:=Ae hm;obtain⟨h35,hm⟩:=hm
          refine .reg (eC 4 (keep (hp 1 [oC q5]) (bb (an (Nat.blt k4 n7) true) (some (.pointer (some ⟨0,(n6+k4*1),none⟩))) none)) (AX h31) (eD (keep (hp 1 [oC q5]) (AL q5 (n6+k4*1))) (AZ h32) (eD (keep (hp 1 [oC q5]) (bb (an (Nat.blt k6 n5) true) (some (.pointer (some ⟨0,(0+k6*1),none⟩))) none)) (AX h34) (eD (done (bb (an (Nat.ble ((0+k6*1)+1) (len q5)) true) (some (hp 1 [(oC (BM ([Sl.v 1 s4]:LV) (0+k6*1) q5))])) none) undef) (Js h35) (eE))))) ?_
          replace hm:=Ae hm;obtain⟨h36,hm⟩:=hm
          refine .ghs (fr 66 [(0,sc 0 0 1 n5 c11),(1,(.func (.func 47) ⟨[]⟩ ⟨[]⟩)),(5,(zI (Int.ofNat k6))),(6,(.slice (some ⟨0,n6,some 1⟩) n7 c12)),(7,(zI (Int.ofNat k4)))]) (hp 1 [(oC (BM ([Sl.v 1 s4]:LV) (0+k6*1) q5))]) (.k [0] [false] [] [0,1,5,6,7] ⟨BB h36,trivial⟩) ?_
          refine .rK ?_
          exact⟨(n5,c11,(Aj .i64 (Int.add (Int.ofNat k6) (1:Int))),n6,n7,c12,(Int.ofNat k4),(BM ([Sl.v 1 s4]:LV) (0+k6*1) q5)),hm,(.k [0] [false] [] [0,1,5,6,7] ⟨BB h36,trivial⟩)⟩
         ·refine CY (nt b1) h30 ?_
          refine .skip ?_
          exact⟨(n5,c11,z3,n6,n7,c12,(Int.ofNat k4),q5),hm,(.k [0] [false] [] [0,1,5,6,7] ⟨BB h20,trivial⟩)⟩
       ·refine CY (AY z4 (Int.ofNat n7)) h21 ?_
        refine .exit ?_
        exact⟨(n5,c11,z3,q5),hm,(.k [0] [false] [] [0,5] ⟨BB h20,trivial⟩)⟩
     ·refine .ifF b0 (by kernel_rfl) h12 ?_
      refine .skip ?_
      exact⟨(n2,c2,(Int.ofNat k1),q2),hm,(.k [0] [false] [] [0,1,5] ⟨BB h2,trivial⟩)⟩
   ·refine CY (AY z0 (Int.ofNat n2)) h3 ?_
    refine .exit ?_
    exact⟨(n2,c2,q2),hm,(.k [0] [false] [] [0] ⟨BB h2,trivial⟩)⟩
theorem uG {call:A8} (pu:Af) (n:Nat) (hcall:call=Bb tabs isP pu (inl pu)) {args:LV} {os:List AJ} {z:Value} (ha:args.length=2) (hk:os.length=1) (hpl:∀ o∈os,plainO o) (hm:OO pu n (args++os.map Ef)=some z):args.length≤66∧BN tt call (tabs.length+1) LU (Fr.made 66 args) (BK tabs os) (FJ tt tabs.length 1 [.tmp 4] z):=by
 subst hcall
 have hq:=Bq ha;clear ha;obtain⟨a0,args,rfl,ha⟩:=hq
 have hq:=Bq ha;clear ha;obtain⟨a1,args,rfl,ha⟩:=hq
 obtain rfl:=len_nil ha
 have hq:=Bq hk;clear hk;obtain⟨b0,os,rfl,hk⟩:=hq
 have hp0:plainO b0:=hpl b0 (by simp)
 obtain rfl:=len_nil hk
 replace hm:OO pu n [a0,a1,Ef b0]=some z:=hm
 unfold OO at hm
 replace hm:(oo (Iz 0 0 1 a0) none fun y0=>(oo (I9 47 0 a1) none fun l0=>(ll l0 (oo (Bt (Ef b0)) none fun q0=>(K3 pu n (NC.n y0) (NC.c y0) q0)) fun _ _=>none)))=some z:=hm
 replace hm:=Ab hm;obtain⟨y0,h0,hm⟩:=hm
 obtain rfl:=Gu h0
 replace hm:=Ab hm;obtain⟨l0,h1,hm⟩:=hm
 obtain rfl:=Gw h1
 replace hm:=AC hm;obtain⟨rfl,hm⟩:=hm
 replace hm:=Ab hm;obtain⟨q0,h2,hm⟩:=hm
 obtain rfl:=G5 hp0 h2
 refine⟨by simp,?_⟩
 exact .same (F':=(fr 66 [(0,(sc 0 0 1 (NC.n y0) (NC.c y0))),(1,(.func (.func 47) ⟨[]⟩ ⟨[]⟩))])) (H':=(hp 1 [oC q0])) (by kernel_rfl) (by kernel_rfl) (uF pu n (NC.n y0) (NC.c y0) q0 hm)
end
end Go.TpAM
set_option maxRecDepth 100000
set_option maxHeartbeats 20000000
set_option linter.unusedVariables false
namespace Go.TpAM
open Go.Sp Go.TpA
noncomputable section

def K4 (pu:Af) (n:Nat) (s0:Sl):OV:=
 (oo (pu 10710 [Sl.v 1 s0,(.func (.func 49) ⟨[]⟩ ⟨[]⟩)]) none fun v0=>(oo (CQ v0) none fun l0=>(ll l0 none fun v1 l0=>(ll l0 (oo (Bi .i64 v1) none fun x0=>(some (.tuple ⟨[(.bool (nt (AY x0 (0:Int))))]⟩))) fun _ _=>none))))
def OP (pu:Af) (n:Nat) (args:LV):OV:=
 (ll args none fun a0 args=>(ll args none fun a1 args=>(ll args (oo (Bj 1 a0) none fun s0=>(oo (I9 49 0 a1) none fun l0=>(ll l0 (K4 pu n s0) fun _ _=>none))) fun _ _=>none)))
theorem uH (pu:Af) (n:Nat) (s0:Sl) {v:Value} (hm:K4 pu n s0=some v):BN tt (Bb tabs isP pu (inl pu)) 0 Qw (fr 9 [(0,Sl.v 1 s0),(1,(.func (.func 49) ⟨[]⟩ ⟨[]⟩))]) (hp 0 []) (FJ tt 0 0 [.tmp 4] v):=by
 unfold K4 at hm
 refine .then (.rK (.ghs (fr 9 [(0,Sl.v 1 s0),(1,(.func (.func 49) ⟨[]⟩ ⟨[]⟩))]) (hp 0 []) (.k0 [] [] [0,1]) ?_))
 refine .then ?_
 replace hm:=Ab hm;obtain⟨v0,h0,hm⟩:=hm
 replace hm:=Ch hm;obtain⟨l0,rfl,hm⟩:=hm
 replace hm:=Ad hm;obtain⟨v1,l1543702_0,rfl,hm⟩:=hm
 replace hm:=AC hm;obtain⟨rfl,hm⟩:=hm
 replace hm:=Ai hm;obtain⟨x0,rfl,hm⟩:=hm
 refine .reg (eC 2 (Fp tabs [[some 1],[none]] 2 [] [] (pu 10710) [Sl.v 1 s0,(.func (.func 49) ⟨[]⟩ ⟨[]⟩)] (hp 0 [])) (FM (as:=[Sl.v 1 s0,(.func (.func 49) ⟨[]⟩ ⟨[]⟩)]) (H1:=(hp 0 [])) (BO (Eb (sU (CV (z:=1) (v:=(Sl.v 1 s0)) (H:=(hp 0 [])) (by kernel_rfl) (by kernel_rfl) (by kernel_rfl)))) (BO (Eb Dn) FX)) (FL (H2:=(hp 0 [])) (v:=(zI x0)) (v':=(zI x0)) [] [] [] [Sl.v 1 s0,(.func (.func 49) ⟨[]⟩ ⟨[]⟩)] [] [] [] [] [] (by kernel_rfl) BI (Eq.trans (by kernel_rfl) h0) BI BI)) (eE)) ?_
 refine .ghs (fr 9 [(4,(zB (nt (AY x0 (0:Int)))))]) (hp 0 []) (.k0 [] [] [4]) ?_
 refine .ghs (fr 9 [(4,(zB (nt (AY x0 (0:Int)))))]) (hp 0 []) (.k0 [] [] [4]) ?_
 refine .ret ?_
 exact Eo (zB (nt (AY x0 (0:Int)))) [] (by kernel_rfl) hm (Nat.le_of_ble_eq_true rfl) DL
theorem uI {call:A8} (pu:Af) (n:Nat) (hcall:call=Bb tabs isP pu (inl pu)) {args:LV} {os:List AJ} {z:Value} (ha:args.length=2) (hk:os.length=0) (hpl:∀ o∈os,plainO o) (hm:OP pu n (args++os.map Ef)=some z):args.length≤9∧BN tt call (tabs.length+0) Qw (Fr.made 9 args) (BK tabs os) (FJ tt tabs.length 0 [.tmp 4] z):=by
 subst hcall
 have hq:=Bq ha;clear ha;obtain⟨a0,args,rfl,ha⟩:=hq
 have hq:=Bq ha;clear ha;obtain⟨a1,args,rfl,ha⟩:=hq
 obtain rfl:=len_nil ha
 obtain rfl:=len_nil hk
 replace hm:OP pu n [a0,a1]=some z:=hm
 unfold OP at hm
 replace hm:(oo (Bj 1 a0) none fun s0=>(oo (I9 49 0 a1) none fun l0=>(ll l0 (K4 pu n s0) fun _ _=>none)))=some z:=hm
 replace hm:=Al hm;obtain⟨s0,rfl,hm⟩:=hm
 replace hm:=Ab hm;obtain⟨l0,h0,hm⟩:=hm
 obtain rfl:=Gw h0
 replace hm:=AC hm;obtain⟨rfl,hm⟩:=hm
 refine⟨by simp,?_⟩
 exact .same (F':=(fr 9 [(0,Sl.v 1 s0),(1,(.func (.func 49) ⟨[]⟩ ⟨[]⟩))])) (H':=(hp 0 [])) (by kernel_rfl) (by kernel_rfl) (uH pu n s0 hm)
def JN (pu:Af) (n:Nat):OV:=
 (some (.tuple ⟨[(.int .i64 (-1:Int))]⟩))
def OQ (pu:Af) (n:Nat) (ih0:Sl→Int→Int→OV) (s0:Sl) (z0 z1:Int):OV:=
 (bb (AY z1 z0) (oo (EA z1) none fun k1=>(bb (an (Nat.blt k1 (Sl.n s0)) true) (oo (AL (Sl.cs s0) (k1*1)) none fun v0=>(oo (Bi .i64 v0) none fun x0=>(oo (pu 49 [.int .i64 x0]) none fun v1=>(oo (Bf v1) none fun b0=>(bb b0 (some (.tuple ⟨[(.int .i64 (Int.ofNat k1))]⟩)) (ih0 s0 z0 (Aj .i64 (Int.add (Int.ofNat k1) (1:Int))))))))) none)) (JN pu n))
def OT (pu:Af) (n w:Nat):Sl→Int→Int→OV:=
 Nat.rec (motive:=fun _=>Sl→Int→Int→OV) (fun _ _ _=>none) (fun _ ih0=>OQ pu n ih0) w
def K5 (pu:Af) (n:Nat) (s0:Sl):OV:=
 (OT pu n n s0 (Int.ofNat (Sl.n s0)) (0:Int))
def OU (pu:Af) (n:Nat) (args:LV):OV:=
 (ll args none fun a0 args=>(ll args none fun a1 args=>(ll args (oo (Bj 1 a0) none fun s0=>(oo (I9 49 0 a1) none fun l0=>(ll l0 (K5 pu n s0) fun _ _=>none))) fun _ _=>none)))
theorem WM (pu:Af) (n:Nat) {v:Value} (hm:JN pu n=some v):BN tt (Bb tabs isP pu (inl pu)) 0 UY (fr 19 []) (hp 0 []) (FJ tt 0 0 [.tmp 4] v):=by
 unfold JN at hm
 refine .then (.rK (.ghs (fr 19 [(4,(zI (-1:Int)))]) (hp 0 []) (.k0 [] [] [4]) ?_))
 refine .ghs (fr 19 [(4,(zI (-1:Int)))]) (hp 0 []) (.k0 [] [] [4]) ?_
 refine .ret ?_
 exact Eo (zI (-1:Int)) [] (by kernel_rfl) hm (Nat.le_of_ble_eq_true rfl) DL
theorem uJ (pu:Af) (n:Nat) (s0:Sl) {v:Value} (hm:K5 pu n s0=some v):BN tt (Bb tabs isP pu (inl pu)) 0 LW (fr 19 [(0,Sl.v 1 s0),(1,(.func (.func 49) ⟨[]⟩ ⟨[]⟩))]) (hp 0 []) (FJ tt 0 0 [.tmp 4] v):=by
 unfold K5 at hm
 refine .then (.rK (.ghs (fr 19 [(0,Sl.v 1 s0),(1,(.func (.func 49) ⟨[]⟩ ⟨[]⟩))]) (hp 0 []) (.k0 [] [] [0,1]) ?_))
 refine .join (v:=v) (fun y:Unit=>((fr 19 []),(hp 0 []))) (fun y=>JN pu n) ?_ ?_
 ·rintro _ hm
  exact WM pu n hm
 ·refine .then (.rK (.ghs (fr 19 [(0,Sl.v 1 s0),(1,(.func (.func 49) ⟨[]⟩ ⟨[]⟩)),(7,(zI (Int.ofNat (Sl.n s0)))),(8,(zI (0:Int)))]) (hp 0 []) (.k0 [] [] [0,1,7,8]) ?_))
  refine .block (.loopM (v:=v) (fun y:Sl×Int×Int=>((fr 19 [(0,(Sl.v 1 y.1)),(1,(.func (.func 49) ⟨[]⟩ ⟨[]⟩)),(7,(zI y.2.1)),(8,(zI y.2.2))]),(hp 0 []))) (fun w y=>OT pu n w y.1 y.2.1 y.2.2) n ⟨(s0,(Int.ofNat (Sl.n s0)),(0:Int)),hm,(.k0 [] [] [0,1,7,8])⟩ (fun _=>rfl) ?_)
  rintro w0 ⟨s1,z0,z1⟩ hm
  replace hm:OQ pu n (OT pu n w0) s1 z0 z1=some v:=hm
  unfold OQ at hm
  refine .then (.rK (.ghs (fr 19 [(0,Sl.v 1 s1),(1,(.func (.func 49) ⟨[]⟩ ⟨[]⟩)),(7,zI z0),(8,zI z1),(9,(zB (AY z1 z0)))]) (hp 0 []) (.k0 [] [] [0,1,7,8,9]) ?_))
  refine .then ?_
  replace hm:=Ag hm;rcases hm with⟨h0,hm⟩ | ⟨h0,hm⟩
  ·refine Cs (AY z1 z0) h0 ?_
   refine .skip (.ghs (fr 19 [(0,Sl.v 1 s1),(1,(.func (.func 49) ⟨[]⟩ ⟨[]⟩)),(7,zI z0),(8,zI z1)]) (hp 0 []) (.k0 [] [] [0,1,7,8]) ?_)
   refine .then (.block (.then (.rK (.ghs (fr 19 [(0,Sl.v 1 s1),(1,(.func (.func 49) ⟨[]⟩ ⟨[]⟩)),(5,zI z1),(7,zI z0),(8,zI z1)]) (hp 0 []) (.k0 [] [] [0,1,5,7,8]) ?_))))
   refine .then ?_
   replace hm:=Ab hm;obtain⟨k1,h1,hm⟩:=hm
   obtain rfl:=AR h1
   replace hm:=Ae hm;obtain⟨h2,hm⟩:=hm
   replace hm:=Hw hm;obtain⟨x0,h3,hm⟩:=hm
   replace hm:=WX hm;obtain⟨b0,h4,hm⟩:=hm
   refine .reg (eC 3 (keep (hp 0 []) (bb (an (Nat.blt k1 (Sl.n s1)) true) (some (Cv (k1*1) (Sl.cs s1))) none)) (AX h2) (eD (keep (hp 0 []) (AL (Sl.cs s1) (k1*1))) (AZ h3) (eD ((oo (pu 49 [zI x0]) none fun v=>some (v,(hp 0 [])))) (AB h4) (eE)))) ?_
   refine .ghs (fr 19 [(0,Sl.v 1 s1),(1,(.func (.func 49) ⟨[]⟩ ⟨[]⟩)),(5,(zI (Int.ofNat k1))),(7,zI z0),(8,(zI (Int.ofNat k1))),(16,zB b0)]) (hp 0 []) (.k0 [] [] [0,1,5,7,8,16]) ?_
   replace hm:=Ag hm;rcases hm with⟨h5,hm⟩ | ⟨h5,hm⟩
   ·refine .ifT b0 (by kernel_rfl) h5 ?_
    refine .then (.rK (.ghs (fr 19 [(4,(zI (Int.ofNat k1)))]) (hp 0 []) (.k0 [] [] [4]) ?_))
    refine .ghs (fr 19 [(4,(zI (Int.ofNat k1)))]) (hp 0 []) (.k0 [] [] [4]) ?_
    refine .ret ?_
    exact Eo (zI (Int.ofNat k1)) [] (by kernel_rfl) hm (Nat.le_of_ble_eq_true rfl) DL
   ·refine .ifF b0 (by kernel_rfl) h5 ?_
    refine .skip (.ghs (fr 19 [(0,Sl.v 1 s1),(1,(.func (.func 49) ⟨[]⟩ ⟨[]⟩)),(7,zI z0),(8,(zI (Int.ofNat k1)))]) (hp 0 []) (.k0 [] [] [0,1,7,8]) ?_)
    refine .rK ?_
    exact⟨(s1,z0,(Aj .i64 (Int.add (Int.ofNat k1) (1:Int)))),hm,(.k0 [] [] [0,1,7,8])⟩
  ·refine CY (AY z1 z0) h0 ?_
   refine .exit ?_
   exact⟨(),hm,(.k0 [] [] [])⟩
theorem uK {call:A8} (pu:Af) (n:Nat) (hcall:call=Bb tabs isP pu (inl pu)) {args:LV} {os:List AJ} {z:Value} (ha:args.length=2) (hk:os.length=0) (hpl:∀ o∈os,plainO o) (hm:OU pu n (args++os.map Ef)=some z):args.length≤19∧BN tt call (tabs.length+0) LW (Fr.made 19 args) (BK tabs os) (FJ tt tabs.length 0 [.tmp 4] z):=by
 subst hcall
 have hq:=Bq ha;clear ha;obtain⟨a0,args,rfl,ha⟩:=hq
 have hq:=Bq ha;clear ha;obtain⟨a1,args,rfl,ha⟩:=hq
 obtain rfl:=len_nil ha
 obtain rfl:=len_nil hk
 replace hm:OU pu n [a0,a1]=some z:=hm
 unfold OU at hm
 replace hm:(oo (Bj 1 a0) none fun s0=>(oo (I9 49 0 a1) none fun l0=>(ll l0 (K5 pu n s0) fun _ _=>none)))=some z:=hm
 replace hm:=Al hm;obtain⟨s0,rfl,hm⟩:=hm
 replace hm:=Ab hm;obtain⟨l0,h0,hm⟩:=hm
 obtain rfl:=Gw h0
 replace hm:=AC hm;obtain⟨rfl,hm⟩:=hm
 refine⟨by simp,?_⟩
 exact .same (F':=(fr 19 [(0,Sl.v 1 s0),(1,(.func (.func 49) ⟨[]⟩ ⟨[]⟩))])) (H':=(hp 0 [])) (by kernel_rfl) (by kernel_rfl) (uJ pu n s0 hm)
def OW (pu:Af) (n:Nat) (ih0:Int→Nat→Nat→Nat→Nat→List EO→Nat→LV→LV→Nat→List Nat→Nat→OV) (z0:Int) (n0 c0 n1 c1:Nat) (e0:List EO) (k1:Nat) (q0:LV) (q1:LV) (k2:Nat) (l0:List Nat) (k3:Nat):OV:=
 (bb (Au (fun e=>Nat.blt (EO.born e) k2) e0) (bb (Nat.ble k2 k3) (VZ e0 l0 (bb (Au F4 e0) (bb (Au Ah q0) (bb (Au Ah q1) (some (.tuple ⟨[(.tuple ⟨[]⟩),(.agg ⟨[.int .i64 z0,(.slice (some ⟨2,0,some 4⟩) n0 c0),(.slice (some ⟨3,0,some 1⟩) n1 c1)]⟩),(Ef (.map e0 k1)),(.agg ⟨q0⟩),(.agg ⟨q1⟩)]⟩)) none) none) none) (fun e1:EO=>(bb (Au F4 e0) (bb (Au Ah q0) (bb (Au Ah q1) (oo (Acy e0 k1 (Br l0 [(EO.born e1)]) k1) none fun v0=>(oo (CQ v0) none fun l1=>(ll l1 none fun v1 l1=>(ll l1 none fun v2 l1=>(ll l1 (oo (Bi .i64 v1) none fun x0=>(oo (Bf v2) none fun b0=>(bb b0 (oo (EA x0) none fun k4=>(bb (an (Nat.blt k4 n1) true) (oo (AL q1 (0+k4*1)) none fun v3=>(oo (Bi .i64 v3) none fun x1=>(bb (an (Nat.blt k4 n1) true) (bb (an (Nat.ble ((0+k4*1)+1) (len q1)) true) (bb (Au Ah (BM ([(.int .i64 (Aj .i64 (Int.add x1 (1:Int))))]:LV) (0+k4*1) q1)) (ih0 z0 n0 c0 n1 c1 e0 k1 q0 (BM ([(.int .i64 (Aj .i64 (Int.add x1 (1:Int))))]:LV) (0+k4*1) q1) k2 (Br l0 [(EO.born e1)]) k1) none) none) none))) none)) (oo (EA x0) none fun k5=>(bb (an (Nat.blt k5 n1) true) (oo (AL q1 (0+k5*1)) none fun v4=>(oo (Bi .i64 v4) none fun x2=>(bb (an (Nat.blt k5 n1) true) (bb (an (Nat.ble ((0+k5*1)+1) (len q1)) true) (bb (Au Ah (BM ([(.int .i64 (Aj .i64 (Int.sub x2 (1:Int))))]:LV) (0+k5*1) q1)) (ih0 z0 n0 c0 n1 c1 e0 k1 q0 (BM ([(.int .i64 (Aj .i64 (Int.sub x2 (1:Int))))]:LV) (0+k5*1) q1) k2 (Br l0 [(EO.born e1)]) k1) none) none) none))) none))))) fun _ _=>none))))) none) none) none))) none) none)
def OX (pu:Af) (n w:Nat):Int→Nat→Nat→Nat→Nat→List EO→Nat→LV→LV→Nat→List Nat→Nat→OV:=
 Nat.rec (motive:=fun _=>Int→Nat→Nat→Nat→Nat→List EO→Nat→LV→LV→Nat→List Nat→Nat→OV) (fun _ _ _ _ _ _ _ _ _ _ _ _=>none) (fun _ ih0=>OW pu n ih0) w
def K6 (pu:Af) (n:Nat) (z0:Int) (n0 c0 n1 c1:Nat) (e0:List EO) (k1:Nat) (q0:LV) (q1:LV):OV:=
 (bb (Au F4 e0) (bb (Au Ah q0) (bb (Au Ah q1) (OX pu n n z0 n0 c0 n1 c1 e0 k1 q0 q1 k1 ([]:List Nat) k1) none) none) none)
def OZ (pu:Af) (n:Nat) (args:LV):OV:=
 (ll args none fun a0 args=>(ll args none fun a1 args=>(ll args none fun o0 args=>(ll args none fun o1 args=>(ll args none fun o2 args=>(ll args none fun o3 args=>(ll args (bb (XR a0 0 0) (bb (O5 a1 1) (oo (Bt o0) none fun l0=>(ll l0 none fun v0 l0=>(ll l0 none fun v1 l0=>(ll l0 none fun v2 l0=>(ll l0 (oo (Bi .i64 v0) none fun x0=>(oo (Iz 2 0 4 v1) none fun y0=>(oo (Iz 3 0 1 v2) none fun y1=>(oo (Fj o1) none fun y2=>(oo (Bt o2) none fun q0=>(oo (Bt o3) none fun q1=>(K6 pu n x0 (NC.n y0) (NC.c y0) (NC.n y1) (NC.c y1) (Akd.es y2) (Akd.clock y2) q0 q1))))))) fun _ _=>none))))) none) none) fun _ _=>none)))))))
theorem uL (pu:Af) (n:Nat) (z0:Int) (n0 c0 n1 c1:Nat) (e0:List EO) (k1:Nat) (q0:LV) (q1:LV) {v:Value} (hm:K6 pu n z0 n0 c0 n1 c1 e0 k1 q0 q1=some v):BN tt (Bb tabs isP pu (inl pu)) 4 I8 (fr 32 [(0,(pt 0 0)),(1,(.map (some 1)))]) (hp 4 [(oC [zI z0,sc 2 0 4 n0 c0,sc 3 0 1 n1 c1]),(.map e0 k1),oC q0,oC q1]) (FJ tt 0 4 [] v):=by
 unfold K6 at hm
 refine .then (.rK ?_)
 replace hm:=Ae hm;obtain⟨h0,hm⟩:=hm
 replace hm:=Ae hm;obtain⟨h1,hm⟩:=hm
 replace hm:=Ae hm;obtain⟨h2,hm⟩:=hm
 refine .ghs (fr 32 [(0,(pt 0 0)),(7,(pt 4 0))]) (hp 5 [(oC [zI z0,sc 2 0 4 n0 c0,sc 3 0 1 n1 c1]),(.map e0 k1),oC q0,oC q1,(.iter (some 1) k1 ([]:List Nat) k1)]) (.k [1,2,3] [true,false,false,false] [.tmp 7 false] [0,7] ⟨BB h0,BB h1,BB h2,trivial⟩) ?_
 refine .block (.loopM (v:=v) (fun y:Int×Nat×Nat×Nat×Nat×List EO×Nat×LV×LV×Nat×List Nat×Nat=>((fr 32 [(0,(pt 0 0)),(7,(pt 4 0))]),(hp 5 [(oC [(zI y.1),(sc 2 0 4 y.2.1 y.2.2.1),(sc 3 0 1 y.2.2.2.1 y.2.2.2.2.1)]),(.map y.2.2.2.2.2.1 y.2.2.2.2.2.2.1),(oC y.2.2.2.2.2.2.2.1),(oC y.2.2.2.2.2.2.2.2.1),(.iter (some 1) y.2.2.2.2.2.2.2.2.2.1 y.2.2.2.2.2.2.2.2.2.2.1 y.2.2.2.2.2.2.2.2.2.2.2)]))) (fun w y=>OX pu n w y.1 y.2.1 y.2.2.1 y.2.2.2.1 y.2.2.2.2.1 y.2.2.2.2.2.1 y.2.2.2.2.2.2.1 y.2.2.2.2.2.2.2.1 y.2.2.2.2.2.2.2.2.1 y.2.2.2.2.2.2.2.2.2.1 y.2.2.2.2.2.2.2.2.2.2.1 y.2.2.2.2.2.2.2.2.2.2.2) n ⟨(z0,n0,c0,n1,c1,e0,k1,q0,q1,k1,([]:List Nat),k1),hm,(.k [1,2,3] [true,false,false,false] [.tmp 7 false] [0,7] ⟨BB h0,BB h1,BB h2,trivial⟩)⟩ (fun _=>rfl) ?_)
 rintro w0 ⟨z1,n2,c2,n3,c4,e1,k2,q2,q3,k3,l0,k4⟩ hm
 replace hm:OW pu n (OX pu n w0) z1 n2 c2 n3 c4 e1 k2 q2 q3 k3 l0 k4=some v:=hm
 unfold OW at hm
 refine .then ?_
 replace hm:=Ae hm;obtain⟨h3,hm⟩:=hm
 replace hm:=Ae hm;obtain⟨h4,hm⟩:=hm
 refine .nextK (id:=4) (mid:=1) (since:=k3) (st:=k4) (clock:=k2) (seen:=l0) (es:=e1) (d:=some 8) (x:=(tp 7)) (ty:=0) (os:=[EM 9 8 0 4]) (by kernel_rfl) (by kernel_rfl) (by kernel_rfl) (by kernel_rfl) h3 h4 (by kernel_rfl) (fun _=>by kernel_rfl) (fun h5=>?_) (fun e2 h6=>?_)
 ·replace hm:=sV hm h5
  replace hm:=Ae hm;obtain⟨h7,hm⟩:=hm
  replace hm:=Ae hm;obtain⟨h8,hm⟩:=hm
  replace hm:=Ae hm;obtain⟨h9,hm⟩:=hm
  refine .ghs (fr 32 [(0,(pt 0 0)),(7,(pt 4 0)),(9,zB false)]) (hp 5 [(oC [zI z1,sc 2 0 4 n2 c2,sc 3 0 1 n3 c4]),(.map e1 k2),oC q2,oC q3,(.iter (some 1) k3 l0 k4)]) (.k [1,2,3] [true,false,false,false] [.tmp 7 false] [0,7,9] ⟨BB h7,BB h8,BB h9,trivial⟩) ?_
  refine .then (.condF (by kernel_rfl) ?_)
  refine .exit ?_
  refine .ghs (fr 32 []) (hp 4 [(oC [zI z1,sc 2 0 4 n2 c2,sc 3 0 1 n3 c4]),(.map e1 k2),oC q2,oC q3]) (.k [1,2,3] [true,false,false,false] [] [] ⟨BB h7,BB h8,BB h9,trivial⟩) ?_
  exact LX (.tuple ⟨[]⟩) [(oC [zI z1,sc 2 0 4 n2 c2,sc 3 0 1 n3 c4]),(.map e1 k2),oC q2,oC q3] (by kernel_rfl) hm (Nat.le_of_ble_eq_true rfl) (Dr (PO _) (Dr (PP _ _) (Dr (PO _) (Dr (PO _) DL))))
 ·replace hm:=sW hm h6
  replace hm:=Ae hm;obtain⟨h10,hm⟩:=hm
  replace hm:=Ae hm;obtain⟨h11,hm⟩:=hm
  replace hm:=Ae hm;obtain⟨h12,hm⟩:=hm
  refine .ghs (fr 32 [(0,(pt 0 0)),(7,(pt 4 0)),(9,zB true)]) (hp 5 [(oC [zI z1,sc 2 0 4 n2 c2,sc 3 0 1 n3 c4]),(.map e1 k2),oC q2,oC q3,(.iter (some 1) k3 (Br l0 [(EO.born e2)]) k2)]) (.k [1,2,3] [true,false,false,false] [.tmp 7 false] [0,7,9] ⟨BB h10,BB h11,BB h12,trivial⟩) ?_
  refine .then (.condT (by kernel_rfl) ?_)
  refine .skip (.ghs (fr 32 [(0,(pt 0 0)),(7,(pt 4 0))]) (hp 5 [(oC [zI z1,sc 2 0 4 n2 c2,sc 3 0 1 n3 c4]),(.map e1 k2),oC q2,oC q3,(.iter (some 1) k3 (Br l0 [(EO.born e2)]) k2)]) (.k [1,2,3] [true,false,false,false] [.tmp 7 false] [0,7] ⟨BB h10,BB h11,BB h12,trivial⟩) ?_)
  refine .block (.then ?_)
  replace hm:=Ab hm;obtain⟨v0,h13,hm⟩:=hm
  replace hm:=Ch hm;obtain⟨l1,rfl,hm⟩:=hm
  replace hm:=Ad hm;obtain⟨v1,l1546964_0,rfl,hm⟩:=hm
  replace hm:=Ad hm;obtain⟨v2,l1546964_1,rfl,hm⟩:=hm
  replace hm:=AC hm;obtain⟨rfl,hm⟩:=hm
  replace hm:=Ai hm;obtain⟨x0,rfl,hm⟩:=hm
  replace hm:=Be hm;obtain⟨b0,rfl,hm⟩:=hm
  refine .reg (eD (keep (hp 5 [(oC [zI z1,sc 2 0 4 n2 c2,sc 3 0 1 n3 c4]),(.map e1 k2),oC q2,oC q3,(.iter (some 1) k3 (Br l0 [(EO.born e2)]) k2)]) (Acy e1 k2 (Br l0 [(EO.born e2)]) k2)) (AZ h13) (eE)) ?_
  refine .ghs (fr 32 [(0,(pt 0 0)),(4,zI x0),(5,zB b0),(7,(pt 4 0))]) (hp 5 [(oC [zI z1,sc 2 0 4 n2 c2,sc 3 0 1 n3 c4]),(.map e1 k2),oC q2,oC q3,(.iter (some 1) k3 (Br l0 [(EO.born e2)]) k2)]) (.k [1,2,3] [true,false,false,false] [.tmp 7 false] [0,4,5,7] ⟨BB h10,BB h11,BB h12,trivial⟩) ?_
  refine .then (.rK (.ghs (fr 32 [(0,(pt 0 0)),(4,zI x0),(7,(pt 4 0)),(13,zB b0)]) (hp 5 [(oC [zI z1,sc 2 0 4 n2 c2,sc 3 0 1 n3 c4]),(.map e1 k2),oC q2,oC q3,(.iter (some 1) k3 (Br l0 [(EO.born e2)]) k2)]) (.k [1,2,3] [true,false,false,false] [.tmp 7 false] [0,4,7,13] ⟨BB h10,BB h11,BB h12,trivial⟩) ?_))
  replace hm:=Ag hm;rcases hm with⟨h14,hm⟩ | ⟨h14,hm⟩
  ·refine .ifT b0 (by kernel_rfl) h14 ?_
   replace hm:=Ab hm;obtain⟨k5,h15,hm⟩:=hm
   obtain rfl:=AR h15
   replace hm:=Ae hm;obtain⟨h16,hm⟩:=hm
   replace hm:=Hw hm;obtain⟨x1,h17,hm⟩:=hm
   replace hm:=Ae hm;obtain⟨h18,hm⟩:=hm
   replace hm:=Ae hm;obtain⟨h19,hm⟩:=hm
   refine .reg (eC 5 (keep (hp 5 [(oC [zI z1,sc 2 0 4 n2 c2,sc 3 0 1 n3 c4]),(.map e1 k2),oC q2,oC q3,(.iter (some 1) k3 (Br l0 [(EO.born e2)]) k2)]) (bb (an (Nat.blt k5 n3) true) (some (.pointer (some ⟨3,(0+k5*1),none⟩))) none)) (AX h16) (eD (keep (hp 5 [(oC [zI z1,sc 2 0 4 n2 c2,sc 3 0 1 n3 c4]),(.map e1 k2),oC q2,oC q3,(.iter (some 1) k3 (Br l0 [(EO.born e2)]) k2)]) (AL q3 (0+k5*1))) (AZ h17) (eC 1 (keep (hp 5 [(oC [zI z1,sc 2 0 4 n2 c2,sc 3 0 1 n3 c4]),(.map e1 k2),oC q2,oC q3,(.iter (some 1) k3 (Br l0 [(EO.born e2)]) k2)]) (bb (an (Nat.blt k5 n3) true) (some (.pointer (some ⟨3,(0+k5*1),none⟩))) none)) (AX h18) (eD (done (bb (an (Nat.ble ((0+k5*1)+1) (len q3)) true) (some (hp 5 [(oC [zI z1,sc 2 0 4 n2 c2,sc 3 0 1 n3 c4]),(.map e1 k2),oC q2,(oC (BM ([(zI (Aj .i64 (Int.add x1 (1:Int))))]:LV) (0+k5*1) q3)),(.iter (some 1) k3 (Br l0 [(EO.born e2)]) k2)])) none) undef) (Js h19) (eE))))) ?_
   replace hm:=Ae hm;obtain⟨h20,hm⟩:=hm
   exact⟨(z1,n2,c2,n3,c4,e1,k2,q2,(BM ([(zI (Aj .i64 (Int.add x1 (1:Int))))]:LV) (0+k5*1) q3),k3,(Br l0 [(EO.born e2)]),k2),hm,(.k [1,2,3] [true,false,false,false] [.tmp 7 false] [0,7] ⟨BB h10,BB h11,BB h20,trivial⟩)⟩
  ·refine .ifF b0 (by kernel_rfl) h14 ?_
   replace hm:=Ab hm;obtain⟨k6,h21,hm⟩:=hm
   obtain rfl:=AR h21
   replace hm:=Ae hm;obtain⟨h22,hm⟩:=hm
   replace hm:=Hw hm;obtain⟨x2,h23,hm⟩:=hm
   replace hm:=Ae hm;obtain⟨h24,hm⟩:=hm
   replace hm:=Ae hm;obtain⟨h25,hm⟩:=hm
   refine .reg (eC 5 (keep (hp 5 [(oC [zI z1,sc 2 0 4 n2 c2,sc 3 0 1 n3 c4]),(.map e1 k2),oC q2,oC q3,(.iter (some 1) k3 (Br l0 [(EO.born e2)]) k2)]) (bb (an (Nat.blt k6 n3) true) (some (.pointer (some ⟨3,(0+k6*1),none⟩))) none)) (AX h22) (eD (keep (hp 5 [(oC [zI z1,sc 2 0 4 n2 c2,sc 3 0 1 n3 c4]),(.map e1 k2),oC q2,oC q3,(.iter (some 1) k3 (Br l0 [(EO.born e2)]) k2)]) (AL q3 (0+k6*1))) (AZ h23) (eC 1 (keep (hp 5 [(oC [zI z1,sc 2 0 4 n2 c2,sc 3 0 1 n3 c4]),(.map e1 k2),oC q2,oC q3,(.iter (some 1) k3 (Br l0 [(EO.born e2)]) k2)]) (bb (an (Nat.blt k6 n3) true) (some (.pointer (some ⟨3,(0+k6*1),none⟩))) none)) (AX h24) (eD (done (bb (an (Nat.ble ((0+k6*1)+1) (len q3)) true) (some (hp 5 [(oC [zI z1,sc 2 0 4 n2 c2,sc 3 0 1 n3 c4]),(.map e1 k2),oC q2,(oC (BM ([(zI (Aj .i64 (Int.sub x2 (1:Int))))]:LV) (0+k6*1) q3)),(.iter (some 1) k3 (Br l0 [(EO.born e2)]) k2)])) none) undef) (Js h25) (eE))))) ?_
   replace hm:=Ae hm;obtain⟨h26,hm⟩:=hm
   exact⟨(z1,n2,c2,n3,c4,e1,k2,q2,(BM ([(zI (Aj .i64 (Int.sub x2 (1:Int))))]:LV) (0+k6*1) q3),k3,(Br l0 [(EO.born e2)]),k2),hm,(.k [1,2,3] [true,false,false,false] [.tmp 7 false] [0,7] ⟨BB h10,BB h11,BB h26,trivial⟩)⟩
theorem uM {call:A8} (pu:Af) (n:Nat) (hcall:call=Bb tabs isP pu (inl pu)) {args:LV} {os:List AJ} {z:Value} (ha:args.length=2) (hk:os.length=4) (hpl:∀ o∈os,plainO o) (hm:OZ pu n (args++os.map Ef)=some z):args.length≤32∧BN tt call (tabs.length+4) I8 (Fr.made 32 args) (BK tabs os) (FJ tt tabs.length 4 [] z):=by
 subst hcall
 have hq:=Bq ha;clear ha;obtain⟨a0,args,rfl,ha⟩:=hq
 have hq:=Bq ha;clear ha;obtain⟨a1,args,rfl,ha⟩:=hq
 obtain rfl:=len_nil ha
 have hq:=Bq hk;clear hk;obtain⟨b0,os,rfl,hk⟩:=hq
 have hp0:plainO b0:=hpl b0 (by simp)
 have hq:=Bq hk;clear hk;obtain⟨b1,os,rfl,hk⟩:=hq
 have hp1:plainO b1:=hpl b1 (by simp)
 have hq:=Bq hk;clear hk;obtain⟨b2,os,rfl,hk⟩:=hq
 have hp2:plainO b2:=hpl b2 (by simp)
 have hq:=Bq hk;clear hk;obtain⟨b3,os,rfl,hk⟩:=hq
 have hp3:plainO b3:=hpl b3 (by simp)
 obtain rfl:=len_nil hk
 replace hm:OZ pu n [a0,a1,Ef b0,Ef b1,Ef b2,Ef b3]=some z:=hm
 unfold OZ at hm
 replace hm:(bb (XR a0 0 0) (bb (O5 a1 1) (oo (Bt (Ef b0)) none fun l0=>(ll l0 none fun v0 l0=>(ll l0 none fun v1 l0=>(ll l0 none fun v2 l0=>(ll l0 (oo (Bi .i64 v0) none fun x0=>(oo (Iz 2 0 4 v1) none fun y0=>(oo (Iz 3 0 1 v2) none fun y1=>(oo (Fj (Ef b1)) none fun y2=>(oo (Bt (Ef b2)) none fun q0=>(oo (Bt (Ef b3)) none fun q1=>(K6 pu n x0 (NC.n y0) (NC.c y0) (NC.n y1) (NC.c y1) (Akd.es y2) (Akd.clock y2) q0 q1))))))) fun _ _=>none))))) none) none)=some z:=hm
 replace hm:=Ae hm;obtain⟨h0,hm⟩:=hm
 obtain rfl:=XT h0
 replace hm:=Ae hm;obtain⟨h1,hm⟩:=hm
 obtain rfl:=KJ h1
 replace hm:=Ab hm;obtain⟨l0,h2,hm⟩:=hm
 obtain rfl:=G5 hp0 h2
 replace hm:=Ad hm;obtain⟨v0,l1547013_0,rfl,hm⟩:=hm
 replace hm:=Ad hm;obtain⟨v1,l1547013_1,rfl,hm⟩:=hm
 replace hm:=Ad hm;obtain⟨v2,l1547013_2,rfl,hm⟩:=hm
 replace hm:=AC hm;obtain⟨rfl,hm⟩:=hm
 replace hm:=Ai hm;obtain⟨x0,rfl,hm⟩:=hm
 replace hm:=Ab hm;obtain⟨y0,h3,hm⟩:=hm
 obtain rfl:=Gu h3
 replace hm:=Ab hm;obtain⟨y1,h4,hm⟩:=hm
 obtain rfl:=Gu h4
 replace hm:=Ab hm;obtain⟨y2,h5,hm⟩:=hm
 obtain rfl:=HY hp1 h5
 replace hm:=Ab hm;obtain⟨q0,h6,hm⟩:=hm
 obtain rfl:=G5 hp2 h6
 replace hm:=Ab hm;obtain⟨q1,h7,hm⟩:=hm
 obtain rfl:=G5 hp3 h7
 refine⟨by simp,?_⟩
 exact .same (F':=(fr 32 [(0,(pt 0 0)),(1,(.map (some 1)))])) (H':=(hp 4 [(oC [zI x0,(sc 2 0 4 (NC.n y0) (NC.c y0)),(sc 3 0 1 (NC.n y1) (NC.c y1))]),(.map (Akd.es y2) (Akd.clock y2)),oC q0,oC q1])) (by kernel_rfl) (by kernel_rfl) (uL pu n x0 (NC.n y0) (NC.c y0) (NC.n y1) (NC.c y1) (Akd.es y2) (Akd.clock y2) q0 q1 hm)
end
end Go.TpAM
set_option maxRecDepth 100000
namespace Go.TpAM
open Go.Sp Go.TpA
noncomputable section
def L:Nat:=1000
def IB (pu:Af):Af:=fun g args=>
 bb (Nat.beq g 3) (m3 pu L args) (bb (Nat.beq g 6) (m6 pu L args) (bb (Nat.beq g 7) (m7 pu L args) (bb (Nat.beq g 8) (m8 pu L args) (bb (Nat.beq g 19) (m19 pu L args) (bb (Nat.beq g 20) (m20 pu L args) (bb (Nat.beq g 21) (m21 pu L args) (bb (Nat.beq g 22) (m22 pu L args) (bb (Nat.beq g 24) (m24 pu L args) (bb (Nat.beq g 37) (m37 pu L args) (bb (Nat.beq g 42) (m42 pu L args) (bb (Nat.beq g 43) (m43 pu L args) (bb (Nat.beq g 45) (m45 pu L args) (bb (Nat.beq g 47) (m47 pu L args) (bb (Nat.beq g 49) (m49 pu L args) (bb (Nat.beq g 50) (m50 pu L args) (bb (Nat.beq g 62) (m62 pu L args) (bb (Nat.beq g 63) (m63 pu L args) (bb (Nat.beq g 65) (m65 pu L args) (bb (Nat.beq g 66) (m66 pu L args) (bb (Nat.beq g 67) (m67 pu L args) (bb (Nat.beq g 69) (m69 pu L args) (bb (Nat.beq g 70) (m70 pu L args) (bb (Nat.beq g 72) (m72 pu L args) (bb (Nat.beq g 73) (m73 pu L args) (bb (Nat.beq g 95) (m95 pu L args) (bb (Nat.beq g 96) (m96 pu L args) (bb (Nat.beq g 97) (m97 pu L args) (bb (Nat.beq g 10050) (MF pu L args) (bb (Nat.beq g 10230) (MR pu L args) (bb (Nat.beq g 10510) (MU pu L args) (bb (Nat.beq g 10740) (Ow pu L args) (bb (Nat.beq g 10440) (Oy pu L args) (bb (Nat.beq g 10680) (OB pu L args) (bb (Nat.beq g 10860) (OG pu L args) (bb (Nat.beq g 10460) (OO pu L args) (bb (Nat.beq g 10480) (OP pu L args) (bb (Nat.beq g 10710) (OU pu L args) (bb (Nat.beq g 11020) (OZ pu L args) (bb (Nat.beq g 64) (Sq args) (bb (Nat.beq g 85) (Sz args) (bb (Nat.beq g 9) (X3 args) (none))))))))))))))))))))))))))))))))))))))))))
def RX:Nat→Af:=fun n=>Nat.rec (motive:=fun _=>Af) (fun _ _=>none) (fun _ ih=>IB ih) n
end
end Go.TpAM
