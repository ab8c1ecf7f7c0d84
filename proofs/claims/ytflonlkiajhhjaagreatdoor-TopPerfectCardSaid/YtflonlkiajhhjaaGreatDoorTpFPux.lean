/- Made from wip. -/
import Derived.Test.YtflonlkiajhhjaaGreatDoorTpFMod0x
import Derived.Test.YtflonlkiajhhjaaGreatDoorTpFMod1
import Derived.Test.YtflonlkiajhhjaaGreatDoorTpFMod2
import Derived.Test.YtflonlkiajhhjaaGreatDoorTpFMod3
import Derived.Test.YtflonlkiajhhjaaGreatDoorTpFMod4

set_option maxRecDepth 100000
set_option maxHeartbeats 20000000
set_option linter.unusedVariables false
namespace Go.TpFM
open Go.Sp Go.TpF
noncomputable section

def vS (pu:Af) (n:Nat) (x0:Int):OV:=
 (some (.bool (nt (Bd x0 x0))))
def rX (pu:Af) (n:Nat) (args:LV):OV:=
 (ll args none fun a0 args=>(ll args (oo (Bi .i64 a0) none fun x0=>(vS pu n x0)) fun _ _=>none))
theorem AlL {call:A8} (pu:Af) (n:Nat) (hcall:call=Bb tabs isP pu (inl pu)) {args:LV} {v:Value} (hm:rX pu n args=some v) (_:∀ x∈args,closed2 x=true):args.length≤6∧BN tt call 2 R4 (Fr.made 6 args) (Ao tabs) (Fin tt 2 [.tmp 2] v):=by
 subst hcall
 unfold rX at hm
 replace hm:=Ad hm;obtain⟨a0,args_0,rfl,hm⟩:=hm
 replace hm:=AC hm;obtain⟨rfl,hm⟩:=hm
 replace hm:=Ai hm;obtain⟨x0,rfl,hm⟩:=hm
 unfold vS at hm
 refine⟨by simp,?_⟩
 refine .same (F':=(fr 6 [(0,zI x0)])) (H':=(hT 2 [(.cells Ay true false [])])) (by kernel_rfl) (by kernel_rfl) ?_
 refine .then (.rK (.ghs (fr 6 [(0,zI x0)]) (hT 2 [(.cells Ay true false [])]) (.k0 [false,false] [] [0]) ?_))
 refine .then (.rK (.ghs (fr 6 [(2,(zB (nt (Bd x0 x0))))]) (hT 2 [(.cells Ay true false [])]) (.k0 [false,false] [] [2]) ?_))
 refine .ret ?_
 exact Bq (zB (nt (Bd x0 x0))) hm

def Ng (pu:Af) (n n0 c0:Nat) (q0:LV):OV:=
 (bb (Au Ah q0) (oo (pu 82 [(.int .u64 (Aj .u64 (Int.ofNat n0)))]) none fun v0=>(oo (Bi .i64 v0) none fun x0=>(bb (Dp (Nat.ble 2 c0) (MQ q0)) (bb (Au Ah q0) (oo (pu 11030 [(.slice (some ⟨2,0,some 1⟩) n0 c0),(.int .i64 (0:Int)),(.int .i64 (Int.ofNat n0)),.int .i64 x0,(.agg ⟨q0⟩)]) none fun v1=>(oo (CQ v1) none fun l0=>(ll l0 none fun v2 l0=>(ll l0 none fun v3 l0=>(ll l0 (bb (Ua v2) (oo (Bt v3) none fun q1=>(bb (Au Ah q1) (bb (Au Ah q1) (some (.tuple ⟨[(.tuple ⟨[]⟩),(.agg ⟨q1⟩)]⟩)) none) none)) none) fun _ _=>none))))) none) none))) none)
def OT (pu:Af) (n:Nat) (args:LV):OV:=
 (ll args none fun a0 args=>(ll args none fun o0 args=>(ll args (oo (LZ 2 0 1 a0) none fun y0=>(oo (Bt o0) none fun q0=>(Ng pu n (NC.n y0) (NC.c y0) q0))) fun _ _=>none)))
theorem Ab9 (pu:Af) (n n0 c0:Nat) (q0:LV) {v:Value} (hm:Ng pu n n0 c0 q0=some v):BN tt (Bb tabs isP pu (inl pu)) 3 Uf (fr 11 [(0,sc 2 0 1 n0 c0)]) (hT 3 [(.cells Ay true false []),oC q0]) (FJ tt 2 1 [] v):=by
 unfold Ng at hm
 refine .then (.rK ?_)
 replace hm:=Ae hm;obtain⟨h0,hm⟩:=hm
 refine .ghs (fr 11 [(0,sc 2 0 1 n0 c0),(2,(zI (Int.ofNat n0)))]) (hT 3 [(.cells Ay true false []),oC q0]) (.k [2] [false,false,false] [] [0,2] ⟨BB h0,trivial⟩) ?_
 replace hm:=K6 hm;obtain⟨x0,h1,hm⟩:=hm
 replace hm:=Ae hm;obtain⟨h2,hm⟩:=hm
 replace hm:=Ae hm;obtain⟨h3,hm⟩:=hm
 replace hm:=Ab hm;obtain⟨v0,h4,hm⟩:=hm
 replace hm:=Ch hm;obtain⟨l0,rfl,hm⟩:=hm
 replace hm:=Ad hm;obtain⟨v1,l1731_0,rfl,hm⟩:=hm
 replace hm:=Ad hm;obtain⟨v2,l1731_1,rfl,hm⟩:=hm
 replace hm:=AC hm;obtain⟨rfl,hm⟩:=hm
 replace hm:=Ae hm;obtain⟨h5,hm⟩:=hm
 obtain rfl:=OB h5
 replace hm:=BG hm;obtain⟨q1,rfl,hm⟩:=hm
 replace hm:=Ae hm;obtain⟨h6,hm⟩:=hm
 refine .reg (eC 4 ((oo (pu 82 [(zU (Aj .u64 (Int.ofNat n0)))]) none fun v=>some (v,(hT 3 [(.cells Ay true false []),oC q0])))) (AB h1) (eD (Gu tabs [[none],[none],[none],[none]] 4 [.tmp 0 false] [false] (pu 11030) [sc 2 0 1 n0 c0,(zI (0:Int)),(zI (Int.ofNat n0)),zI x0] (hT 3 [(.cells Ay true false []),oC q0])) (G9 (as:=[sc 2 0 1 n0 c0,(zI (0:Int)),(zI (Int.ofNat n0)),zI x0]) (H1:=(hT 3 [(.cells Ay true false []),oC q0])) (Fh (Gw L6) (Fh (Gw L6) (Fh (Gw L6) (Fh (Gw L6) Iz)))) (G5 (H2:=(hT 3 [(.cells Ay true false []),oC q1])) (v:=(.tuple ⟨[]⟩)) (v':=(.tuple ⟨[]⟩)) [some 0,some 1,some 2] [(false,some 2)] [oC q0] [sc 2 0 1 n0 c0,(zI (0:Int)),(zI (Int.ofNat n0)),zI x0] [(.agg ⟨q1⟩)] [oC q1] [some 0,some 1,some 2] [(false,oC q1)] [oC q1] (sF (by kernel_rfl) (Xd h2 rfl)) (Gn (QB (anc:=[]) h3) Cs) (Eq.trans (by kernel_rfl) h4) (Gn rfl Cs) (Gn (QC h6) Cs))) (eE))) ?_
 replace hm:=Ae hm;obtain⟨h7,hm⟩:=hm
 refine .ghs (fr 11 []) (hT 3 [(.cells Ay true false []),oC q1]) (.k [2] [false,false,false] [] [] ⟨BB h7,trivial⟩) ?_
 exact OA (.tuple ⟨[]⟩) [oC q1] (by kernel_rfl) hm (Nat.le_of_ble_eq_true rfl) (FL (Wz _) Gq)
theorem Aca {call:A8} (pu:Af) (n:Nat) (hcall:call=Bb tabs isP pu (inl pu)) {args:LV} {os:List AJ} {z:Value} (ha:args.length=1) (hk:os.length=1) (hpl:∀ o∈os,plainO o) (hm:OT pu n (args++os.map Ef)=some z):args.length≤11∧BN tt call (tabs.length+1) Uf (Fr.made 11 args) (BK tabs os) (FJ tt tabs.length 1 [] z):=by
 subst hcall
 have hq:=BO ha;clear ha;obtain⟨a0,args,rfl,ha⟩:=hq
 obtain rfl:=len_nil ha
 have hq:=BO hk;clear hk;obtain⟨b0,os,rfl,hk⟩:=hq
 have hp0:plainO b0:=hpl b0 (by simp)
 obtain rfl:=len_nil hk
 replace hm:OT pu n [a0,Ef b0]=some z:=hm
 unfold OT at hm
 replace hm:(oo (LZ 2 0 1 a0) none fun y0=>(oo (Bt (Ef b0)) none fun q0=>(Ng pu n (NC.n y0) (NC.c y0) q0)))=some z:=hm
 replace hm:=Ab hm;obtain⟨y0,h0,hm⟩:=hm
 obtain rfl:=Iq h0
 replace hm:=Ab hm;obtain⟨q0,h1,hm⟩:=hm
 obtain rfl:=HY hp0 h1
 refine⟨by simp,?_⟩
 exact .same (F':=(fr 11 [(0,(sc 2 0 1 (NC.n y0) (NC.c y0)))])) (H':=(hT 3 [(.cells Ay true false []),oC q0])) (by kernel_rfl) (by kernel_rfl) (Ab9 pu n (NC.n y0) (NC.c y0) q0 hm)
def OU (pu:Af) (n:Nat) (ih0:Nat→Nat→Int→Int→Int→Bool→Bool→LV→OV) (n0 c0:Nat) (z0 z1 z2:Int) (b0 b1:Bool) (z3:Int) (q0:LV):OV:=
 none
def OW (pu:Af) (n:Nat) (ih0:Nat→Nat→Int→Int→Int→Bool→Bool→LV→OV) (n0 c0:Nat) (z0 z1 z2:Int) (b0 b1:Bool) (q0:LV):OV:=
 (bb (Au Ah q0) (bb (nt (AY (12:Int) (Aj .i64 (Int.sub z1 z0)))) (bb (Dp (Nat.ble 2 c0) (MQ q0)) (bb (Au Ah q0) (oo (pu 11490 [(.slice (some ⟨2,0,some 1⟩) n0 c0),.int .i64 z0,.int .i64 z1,(.agg ⟨q0⟩)]) none fun v0=>(oo (CQ v0) none fun l0=>(ll l0 none fun v1 l0=>(ll l0 none fun v2 l0=>(ll l0 (bb (Ua v1) (oo (Bt v2) none fun q1=>(bb (Au Ah q1) (bb (Au Ah q1) (some (.tuple ⟨[(.tuple ⟨[]⟩),(.agg ⟨q1⟩)]⟩)) none) none)) none) fun _ _=>none))))) none) none) (bb (Bd z2 (0:Int)) none (bb (nt b0) none (OU pu n ih0 n0 c0 z0 z1 z2 b0 b1 (Aj .i64 (Int.sub z1 z0)) q0)))) none)
def KU (pu:Af) (n w:Nat):Nat→Nat→Int→Int→Int→Bool→Bool→LV→OV:=
 Nat.rec (motive:=fun _=>Nat→Nat→Int→Int→Int→Bool→Bool→LV→OV) (fun _ _ _ _ _ _ _ _=>none) (fun _ ih0=>OW pu n ih0) w
def Nh (pu:Af) (n n0 c0:Nat) (z0 z1 z2:Int) (q0:LV):OV:=
 (bb (Au Ah q0) (KU pu n n n0 c0 z0 z1 z2 true true q0) none)
def OX (pu:Af) (n:Nat) (args:LV):OV:=
 (ll args none fun a0 args=>(ll args none fun a1 args=>(ll args none fun a2 args=>(ll args none fun a3 args=>(ll args none fun o0 args=>(ll args (oo (LZ 2 0 1 a0) none fun y0=>(oo (Bi .i64 a1) none fun x0=>(oo (Bi .i64 a2) none fun x1=>(oo (Bi .i64 a3) none fun x2=>(oo (Bt o0) none fun q0=>(Nh pu n (NC.n y0) (NC.c y0) x0 x1 x2 q0)))))) fun _ _=>none))))))
theorem Acb (pu:Af) (n n0 c0:Nat) (z0 z1 z2:Int) (q0:LV) {v:Value} (hm:Nh pu n n0 c0 z0 z1 z2 q0=some v):BN tt (Bb tabs isP pu (inl pu)) 3 Ki (fr 134 [(0,sc 2 0 1 n0 c0),(1,zI z0),(2,zI z1),(3,zI z2)]) (hT 3 [(.cells Ay true false []),oC q0]) (FJ tt 2 1 [] v):=by
 unfold Nh at hm
 refine .then (.rK ?_)
 replace hm:=Ae hm;obtain⟨h0,hm⟩:=hm
 refine .ghs (fr 134 [(0,sc 2 0 1 n0 c0),(1,zI z0),(2,zI z1),(3,zI z2),(8,zB true)]) (hT 3 [(.cells Ay true false []),oC q0]) (.k [2] [false,false,false] [] [0,1,2,3,8] ⟨BB h0,trivial⟩) ?_
 refine .then (.rK (.ghs (fr 134 [(0,sc 2 0 1 n0 c0),(1,zI z0),(2,zI z1),(3,zI z2),(8,zB true),(9,zB true)]) (hT 3 [(.cells Ay true false []),oC q0]) (.k [2] [false,false,false] [] [0,1,2,3,8,9] ⟨BB h0,trivial⟩) ?_))
 refine .block (.loopM (v:=v) (fun y:Nat×Nat×Int×Int×Int×Bool×Bool×LV=>((fr 134 [(0,(sc 2 0 1 y.1 y.2.1)),(1,(zI y.2.2.1)),(2,(zI y.2.2.2.1)),(3,(zI y.2.2.2.2.1)),(8,(zB y.2.2.2.2.2.1)),(9,(zB y.2.2.2.2.2.2.1))]),(hT 3 [(.cells Ay true false []),(oC y.2.2.2.2.2.2.2)]))) (fun w y=>KU pu n w y.1 y.2.1 y.2.2.1 y.2.2.2.1 y.2.2.2.2.1 y.2.2.2.2.2.1 y.2.2.2.2.2.2.1 y.2.2.2.2.2.2.2) n ⟨(n0,c0,z0,z1,z2,true,true,q0),hm,(.k [2] [false,false,false] [] [0,1,2,3,8,9] ⟨BB h0,trivial⟩)⟩ (fun _=>rfl) ?_)
 rintro w0 ⟨n1,c1,z3,z4,z5,b0,b1,q1⟩ hm
 replace hm:OW pu n (KU pu n w0) n1 c1 z3 z4 z5 b0 b1 q1=some v:=hm
 unfold OW at hm
 refine .block (.then (.rK ?_))
 replace hm:=Ae hm;obtain⟨h1,hm⟩:=hm
 refine .ghs (fr 134 [(0,sc 2 0 1 n1 c1),(1,zI z3),(2,zI z4),(3,zI z5),(8,zB b0),(9,zB b1),(10,(zI (Aj .i64 (Int.sub z4 z3))))]) (hT 3 [(.cells Ay true false []),oC q1]) (.k [2] [false,false,false] [] [0,1,2,3,8,9,10] ⟨BB h1,trivial⟩) ?_
 refine .then (.then (.rK (.ghs (fr 134 [(0,sc 2 0 1 n1 c1),(1,zI z3),(2,zI z4),(3,zI z5),(8,zB b0),(9,zB b1),(10,(zI (Aj .i64 (Int.sub z4 z3)))),(23,(zB (nt (AY (12:Int) (Aj .i64 (Int.sub z4 z3))))))]) (hT 3 [(.cells Ay true false []),oC q1]) (.k [2] [false,false,false] [] [0,1,2,3,8,9,10,23] ⟨BB h1,trivial⟩) ?_)))
 replace hm:=Ag hm;rcases hm with⟨h2,hm⟩ | ⟨h2,hm⟩
 ·refine C8 (nt (AY (12:Int) (Aj .i64 (Int.sub z4 z3)))) h2 ?_
  refine .then ?_
  replace hm:=Ae hm;obtain⟨h3,hm⟩:=hm
  replace hm:=Ae hm;obtain⟨h4,hm⟩:=hm
  replace hm:=Ab hm;obtain⟨v0,h5,hm⟩:=hm
  replace hm:=Ch hm;obtain⟨l0,rfl,hm⟩:=hm
  replace hm:=Ad hm;obtain⟨v1,l1672_0,rfl,hm⟩:=hm
  replace hm:=Ad hm;obtain⟨v2,l1672_1,rfl,hm⟩:=hm
  replace hm:=AC hm;obtain⟨rfl,hm⟩:=hm
  replace hm:=Ae hm;obtain⟨h6,hm⟩:=hm
  obtain rfl:=OB h6
  replace hm:=BG hm;obtain⟨q2,rfl,hm⟩:=hm
  replace hm:=Ae hm;obtain⟨h7,hm⟩:=hm
  refine .reg (eC 3 (Gu tabs [[none],[none],[none]] 3 [.tmp 0 false] [false] (pu 11490) [sc 2 0 1 n1 c1,zI z3,zI z4] (hT 3 [(.cells Ay true false []),oC q1])) (G9 (as:=[sc 2 0 1 n1 c1,zI z3,zI z4]) (H1:=(hT 3 [(.cells Ay true false []),oC q1])) (Fh (Gw L6) (Fh (Gw L6) (Fh (Gw L6) Iz))) (G5 (H2:=(hT 3 [(.cells Ay true false []),oC q2])) (v:=(.tuple ⟨[]⟩)) (v':=(.tuple ⟨[]⟩)) [some 0,some 1,some 2] [(false,some 2)] [oC q1] [sc 2 0 1 n1 c1,zI z3,zI z4] [(.agg ⟨q2⟩)] [oC q2] [some 0,some 1,some 2] [(false,oC q2)] [oC q2] (sF (by kernel_rfl) (Xd h3 rfl)) (Gn (QB (anc:=[]) h4) Cs) (Eq.trans (by kernel_rfl) h5) (Gn rfl Cs) (Gn (QC h7) Cs))) (eE)) ?_
  replace hm:=Ae hm;obtain⟨h8,hm⟩:=hm
  refine .ghs (fr 134 []) (hT 3 [(.cells Ay true false []),oC q2]) (.k [2] [false,false,false] [] [] ⟨BB h8,trivial⟩) ?_
  refine .ghs (fr 134 []) (hT 3 [(.cells Ay true false []),oC q2]) (.k [2] [false,false,false] [] [] ⟨BB h8,trivial⟩) ?_
  refine .ret ?_
  exact Jc (.tuple ⟨[]⟩) [oC q2] (by kernel_rfl) hm (Nat.le_of_ble_eq_true rfl) (FL (Wz _) Gq)
 ·refine Dn (nt (AY (12:Int) (Aj .i64 (Int.sub z4 z3)))) h2 ?_
  refine .skip (.ghs (fr 134 [(0,sc 2 0 1 n1 c1),(1,zI z3),(2,zI z4),(3,zI z5),(8,zB b0),(9,zB b1),(10,(zI (Aj .i64 (Int.sub z4 z3))))]) (hT 3 [(.cells Ay true false []),oC q1]) (.k [2] [false,false,false] [] [0,1,2,3,8,9,10] ⟨BB h1,trivial⟩) ?_)
  refine .then (.then (.rK (.ghs (fr 134 [(0,sc 2 0 1 n1 c1),(1,zI z3),(2,zI z4),(3,zI z5),(8,zB b0),(9,zB b1),(10,(zI (Aj .i64 (Int.sub z4 z3)))),(29,(zB (Bd z5 (0:Int))))]) (hT 3 [(.cells Ay true false []),oC q1]) (.k [2] [false,false,false] [] [0,1,2,3,8,9,10,29] ⟨BB h1,trivial⟩) ?_)))
  replace hm:=Ag hm;rcases hm with⟨h9,hm⟩ | ⟨h9,hm⟩
  ·refine C8 (Bd z5 (0:Int)) h9 ?_
   refine .then ?_
   cases hm
  ·refine Dn (Bd z5 (0:Int)) h9 ?_
   refine .skip (.ghs (fr 134 [(0,sc 2 0 1 n1 c1),(1,zI z3),(2,zI z4),(3,zI z5),(8,zB b0),(9,zB b1),(10,(zI (Aj .i64 (Int.sub z4 z3))))]) (hT 3 [(.cells Ay true false []),oC q1]) (.k [2] [false,false,false] [] [0,1,2,3,8,9,10] ⟨BB h1,trivial⟩) ?_)
   refine .join (v:=v) (fun y:Nat×Nat×Int×Int×Int×Bool×Bool×Int×LV=>((fr 134 [(0,(sc 2 0 1 y.1 y.2.1)),(1,(zI y.2.2.1)),(2,(zI y.2.2.2.1)),(3,(zI y.2.2.2.2.1)),(8,(zB y.2.2.2.2.2.1)),(9,(zB y.2.2.2.2.2.2.1)),(10,(zI y.2.2.2.2.2.2.2.1))]),(hT 3 [(.cells Ay true false []),(oC y.2.2.2.2.2.2.2.2)]))) (fun y=>OU pu n (KU pu n w0) y.1 y.2.1 y.2.2.1 y.2.2.2.1 y.2.2.2.2.1 y.2.2.2.2.2.1 y.2.2.2.2.2.2.1 y.2.2.2.2.2.2.2.1 y.2.2.2.2.2.2.2.2) ?_ ?_
   ·rintro⟨n2,c2,z6,z7,z8,b2,b3,z9,q3⟩ hm
    unfold OU at hm
    refine .then ?_
    cases hm
   ·refine .then (.rK (.ghs (fr 134 [(0,sc 2 0 1 n1 c1),(1,zI z3),(2,zI z4),(3,zI z5),(8,zB b0),(9,zB b1),(10,(zI (Aj .i64 (Int.sub z4 z3)))),(35,(zB (nt b0)))]) (hT 3 [(.cells Ay true false []),oC q1]) (.k [2] [false,false,false] [] [0,1,2,3,8,9,10,35] ⟨BB h1,trivial⟩) ?_))
    replace hm:=Ag hm;rcases hm with⟨h10,hm⟩ | ⟨h10,hm⟩
    ·refine C8 (nt b0) h10 ?_
     refine .then ?_
     cases hm
    ·refine Dn (nt b0) h10 ?_
     refine .skip ?_
     exact⟨(n1,c1,z3,z4,z5,b0,b1,(Aj .i64 (Int.sub z4 z3)),q1),hm,(.k [2] [false,false,false] [] [0,1,2,3,8,9,10] ⟨BB h1,trivial⟩)⟩
theorem Acc {call:A8} (pu:Af) (n:Nat) (hcall:call=Bb tabs isP pu (inl pu)) {args:LV} {os:List AJ} {z:Value} (ha:args.length=4) (hk:os.length=1) (hpl:∀ o∈os,plainO o) (hm:OX pu n (args++os.map Ef)=some z):args.length≤134∧BN tt call (tabs.length+1) Ki (Fr.made 134 args) (BK tabs os) (FJ tt tabs.length 1 [] z):=by
 subst hcall
 have hq:=BO ha;clear ha;obtain⟨a0,args,rfl,ha⟩:=hq
 have hq:=BO ha;clear ha;obtain⟨a1,args,rfl,ha⟩:=hq
 have hq:=BO ha;clear ha;obtain⟨a2,args,rfl,ha⟩:=hq
 have hq:=BO ha;clear ha;obtain⟨a3,args,rfl,ha⟩:=hq
 obtain rfl:=len_nil ha
 have hq:=BO hk;clear hk;obtain⟨b0,os,rfl,hk⟩:=hq
 have hp0:plainO b0:=hpl b0 (by simp)
 obtain rfl:=len_nil hk
 replace hm:OX pu n [a0,a1,a2,a3,Ef b0]=some z:=hm
 unfold OX at hm
 replace hm:(oo (LZ 2 0 1 a0) none fun y0=>(oo (Bi .i64 a1) none fun x0=>(oo (Bi .i64 a2) none fun x1=>(oo (Bi .i64 a3) none fun x2=>(oo (Bt (Ef b0)) none fun q0=>(Nh pu n (NC.n y0) (NC.c y0) x0 x1 x2 q0))))))=some z:=hm
 replace hm:=Ab hm;obtain⟨y0,h0,hm⟩:=hm
 obtain rfl:=Iq h0
 replace hm:=Ai hm;obtain⟨x0,rfl,hm⟩:=hm
 replace hm:=Ai hm;obtain⟨x1,rfl,hm⟩:=hm
 replace hm:=Ai hm;obtain⟨x2,rfl,hm⟩:=hm
 replace hm:=Ab hm;obtain⟨q0,h1,hm⟩:=hm
 obtain rfl:=HY hp0 h1
 refine⟨by simp,?_⟩
 exact .same (F':=(fr 134 [(0,(sc 2 0 1 (NC.n y0) (NC.c y0))),(1,zI x0),(2,zI x1),(3,zI x2)])) (H':=(hT 3 [(.cells Ay true false []),oC q0])) (by kernel_rfl) (by kernel_rfl) (Acb pu n (NC.n y0) (NC.c y0) x0 x1 x2 q0 hm)
def OZ (pu:Af) (n:Nat) (ih0:Nat→Nat→Int→Int→Int→LV→OV) (n0 c0:Nat) (z0 z1 z2:Int) (q0:LV):OV:=
 (bb (Au Ah q0) (ih0 n0 c0 z0 z1 (Aj .i64 (Int.add z2 (1:Int))) q0) none)
def KW (pu:Af) (n:Nat) (ih0:Nat→Nat→Int→Int→Int→LV→OV) (ih1:Nat→Nat→Int→Int→Int→Int→LV→OV) (n0 c0:Nat) (z0 z1 z2 z3:Int) (b0:Bool) (q0:LV):OV:=
 (bb b0 (bb (Au Ah q0) (oo (EA (Aj .i64 (Int.sub z3 (1:Int)))) none fun k1=>(oo (EA (Aj .i64 (Int.sub z3 (1:Int)))) none fun k2=>(bb (an (Nat.blt k2 n0) true) (oo (AL q0 (0+k2*1)) none fun v0=>(oo (Bi .i64 v0) none fun x0=>(oo (EA z3) none fun k3=>(bb (an (Nat.blt k3 n0) true) (oo (AL q0 (0+k3*1)) none fun v1=>(oo (Bi .i64 v1) none fun x1=>(bb (an (Nat.blt k3 n0) true) (bb (an (Nat.ble ((0+k3*1)+1) (len q0)) true) (bb (an (Nat.blt k1 n0) true) (bb (an (Nat.ble ((0+k1*1)+1) (len (BM ([.int .i64 x0]:LV) (0+k3*1) q0))) true) (bb (Au Ah (BM ([.int .i64 x1]:LV) (0+k1*1) (BM ([.int .i64 x0]:LV) (0+k3*1) q0))) (ih1 n0 c0 z0 z1 z2 (Aj .i64 (Int.sub (Int.ofNat k3) (1:Int))) (BM ([.int .i64 x1]:LV) (0+k1*1) (BM ([.int .i64 x0]:LV) (0+k3*1) q0))) none) none) none) none) none))) none)))) none))) none) (bb (Au Ah q0) (OZ pu n ih0 n0 c0 z0 z1 z2 q0) none))
def O0 (pu:Af) (n:Nat) (ih0:Nat→Nat→Int→Int→Int→LV→OV) (ih1:Nat→Nat→Int→Int→Int→Int→LV→OV) (n0 c0:Nat) (z0 z1 z2 z3:Int) (q0:LV):OV:=
 (bb (AY z0 z3) (oo (EA z3) none fun k1=>(bb (an (Nat.blt k1 n0) true) (oo (AL q0 (0+k1*1)) none fun v0=>(oo (Bi .i64 v0) none fun x0=>(oo (EA (Aj .i64 (Int.sub (Int.ofNat k1) (1:Int)))) none fun k2=>(bb (an (Nat.blt k2 n0) true) (oo (AL q0 (0+k2*1)) none fun v1=>(oo (Bi .i64 v1) none fun x1=>(oo (pu 125 [.int .i64 x0,.int .i64 x1]) none fun v2=>(oo (Bf v2) none fun b0=>(bb (Au Ah q0) (KW pu n ih0 ih1 n0 c0 z0 z1 z2 (Int.ofNat k1) b0 q0) none))))) none)))) none)) (bb (Au Ah q0) (KW pu n ih0 ih1 n0 c0 z0 z1 z2 z3 false q0) none))
def KX (pu:Af) (n:Nat) (ih0:Nat→Nat→Int→Int→Int→LV→OV) (w:Nat):Nat→Nat→Int→Int→Int→Int→LV→OV:=
 Nat.rec (motive:=fun _=>Nat→Nat→Int→Int→Int→Int→LV→OV) (fun _ _ _ _ _ _ _=>none) (fun _ ih1=>O0 pu n ih0 ih1) w
def O1 (pu:Af) (n:Nat) (ih0:Nat→Nat→Int→Int→Int→LV→OV) (n0 c0:Nat) (z0 z1 z2:Int) (q0:LV):OV:=
 (bb (Au Ah q0) (bb (AY z2 z1) (KX pu n ih0 n n0 c0 z0 z1 z2 z2 q0) (some (.tuple ⟨[(.tuple ⟨[]⟩),(.agg ⟨q0⟩)]⟩))) none)
def FX (pu:Af) (n w:Nat):Nat→Nat→Int→Int→Int→LV→OV:=
 Nat.rec (motive:=fun _=>Nat→Nat→Int→Int→Int→LV→OV) (fun _ _ _ _ _ _=>none) (fun _ ih0=>O1 pu n ih0) w
def Ni (pu:Af) (n n0 c0:Nat) (z0 z1:Int) (q0:LV):OV:=
 (bb (Au Ah q0) (FX pu n n n0 c0 z0 z1 (Aj .i64 (Int.add z0 (1:Int))) q0) none)
def O3 (pu:Af) (n:Nat) (args:LV):OV:=
 (ll args none fun a0 args=>(ll args none fun a1 args=>(ll args none fun a2 args=>(ll args none fun o0 args=>(ll args (oo (LZ 2 0 1 a0) none fun y0=>(oo (Bi .i64 a1) none fun x0=>(oo (Bi .i64 a2) none fun x1=>(oo (Bt o0) none fun q0=>(Ni pu n (NC.n y0) (NC.c y0) x0 x1 q0))))) fun _ _=>none)))))
theorem Acd (pu:Af) (n n0 c0:Nat) (z0 z1:Int) (q0:LV) {v:Value} (hm:Ni pu n n0 c0 z0 z1 q0=some v):BN tt (Bb tabs isP pu (inl pu)) 3 KJ (fr 49 [(0,sc 2 0 1 n0 c0),(1,zI z0),(2,zI z1)]) (hT 3 [(.cells Ay true false []),oC q0]) (FJ tt 2 1 [] v):=by
 unfold Ni at hm
 refine .then (.rK ?_)
 replace hm:=Ae hm;obtain⟨h0,hm⟩:=hm
 refine .ghs (fr 49 [(0,sc 2 0 1 n0 c0),(1,zI z0),(2,zI z1),(6,(zI (Aj .i64 (Int.add z0 (1:Int)))))]) (hT 3 [(.cells Ay true false []),oC q0]) (.k [2] [false,false,false] [] [0,1,2,6] ⟨BB h0,trivial⟩) ?_
 refine .block (.loopM (v:=v) (fun y:Nat×Nat×Int×Int×Int×LV=>((fr 49 [(0,(sc 2 0 1 y.1 y.2.1)),(1,(zI y.2.2.1)),(2,(zI y.2.2.2.1)),(6,(zI y.2.2.2.2.1))]),(hT 3 [(.cells Ay true false []),(oC y.2.2.2.2.2)]))) (fun w y=>FX pu n w y.1 y.2.1 y.2.2.1 y.2.2.2.1 y.2.2.2.2.1 y.2.2.2.2.2) n ⟨(n0,c0,z0,z1,(Aj .i64 (Int.add z0 (1:Int))),q0),hm,(.k [2] [false,false,false] [] [0,1,2,6] ⟨BB h0,trivial⟩)⟩ (fun _=>rfl) ?_)
 rintro w0 ⟨n1,c1,z2,z3,z4,q1⟩ hm
 replace hm:O1 pu n (FX pu n w0) n1 c1 z2 z3 z4 q1=some v:=hm
 unfold O1 at hm
 refine .then (.then (.rK ?_))
 replace hm:=Ae hm;obtain⟨h1,hm⟩:=hm
 refine .ghs (fr 49 [(0,sc 2 0 1 n1 c1),(1,zI z2),(2,zI z3),(6,zI z4),(12,(zB (AY z4 z3)))]) (hT 3 [(.cells Ay true false []),oC q1]) (.k [2] [false,false,false] [] [0,1,2,6,12] ⟨BB h1,trivial⟩) ?_
 replace hm:=Ag hm;rcases hm with⟨h2,hm⟩ | ⟨h2,hm⟩
 ·refine C8 (AY z4 z3) h2 ?_
  refine .skip (.ghs (fr 49 [(0,sc 2 0 1 n1 c1),(1,zI z2),(2,zI z3),(6,zI z4)]) (hT 3 [(.cells Ay true false []),oC q1]) (.k [2] [false,false,false] [] [0,1,2,6] ⟨BB h1,trivial⟩) ?_)
  refine .join (v:=v) (fun y:Nat×Nat×Int×Int×Int×LV=>((fr 49 [(0,(sc 2 0 1 y.1 y.2.1)),(1,(zI y.2.2.1)),(2,(zI y.2.2.2.1)),(6,(zI y.2.2.2.2.1))]),(hT 3 [(.cells Ay true false []),(oC y.2.2.2.2.2)]))) (fun y=>OZ pu n (FX pu n w0) y.1 y.2.1 y.2.2.1 y.2.2.2.1 y.2.2.2.2.1 y.2.2.2.2.2) ?_ ?_
  ·rintro⟨n2,c2,z5,z6,z7,q2⟩ hm
   unfold OZ at hm
   refine .rK ?_
   replace hm:=Ae hm;obtain⟨h3,hm⟩:=hm
   exact⟨(n2,c2,z5,z6,(Aj .i64 (Int.add z7 (1:Int))),q2),hm,(.k [2] [false,false,false] [] [0,1,2,6] ⟨BB h3,trivial⟩)⟩
  ·refine .block (.then (.rK (.ghs (fr 49 [(0,sc 2 0 1 n1 c1),(1,zI z2),(2,zI z3),(6,zI z4),(7,zI z4)]) (hT 3 [(.cells Ay true false []),oC q1]) (.k [2] [false,false,false] [] [0,1,2,6,7] ⟨BB h1,trivial⟩) ?_)))
   refine .block (.loopM (v:=v) (fun y:Nat×Nat×Int×Int×Int×Int×LV=>((fr 49 [(0,(sc 2 0 1 y.1 y.2.1)),(1,(zI y.2.2.1)),(2,(zI y.2.2.2.1)),(6,(zI y.2.2.2.2.1)),(7,(zI y.2.2.2.2.2.1))]),(hT 3 [(.cells Ay true false []),(oC y.2.2.2.2.2.2)]))) (fun w y=>KX pu n (FX pu n w0) w y.1 y.2.1 y.2.2.1 y.2.2.2.1 y.2.2.2.2.1 y.2.2.2.2.2.1 y.2.2.2.2.2.2) n ⟨(n1,c1,z2,z3,z4,z4,q1),hm,(.k [2] [false,false,false] [] [0,1,2,6,7] ⟨BB h1,trivial⟩)⟩ (fun _=>rfl) ?_)
   rintro w1 ⟨n3,c3,z8,z9,z10,z11,q3⟩ hm
   replace hm:O0 pu n (FX pu n w0) (KX pu n (FX pu n w0) w1) n3 c3 z8 z9 z10 z11 q3=some v:=hm
   unfold O0 at hm
   refine .then (.join (v:=v) (fun y:Nat×Nat×Int×Int×Int×Int×Bool×LV=>((fr 49 [(0,(sc 2 0 1 y.1 y.2.1)),(1,(zI y.2.2.1)),(2,(zI y.2.2.2.1)),(6,(zI y.2.2.2.2.1)),(7,(zI y.2.2.2.2.2.1)),(30,(zB y.2.2.2.2.2.2.1))]),(hT 3 [(.cells Ay true false []),(oC y.2.2.2.2.2.2.2)]))) (fun y=>KW pu n (FX pu n w0) (KX pu n (FX pu n w0) w1) y.1 y.2.1 y.2.2.1 y.2.2.2.1 y.2.2.2.2.1 y.2.2.2.2.2.1 y.2.2.2.2.2.2.1 y.2.2.2.2.2.2.2) ?_ ?_)
   ·rintro⟨n4,c4,z12,z13,z14,z15,b0,q4⟩ hm
    unfold KW at hm
    replace hm:=Ag hm;rcases hm with⟨h4,hm⟩ | ⟨h4,hm⟩
    ·refine .ifT b0 (by kernel_rfl) h4 ?_
     refine .skip ?_
     replace hm:=Ae hm;obtain⟨h5,hm⟩:=hm
     refine .ghs (fr 49 [(0,sc 2 0 1 n4 c4),(1,zI z12),(2,zI z13),(6,zI z14),(7,zI z15)]) (hT 3 [(.cells Ay true false []),oC q4]) (.k [2] [false,false,false] [] [0,1,2,6,7] ⟨BB h5,trivial⟩) ?_
     refine .then (.block ?_)
     replace hm:=Ab hm;obtain⟨k1,h6,hm⟩:=hm
     replace hm:=Ab hm;obtain⟨k2,h7,hm⟩:=hm
     replace hm:=Ae hm;obtain⟨h8,hm⟩:=hm
     replace hm:=K6 hm;obtain⟨x0,h9,hm⟩:=hm
     replace hm:=Ab hm;obtain⟨k3,h10,hm⟩:=hm
     obtain rfl:=AR h10
     replace hm:=Ae hm;obtain⟨h11,hm⟩:=hm
     replace hm:=K6 hm;obtain⟨x1,h12,hm⟩:=hm
     replace hm:=Ae hm;obtain⟨h13,hm⟩:=hm
     replace hm:=Ae hm;obtain⟨h14,hm⟩:=hm
     replace hm:=Ae hm;obtain⟨h15,hm⟩:=hm
     replace hm:=Ae hm;obtain⟨h17,hm⟩:=hm
     refine .reg (eN 9 (Fr.puts (fr 49 [(0,sc 2 0 1 n4 c4),(1,zI z12),(2,zI z13),(6,zI z14),(7,(zI (Int.ofNat k3)))]) [(33,sc 2 0 1 n4 c4),(34,(zI (Int.ofNat k3))),(35,sc 2 0 1 n4 c4),(36,(zI (Int.ofNat k3))),(37,(zI (Int.ofNat k1))),(38,sc 2 0 1 n4 c4),(39,(zI (Int.ofNat k3))),(40,(zI (Int.ofNat k2))),(41,(.pointer (some ⟨2,(0+k2*1),none⟩)))]) (hT 3 [(.cells Ay true false []),oC q4]) (eC 4 (some ((zI (Aj .i64 (Int.sub (Int.ofNat k3) (1:Int)))),(hT 3 [(.cells Ay true false []),oC q4]))) (show _=some ((zI (Int.ofNat k1)),_) from (by rw[AR h6])) (eC 2 (some ((zI (Aj .i64 (Int.sub (Int.ofNat k3) (1:Int)))),(hT 3 [(.cells Ay true false []),oC q4]))) (show _=some ((zI (Int.ofNat k2)),_) from (by rw[AR h7])) (eD (keep (hT 3 [(.cells Ay true false []),oC q4]) (bb (an (Nat.blt k2 n4) true) (some (.pointer (some ⟨2,(0+k2*1),none⟩))) none)) (AX h8) (by kernel_rfl)))) (eN 5 (Fr.puts (fr 49 [(0,sc 2 0 1 n4 c4),(1,zI z12),(2,zI z13),(6,zI z14),(7,(zI (Int.ofNat k3)))]) [(33,sc 2 0 1 n4 c4),(34,(zI (Int.ofNat k3))),(35,sc 2 0 1 n4 c4),(36,(zI (Int.ofNat k3))),(37,(zI (Int.ofNat k1))),(38,sc 2 0 1 n4 c4),(39,(zI (Int.ofNat k3))),(40,(zI (Int.ofNat k2))),(41,(.pointer (some ⟨2,(0+k2*1),none⟩))),(42,zI x0),(43,sc 2 0 1 n4 c4),(44,(zI (Int.ofNat k3))),(45,(.pointer (some ⟨2,(0+k3*1),none⟩))),(46,zI x1)]) (hT 3 [(.cells Ay true false []),oC q4]) (eD (keep (hT 3 [(.cells Ay true false []),oC q4]) (AL q4 (0+k2*1))) (AZ h9) (eC 2 (keep (hT 3 [(.cells Ay true false []),oC q4]) (bb (an (Nat.blt k3 n4) true) (some (.pointer (some ⟨2,(0+k3*1),none⟩))) none)) (AX h11) (eD (keep (hT 3 [(.cells Ay true false []),oC q4]) (AL q4 (0+k3*1))) (AZ h12) (by kernel_rfl)))) (eD (keep (hT 3 [(.cells Ay true false []),oC q4]) (bb (an (Nat.blt k3 n4) true) (some (.pointer (some ⟨2,(0+k3*1),none⟩))) none)) (AX h13) (eD (done (bb (an (Nat.ble ((0+k3*1)+1) (len q4)) true) (some (hT 3 [(.cells Ay true false []),(oC (BM ([zI x0]:LV) (0+k3*1) q4))])) none) undef) (Js h14) (eD (keep (hT 3 [(.cells Ay true false []),(oC (BM ([zI x0]:LV) (0+k3*1) q4))]) (bb (an (Nat.blt k1 n4) true) (some (.pointer (some ⟨2,(0+k1*1),none⟩))) none)) (AX h15) (eD (done (bb (an (Nat.ble ((0+k1*1)+1) (len (BM ([zI x0]:LV) (0+k3*1) q4))) true) (some (hT 3 [(.cells Ay true false []),(oC (BM ([zI x1]:LV) (0+k1*1) (BM ([zI x0]:LV) (0+k3*1) q4)))])) none) undef) (Js h17) (eE))))))) ?_
     replace hm:=Ae hm;obtain⟨h18,hm⟩:=hm
     refine .ghs (fr 49 [(0,sc 2 0 1 n4 c4),(1,zI z12),(2,zI z13),(6,zI z14),(7,(zI (Int.ofNat k3)))]) (hT 3 [(.cells Ay true false []),(oC (BM ([zI x1]:LV) (0+k1*1) (BM ([zI x0]:LV) (0+k3*1) q4)))]) (.k [2] [false,false,false] [] [0,1,2,6,7] ⟨BB h18,trivial⟩) ?_
     refine .rK ?_
     exact⟨(n4,c4,z12,z13,z14,(Aj .i64 (Int.sub (Int.ofNat k3) (1:Int))),(BM ([zI x1]:LV) (0+k1*1) (BM ([zI x0]:LV) (0+k3*1) q4))),hm,(.k [2] [false,false,false] [] [0,1,2,6,7] ⟨BB h18,trivial⟩)⟩
    ·refine .ifF b0 (by kernel_rfl) h4 ?_
     refine .exit ?_
     replace hm:=Ae hm;obtain⟨h19,hm⟩:=hm
     exact⟨(n4,c4,z12,z13,z14,q4),hm,(.k [2] [false,false,false] [] [0,1,2,6] ⟨BB h19,trivial⟩)⟩
   ·replace hm:=Ag hm;rcases hm with⟨h20,hm⟩ | ⟨h20,hm⟩
    ·replace hm:=Ab hm;obtain⟨k4,h21,hm⟩:=hm
     obtain rfl:=AR h21
     replace hm:=Ae hm;obtain⟨h22,hm⟩:=hm
     replace hm:=K6 hm;obtain⟨x2,h23,hm⟩:=hm
     replace hm:=Ab hm;obtain⟨k5,h24,hm⟩:=hm
     replace hm:=Ae hm;obtain⟨h25,hm⟩:=hm
     replace hm:=K6 hm;obtain⟨x3,h26,hm⟩:=hm
     replace hm:=Yn hm;obtain⟨b1,h27,hm⟩:=hm
     refine .reg (eN 8 (Fr.puts (fr 49 [(0,sc 2 0 1 n3 c3),(1,zI z8),(2,zI z9),(6,zI z10),(7,(zI (Int.ofNat k4)))]) [(16,(zI (Int.ofNat k4))),(17,zI z8),(18,zB true),(19,zB true),(20,sc 2 0 1 n3 c3),(21,(zI (Int.ofNat k4))),(22,(.pointer (some ⟨2,(0+k4*1),none⟩))),(23,zI x2)]) (hT 3 [(.cells Ay true false []),oC q3]) (eC 2 (some ((zB (AY z8 (Int.ofNat k4))),(hT 3 [(.cells Ay true false []),oC q3]))) (show _=some ((zB true),_) from (by rw[show (AY z8 (Int.ofNat k4))=true from h20])) (eC 3 (keep (hT 3 [(.cells Ay true false []),oC q3]) (bb (an (Nat.blt k4 n3) true) (some (.pointer (some ⟨2,(0+k4*1),none⟩))) none)) (AX h22) (eD (keep (hT 3 [(.cells Ay true false []),oC q3]) (AL q3 (0+k4*1))) (AZ h23) (by kernel_rfl)))) (eC 2 (some ((zI (Aj .i64 (Int.sub (Int.ofNat k4) (1:Int)))),(hT 3 [(.cells Ay true false []),oC q3]))) (show _=some ((zI (Int.ofNat k5)),_) from (by rw[AR h24])) (eD (keep (hT 3 [(.cells Ay true false []),oC q3]) (bb (an (Nat.blt k5 n3) true) (some (.pointer (some ⟨2,(0+k5*1),none⟩))) none)) (AX h25) (eD (keep (hT 3 [(.cells Ay true false []),oC q3]) (AL q3 (0+k5*1))) (AZ h26) (eD ((oo (pu 125 [zI x2,zI x3]) none fun v=>some (v,(hT 3 [(.cells Ay true false []),oC q3])))) (AB h27) (eE)))))) ?_
     replace hm:=Ae hm;obtain⟨h28,hm⟩:=hm
     exact⟨(n3,c3,z8,z9,z10,(Int.ofNat k4),b1,q3),hm,(.k [2] [false,false,false] [] [0,1,2,6,7,30] ⟨BB h28,trivial⟩)⟩
    ·refine .reg (eC 2 (some ((zB (AY z8 z11)),(hT 3 [(.cells Ay true false []),oC q3]))) (show _=some ((zB false),_) from (by rw[show (AY z8 z11)=false from h20])) (eE)) ?_
     replace hm:=Ae hm;obtain⟨h29,hm⟩:=hm
     exact⟨(n3,c3,z8,z9,z10,z11,false,q3),hm,(.k [2] [false,false,false] [] [0,1,2,6,7,30] ⟨BB h29,trivial⟩)⟩
 ·refine Dn (AY z4 z3) h2 ?_
  refine .exit ?_
  refine .ghs (fr 49 []) (hT 3 [(.cells Ay true false []),oC q1]) (.k [2] [false,false,false] [] [] ⟨BB h1,trivial⟩) ?_
  exact OA (.tuple ⟨[]⟩) [oC q1] (by kernel_rfl) hm (Nat.le_of_ble_eq_true rfl) (FL (Wz _) Gq)
theorem Ace {call:A8} (pu:Af) (n:Nat) (hcall:call=Bb tabs isP pu (inl pu)) {args:LV} {os:List AJ} {z:Value} (ha:args.length=3) (hk:os.length=1) (hpl:∀ o∈os,plainO o) (hm:O3 pu n (args++os.map Ef)=some z):args.length≤49∧BN tt call (tabs.length+1) KJ (Fr.made 49 args) (BK tabs os) (FJ tt tabs.length 1 [] z):=by
 subst hcall
 have hq:=BO ha;clear ha;obtain⟨a0,args,rfl,ha⟩:=hq
 have hq:=BO ha;clear ha;obtain⟨a1,args,rfl,ha⟩:=hq
 have hq:=BO ha;clear ha;obtain⟨a2,args,rfl,ha⟩:=hq
 obtain rfl:=len_nil ha
 have hq:=BO hk;clear hk;obtain⟨b0,os,rfl,hk⟩:=hq
 have hp0:plainO b0:=hpl b0 (by simp)
 obtain rfl:=len_nil hk
 replace hm:O3 pu n [a0,a1,a2,Ef b0]=some z:=hm
 unfold O3 at hm
 replace hm:(oo (LZ 2 0 1 a0) none fun y0=>(oo (Bi .i64 a1) none fun x0=>(oo (Bi .i64 a2) none fun x1=>(oo (Bt (Ef b0)) none fun q0=>(Ni pu n (NC.n y0) (NC.c y0) x0 x1 q0)))))=some z:=hm
 replace hm:=Ab hm;obtain⟨y0,h0,hm⟩:=hm
 obtain rfl:=Iq h0
 replace hm:=Ai hm;obtain⟨x0,rfl,hm⟩:=hm
 replace hm:=Ai hm;obtain⟨x1,rfl,hm⟩:=hm
 replace hm:=Ab hm;obtain⟨q0,h1,hm⟩:=hm
 obtain rfl:=HY hp0 h1
 refine⟨by simp,?_⟩
 exact .same (F':=(fr 49 [(0,(sc 2 0 1 (NC.n y0) (NC.c y0))),(1,zI x0),(2,zI x1)])) (H':=(hT 3 [(.cells Ay true false []),oC q0])) (by kernel_rfl) (by kernel_rfl) (Acd pu n (NC.n y0) (NC.c y0) x0 x1 q0 hm)
def KZ (pu:Af) (n:Nat):OV:=
 (some (.tuple ⟨[(.bool true)]⟩))
def O5 (pu:Af) (n:Nat) (ih0:Sl→Sl→Int→Int→OV) (s0 s1:Sl) (z0 z1:Int):OV:=
 (bb (AY z1 z0) (oo (EA z1) none fun k1=>(bb (an (Nat.blt k1 (Sl.n s0)) true) (oo (AL (Sl.cs s0) (k1*1)) none fun v0=>(oo (Bi .i64 v0) none fun x0=>(bb (an (Nat.blt k1 (Sl.n s1)) true) (oo (AL (Sl.cs s1) (k1*1)) none fun v1=>(oo (Bi .i64 v1) none fun x1=>(bb (nt (Bd x0 x1)) (some (.tuple ⟨[(.bool false)]⟩)) (ih0 s0 s1 z0 (Aj .i64 (Int.add (Int.ofNat k1) (1:Int))))))) none))) none)) (KZ pu n))
def O6 (pu:Af) (n w:Nat):Sl→Sl→Int→Int→OV:=
 Nat.rec (motive:=fun _=>Sl→Sl→Int→Int→OV) (fun _ _ _ _=>none) (fun _ ih0=>O5 pu n ih0) w
def Oi (pu:Af) (n:Nat) (s0 s1:Sl):OV:=
 (bb (nt (Bd (Int.ofNat (Sl.n s0)) (Int.ofNat (Sl.n s1)))) (some (.tuple ⟨[(.bool false)]⟩)) (O6 pu n n s0 s1 (Int.ofNat (Sl.n s0)) (0:Int)))
def O7 (pu:Af) (n:Nat) (args:LV):OV:=
 (ll args none fun a0 args=>(ll args none fun a1 args=>(ll args (oo (Bj 1 a0) none fun s0=>(oo (Bj 1 a1) none fun s1=>(Oi pu n s0 s1))) fun _ _=>none)))
theorem Zt (pu:Af) (n:Nat) {v:Value} (hm:KZ pu n=some v):BN tt (Bb tabs isP pu (inl pu)) 2 X4 (fr 26 []) (hT 2 [(.cells Ay true false [])]) (FJ tt 2 0 [.tmp 4] v):=by
 unfold KZ at hm
 refine .then (.rK (.ghs (fr 26 [(4,zB true)]) (hT 2 [(.cells Ay true false [])]) (.k0 [false,false] [] [4]) ?_))
 refine .ghs (fr 26 [(4,zB true)]) (hT 2 [(.cells Ay true false [])]) (.k0 [false,false] [] [4]) ?_
 refine .ret ?_
 exact Jc (zB true) [] (by kernel_rfl) hm (Nat.le_of_ble_eq_true rfl) Gq
theorem Acf (pu:Af) (n:Nat) (s0 s1:Sl) {v:Value} (hm:Oi pu n s0 s1=some v):BN tt (Bb tabs isP pu (inl pu)) 2 OC (fr 26 [(0,Sl.v 1 s0),(1,Sl.v 1 s1)]) (hT 2 [(.cells Ay true false [])]) (FJ tt 2 0 [.tmp 4] v):=by
 unfold Oi at hm
 refine .then (.rK (.ghs (fr 26 [(0,Sl.v 1 s0),(1,Sl.v 1 s1)]) (hT 2 [(.cells Ay true false [])]) (.k0 [false,false] [] [0,1]) ?_))
 refine .then (.then (.rK (.ghs (fr 26 [(0,Sl.v 1 s0),(1,Sl.v 1 s1),(10,(zB (nt (Bd (Int.ofNat (Sl.n s0)) (Int.ofNat (Sl.n s1))))))]) (hT 2 [(.cells Ay true false [])]) (.k0 [false,false] [] [0,1,10]) ?_)))
 replace hm:=Ag hm;rcases hm with⟨h0,hm⟩ | ⟨h0,hm⟩
 ·refine C8 (nt (Bd (Int.ofNat (Sl.n s0)) (Int.ofNat (Sl.n s1)))) h0 ?_
  refine .then (.rK (.ghs (fr 26 [(4,zB false)]) (hT 2 [(.cells Ay true false [])]) (.k0 [false,false] [] [4]) ?_))
  refine .ghs (fr 26 [(4,zB false)]) (hT 2 [(.cells Ay true false [])]) (.k0 [false,false] [] [4]) ?_
  refine .ret ?_
  exact Jc (zB false) [] (by kernel_rfl) hm (Nat.le_of_ble_eq_true rfl) Gq
 ·refine Dn (nt (Bd (Int.ofNat (Sl.n s0)) (Int.ofNat (Sl.n s1)))) h0 ?_
  refine .skip (.ghs (fr 26 [(0,Sl.v 1 s0),(1,Sl.v 1 s1)]) (hT 2 [(.cells Ay true false [])]) (.k0 [false,false] [] [0,1]) ?_)
  refine .join (v:=v) (fun y:Unit=>((fr 26 []),(hT 2 [(.cells Ay true false [])]))) (fun y=>KZ pu n) ?_ ?_
  ·rintro _ hm
   exact Zt pu n hm
  ·refine .then (.rK (.ghs (fr 26 [(0,Sl.v 1 s0),(1,Sl.v 1 s1),(12,(zI (Int.ofNat (Sl.n s0)))),(13,(zI (0:Int)))]) (hT 2 [(.cells Ay true false [])]) (.k0 [false,false] [] [0,1,12,13]) ?_))
   refine .block (.loopM (v:=v) (fun y:Sl×Sl×Int×Int=>((fr 26 [(0,(Sl.v 1 y.1)),(1,(Sl.v 1 y.2.1)),(12,(zI y.2.2.1)),(13,(zI y.2.2.2))]),(hT 2 [(.cells Ay true false [])]))) (fun w y=>O6 pu n w y.1 y.2.1 y.2.2.1 y.2.2.2) n ⟨(s0,s1,(Int.ofNat (Sl.n s0)),(0:Int)),hm,(.k0 [false,false] [] [0,1,12,13])⟩ (fun _=>rfl) ?_)
   rintro w0 ⟨s2,s3,z0,z1⟩ hm
   replace hm:O5 pu n (O6 pu n w0) s2 s3 z0 z1=some v:=hm
   unfold O5 at hm
   refine .then (.rK (.ghs (fr 26 [(0,Sl.v 1 s2),(1,Sl.v 1 s3),(12,zI z0),(13,zI z1),(14,(zB (AY z1 z0)))]) (hT 2 [(.cells Ay true false [])]) (.k0 [false,false] [] [0,1,12,13,14]) ?_))
   refine .then ?_
   replace hm:=Ag hm;rcases hm with⟨h1,hm⟩ | ⟨h1,hm⟩
   ·refine C8 (AY z1 z0) h1 ?_
    refine .skip (.ghs (fr 26 [(0,Sl.v 1 s2),(1,Sl.v 1 s3),(12,zI z0),(13,zI z1)]) (hT 2 [(.cells Ay true false [])]) (.k0 [false,false] [] [0,1,12,13]) ?_)
    refine .then (.block (.then (.rK (.ghs (fr 26 [(0,Sl.v 1 s2),(1,Sl.v 1 s3),(5,zI z1),(12,zI z0),(13,zI z1)]) (hT 2 [(.cells Ay true false [])]) (.k0 [false,false] [] [0,1,5,12,13]) ?_))))
    refine .then ?_
    replace hm:=Ab hm;obtain⟨k1,h2,hm⟩:=hm
    obtain rfl:=AR h2
    replace hm:=Ae hm;obtain⟨h3,hm⟩:=hm
    replace hm:=K6 hm;obtain⟨x0,h4,hm⟩:=hm
    replace hm:=Ae hm;obtain⟨h5,hm⟩:=hm
    replace hm:=K6 hm;obtain⟨x1,h6,hm⟩:=hm
    refine .reg (eC 2 (keep (hT 2 [(.cells Ay true false [])]) (bb (an (Nat.blt k1 (Sl.n s2)) true) (some (Cv (k1*1) (Sl.cs s2))) none)) (AX h3) (eD (keep (hT 2 [(.cells Ay true false [])]) (AL (Sl.cs s2) (k1*1))) (AZ h4) (eC 2 (keep (hT 2 [(.cells Ay true false [])]) (bb (an (Nat.blt k1 (Sl.n s3)) true) (some (Cv (k1*1) (Sl.cs s3))) none)) (AX h5) (eD (keep (hT 2 [(.cells Ay true false [])]) (AL (Sl.cs s3) (k1*1))) (AZ h6) (eE))))) ?_
    refine .ghs (fr 26 [(0,Sl.v 1 s2),(1,Sl.v 1 s3),(12,zI z0),(13,(zI (Int.ofNat k1))),(24,(zB (nt (Bd x0 x1))))]) (hT 2 [(.cells Ay true false [])]) (.k0 [false,false] [] [0,1,12,13,24]) ?_
    replace hm:=Ag hm;rcases hm with⟨h7,hm⟩ | ⟨h7,hm⟩
    ·refine C8 (nt (Bd x0 x1)) h7 ?_
     refine .then (.rK (.ghs (fr 26 [(4,zB false)]) (hT 2 [(.cells Ay true false [])]) (.k0 [false,false] [] [4]) ?_))
     refine .ghs (fr 26 [(4,zB false)]) (hT 2 [(.cells Ay true false [])]) (.k0 [false,false] [] [4]) ?_
     refine .ret ?_
     exact Jc (zB false) [] (by kernel_rfl) hm (Nat.le_of_ble_eq_true rfl) Gq
    ·refine Dn (nt (Bd x0 x1)) h7 ?_
     refine .skip (.ghs (fr 26 [(0,Sl.v 1 s2),(1,Sl.v 1 s3),(12,zI z0),(13,(zI (Int.ofNat k1)))]) (hT 2 [(.cells Ay true false [])]) (.k0 [false,false] [] [0,1,12,13]) ?_)
     refine .rK ?_
     exact⟨(s2,s3,z0,(Aj .i64 (Int.add (Int.ofNat k1) (1:Int)))),hm,(.k0 [false,false] [] [0,1,12,13])⟩
   ·refine Dn (AY z1 z0) h1 ?_
    refine .exit ?_
    exact⟨(),hm,(.k0 [false,false] [] [])⟩
theorem Acg {call:A8} (pu:Af) (n:Nat) (hcall:call=Bb tabs isP pu (inl pu)) {args:LV} {os:List AJ} {z:Value} (ha:args.length=2) (hk:os.length=0) (hpl:∀ o∈os,plainO o) (hm:O7 pu n (args++os.map Ef)=some z):args.length≤26∧BN tt call (tabs.length+0) OC (Fr.made 26 args) (BK tabs os) (FJ tt tabs.length 0 [.tmp 4] z):=by
 subst hcall
 have hq:=BO ha;clear ha;obtain⟨a0,args,rfl,ha⟩:=hq
 have hq:=BO ha;clear ha;obtain⟨a1,args,rfl,ha⟩:=hq
 obtain rfl:=len_nil ha
 obtain rfl:=len_nil hk
 replace hm:O7 pu n [a0,a1]=some z:=hm
 unfold O7 at hm
 replace hm:(oo (Bj 1 a0) none fun s0=>(oo (Bj 1 a1) none fun s1=>(Oi pu n s0 s1)))=some z:=hm
 replace hm:=Al hm;obtain⟨s0,rfl,hm⟩:=hm
 replace hm:=Al hm;obtain⟨s1,rfl,hm⟩:=hm
 refine⟨by simp,?_⟩
 exact .same (F':=(fr 26 [(0,Sl.v 1 s0),(1,Sl.v 1 s1)])) (H':=(hT 2 [(.cells Ay true false [])])) (by kernel_rfl) (by kernel_rfl) (Acf pu n s0 s1 hm)
def Je (pu:Af) (n:Nat) (e0:List EO) (k1:Nat):OV:=
 (bb (Au F4 e0) (some (.tuple ⟨[(.map (some 2)),(Ef (.map e0 k1))]⟩)) none)
def Ir (pu:Af) (n:Nat) (ih0:Sl→Sl→Int→Int→Int→Int→List EO→Nat→OV) (s0 s1:Sl) (z0 z1 z2 z3:Int) (e0:List EO) (k1:Nat):OV:=
 (bb (Au F4 e0) (ih0 s0 s1 z0 (Aj .i64 (Int.add z1 (1:Int))) z2 z3 e0 k1) none)
def FY (pu:Af) (n:Nat) (ih0:Sl→Sl→Int→Int→Int→Int→List EO→Nat→OV) (ih1:Sl→Int→Sl→Int→Int→Sl→Int→Int→Int→Int→List EO→Nat→OV) (s0:Sl) (z0:Int) (s1:Sl) (z1 z2:Int) (s2:Sl) (z3 z4 z5 z6:Int) (e0:List EO) (k1:Nat):OV:=
 (bb (Au F4 e0) (ih1 s0 z0 s1 z1 z2 s2 z3 (Aj .i64 (Int.add z4 (1:Int))) z5 z6 e0 k1) none)
def Hw (pu:Af) (n:Nat) (ih0:Sl→Sl→Int→Int→Int→Int→List EO→Nat→OV) (ih1:Sl→Int→Sl→Int→Int→Sl→Int→Int→Int→Int→List EO→Nat→OV) (s0:Sl) (z0:Int) (s1:Sl) (z1 z2:Int) (s2:Sl) (z3 z4 z5 z6:Int) (e0:List EO) (k1:Nat):OV:=
 (bb (Au F4 e0) (bb (AY z4 z3) (oo (EA z4) none fun k2=>(bb (an (Nat.blt k2 (Sl.n s2)) true) (oo (AL (Sl.cs s2) (k2*1)) none fun v0=>(oo (Bi .i64 v0) none fun x0=>(bb (nt (Bd z0 x0)) (oo (pu 56 [(.agg ⟨[.int .i64 z5,.int .u32 z6]⟩),(.int .i64 (Aj .i64 (Int.sub x0 z0)))]) none fun v1=>(oo (Bi .i64 v1) none fun x1=>(oo (GD (.int .i64 x1) e0 0) none fun r0=>(oo (Bi .i64 (Xc r0 (.int .i64 (0:Int)))) none fun x2=>(oo (GD (.int .i64 x1) e0 0) none fun r1=>(bb (Au F4 (Oz (.int .i64 x1) (.int .i64 (Aj .i64 (Int.add x2 (1:Int)))) k1 e0 r1)) (FY pu n ih0 ih1 s0 z0 s1 z1 z2 s2 z3 (Int.ofNat k2) z5 z6 (Oz (.int .i64 x1) (.int .i64 (Aj .i64 (Int.add x2 (1:Int)))) k1 e0 r1) (TW k1 r1)) none)))))) (FY pu n ih0 ih1 s0 z0 s1 z1 z2 s2 z3 (Int.ofNat k2) z5 z6 e0 k1)))) none)) (Ir pu n ih0 s0 s1 z1 z2 z5 z6 e0 k1)) none)
def Fp (pu:Af) (n:Nat) (ih0:Sl→Sl→Int→Int→Int→Int→List EO→Nat→OV) (w:Nat):Sl→Int→Sl→Int→Int→Sl→Int→Int→Int→Int→List EO→Nat→OV:=
 Nat.rec (motive:=fun _=>Sl→Int→Sl→Int→Int→Sl→Int→Int→Int→Int→List EO→Nat→OV) (fun _ _ _ _ _ _ _ _ _ _ _ _=>none) (fun _ ih1=>Hw pu n ih0 ih1) w
def Hy (pu:Af) (n:Nat) (ih0:Sl→Sl→Int→Int→Int→Int→List EO→Nat→OV) (s0 s1:Sl) (z0 z1 z2 z3:Int) (e0:List EO) (k1:Nat):OV:=
 (bb (Au F4 e0) (bb (AY z1 z0) (oo (EA z1) none fun k2=>(bb (an (Nat.blt k2 (Sl.n s1)) true) (oo (AL (Sl.cs s1) (k2*1)) none fun v0=>(oo (Bi .i64 v0) none fun x0=>(Fp pu n ih0 n s0 x0 s1 z0 (Int.ofNat k2) s0 (Int.ofNat (Sl.n s0)) (0:Int) z2 z3 e0 k1))) none)) (Je pu n e0 k1)) none)
def Dy (pu:Af) (n w:Nat):Sl→Sl→Int→Int→Int→Int→List EO→Nat→OV:=
 Nat.rec (motive:=fun _=>Sl→Sl→Int→Int→Int→Int→List EO→Nat→OV) (fun _ _ _ _ _ _ _ _=>none) (fun _ ih0=>Hy pu n ih0) w
def Jj (pu:Af) (n:Nat) (z0 z1:Int):OV:=
 (bb (Au F4 ([]:List EO)) (oo (pu 116 [(.agg ⟨[.int .i64 z0,.int .u32 z1]⟩)]) none fun v0=>(oo (Bj 1 v0) none fun s0=>(Dy pu n n s0 s0 (Int.ofNat (Sl.n s0)) (0:Int) z0 z1 ([]:List EO) 0))) none)
def Kc (pu:Af) (n:Nat) (args:LV):OV:=
 (ll args none fun a0 args=>(ll args (oo (Bt a0) none fun l0=>(ll l0 none fun v0 l0=>(ll l0 none fun v1 l0=>(ll l0 (oo (Bi .i64 v0) none fun x0=>(oo (Bi .u32 v1) none fun x1=>(Jj pu n x0 x1))) fun _ _=>none)))) fun _ _=>none))
theorem Zu (pu:Af) (n:Nat) (e0:List EO) (k1:Nat) {v:Value} (hm:Je pu n e0 k1=some v):BN tt (Bb tabs isP pu (inl pu)) 2 V4 (fr 38 [(3,(.map (some 2)))]) (hT 3 [(.cells Ay true false []),(.map e0 k1)]) (FJ tt 2 0 [.tmp 2] v):=by
 unfold Je at hm
 refine .then (.rK ?_)
 replace hm:=Ae hm;obtain⟨h0,hm⟩:=hm
 refine .ghs (fr 38 [(2,(.map (some 2)))]) (hT 3 [(.cells Ay true false []),(.map e0 k1)]) (.k [2] [false,false] [.tmp 2 false] [2] ⟨BB h0,trivial⟩) ?_
 refine .ghs (fr 38 [(2,(.map (some 2)))]) (hT 3 [(.cells Ay true false []),(.map e0 k1)]) (.k [2] [false,false] [.tmp 2 false] [2] ⟨BB h0,trivial⟩) ?_
 refine .ret ?_
 exact Jc (.map (some 2)) [(.map e0 k1)] (by kernel_rfl) hm (Nat.le_of_ble_eq_true rfl) (FL (AgD _ _) Gq)
theorem Ach (pu:Af) (n:Nat) (z0 z1:Int) {v:Value} (hm:Jj pu n z0 z1=some v):BN tt (Bb tabs isP pu (inl pu)) 2 KS (fr 38 [(0,(.agg ⟨[zI z0,.int .u32 z1]⟩))]) (hT 2 [(.cells Ay true false [])]) (FJ tt 2 0 [.tmp 2] v):=by
 unfold Jj at hm
 refine .then (.rK (.ghs (fr 38 [(1,(pt 2 0))]) (hT 3 [(.cells Ay true false []),(oC [zI z0,.int .u32 z1])]) (.k0 [false,false] [.tmp 1 false] [1]) ?_))
 refine .then (.rK ?_)
 replace hm:=Ae hm;obtain⟨h0,hm⟩:=hm
 refine .ghs (fr 38 [(1,(pt 2 0)),(3,(.map (some 3)))]) (hT 4 [(.cells Ay true false []),(oC [zI z0,.int .u32 z1]),(.map ([]:List EO) 0)]) (.k [3] [false,false] [.tmp 1 false,.tmp 3 false] [1,3] ⟨BB h0,trivial⟩) ?_
 refine .then ?_
 replace hm:=oQS hm;obtain⟨s0,h1,hm⟩:=hm
 refine .reg (eC 1 ((oo (pu 116 [(.agg ⟨[zI z0,.int .u32 z1]⟩)]) none fun v=>some (v,(hT 4 [(.cells Ay true false []),(oC [zI z0,.int .u32 z1]),(.map ([]:List EO) 0)])))) (AB h1) (eE)) ?_
 refine .ghs (fr 38 [(1,(pt 2 0)),(3,(.map (some 3))),(4,Sl.v 1 s0)]) (hT 4 [(.cells Ay true false []),(oC [zI z0,.int .u32 z1]),(.map ([]:List EO) 0)]) (.k [3] [false,false] [.tmp 1 false,.tmp 3 false] [1,3,4] ⟨BB h0,trivial⟩) ?_
 refine .join (v:=v) (fun y:List EO×Nat=>((fr 38 [(3,(.map (some 2)))]),(hT 3 [(.cells Ay true false []),(.map y.1 y.2)]))) (fun y=>Je pu n y.1 y.2) ?_ ?_
 ·rintro⟨e0,k1⟩ hm
  exact Zu pu n e0 k1 hm
 ·refine .then (.rK (.ghs (fr 38 [(1,(pt 2 0)),(3,(.map (some 3))),(4,Sl.v 1 s0),(12,Sl.v 1 s0),(13,(zI (Int.ofNat (Sl.n s0)))),(14,(zI (0:Int)))]) (hT 4 [(.cells Ay true false []),(oC [zI z0,.int .u32 z1]),(.map ([]:List EO) 0)]) (.k [3] [false,false] [.tmp 1 false,.tmp 3 false] [1,3,4,12,13,14] ⟨BB h0,trivial⟩) ?_))
  refine .block (.loopM (v:=v) (fun y:Sl×Sl×Int×Int×Int×Int×List EO×Nat=>((fr 38 [(1,(pt 2 0)),(3,(.map (some 3))),(4,(Sl.v 1 y.1)),(12,(Sl.v 1 y.2.1)),(13,(zI y.2.2.1)),(14,(zI y.2.2.2.1))]),(hT 4 [(.cells Ay true false []),(oC [(zI y.2.2.2.2.1),(.int .u32 y.2.2.2.2.2.1)]),(.map y.2.2.2.2.2.2.1 y.2.2.2.2.2.2.2)]))) (fun w y=>Dy pu n w y.1 y.2.1 y.2.2.1 y.2.2.2.1 y.2.2.2.2.1 y.2.2.2.2.2.1 y.2.2.2.2.2.2.1 y.2.2.2.2.2.2.2) n ⟨(s0,s0,(Int.ofNat (Sl.n s0)),(0:Int),z0,z1,([]:List EO),0),hm,(.k [3] [false,false] [.tmp 1 false,.tmp 3 false] [1,3,4,12,13,14] ⟨BB h0,trivial⟩)⟩ (fun _=>rfl) ?_)
  rintro w0 ⟨s1,s2,z2,z3,z4,z5,e1,k2⟩ hm
  replace hm:Hy pu n (Dy pu n w0) s1 s2 z2 z3 z4 z5 e1 k2=some v:=hm
  unfold Hy at hm
  refine .then (.rK ?_)
  replace hm:=Ae hm;obtain⟨h2,hm⟩:=hm
  refine .ghs (fr 38 [(1,(pt 2 0)),(3,(.map (some 3))),(4,Sl.v 1 s1),(12,Sl.v 1 s2),(13,zI z2),(14,zI z3),(15,(zB (AY z3 z2)))]) (hT 4 [(.cells Ay true false []),(oC [zI z4,.int .u32 z5]),(.map e1 k2)]) (.k [3] [false,false] [.tmp 1 false,.tmp 3 false] [1,3,4,12,13,14,15] ⟨BB h2,trivial⟩) ?_
  refine .then ?_
  replace hm:=Ag hm;rcases hm with⟨h3,hm⟩ | ⟨h3,hm⟩
  ·refine C8 (AY z3 z2) h3 ?_
   refine .skip (.ghs (fr 38 [(1,(pt 2 0)),(3,(.map (some 3))),(4,Sl.v 1 s1),(12,Sl.v 1 s2),(13,zI z2),(14,zI z3)]) (hT 4 [(.cells Ay true false []),(oC [zI z4,.int .u32 z5]),(.map e1 k2)]) (.k [3] [false,false] [.tmp 1 false,.tmp 3 false] [1,3,4,12,13,14] ⟨BB h2,trivial⟩) ?_)
   refine .join (v:=v) (fun y:Sl×Sl×Int×Int×Int×Int×List EO×Nat=>((fr 38 [(1,(pt 2 0)),(3,(.map (some 3))),(4,(Sl.v 1 y.1)),(12,(Sl.v 1 y.2.1)),(13,(zI y.2.2.1)),(14,(zI y.2.2.2.1))]),(hT 4 [(.cells Ay true false []),(oC [(zI y.2.2.2.2.1),(.int .u32 y.2.2.2.2.2.1)]),(.map y.2.2.2.2.2.2.1 y.2.2.2.2.2.2.2)]))) (fun y=>Ir pu n (Dy pu n w0) y.1 y.2.1 y.2.2.1 y.2.2.2.1 y.2.2.2.2.1 y.2.2.2.2.2.1 y.2.2.2.2.2.2.1 y.2.2.2.2.2.2.2) ?_ ?_
   ·rintro⟨s3,s4,z6,z7,z8,z9,e2,k3⟩ hm
    unfold Ir at hm
    refine .rK ?_
    replace hm:=Ae hm;obtain⟨h4,hm⟩:=hm
    exact⟨(s3,s4,z6,(Aj .i64 (Int.add z7 (1:Int))),z8,z9,e2,k3),hm,(.k [3] [false,false] [.tmp 1 false,.tmp 3 false] [1,3,4,12,13,14] ⟨BB h4,trivial⟩)⟩
   ·refine .block (.then ?_)
    replace hm:=Ab hm;obtain⟨k4,h5,hm⟩:=hm
    obtain rfl:=AR h5
    replace hm:=Ae hm;obtain⟨h6,hm⟩:=hm
    replace hm:=K6 hm;obtain⟨x0,h7,hm⟩:=hm
    refine .reg (eD (keep (hT 4 [(.cells Ay true false []),(oC [zI z4,.int .u32 z5]),(.map e1 k2)]) (bb (an (Nat.blt k4 (Sl.n s2)) true) (some (Cv (k4*1) (Sl.cs s2))) none)) (AX h6) (eD (keep (hT 4 [(.cells Ay true false []),(oC [zI z4,.int .u32 z5]),(.map e1 k2)]) (AL (Sl.cs s2) (k4*1))) (AZ h7) (eE))) ?_
    refine .ghs (fr 38 [(1,(pt 2 0)),(3,(.map (some 3))),(4,Sl.v 1 s1),(6,zI x0),(12,Sl.v 1 s2),(13,zI z2),(14,(zI (Int.ofNat k4)))]) (hT 4 [(.cells Ay true false []),(oC [zI z4,.int .u32 z5]),(.map e1 k2)]) (.k [3] [false,false] [.tmp 1 false,.tmp 3 false] [1,3,4,6,12,13,14] ⟨BB h2,trivial⟩) ?_
    refine .then (.rK (.ghs (fr 38 [(1,(pt 2 0)),(3,(.map (some 3))),(4,Sl.v 1 s1),(6,zI x0),(12,Sl.v 1 s2),(13,zI z2),(14,(zI (Int.ofNat k4))),(18,Sl.v 1 s1),(19,(zI (Int.ofNat (Sl.n s1)))),(20,(zI (0:Int)))]) (hT 4 [(.cells Ay true false []),(oC [zI z4,.int .u32 z5]),(.map e1 k2)]) (.k [3] [false,false] [.tmp 1 false,.tmp 3 false] [1,3,4,6,12,13,14,18,19,20] ⟨BB h2,trivial⟩) ?_))
    refine .block (.loopM (v:=v) (fun y:Sl×Int×Sl×Int×Int×Sl×Int×Int×Int×Int×List EO×Nat=>((fr 38 [(1,(pt 2 0)),(3,(.map (some 3))),(4,(Sl.v 1 y.1)),(6,(zI y.2.1)),(12,(Sl.v 1 y.2.2.1)),(13,(zI y.2.2.2.1)),(14,(zI y.2.2.2.2.1)),(18,(Sl.v 1 y.2.2.2.2.2.1)),(19,(zI y.2.2.2.2.2.2.1)),(20,(zI y.2.2.2.2.2.2.2.1))]),(hT 4 [(.cells Ay true false []),(oC [(zI y.2.2.2.2.2.2.2.2.1),(.int .u32 y.2.2.2.2.2.2.2.2.2.1)]),(.map y.2.2.2.2.2.2.2.2.2.2.1 y.2.2.2.2.2.2.2.2.2.2.2)]))) (fun w y=>Fp pu n (Dy pu n w0) w y.1 y.2.1 y.2.2.1 y.2.2.2.1 y.2.2.2.2.1 y.2.2.2.2.2.1 y.2.2.2.2.2.2.1 y.2.2.2.2.2.2.2.1 y.2.2.2.2.2.2.2.2.1 y.2.2.2.2.2.2.2.2.2.1 y.2.2.2.2.2.2.2.2.2.2.1 y.2.2.2.2.2.2.2.2.2.2.2) n ⟨(s1,x0,s2,z2,(Int.ofNat k4),s1,(Int.ofNat (Sl.n s1)),(0:Int),z4,z5,e1,k2),hm,(.k [3] [false,false] [.tmp 1 false,.tmp 3 false] [1,3,4,6,12,13,14,18,19,20] ⟨BB h2,trivial⟩)⟩ (fun _=>rfl) ?_)
    rintro w1 ⟨s5,z10,s6,z11,z12,s7,z13,z14,z15,z16,e3,k5⟩ hm
    replace hm:Hw pu n (Dy pu n w0) (Fp pu n (Dy pu n w0) w1) s5 z10 s6 z11 z12 s7 z13 z14 z15 z16 e3 k5=some v:=hm
    unfold Hw at hm
    refine .then (.rK ?_)
    replace hm:=Ae hm;obtain⟨h8,hm⟩:=hm
    refine .ghs (fr 38 [(1,(pt 2 0)),(3,(.map (some 3))),(4,Sl.v 1 s5),(6,zI z10),(12,Sl.v 1 s6),(13,zI z11),(14,zI z12),(18,Sl.v 1 s7),(19,zI z13),(20,zI z14),(21,(zB (AY z14 z13)))]) (hT 4 [(.cells Ay true false []),(oC [zI z15,.int .u32 z16]),(.map e3 k5)]) (.k [3] [false,false] [.tmp 1 false,.tmp 3 false] [1,3,4,6,12,13,14,18,19,20,21] ⟨BB h8,trivial⟩) ?_
    refine .then ?_
    replace hm:=Ag hm;rcases hm with⟨h9,hm⟩ | ⟨h9,hm⟩
    ·refine C8 (AY z14 z13) h9 ?_
     refine .skip (.ghs (fr 38 [(1,(pt 2 0)),(3,(.map (some 3))),(4,Sl.v 1 s5),(6,zI z10),(12,Sl.v 1 s6),(13,zI z11),(14,zI z12),(18,Sl.v 1 s7),(19,zI z13),(20,zI z14)]) (hT 4 [(.cells Ay true false []),(oC [zI z15,.int .u32 z16]),(.map e3 k5)]) (.k [3] [false,false] [.tmp 1 false,.tmp 3 false] [1,3,4,6,12,13,14,18,19,20] ⟨BB h8,trivial⟩) ?_)
     refine .join (v:=v) (fun y:Sl×Int×Sl×Int×Int×Sl×Int×Int×Int×Int×List EO×Nat=>((fr 38 [(1,(pt 2 0)),(3,(.map (some 3))),(4,(Sl.v 1 y.1)),(6,(zI y.2.1)),(12,(Sl.v 1 y.2.2.1)),(13,(zI y.2.2.2.1)),(14,(zI y.2.2.2.2.1)),(18,(Sl.v 1 y.2.2.2.2.2.1)),(19,(zI y.2.2.2.2.2.2.1)),(20,(zI y.2.2.2.2.2.2.2.1))]),(hT 4 [(.cells Ay true false []),(oC [(zI y.2.2.2.2.2.2.2.2.1),(.int .u32 y.2.2.2.2.2.2.2.2.2.1)]),(.map y.2.2.2.2.2.2.2.2.2.2.1 y.2.2.2.2.2.2.2.2.2.2.2)]))) (fun y=>FY pu n (Dy pu n w0) (Fp pu n (Dy pu n w0) w1) y.1 y.2.1 y.2.2.1 y.2.2.2.1 y.2.2.2.2.1 y.2.2.2.2.2.1 y.2.2.2.2.2.2.1 y.2.2.2.2.2.2.2.1 y.2.2.2.2.2.2.2.2.1 y.2.2.2.2.2.2.2.2.2.1 y.2.2.2.2.2.2.2.2.2.2.1 y.2.2.2.2.2.2.2.2.2.2.2) ?_ ?_
     ·rintro⟨s8,z17,s9,z18,z19,s10,z20,z21,z22,z23,e4,k6⟩ hm
      unfold FY at hm
      refine .rK ?_
      replace hm:=Ae hm;obtain⟨h10,hm⟩:=hm
      exact⟨(s8,z17,s9,z18,z19,s10,z20,(Aj .i64 (Int.add z21 (1:Int))),z22,z23,e4,k6),hm,(.k [3] [false,false] [.tmp 1 false,.tmp 3 false] [1,3,4,6,12,13,14,18,19,20] ⟨BB h10,trivial⟩)⟩
     ·refine .block (.then ?_)
      replace hm:=Ab hm;obtain⟨k7,h11,hm⟩:=hm
      obtain rfl:=AR h11
      replace hm:=Ae hm;obtain⟨h12,hm⟩:=hm
      replace hm:=K6 hm;obtain⟨x1,h13,hm⟩:=hm
      refine .reg (eD (keep (hT 4 [(.cells Ay true false []),(oC [zI z15,.int .u32 z16]),(.map e3 k5)]) (bb (an (Nat.blt k7 (Sl.n s7)) true) (some (Cv (k7*1) (Sl.cs s7))) none)) (AX h12) (eD (keep (hT 4 [(.cells Ay true false []),(oC [zI z15,.int .u32 z16]),(.map e3 k5)]) (AL (Sl.cs s7) (k7*1))) (AZ h13) (eE))) ?_
      refine .ghs (fr 38 [(1,(pt 2 0)),(3,(.map (some 3))),(4,Sl.v 1 s5),(6,zI z10),(8,zI x1),(12,Sl.v 1 s6),(13,zI z11),(14,zI z12),(18,Sl.v 1 s7),(19,zI z13),(20,(zI (Int.ofNat k7)))]) (hT 4 [(.cells Ay true false []),(oC [zI z15,.int .u32 z16]),(.map e3 k5)]) (.k [3] [false,false] [.tmp 1 false,.tmp 3 false] [1,3,4,6,8,12,13,14,18,19,20] ⟨BB h8,trivial⟩) ?_
      refine .then (.rK (.ghs (fr 38 [(1,(pt 2 0)),(3,(.map (some 3))),(4,Sl.v 1 s5),(6,zI z10),(8,zI x1),(12,Sl.v 1 s6),(13,zI z11),(14,zI z12),(18,Sl.v 1 s7),(19,zI z13),(20,(zI (Int.ofNat k7))),(26,(zB (nt (Bd z10 x1))))]) (hT 4 [(.cells Ay true false []),(oC [zI z15,.int .u32 z16]),(.map e3 k5)]) (.k [3] [false,false] [.tmp 1 false,.tmp 3 false] [1,3,4,6,8,12,13,14,18,19,20,26] ⟨BB h8,trivial⟩) ?_))
      replace hm:=Ag hm;rcases hm with⟨h14,hm⟩ | ⟨h14,hm⟩
      ·refine C8 (nt (Bd z10 x1)) h14 ?_
       replace hm:=K6 hm;obtain⟨x2,h15,hm⟩:=hm
       replace hm:=Ab hm;obtain⟨r0,h17,hm⟩:=hm
       replace hm:=Ab hm;obtain⟨x3,h18,hm⟩:=hm
       replace hm:=Ab hm;obtain⟨r1,h19,hm⟩:=hm
       refine .reg (eC 5 ((oo (pu 56 [(.agg ⟨[zI z15,.int .u32 z16]⟩),(zI (Aj .i64 (Int.sub x1 z10)))]) none fun v=>some (v,(hT 4 [(.cells Ay true false []),(oC [zI z15,.int .u32 z16]),(.map e3 k5)])))) (AB h15) (eD (keep (hT 4 [(.cells Ay true false []),(oC [zI z15,.int .u32 z16]),(.map e3 k5)]) (oo (GD (zI x2) e3 0) none fun r=>oo r (okV false (zI (0:Int)) false) fun p=>pp p fun _ v=>okV false v true)) (dX h17 (Eh h18)) (eC 1 (done (oo (GD (zI x2) e3 0) none fun r=>oo r (some (Aa.set (hT 4 [(.cells Ay true false []),(oC [zI z15,.int .u32 z16]),(.map e3 k5)]) 3 (.map (Br e3 [⟨zI x2,(zI (Aj .i64 (Int.add x3 (1:Int)))),k5⟩]) (k5+1)))) fun p=>pp p fun j _=>some (Aa.set (hT 4 [(.cells Ay true false []),(oC [zI z15,.int .u32 z16]),(.map e3 k5)]) 3 (.map (SS (fun e=>⟨zI x2,(zI (Aj .i64 (Int.add x3 (1:Int)))),e.born⟩) j e3) k5))) undef) (yA (H2:=(hT 4 [(.cells Ay true false []),(oC [zI z15,.int .u32 z16]),(.map (Oz (zI x2) (zI (Aj .i64 (Int.add x3 (1:Int)))) k5 e3 r1) (TW k5 r1))])) h19) (eE)))) ?_
       replace hm:=Ae hm;obtain⟨h20,hm⟩:=hm
       exact⟨(s5,z10,s6,z11,z12,s7,z13,(Int.ofNat k7),z15,z16,(Oz (zI x2) (zI (Aj .i64 (Int.add x3 (1:Int)))) k5 e3 r1),(TW k5 r1)),hm,(.k [3] [false,false] [.tmp 1 false,.tmp 3 false] [1,3,4,6,12,13,14,18,19,20] ⟨BB h20,trivial⟩)⟩
      ·refine Dn (nt (Bd z10 x1)) h14 ?_
       refine .skip ?_
       exact⟨(s5,z10,s6,z11,z12,s7,z13,(Int.ofNat k7),z15,z16,e3,k5),hm,(.k [3] [false,false] [.tmp 1 false,.tmp 3 false] [1,3,4,6,12,13,14,18,19,20] ⟨BB h8,trivial⟩)⟩
    ·refine Dn (AY z14 z13) h9 ?_
     refine .exit ?_
     exact⟨(s5,s6,z11,z12,z15,z16,e3,k5),hm,(.k [3] [false,false] [.tmp 1 false,.tmp 3 false] [1,3,4,12,13,14] ⟨BB h8,trivial⟩)⟩
  ·refine Dn (AY z3 z2) h3 ?_
   refine .exit ?_
   exact⟨(e1,k2),hm,(.k [3] [false,false] [.tmp 3 false] [3] ⟨BB h2,trivial⟩)⟩
theorem Aci {call:A8} (pu:Af) (n:Nat) (hcall:call=Bb tabs isP pu (inl pu)) {args:LV} {os:List AJ} {z:Value} (ha:args.length=1) (hk:os.length=0) (hpl:∀ o∈os,plainO o) (hm:Kc pu n (args++os.map Ef)=some z):args.length≤38∧BN tt call (tabs.length+0) KS (Fr.made 38 args) (BK tabs os) (FJ tt tabs.length 0 [.tmp 2] z):=by
 subst hcall
 have hq:=BO ha;clear ha;obtain⟨a0,args,rfl,ha⟩:=hq
 obtain rfl:=len_nil ha
 obtain rfl:=len_nil hk
 replace hm:Kc pu n [a0]=some z:=hm
 unfold Kc at hm
 replace hm:(oo (Bt a0) none fun l0=>(ll l0 none fun v0 l0=>(ll l0 none fun v1 l0=>(ll l0 (oo (Bi .i64 v0) none fun x0=>(oo (Bi .u32 v1) none fun x1=>(Jj pu n x0 x1))) fun _ _=>none))))=some z:=hm
 replace hm:=BG hm;obtain⟨l0,rfl,hm⟩:=hm
 replace hm:=Ad hm;obtain⟨v0,l115196_0,rfl,hm⟩:=hm
 replace hm:=Ad hm;obtain⟨v1,l115196_1,rfl,hm⟩:=hm
 replace hm:=AC hm;obtain⟨rfl,hm⟩:=hm
 replace hm:=Ai hm;obtain⟨x0,rfl,hm⟩:=hm
 replace hm:=Ai hm;obtain⟨x1,rfl,hm⟩:=hm
 refine⟨by simp,?_⟩
 exact .same (F':=(fr 38 [(0,(.agg ⟨[zI x0,.int .u32 x1]⟩))])) (H':=(hT 2 [(.cells Ay true false [])])) (by kernel_rfl) (by kernel_rfl) (Ach pu n x0 x1 hm)
end
end Go.TpFM
set_option maxRecDepth 100000
set_option maxHeartbeats 20000000
set_option linter.unusedVariables false
namespace Go.TpFM
open Go.Sp Go.TpF
noncomputable section
def O8 (pu:Af) (n:Nat) (ih0:Int→Nat→Nat→Nat→Nat→List EO→Nat→LV→LV→Nat→List Nat→Nat→OV) (z0:Int) (n0 c0 n1 c1:Nat) (e0:List EO) (k1:Nat) (q0:LV) (q1:LV) (k2:Nat) (l0:List Nat) (k3:Nat):OV:=
 (bb (Au (fun e=>Nat.blt (EO.born e) k2) e0) (bb (Nat.ble k2 k3) (XN e0 l0 (bb (Au F4 e0) (bb (Au Ah q0) (bb (Au Ah q1) (some (.tuple ⟨[(.tuple ⟨[]⟩),(.agg ⟨[.int .i64 z0,(.slice (some ⟨4,0,some 4⟩) n0 c0),(.slice (some ⟨5,0,some 1⟩) n1 c1)]⟩),(Ef (.map e0 k1)),(.agg ⟨q0⟩),(.agg ⟨q1⟩)]⟩)) none) none) none) (fun e1:EO=>(bb (Au F4 e0) (bb (Au Ah q0) (bb (Au Ah q1) (oo (XL e0 k1 (Br l0 [(EO.born e1)]) k1) none fun v0=>(oo (CQ v0) none fun l1=>(ll l1 none fun v1 l1=>(ll l1 none fun v2 l1=>(ll l1 (oo (Bi .i64 v1) none fun x0=>(oo (Bf v2) none fun b0=>(bb b0 (oo (EA x0) none fun k4=>(bb (an (Nat.blt k4 n1) true) (oo (AL q1 (0+k4*1)) none fun v3=>(oo (Bi .i64 v3) none fun x1=>(bb (an (Nat.blt k4 n1) true) (bb (an (Nat.ble ((0+k4*1)+1) (len q1)) true) (bb (Au Ah (BM ([(.int .i64 (Aj .i64 (Int.add x1 (1:Int))))]:LV) (0+k4*1) q1)) (ih0 z0 n0 c0 n1 c1 e0 k1 q0 (BM ([(.int .i64 (Aj .i64 (Int.add x1 (1:Int))))]:LV) (0+k4*1) q1) k2 (Br l0 [(EO.born e1)]) k1) none) none) none))) none)) (oo (EA x0) none fun k5=>(bb (an (Nat.blt k5 n1) true) (oo (AL q1 (0+k5*1)) none fun v4=>(oo (Bi .i64 v4) none fun x2=>(bb (an (Nat.blt k5 n1) true) (bb (an (Nat.ble ((0+k5*1)+1) (len q1)) true) (bb (Au Ah (BM ([(.int .i64 (Aj .i64 (Int.sub x2 (1:Int))))]:LV) (0+k5*1) q1)) (ih0 z0 n0 c0 n1 c1 e0 k1 q0 (BM ([(.int .i64 (Aj .i64 (Int.sub x2 (1:Int))))]:LV) (0+k5*1) q1) k2 (Br l0 [(EO.born e1)]) k1) none) none) none))) none))))) fun _ _=>none))))) none) none) none))) none) none)
def O9 (pu:Af) (n w:Nat):Int→Nat→Nat→Nat→Nat→List EO→Nat→LV→LV→Nat→List Nat→Nat→OV:=
 Nat.rec (motive:=fun _=>Int→Nat→Nat→Nat→Nat→List EO→Nat→LV→LV→Nat→List Nat→Nat→OV) (fun _ _ _ _ _ _ _ _ _ _ _ _=>none) (fun _ ih0=>O8 pu n ih0) w
def Ov (pu:Af) (n:Nat) (z0:Int) (n0 c0 n1 c1:Nat) (e0:List EO) (k1:Nat) (q0:LV) (q1:LV):OV:=
 (bb (Au F4 e0) (bb (Au Ah q0) (bb (Au Ah q1) (O9 pu n n z0 n0 c0 n1 c1 e0 k1 q0 q1 k1 ([]:List Nat) k1) none) none) none)
def Pb (pu:Af) (n:Nat) (args:LV):OV:=
 (ll args none fun a0 args=>(ll args none fun a1 args=>(ll args none fun o0 args=>(ll args none fun o1 args=>(ll args none fun o2 args=>(ll args none fun o3 args=>(ll args (bb (dY a0 2 0) (bb (WA a1 3) (oo (Bt o0) none fun l0=>(ll l0 none fun v0 l0=>(ll l0 none fun v1 l0=>(ll l0 none fun v2 l0=>(ll l0 (oo (Bi .i64 v0) none fun x0=>(oo (LZ 4 0 4 v1) none fun y0=>(oo (LZ 5 0 1 v2) none fun y1=>(oo (Fj o1) none fun y2=>(oo (Bt o2) none fun q0=>(oo (Bt o3) none fun q1=>(Ov pu n x0 (NC.n y0) (NC.c y0) (NC.n y1) (NC.c y1) (Akd.es y2) (Akd.clock y2) q0 q1))))))) fun _ _=>none))))) none) none) fun _ _=>none)))))))
theorem Acj (pu:Af) (n:Nat) (z0:Int) (n0 c0 n1 c1:Nat) (e0:List EO) (k1:Nat) (q0:LV) (q1:LV) {v:Value} (hm:Ov pu n z0 n0 c0 n1 c1 e0 k1 q0 q1=some v):BN tt (Bb tabs isP pu (inl pu)) 6 KT (fr 32 [(0,(pt 2 0)),(1,(.map (some 3)))]) (hT 6 [(.cells Ay true false []),(oC [zI z0,sc 4 0 4 n0 c0,sc 5 0 1 n1 c1]),(.map e0 k1),oC q0,oC q1]) (FJ tt 2 4 [] v):=by
 unfold Ov at hm
 refine .then (.rK ?_)
 replace hm:=Ae hm;obtain⟨h0,hm⟩:=hm
 replace hm:=Ae hm;obtain⟨h1,hm⟩:=hm
 replace hm:=Ae hm;obtain⟨h2,hm⟩:=hm
 refine .ghs (fr 32 [(0,(pt 2 0)),(7,(pt 6 0))]) (hT 7 [(.cells Ay true false []),(oC [zI z0,sc 4 0 4 n0 c0,sc 5 0 1 n1 c1]),(.map e0 k1),oC q0,oC q1,(.iter (some 3) k1 ([]:List Nat) k1)]) (.k [3,4,5] [false,false,true,false,false,false] [.tmp 7 false] [0,7] ⟨BB h0,BB h1,BB h2,trivial⟩) ?_
 refine .block (.loopM (v:=v) (fun y:Int×Nat×Nat×Nat×Nat×List EO×Nat×LV×LV×Nat×List Nat×Nat=>((fr 32 [(0,(pt 2 0)),(7,(pt 6 0))]),(hT 7 [(.cells Ay true false []),(oC [(zI y.1),(sc 4 0 4 y.2.1 y.2.2.1),(sc 5 0 1 y.2.2.2.1 y.2.2.2.2.1)]),(.map y.2.2.2.2.2.1 y.2.2.2.2.2.2.1),(oC y.2.2.2.2.2.2.2.1),(oC y.2.2.2.2.2.2.2.2.1),(.iter (some 3) y.2.2.2.2.2.2.2.2.2.1 y.2.2.2.2.2.2.2.2.2.2.1 y.2.2.2.2.2.2.2.2.2.2.2)]))) (fun w y=>O9 pu n w y.1 y.2.1 y.2.2.1 y.2.2.2.1 y.2.2.2.2.1 y.2.2.2.2.2.1 y.2.2.2.2.2.2.1 y.2.2.2.2.2.2.2.1 y.2.2.2.2.2.2.2.2.1 y.2.2.2.2.2.2.2.2.2.1 y.2.2.2.2.2.2.2.2.2.2.1 y.2.2.2.2.2.2.2.2.2.2.2) n ⟨(z0,n0,c0,n1,c1,e0,k1,q0,q1,k1,([]:List Nat),k1),hm,(.k [3,4,5] [false,false,true,false,false,false] [.tmp 7 false] [0,7] ⟨BB h0,BB h1,BB h2,trivial⟩)⟩ (fun _=>rfl) ?_)
 rintro w0 ⟨z1,n2,c2,n3,c3,e1,k2,q2,q3,k3,l0,k4⟩ hm
 replace hm:O8 pu n (O9 pu n w0) z1 n2 c2 n3 c3 e1 k2 q2 q3 k3 l0 k4=some v:=hm
 unfold O8 at hm
 refine .then ?_
 replace hm:=Ae hm;obtain⟨h3,hm⟩:=hm
 replace hm:=Ae hm;obtain⟨h4,hm⟩:=hm
 refine .nextK (id:=6) (mid:=3) (since:=k3) (st:=k4) (clock:=k2) (seen:=l0) (es:=e1) (d:=some 8) (x:=(tp 7)) (ty:=0) (os:=[EM 9 8 0 4]) (by kernel_rfl) (by kernel_rfl) (by kernel_rfl) (by kernel_rfl) h3 h4 (by kernel_rfl) (fun _=>by kernel_rfl) (fun h5=>?_) (fun e2 h6=>?_)
 ·replace hm:=yD hm h5
  replace hm:=Ae hm;obtain⟨h7,hm⟩:=hm
  replace hm:=Ae hm;obtain⟨h8,hm⟩:=hm
  replace hm:=Ae hm;obtain⟨h9,hm⟩:=hm
  refine .ghs (fr 32 [(0,(pt 2 0)),(7,(pt 6 0)),(9,zB false)]) (hT 7 [(.cells Ay true false []),(oC [zI z1,sc 4 0 4 n2 c2,sc 5 0 1 n3 c3]),(.map e1 k2),oC q2,oC q3,(.iter (some 3) k3 l0 k4)]) (.k [3,4,5] [false,false,true,false,false,false] [.tmp 7 false] [0,7,9] ⟨BB h7,BB h8,BB h9,trivial⟩) ?_
  refine .then (.condF (by kernel_rfl) ?_)
  refine .exit ?_
  refine .ghs (fr 32 []) (hT 6 [(.cells Ay true false []),(oC [zI z1,sc 4 0 4 n2 c2,sc 5 0 1 n3 c3]),(.map e1 k2),oC q2,oC q3]) (.k [3,4,5] [false,false,true,false,false,false] [] [] ⟨BB h7,BB h8,BB h9,trivial⟩) ?_
  exact OA (.tuple ⟨[]⟩) [(oC [zI z1,sc 4 0 4 n2 c2,sc 5 0 1 n3 c3]),(.map e1 k2),oC q2,oC q3] (by kernel_rfl) hm (Nat.le_of_ble_eq_true rfl) (FL (Wz _) (FL (AgD _ _) (FL (Wz _) (FL (Wz _) Gq))))
 ·replace hm:=yE hm h6
  replace hm:=Ae hm;obtain⟨h10,hm⟩:=hm
  replace hm:=Ae hm;obtain⟨h11,hm⟩:=hm
  replace hm:=Ae hm;obtain⟨h12,hm⟩:=hm
  refine .ghs (fr 32 [(0,(pt 2 0)),(7,(pt 6 0)),(9,zB true)]) (hT 7 [(.cells Ay true false []),(oC [zI z1,sc 4 0 4 n2 c2,sc 5 0 1 n3 c3]),(.map e1 k2),oC q2,oC q3,(.iter (some 3) k3 (Br l0 [(EO.born e2)]) k2)]) (.k [3,4,5] [false,false,true,false,false,false] [.tmp 7 false] [0,7,9] ⟨BB h10,BB h11,BB h12,trivial⟩) ?_
  refine .then (.condT (by kernel_rfl) ?_)
  refine .skip (.ghs (fr 32 [(0,(pt 2 0)),(7,(pt 6 0))]) (hT 7 [(.cells Ay true false []),(oC [zI z1,sc 4 0 4 n2 c2,sc 5 0 1 n3 c3]),(.map e1 k2),oC q2,oC q3,(.iter (some 3) k3 (Br l0 [(EO.born e2)]) k2)]) (.k [3,4,5] [false,false,true,false,false,false] [.tmp 7 false] [0,7] ⟨BB h10,BB h11,BB h12,trivial⟩) ?_)
  refine .block (.then ?_)
  replace hm:=Ab hm;obtain⟨v0,h13,hm⟩:=hm
  replace hm:=Ch hm;obtain⟨l1,rfl,hm⟩:=hm
  replace hm:=Ad hm;obtain⟨v1,l115739_0,rfl,hm⟩:=hm
  replace hm:=Ad hm;obtain⟨v2,l115739_1,rfl,hm⟩:=hm
  replace hm:=AC hm;obtain⟨rfl,hm⟩:=hm
  replace hm:=Ai hm;obtain⟨x0,rfl,hm⟩:=hm
  replace hm:=Be hm;obtain⟨b0,rfl,hm⟩:=hm
  refine .reg (eD (keep (hT 7 [(.cells Ay true false []),(oC [zI z1,sc 4 0 4 n2 c2,sc 5 0 1 n3 c3]),(.map e1 k2),oC q2,oC q3,(.iter (some 3) k3 (Br l0 [(EO.born e2)]) k2)]) (XL e1 k2 (Br l0 [(EO.born e2)]) k2)) (AZ h13) (eE)) ?_
  refine .ghs (fr 32 [(0,(pt 2 0)),(4,zI x0),(5,zB b0),(7,(pt 6 0))]) (hT 7 [(.cells Ay true false []),(oC [zI z1,sc 4 0 4 n2 c2,sc 5 0 1 n3 c3]),(.map e1 k2),oC q2,oC q3,(.iter (some 3) k3 (Br l0 [(EO.born e2)]) k2)]) (.k [3,4,5] [false,false,true,false,false,false] [.tmp 7 false] [0,4,5,7] ⟨BB h10,BB h11,BB h12,trivial⟩) ?_
  refine .then (.rK (.ghs (fr 32 [(0,(pt 2 0)),(4,zI x0),(7,(pt 6 0)),(13,zB b0)]) (hT 7 [(.cells Ay true false []),(oC [zI z1,sc 4 0 4 n2 c2,sc 5 0 1 n3 c3]),(.map e1 k2),oC q2,oC q3,(.iter (some 3) k3 (Br l0 [(EO.born e2)]) k2)]) (.k [3,4,5] [false,false,true,false,false,false] [.tmp 7 false] [0,4,7,13] ⟨BB h10,BB h11,BB h12,trivial⟩) ?_))
  replace hm:=Ag hm;rcases hm with⟨h14,hm⟩ | ⟨h14,hm⟩
  ·refine .ifT b0 (by kernel_rfl) h14 ?_
   replace hm:=Ab hm;obtain⟨k5,h15,hm⟩:=hm
   obtain rfl:=AR h15
   replace hm:=Ae hm;obtain⟨h17,hm⟩:=hm
   replace hm:=K6 hm;obtain⟨x1,h18,hm⟩:=hm
   replace hm:=Ae hm;obtain⟨h19,hm⟩:=hm
   replace hm:=Ae hm;obtain⟨h20,hm⟩:=hm
   refine .reg (eC 5 (keep (hT 7 [(.cells Ay true false []),(oC [zI z1,sc 4 0 4 n2 c2,sc 5 0 1 n3 c3]),(.map e1 k2),oC q2,oC q3,(.iter (some 3) k3 (Br l0 [(EO.born e2)]) k2)]) (bb (an (Nat.blt k5 n3) true) (some (.pointer (some ⟨5,(0+k5*1),none⟩))) none)) (AX h17) (eD (keep (hT 7 [(.cells Ay true false []),(oC [zI z1,sc 4 0 4 n2 c2,sc 5 0 1 n3 c3]),(.map e1 k2),oC q2,oC q3,(.iter (some 3) k3 (Br l0 [(EO.born e2)]) k2)]) (AL q3 (0+k5*1))) (AZ h18) (eC 1 (keep (hT 7 [(.cells Ay true false []),(oC [zI z1,sc 4 0 4 n2 c2,sc 5 0 1 n3 c3]),(.map e1 k2),oC q2,oC q3,(.iter (some 3) k3 (Br l0 [(EO.born e2)]) k2)]) (bb (an (Nat.blt k5 n3) true) (some (.pointer (some ⟨5,(0+k5*1),none⟩))) none)) (AX h19) (eD (done (bb (an (Nat.ble ((0+k5*1)+1) (len q3)) true) (some (hT 7 [(.cells Ay true false []),(oC [zI z1,sc 4 0 4 n2 c2,sc 5 0 1 n3 c3]),(.map e1 k2),oC q2,(oC (BM ([(zI (Aj .i64 (Int.add x1 (1:Int))))]:LV) (0+k5*1) q3)),(.iter (some 3) k3 (Br l0 [(EO.born e2)]) k2)])) none) undef) (Js h20) (eE))))) ?_
   replace hm:=Ae hm;obtain⟨h21,hm⟩:=hm
   exact⟨(z1,n2,c2,n3,c3,e1,k2,q2,(BM ([(zI (Aj .i64 (Int.add x1 (1:Int))))]:LV) (0+k5*1) q3),k3,(Br l0 [(EO.born e2)]),k2),hm,(.k [3,4,5] [false,false,true,false,false,false] [.tmp 7 false] [0,7] ⟨BB h10,BB h11,BB h21,trivial⟩)⟩
  ·refine .ifF b0 (by kernel_rfl) h14 ?_
   replace hm:=Ab hm;obtain⟨k6,h22,hm⟩:=hm
   obtain rfl:=AR h22
   replace hm:=Ae hm;obtain⟨h23,hm⟩:=hm
   replace hm:=K6 hm;obtain⟨x2,h24,hm⟩:=hm
   replace hm:=Ae hm;obtain⟨h25,hm⟩:=hm
   replace hm:=Ae hm;obtain⟨h26,hm⟩:=hm
   refine .reg (eC 5 (keep (hT 7 [(.cells Ay true false []),(oC [zI z1,sc 4 0 4 n2 c2,sc 5 0 1 n3 c3]),(.map e1 k2),oC q2,oC q3,(.iter (some 3) k3 (Br l0 [(EO.born e2)]) k2)]) (bb (an (Nat.blt k6 n3) true) (some (.pointer (some ⟨5,(0+k6*1),none⟩))) none)) (AX h23) (eD (keep (hT 7 [(.cells Ay true false []),(oC [zI z1,sc 4 0 4 n2 c2,sc 5 0 1 n3 c3]),(.map e1 k2),oC q2,oC q3,(.iter (some 3) k3 (Br l0 [(EO.born e2)]) k2)]) (AL q3 (0+k6*1))) (AZ h24) (eC 1 (keep (hT 7 [(.cells Ay true false []),(oC [zI z1,sc 4 0 4 n2 c2,sc 5 0 1 n3 c3]),(.map e1 k2),oC q2,oC q3,(.iter (some 3) k3 (Br l0 [(EO.born e2)]) k2)]) (bb (an (Nat.blt k6 n3) true) (some (.pointer (some ⟨5,(0+k6*1),none⟩))) none)) (AX h25) (eD (done (bb (an (Nat.ble ((0+k6*1)+1) (len q3)) true) (some (hT 7 [(.cells Ay true false []),(oC [zI z1,sc 4 0 4 n2 c2,sc 5 0 1 n3 c3]),(.map e1 k2),oC q2,(oC (BM ([(zI (Aj .i64 (Int.sub x2 (1:Int))))]:LV) (0+k6*1) q3)),(.iter (some 3) k3 (Br l0 [(EO.born e2)]) k2)])) none) undef) (Js h26) (eE))))) ?_
   replace hm:=Ae hm;obtain⟨h27,hm⟩:=hm
   exact⟨(z1,n2,c2,n3,c3,e1,k2,q2,(BM ([(zI (Aj .i64 (Int.sub x2 (1:Int))))]:LV) (0+k6*1) q3),k3,(Br l0 [(EO.born e2)]),k2),hm,(.k [3,4,5] [false,false,true,false,false,false] [.tmp 7 false] [0,7] ⟨BB h10,BB h11,BB h27,trivial⟩)⟩
theorem Ack {call:A8} (pu:Af) (n:Nat) (hcall:call=Bb tabs isP pu (inl pu)) {args:LV} {os:List AJ} {z:Value} (ha:args.length=2) (hk:os.length=4) (hpl:∀ o∈os,plainO o) (hm:Pb pu n (args++os.map Ef)=some z):args.length≤32∧BN tt call (tabs.length+4) KT (Fr.made 32 args) (BK tabs os) (FJ tt tabs.length 4 [] z):=by
 subst hcall
 have hq:=BO ha;clear ha;obtain⟨a0,args,rfl,ha⟩:=hq
 have hq:=BO ha;clear ha;obtain⟨a1,args,rfl,ha⟩:=hq
 obtain rfl:=len_nil ha
 have hq:=BO hk;clear hk;obtain⟨b0,os,rfl,hk⟩:=hq
 have hp0:plainO b0:=hpl b0 (by simp)
 have hq:=BO hk;clear hk;obtain⟨b1,os,rfl,hk⟩:=hq
 have hp1:plainO b1:=hpl b1 (by simp)
 have hq:=BO hk;clear hk;obtain⟨b2,os,rfl,hk⟩:=hq
 have hp2:plainO b2:=hpl b2 (by simp)
 have hq:=BO hk;clear hk;obtain⟨b3,os,rfl,hk⟩:=hq
 have hp3:plainO b3:=hpl b3 (by simp)
 obtain rfl:=len_nil hk
 replace hm:Pb pu n [a0,a1,Ef b0,Ef b1,Ef b2,Ef b3]=some z:=hm
 unfold Pb at hm
 replace hm:(bb (dY a0 2 0) (bb (WA a1 3) (oo (Bt (Ef b0)) none fun l0=>(ll l0 none fun v0 l0=>(ll l0 none fun v1 l0=>(ll l0 none fun v2 l0=>(ll l0 (oo (Bi .i64 v0) none fun x0=>(oo (LZ 4 0 4 v1) none fun y0=>(oo (LZ 5 0 1 v2) none fun y1=>(oo (Fj (Ef b1)) none fun y2=>(oo (Bt (Ef b2)) none fun q0=>(oo (Bt (Ef b3)) none fun q1=>(Ov pu n x0 (NC.n y0) (NC.c y0) (NC.n y1) (NC.c y1) (Akd.es y2) (Akd.clock y2) q0 q1))))))) fun _ _=>none))))) none) none)=some z:=hm
 replace hm:=Ae hm;obtain⟨h0,hm⟩:=hm
 obtain rfl:=dZ h0
 replace hm:=Ae hm;obtain⟨h1,hm⟩:=hm
 obtain rfl:=QE h1
 replace hm:=Ab hm;obtain⟨l0,h2,hm⟩:=hm
 obtain rfl:=HY hp0 h2
 replace hm:=Ad hm;obtain⟨v0,l115788_0,rfl,hm⟩:=hm
 replace hm:=Ad hm;obtain⟨v1,l115788_1,rfl,hm⟩:=hm
 replace hm:=Ad hm;obtain⟨v2,l115788_2,rfl,hm⟩:=hm
 replace hm:=AC hm;obtain⟨rfl,hm⟩:=hm
 replace hm:=Ai hm;obtain⟨x0,rfl,hm⟩:=hm
 replace hm:=Ab hm;obtain⟨y0,h3,hm⟩:=hm
 obtain rfl:=Iq h3
 replace hm:=Ab hm;obtain⟨y1,h4,hm⟩:=hm
 obtain rfl:=Iq h4
 replace hm:=Ab hm;obtain⟨y2,h5,hm⟩:=hm
 obtain rfl:=Wy hp1 h5
 replace hm:=Ab hm;obtain⟨q0,h6,hm⟩:=hm
 obtain rfl:=HY hp2 h6
 replace hm:=Ab hm;obtain⟨q1,h7,hm⟩:=hm
 obtain rfl:=HY hp3 h7
 refine⟨by simp,?_⟩
 exact .same (F':=(fr 32 [(0,(pt 2 0)),(1,(.map (some 3)))])) (H':=(hT 6 [(.cells Ay true false []),(oC [zI x0,(sc 4 0 4 (NC.n y0) (NC.c y0)),(sc 5 0 1 (NC.n y1) (NC.c y1))]),(.map (Akd.es y2) (Akd.clock y2)),oC q0,oC q1])) (by kernel_rfl) (by kernel_rfl) (Acj pu n x0 (NC.n y0) (NC.c y0) (NC.n y1) (NC.c y1) (Akd.es y2) (Akd.clock y2) q0 q1 hm)
end
end Go.TpFM
set_option maxRecDepth 100000
namespace Go.TpFM
open Go.Sp Go.TpF
noncomputable section
def L:Nat:=10000
def Sk (pu:Af):Af:=fun g args=>
 bb (Nat.beq g 9) (m9 pu L args) (bb (Nat.beq g 16) (m16 pu L args) (bb (Nat.beq g 18) (m18 pu L args) (bb (Nat.beq g 40) (m40 pu L args) (bb (Nat.beq g 41) (m41 pu L args) (bb (Nat.beq g 42) (m42 pu L args) (bb (Nat.beq g 43) (m43 pu L args) (bb (Nat.beq g 54) (m54 pu L args) (bb (Nat.beq g 56) (m56 pu L args) (bb (Nat.beq g 57) (m57 pu L args) (bb (Nat.beq g 61) (m61 pu L args) (bb (Nat.beq g 76) (m76 pu L args) (bb (Nat.beq g 82) (m82 pu L args) (bb (Nat.beq g 99) (m99 pu L args) (bb (Nat.beq g 100) (rO pu L args) (bb (Nat.beq g 101) (rP pu L args) (bb (Nat.beq g 102) (rQ pu L args) (bb (Nat.beq g 114) (rR pu L args) (bb (Nat.beq g 115) (rT pu L args) (bb (Nat.beq g 116) (WJ pu L args) (bb (Nat.beq g 119) (WK pu L args) (bb (Nat.beq g 121) (WL pu L args) (bb (Nat.beq g 125) (rU pu L args) (bb (Nat.beq g 136) (rV pu L args) (bb (Nat.beq g 137) (rW pu L args) (bb (Nat.beq g 169) (WM pu L args) (bb (Nat.beq g 176) (rX pu L args) (bb (Nat.beq g 10440) (OT pu L args) (bb (Nat.beq g 11030) (OX pu L args) (bb (Nat.beq g 11490) (O3 pu L args) (bb (Nat.beq g 10220) (O7 pu L args) (bb (Nat.beq g 11700) (Kc pu L args) (bb (Nat.beq g 12520) (Pb pu L args) (bb (Nat.beq g 165) (R5 args) (bb (Nat.beq g 204) (R6 args) (bb (Nat.beq g 24) (V5 args) (none))))))))))))))))))))))))))))))))))))
def Jf:Nat→Af:=fun n=>Nat.rec (motive:=fun _=>Af) (fun _ _=>none) (fun _ ih=>Sk ih) n
end
end Go.TpFM
