/- Made from wip. -/
import Derived.Test.YtenlanbdolnhhaaDoorRgQMod0x
import Derived.Test.YtenlanbdolnhhaaDoorRgQMod1
import Derived.Test.YtenlanbdolnhhaaDoorRgQMod2
import Derived.Test.YtenlanbdolnhhaaDoorRgQMod3
import Derived.Test.YtenlanbdolnhhaaDoorRgQMod4
import Derived.Test.YtenlanbdolnhhaaDoorRgQMod5

set_option maxRecDepth 100000
set_option maxHeartbeats 20000000
set_option linter.unusedVariables false
namespace Go.RgQM
open Go.Sp Go.RgQ
noncomputable section
def Jj (pu:Af) (n:Nat) (s0:Sl) (n0 c0:Nat) (q0:LV):OV:=
 (bb (Au Ah q0) (some (.tuple ⟨[(.bool true),(.agg ⟨[Sl.v 1 s0]⟩),(.agg ⟨[(.slice (some ⟨4,0,some 2⟩) n0 c0)]⟩),EP,(.agg ⟨q0⟩)]⟩)) none)
def Jv (pu:Af) (n:Nat) (ih0:Int→Int→Sl→Nat→Nat→Int→Int→LV→OV) (z1 z2:Int) (b0:Bool) (s0:Sl) (n0 c0:Nat) (z3 z4:Int) (q0:LV):OV:=
 (bb b0 (bb (Au Ah q0) (some (.tuple ⟨[(.bool false),(.agg ⟨[Sl.v 1 s0]⟩),(.agg ⟨[(.slice (some ⟨4,0,some 2⟩) n0 c0)]⟩),EP,(.agg ⟨q0⟩)]⟩)) none) (bb (Au Ah q0) (ih0 z1 (Aj .i64 (Int.add z2 (1:Int))) s0 n0 c0 z3 z4 q0) none))
def Iy (pu:Af) (n:Nat) (ih0:Int→Int→Sl→Nat→Nat→Int→Int→LV→OV) (z1 z2:Int) (s0:Sl) (n0 c0:Nat) (z3 z4:Int) (q0:LV):OV:=
 (bb (Au Ah q0) (bb (nt (AY z3 (Aj .i64 (Int.add z2 z1)))) (oo (EA z2) none fun k1=>(oo (pu 10160 [(.agg ⟨[.int .i64 z3,(.int .u32 (jF .u32 z4 (QW .u32 (1:Int) k1)))]⟩),(.pointer (some ⟨1,0,none⟩)),(.agg ⟨[Sl.v 1 s0]⟩)]) none fun v0=>(oo (CQ v0) none fun l0=>(ll l0 none fun v1 l0=>(ll l0 none fun v2 l0=>(ll l0 (oo (Bf v1) none fun b0=>(oo (Bt v2) none fun l1=>(ll l1 none fun v3 l1=>(ll l1 (oo (Bj 1 v3) none fun s1=>(bb b0 (bb (Dp (Nat.ble 2 c0) (MQ q0)) (bb (Au Ah q0) (oo (pu 10180 [(.agg ⟨[.int .i64 z3,(.int .u32 (jF .u32 z4 (QW .u32 (1:Int) k1)))]⟩),(.int .i64 (Aj .i64 (Int.add (Int.ofNat k1) (1:Int)))),(.int .i64 (Aj .i64 (Int.sub z1 (1:Int)))),(.func (.func 16) ⟨[]⟩ ⟨[(.pointer (some ⟨1,0,none⟩))]⟩),(.func (.func 19) ⟨[]⟩ ⟨[(.pointer (some ⟨1,0,none⟩)),(.pointer (some ⟨2,0,none⟩))]⟩),(.agg ⟨[Sl.v 1 s1]⟩),(.agg ⟨[(.slice (some ⟨3,0,some 2⟩) n0 c0)]⟩),(.agg ⟨q0⟩)]) none fun v4=>(oo (CQ v4) none fun l2=>(ll l2 none fun v5 l2=>(ll l2 none fun v6 l2=>(ll l2 none fun v7 l2=>(ll l2 none fun v8 l2=>(ll l2 none fun v9 l2=>(ll l2 (oo (Bf v5) none fun b1=>(oo (Bt v6) none fun l3=>(ll l3 none fun v10 l3=>(ll l3 (oo (Bj 1 v10) none fun s2=>(oo (Bt v7) none fun l4=>(ll l4 none fun v11 l4=>(ll l4 (oo (KP 4 0 2 v11) none fun y0=>(bb (Nq v8) (oo (Bt v9) none fun q1=>(bb (Au Ah q1) (bb (Au Ah q1) (Jv pu n ih0 z1 (Int.ofNat k1) (nt b1) s2 (NC.n y0) (NC.c y0) z3 z4 q1) none) none)) none)) fun _ _=>none)))) fun _ _=>none)))) fun _ _=>none)))))))) none) none) (Jv pu n ih0 z1 (Int.ofNat k1) false s1 n0 c0 z3 z4 q0))) fun _ _=>none)))) fun _ _=>none)))))) (Jj pu n s0 n0 c0 q0)) none)
def Gv (pu:Af) (n w:Nat):Int→Int→Sl→Nat→Nat→Int→Int→LV→OV:=
 Nat.rec (motive:=fun _=>Int→Int→Sl→Nat→Nat→Int→Int→LV→OV) (fun _ _ _ _ _ _ _ _=>none) (fun _ ih0=>Iy pu n ih0) w
def Jb (pu:Af) (n:Nat) (z1 z2 z3 z4:Int) (s0:Sl) (n0 c0:Nat) (q0:LV):OV:=
 (bb (Au Ah q0) (bb (Bd z4 (0:Int)) (bb (Dp (Nat.ble 2 c0) (MQ q0)) (bb (Au Ah q0) (oo (pu 10190 [(.agg ⟨[.int .i64 z1,.int .u32 z2]⟩),(.pointer (some ⟨1,0,none⟩)),(.pointer (some ⟨2,0,none⟩)),(.agg ⟨[Sl.v 1 s0]⟩),(.agg ⟨[(.slice (some ⟨3,0,some 2⟩) n0 c0)]⟩),(.agg ⟨q0⟩)]) none fun v0=>(oo (CQ v0) none fun l0=>(ll l0 none fun v1 l0=>(ll l0 none fun v2 l0=>(ll l0 none fun v3 l0=>(ll l0 none fun v4 l0=>(ll l0 none fun v5 l0=>(ll l0 (oo (Bf v1) none fun b0=>(oo (Bt v2) none fun l1=>(ll l1 none fun v6 l1=>(ll l1 (oo (Bj 1 v6) none fun s1=>(oo (Bt v3) none fun l2=>(ll l2 none fun v7 l2=>(ll l2 (oo (KP 4 0 2 v7) none fun y0=>(bb (Nq v4) (oo (Bt v5) none fun q1=>(bb (Au Ah q1) (bb (Au Ah q1) (some (.tuple ⟨[(.bool b0),(.agg ⟨[Sl.v 1 s1]⟩),(.agg ⟨[(.slice (some ⟨4,0,some 2⟩) (NC.n y0) (NC.c y0))]⟩),EP,(.agg ⟨q1⟩)]⟩)) none) none)) none)) fun _ _=>none)))) fun _ _=>none)))) fun _ _=>none)))))))) none) none) (Gv pu n n z4 z3 s0 n0 c0 z1 z2 q0)) none)
def Ng (pu:Af) (n:Nat) (args:LV):OV:=
 (ll args none fun a0 args=>(ll args none fun a1 args=>(ll args none fun a2 args=>(ll args none fun a3 args=>(ll args none fun a4 args=>(ll args none fun o0 args=>(ll args none fun o1 args=>(ll args none fun o2 args=>(ll args (oo (Bt a0) none fun l0=>(ll l0 none fun v0 l0=>(ll l0 none fun v1 l0=>(ll l0 (oo (Bi .i64 v0) none fun x0=>(oo (Bi .u32 v1) none fun x1=>(oo (Bi .i64 a1) none fun x2=>(oo (Bi .i64 a2) none fun x3=>(oo (Om 16 0 a3) none fun l1=>(ll l1 none fun v2 l1=>(ll l1 (bb (MK v2 1 0) (oo (Om 19 0 a4) none fun l2=>(ll l2 none fun v3 l2=>(ll l2 none fun v4 l2=>(ll l2 (bb (MK v3 1 0) (bb (MK v4 2 0) (oo (Bt o0) none fun l3=>(ll l3 none fun v5 l3=>(ll l3 (oo (Bj 1 v5) none fun s0=>(oo (Bt o1) none fun l4=>(ll l4 none fun v6 l4=>(ll l4 (oo (KP 3 0 2 v6) none fun y0=>(oo (Bt o2) none fun q0=>(Jb pu n x0 x1 x2 x3 s0 (NC.n y0) (NC.c y0) q0))) fun _ _=>none)))) fun _ _=>none))) none) none) fun _ _=>none)))) none) fun _ _=>none))))))) fun _ _=>none)))) fun _ _=>none)))))))))
theorem ZH (pu:Af) (n:Nat) (s0:Sl) (n0 c0:Nat) (q0:LV) {v:Value} (hm:Jj pu n s0 n0 c0 q0=some v):BN tt (Bb tabs isP pu (inl pu)) 4 Yv (fr 48 []) (hT 5 [(oC [Sl.v 1 s0]),(oC [sc 4 0 2 n0 c0]),.dead,oC q0]) (FJ tt 1 3 [.tmp 10] v):=by
 unfold Jj at hm
 refine .then (.rK ?_)
 replace hm:=Ae hm;obtain⟨h0,hm⟩:=hm
 refine .ghs (fr 48 [(10,zB true)]) (hT 5 [(oC [Sl.v 1 s0]),(oC [sc 4 0 2 n0 c0]),.dead,oC q0]) (.k [4] [false,false,true,false] [.cell 2 0 false] [10] ⟨Cs h0,trivial⟩) ?_
 refine .ghs (fr 48 [(10,zB true)]) (hT 5 [(oC [Sl.v 1 s0]),(oC [sc 4 0 2 n0 c0]),.dead,oC q0]) (.k [4] [false,false,true,false] [.cell 2 0 false] [10] ⟨Cs h0,trivial⟩) ?_
 refine .ret ?_
 exact Gi (zB true) [(oC [Sl.v 1 s0]),(oC [sc 4 0 2 n0 c0]),.dead,oC q0] (by kernel_rfl) hm (Nat.le_of_ble_eq_true rfl) (Fa (VT _) (Fa (VT _) (Fa eG (Fa (VT _) EJ))))
theorem uP (pu:Af) (n:Nat) (z1 z2 z3 z4:Int) (s0:Sl) (n0 c0:Nat) (q0:LV) {v:Value} (hm:Jb pu n z1 z2 z3 z4 s0 n0 c0 q0=some v):BN tt (Bb tabs isP pu (inl pu)) 4 OW (fr 48 [(0,(.agg ⟨[zI z1,.int .u32 z2]⟩)),(1,zI z3),(2,zI z4),(3,(.func (.func 16) ⟨[]⟩ ⟨[pt 1 0]⟩)),(4,(.func (.func 19) ⟨[]⟩ ⟨[pt 1 0,(pt 2 0)]⟩))]) (hT 4 [(oC [Sl.v 1 s0]),(oC [sc 3 0 2 n0 c0]),oC q0]) (FJ tt 1 3 [.tmp 10] v):=by
 unfold Jb at hm
 refine .ghs (fr 48 [(0,(.agg ⟨[zI z1,.int .u32 z2]⟩)),(1,zI z3),(2,zI z4),(3,(.func (.func 16) ⟨[]⟩ ⟨[pt 1 0]⟩)),(4,(.func (.func 19) ⟨[]⟩ ⟨[pt 1 0,(pt 2 0)]⟩))]) (hT 5 [(oC [Sl.v 1 s0]),(oC [sc 4 0 2 n0 c0]),.dead,oC q0]) (.mv 4 2 0 3 0 2 n0 c0 [sc 3 0 2 n0 c0] q0 (spA:=false) (ancA:=[]) (ancB:=[]) (v:=(.func (.func 19) ⟨[]⟩ ⟨[pt 1 0,(pt 2 0)]⟩)) (by kernel_rfl) (Yx 1 (by kernel_rfl) (Qt (off:=0))) (E9.id _ _)) ?_
 refine .then (.rK ?_)
 replace hm:=Ae hm;obtain⟨h0,hm⟩:=hm
 refine .ghs (fr 48 [(1,zI z3),(2,zI z4),(3,(.func (.func 16) ⟨[]⟩ ⟨[pt 1 0]⟩)),(4,(.func (.func 19) ⟨[]⟩ ⟨[pt 1 0,(pt 2 0)]⟩)),(5,(pt 4 0))]) (hT 6 [(oC [Sl.v 1 s0]),(oC [sc 5 0 2 n0 c0]),.dead,(oC [zI z1,.int .u32 z2]),oC q0]) (.k [4] [false,false,true,false] [.tmp 5 false,.cell 2 0 false] [1,2,3,4,5] ⟨Cs h0,trivial⟩) ?_
 refine .then (.then (.rK (.ghs (fr 48 [(1,zI z3),(2,zI z4),(3,(.func (.func 16) ⟨[]⟩ ⟨[pt 1 0]⟩)),(4,(.func (.func 19) ⟨[]⟩ ⟨[pt 1 0,(pt 2 0)]⟩)),(5,(pt 4 0)),(14,(zB (Bd z4 (0:Int))))]) (hT 6 [(oC [Sl.v 1 s0]),(oC [sc 5 0 2 n0 c0]),.dead,(oC [zI z1,.int .u32 z2]),oC q0]) (.k [5] [false,false,true,false] [.tmp 5 false,.cell 2 0 false] [1,2,3,4,5,14] ⟨Cs h0,trivial⟩) ?_)))
 replace hm:=Ag hm;rcases hm with⟨h1,hm⟩ | ⟨h1,hm⟩
 ·refine DT (Bd z4 (0:Int)) h1 ?_
  refine .then ?_
  replace hm:=Ae hm;obtain⟨h2,hm⟩:=hm
  replace hm:=Ae hm;obtain⟨h3,hm⟩:=hm
  replace hm:=Ab hm;obtain⟨v0,h4,hm⟩:=hm
  replace hm:=Ch hm;obtain⟨l0,rfl,hm⟩:=hm
  replace hm:=Ad hm;obtain⟨v1,l3631_0,rfl,hm⟩:=hm
  replace hm:=Ad hm;obtain⟨v2,l3631_1,rfl,hm⟩:=hm
  replace hm:=Ad hm;obtain⟨v3,l3631_2,rfl,hm⟩:=hm
  replace hm:=Ad hm;obtain⟨v4,l3631_3,rfl,hm⟩:=hm
  replace hm:=Ad hm;obtain⟨v5,l3631_4,rfl,hm⟩:=hm
  replace hm:=AC hm;obtain⟨rfl,hm⟩:=hm
  replace hm:=Be hm;obtain⟨b0,rfl,hm⟩:=hm
  replace hm:=BG hm;obtain⟨l1,rfl,hm⟩:=hm
  replace hm:=Ad hm;obtain⟨v6,l3640_0,rfl,hm⟩:=hm
  replace hm:=AC hm;obtain⟨rfl,hm⟩:=hm
  replace hm:=Al hm;obtain⟨s1,rfl,hm⟩:=hm
  replace hm:=BG hm;obtain⟨l2,rfl,hm⟩:=hm
  replace hm:=Ad hm;obtain⟨v7,l3645_0,rfl,hm⟩:=hm
  replace hm:=AC hm;obtain⟨rfl,hm⟩:=hm
  replace hm:=Ab hm;obtain⟨y0,h5,hm⟩:=hm
  obtain rfl:=F5 h5
  replace hm:=Ae hm;obtain⟨h6,hm⟩:=hm
  replace hm:=BG hm;obtain⟨q1,rfl,hm⟩:=hm
  replace hm:=Ae hm;obtain⟨h7,hm⟩:=hm
  refine .reg (eC 2 (EK tabs [[none,none],[none],[none]] 3 [.tmp 1 false,.tmp 2 true,.cell 2 0 false] [false,true,false,false] (pu 10190) [(.agg ⟨[zI z1,.int .u32 z2]⟩),pt 1 0,(pt 2 0)] (hT 6 [(oC [Sl.v 1 s0]),(oC [sc 5 0 2 n0 c0]),.dead,(oC [zI z1,.int .u32 z2]),oC q0])) (EL (as:=[(.agg ⟨[zI z1,.int .u32 z2]⟩),pt 1 0,(pt 2 0)]) (H1:=(hT 6 [(oC [Sl.v 1 s0]),(oC [sc 5 0 2 n0 c0]),.dead,(oC [zI z1,.int .u32 z2]),oC q0])) (BS (Ot (Da Dk (Da Dk Oq))) (BS (Dm Dk) (BS (Dm Dk) Gj))) (EI (H2:=(hT 7 [(oC [Sl.v 1 s1]),(oC [(sc 6 0 2 (NC.n y0) (NC.c y0))]),.dead,(oC [zI z1,.int .u32 z2]),.dead,oC q1])) (v:=(zB b0)) (v':=(zB b0)) [some 0,some 1,some 2,some 5] [(false,some 1),(true,some 2),(false,some 5)] [(oC [Sl.v 1 s0]),(oC [sc 3 0 2 n0 c0]),oC q0] [(.agg ⟨[zI z1,.int .u32 z2]⟩),pt 1 0,(pt 2 0)] [(.agg ⟨[Sl.v 1 s1]⟩),(.agg ⟨[(sc 4 0 2 (NC.n y0) (NC.c y0))]⟩),v4,(.agg ⟨q1⟩)] [(oC [Sl.v 1 s1]),(oC [(sc 4 0 2 (NC.n y0) (NC.c y0))]),.dead,oC q1] [some 0,some 1,some 2,none,none,some 3,some 4] [(false,(oC [Sl.v 1 s1])),(true,(oC [(sc 4 0 2 (NC.n y0) (NC.c y0))])),(false,.dead),(false,oC q1)] [(oC [Sl.v 1 s1]),(oC [(sc 6 0 2 (NC.n y0) (NC.c y0))]),.dead,oC q1] (sF (by kernel_rfl) (XX h2 rfl)) (En (by kernel_rfl) (En (by kernel_rfl) (En (Nb (anc:=[]) h3) BX))) (Eq.trans (by kernel_rfl) h4) (En rfl (En rfl (En (OY h6) (En rfl BX)))) (En (by kernel_rfl) (En (by kernel_rfl) (En (by kernel_rfl) (En (KO h7) BX)))))) (eE)) ?_
  replace hm:=Ae hm;obtain⟨h8,hm⟩:=hm
  refine .ghs (fr 48 [(10,zB b0)]) (hT 5 [(oC [Sl.v 1 s1]),(oC [(sc 4 0 2 (NC.n y0) (NC.c y0))]),.dead,oC q1]) (.k [6] [false,false,true,false] [.cell 2 0 false] [10] ⟨Cs h8,trivial⟩) ?_
  refine .ghs (fr 48 [(10,zB b0)]) (hT 5 [(oC [Sl.v 1 s1]),(oC [(sc 4 0 2 (NC.n y0) (NC.c y0))]),.dead,oC q1]) (.k [4] [false,false,true,false] [.cell 2 0 false] [10] ⟨Cs h8,trivial⟩) ?_
  refine .ret ?_
  exact Gi (zB b0) [(oC [Sl.v 1 s1]),(oC [(sc 4 0 2 (NC.n y0) (NC.c y0))]),.dead,oC q1] (by kernel_rfl) hm (Nat.le_of_ble_eq_true rfl) (Fa (VT _) (Fa (VT _) (Fa eG (Fa (VT _) EJ))))
 ·refine Eb (Bd z4 (0:Int)) h1 ?_
  refine .skip (.ghs (fr 48 [(1,zI z3),(2,zI z4),(3,(.func (.func 16) ⟨[]⟩ ⟨[pt 1 0]⟩)),(4,(.func (.func 19) ⟨[]⟩ ⟨[pt 1 0,(pt 2 0)]⟩)),(5,(pt 4 0))]) (hT 6 [(oC [Sl.v 1 s0]),(oC [sc 5 0 2 n0 c0]),.dead,(oC [zI z1,.int .u32 z2]),oC q0]) (.k [5] [false,false,true,false] [.tmp 5 false,.cell 2 0 false] [1,2,3,4,5] ⟨Cs h0,trivial⟩) ?_)
  refine .join (v:=v) (fun y:Sl×Nat×Nat×LV=>((fr 48 []),(hT 5 [(oC [(Sl.v 1 y.1)]),(oC [(sc 4 0 2 y.2.1 y.2.2.1)]),.dead,(oC y.2.2.2)]))) (fun y=>Jj pu n y.1 y.2.1 y.2.2.1 y.2.2.2) ?_ ?_
  ·rintro⟨s2,n1,c1,q2⟩ hm
   exact ZH pu n s2 n1 c1 q2 hm
  ·refine .then (.rK (.ghs (fr 48 [(2,zI z4),(3,(.func (.func 16) ⟨[]⟩ ⟨[pt 1 0]⟩)),(4,(.func (.func 19) ⟨[]⟩ ⟨[pt 1 0,(pt 2 0)]⟩)),(5,(pt 4 0)),(11,zI z3)]) (hT 6 [(oC [Sl.v 1 s0]),(oC [sc 5 0 2 n0 c0]),.dead,(oC [zI z1,.int .u32 z2]),oC q0]) (.k [5] [false,false,true,false] [.tmp 5 false,.cell 2 0 false] [2,3,4,5,11] ⟨Cs h0,trivial⟩) ?_))
   refine .block (.loopM (v:=v) (fun y:Int×Int×Sl×Nat×Nat×Int×Int×LV=>((fr 48 [(2,(zI y.1)),(3,(.func (.func 16) ⟨[]⟩ ⟨[pt 1 0]⟩)),(4,(.func (.func 19) ⟨[]⟩ ⟨[pt 1 0,(pt 2 0)]⟩)),(5,(pt 4 0)),(11,(zI y.2.1))]),(hT 6 [(oC [(Sl.v 1 y.2.2.1)]),(oC [(sc 5 0 2 y.2.2.2.1 y.2.2.2.2.1)]),.dead,(oC [(zI y.2.2.2.2.2.1),(.int .u32 y.2.2.2.2.2.2.1)]),(oC y.2.2.2.2.2.2.2)]))) (fun w y=>Gv pu n w y.1 y.2.1 y.2.2.1 y.2.2.2.1 y.2.2.2.2.1 y.2.2.2.2.2.1 y.2.2.2.2.2.2.1 y.2.2.2.2.2.2.2) n ⟨(z4,z3,s0,n0,c0,z1,z2,q0),hm,(.k [5] [false,false,true,false] [.tmp 5 false,.cell 2 0 false] [2,3,4,5,11] ⟨Cs h0,trivial⟩)⟩ (fun _=>rfl) ?_)
   rintro w0 ⟨z5,z6,s3,n2,c2,z7,z8,q3⟩ hm
   replace hm:Iy pu n (Gv pu n w0) z5 z6 s3 n2 c2 z7 z8 q3=some v:=hm
   unfold Iy at hm
   refine .then (.then (.rK ?_))
   replace hm:=Ae hm;obtain⟨h9,hm⟩:=hm
   refine .ghs (fr 48 [(2,zI z5),(3,(.func (.func 16) ⟨[]⟩ ⟨[pt 1 0]⟩)),(4,(.func (.func 19) ⟨[]⟩ ⟨[pt 1 0,(pt 2 0)]⟩)),(5,(pt 4 0)),(11,zI z6),(24,(zB (nt (AY z7 (Aj .i64 (Int.add z6 z5))))))]) (hT 6 [(oC [Sl.v 1 s3]),(oC [sc 5 0 2 n2 c2]),.dead,(oC [zI z7,.int .u32 z8]),oC q3]) (.k [5] [false,false,true,false] [.tmp 5 false,.cell 2 0 false] [2,3,4,5,11,24] ⟨Cs h9,trivial⟩) ?_
   replace hm:=Ag hm;rcases hm with⟨h10,hm⟩ | ⟨h10,hm⟩
   ·refine DT (nt (AY z7 (Aj .i64 (Int.add z6 z5)))) h10 ?_
    refine .skip (.ghs (fr 48 [(2,zI z5),(3,(.func (.func 16) ⟨[]⟩ ⟨[pt 1 0]⟩)),(4,(.func (.func 19) ⟨[]⟩ ⟨[pt 1 0,(pt 2 0)]⟩)),(5,(pt 4 0)),(11,zI z6)]) (hT 6 [(oC [Sl.v 1 s3]),(oC [sc 5 0 2 n2 c2]),.dead,(oC [zI z7,.int .u32 z8]),oC q3]) (.k [5] [false,false,true,false] [.tmp 5 false,.cell 2 0 false] [2,3,4,5,11] ⟨Cs h9,trivial⟩) ?_)
    refine .then (.block (.then (.rK (.ghs (fr 48 [(2,zI z5),(3,(.func (.func 16) ⟨[]⟩ ⟨[pt 1 0]⟩)),(4,(.func (.func 19) ⟨[]⟩ ⟨[pt 1 0,(pt 2 0)]⟩)),(5,(pt 4 0)),(11,zI z6),(12,(pt 5 0))]) (hT 7 [(oC [Sl.v 1 s3]),(oC [sc 6 0 2 n2 c2]),.dead,(oC [zI z7,.int .u32 z8]),(oC [zI z7,.int .u32 z8]),oC q3]) (.k [5] [false,false,true,false] [.tmp 5 false,.tmp 12 false,.cell 2 0 false] [2,3,4,5,11,12] ⟨Cs h9,trivial⟩) ?_))))
    refine .then ?_
    replace hm:=Ab hm;obtain⟨k1,h11,hm⟩:=hm
    obtain rfl:=AR h11
    refine .rK (.ghs (fr 48 [(2,zI z5),(3,(.func (.func 16) ⟨[]⟩ ⟨[pt 1 0]⟩)),(4,(.func (.func 19) ⟨[]⟩ ⟨[pt 1 0,(pt 2 0)]⟩)),(5,(pt 4 0)),(11,(zI (Int.ofNat k1))),(12,(pt 5 0))]) (hT 7 [(oC [Sl.v 1 s3]),(oC [sc 6 0 2 n2 c2]),.dead,(oC [zI z7,.int .u32 z8]),(oC [zI z7,(.int .u32 (jF .u32 z8 (QW .u32 (1:Int) k1)))]),oC q3]) (.k [6] [false,false,true,false] [.tmp 5 false,.tmp 12 false,.cell 2 0 false] [2,3,4,5,11,12] ⟨Cs h9,trivial⟩) ?_)
    refine .join (v:=v) (fun y:Int×Int×Bool×Sl×Nat×Nat×Int×Int×LV=>((fr 48 [(2,(zI y.1)),(3,(.func (.func 16) ⟨[]⟩ ⟨[pt 1 0]⟩)),(4,(.func (.func 19) ⟨[]⟩ ⟨[pt 1 0,(pt 2 0)]⟩)),(5,(pt 4 0)),(11,(zI y.2.1)),(47,(zB y.2.2.1))]),(hT 6 [(oC [(Sl.v 1 y.2.2.2.1)]),(oC [(sc 5 0 2 y.2.2.2.2.1 y.2.2.2.2.2.1)]),.dead,(oC [(zI y.2.2.2.2.2.2.1),(.int .u32 y.2.2.2.2.2.2.2.1)]),(oC y.2.2.2.2.2.2.2.2)]))) (fun y=>Jv pu n (Gv pu n w0) y.1 y.2.1 y.2.2.1 y.2.2.2.1 y.2.2.2.2.1 y.2.2.2.2.2.1 y.2.2.2.2.2.2.1 y.2.2.2.2.2.2.2.1 y.2.2.2.2.2.2.2.2) ?_ ?_
    ·rintro⟨z9,z10,b1,s4,n3,c57,z11,z12,q4⟩ hm
     unfold Jv at hm
     replace hm:=Ag hm;rcases hm with⟨h12,hm⟩ | ⟨h12,hm⟩
     ·refine .ifT b1 (by kernel_rfl) h12 ?_
      refine .then (.rK ?_)
      replace hm:=Ae hm;obtain⟨h13,hm⟩:=hm
      refine .ghs (fr 48 [(10,zB false)]) (hT 5 [(oC [Sl.v 1 s4]),(oC [sc 4 0 2 n3 c57]),.dead,oC q4]) (.k [5] [false,false,true,false] [.cell 2 0 false] [10] ⟨Cs h13,trivial⟩) ?_
      refine .ghs (fr 48 [(10,zB false)]) (hT 5 [(oC [Sl.v 1 s4]),(oC [sc 4 0 2 n3 c57]),.dead,oC q4]) (.k [4] [false,false,true,false] [.cell 2 0 false] [10] ⟨Cs h13,trivial⟩) ?_
      refine .ret ?_
      exact Gi (zB false) [(oC [Sl.v 1 s4]),(oC [sc 4 0 2 n3 c57]),.dead,oC q4] (by kernel_rfl) hm (Nat.le_of_ble_eq_true rfl) (Fa (VT _) (Fa (VT _) (Fa eG (Fa (VT _) EJ))))
     ·refine .ifF b1 (by kernel_rfl) h12 ?_
      refine .skip ?_
      replace hm:=Ae hm;obtain⟨h14,hm⟩:=hm
      refine .ghs (fr 48 [(2,zI z9),(3,(.func (.func 16) ⟨[]⟩ ⟨[pt 1 0]⟩)),(4,(.func (.func 19) ⟨[]⟩ ⟨[pt 1 0,(pt 2 0)]⟩)),(5,(pt 4 0)),(11,zI z10)]) (hT 6 [(oC [Sl.v 1 s4]),(oC [sc 5 0 2 n3 c57]),.dead,(oC [zI z11,.int .u32 z12]),oC q4]) (.k [5] [false,false,true,false] [.tmp 5 false,.cell 2 0 false] [2,3,4,5,11] ⟨Cs h14,trivial⟩) ?_
      refine .rK ?_
      exact⟨(z9,(Aj .i64 (Int.add z10 (1:Int))),s4,n3,c57,z11,z12,q4),hm,(.k [5] [false,false,true,false] [.tmp 5 false,.cell 2 0 false] [2,3,4,5,11] ⟨Cs h14,trivial⟩)⟩
    ·replace hm:=Ab hm;obtain⟨v8,h15,hm⟩:=hm
     replace hm:=Ch hm;obtain⟨l3,rfl,hm⟩:=hm
     replace hm:=Ad hm;obtain⟨v9,l4647_0,rfl,hm⟩:=hm
     replace hm:=Ad hm;obtain⟨v10,l4647_1,rfl,hm⟩:=hm
     replace hm:=AC hm;obtain⟨rfl,hm⟩:=hm
     replace hm:=Be hm;obtain⟨b2,rfl,hm⟩:=hm
     replace hm:=BG hm;obtain⟨l4,rfl,hm⟩:=hm
     replace hm:=Ad hm;obtain⟨v11,l4653_0,rfl,hm⟩:=hm
     replace hm:=AC hm;obtain⟨rfl,hm⟩:=hm
     replace hm:=Al hm;obtain⟨s5,rfl,hm⟩:=hm
     replace hm:=Ag hm;rcases hm with⟨h16,hm⟩ | ⟨h16,hm⟩
     ·replace hm:=Ae hm;obtain⟨h17,hm⟩:=hm
      replace hm:=Ae hm;obtain⟨h18,hm⟩:=hm
      replace hm:=Ab hm;obtain⟨v12,h19,hm⟩:=hm
      replace hm:=Ch hm;obtain⟨l5,rfl,hm⟩:=hm
      replace hm:=Ad hm;obtain⟨v13,l4671_0,rfl,hm⟩:=hm
      replace hm:=Ad hm;obtain⟨v14,l4671_1,rfl,hm⟩:=hm
      replace hm:=Ad hm;obtain⟨v15,l4671_2,rfl,hm⟩:=hm
      replace hm:=Ad hm;obtain⟨v16,l4671_3,rfl,hm⟩:=hm
      replace hm:=Ad hm;obtain⟨v17,l4671_4,rfl,hm⟩:=hm
      replace hm:=AC hm;obtain⟨rfl,hm⟩:=hm
      replace hm:=Be hm;obtain⟨b57,rfl,hm⟩:=hm
      replace hm:=BG hm;obtain⟨l6,rfl,hm⟩:=hm
      replace hm:=Ad hm;obtain⟨v18,l4680_0,rfl,hm⟩:=hm
      replace hm:=AC hm;obtain⟨rfl,hm⟩:=hm
      replace hm:=Al hm;obtain⟨s6,rfl,hm⟩:=hm
      replace hm:=BG hm;obtain⟨l7,rfl,hm⟩:=hm
      replace hm:=Ad hm;obtain⟨v19,l4685_0,rfl,hm⟩:=hm
      replace hm:=AC hm;obtain⟨rfl,hm⟩:=hm
      replace hm:=Ab hm;obtain⟨y1,h20,hm⟩:=hm
      obtain rfl:=F5 h20
      replace hm:=Ae hm;obtain⟨h21,hm⟩:=hm
      replace hm:=BG hm;obtain⟨q5,rfl,hm⟩:=hm
      replace hm:=Ae hm;obtain⟨h22,hm⟩:=hm
      refine .reg (eC 2 (EK tabs [[none,none],[none]] 2 [.tmp 1 false] [false] (pu 10160) [(.agg ⟨[zI z7,(.int .u32 (jF .u32 z8 (QW .u32 (1:Int) k1)))]⟩),pt 1 0] (hT 7 [(oC [Sl.v 1 s3]),(oC [sc 6 0 2 n2 c2]),.dead,(oC [zI z7,.int .u32 z8]),(oC [zI z7,(.int .u32 (jF .u32 z8 (QW .u32 (1:Int) k1)))]),oC q3])) (show _=some ((zB true),_) from (by have hz:EK tabs [[none,none],[none]] 2 [.tmp 1 false] [false] (pu 10160) [(.agg ⟨[zI z7,(.int .u32 (jF .u32 z8 (QW .u32 (1:Int) k1)))]⟩),pt 1 0] (hT 7 [(oC [Sl.v 1 s3]),(oC [sc 6 0 2 n2 c2]),.dead,(oC [zI z7,.int .u32 z8]),(oC [zI z7,(.int .u32 (jF .u32 z8 (QW .u32 (1:Int) k1)))]),oC q3])=some ((zB b2),(hT 7 [(oC [Sl.v 1 s5]),(oC [sc 6 0 2 n2 c2]),.dead,(oC [zI z7,.int .u32 z8]),(oC [zI z7,(.int .u32 (jF .u32 z8 (QW .u32 (1:Int) k1)))]),oC q3])):=(EL (as:=[(.agg ⟨[zI z7,(.int .u32 (jF .u32 z8 (QW .u32 (1:Int) k1)))]⟩),pt 1 0]) (H1:=(hT 7 [(oC [Sl.v 1 s3]),(oC [sc 6 0 2 n2 c2]),.dead,(oC [zI z7,.int .u32 z8]),(oC [zI z7,(.int .u32 (jF .u32 z8 (QW .u32 (1:Int) k1)))]),oC q3])) (BS (Ot (Da Dk (Da Dk Oq))) (BS (Dm Dk) Gj)) (EI (H2:=(hT 7 [(oC [Sl.v 1 s5]),(oC [sc 6 0 2 n2 c2]),.dead,(oC [zI z7,.int .u32 z8]),(oC [zI z7,(.int .u32 (jF .u32 z8 (QW .u32 (1:Int) k1)))]),oC q3])) (v:=(zB b2)) (v':=(zB b2)) [some 0,some 1] [(false,some 1)] [(oC [Sl.v 1 s3])] [(.agg ⟨[zI z7,(.int .u32 (jF .u32 z8 (QW .u32 (1:Int) k1)))]⟩),pt 1 0] [(.agg ⟨[Sl.v 1 s5]⟩)] [(oC [Sl.v 1 s5])] [some 0,some 1,none,none,none,none,none] [(false,(oC [Sl.v 1 s5]))] [(oC [Sl.v 1 s5])] (by kernel_rfl) (En (by kernel_rfl) BX) (Eq.trans (by kernel_rfl) h15) (En rfl BX) (En (by kernel_rfl) BX)));rw[h16] at hz;exact hz)) (eC 8 (EK tabs [[none,none],[none],[none],[none],[none]] 5 [.cap 3 0 false,.cap 4 1 true,.cell 2 0 false] [false,true,false,false] (pu 10180) [(.agg ⟨[zI z7,(.int .u32 (jF .u32 z8 (QW .u32 (1:Int) k1)))]⟩),(zI (Aj .i64 (Int.add (Int.ofNat k1) (1:Int)))),(zI (Aj .i64 (Int.sub z5 (1:Int)))),(.func (.func 16) ⟨[]⟩ ⟨[pt 1 0]⟩),(.func (.func 19) ⟨[]⟩ ⟨[pt 1 0,(pt 2 0)]⟩)] (hT 7 [(oC [Sl.v 1 s5]),(oC [sc 6 0 2 n2 c2]),.dead,(oC [zI z7,.int .u32 z8]),(oC [zI z7,(.int .u32 (jF .u32 z8 (QW .u32 (1:Int) k1)))]),oC q3])) (EL (as:=[(.agg ⟨[zI z7,(.int .u32 (jF .u32 z8 (QW .u32 (1:Int) k1)))]⟩),(zI (Aj .i64 (Int.add (Int.ofNat k1) (1:Int)))),(zI (Aj .i64 (Int.sub z5 (1:Int)))),(.func (.func 16) ⟨[]⟩ ⟨[pt 1 0]⟩),(.func (.func 19) ⟨[]⟩ ⟨[pt 1 0,(pt 2 0)]⟩)]) (H1:=(hT 7 [(oC [Sl.v 1 s5]),(oC [sc 6 0 2 n2 c2]),.dead,(oC [zI z7,.int .u32 z8]),(oC [zI z7,(.int .u32 (jF .u32 z8 (QW .u32 (1:Int) k1)))]),oC q3])) (BS (Ot (Da Dk (Da Dk Oq))) (BS (Dm Dk) (BS (Dm Dk) (BS (Dm Dk) (BS (Dm Dk) Gj))))) (EI (H2:=(hT 8 [(oC [Sl.v 1 s6]),(oC [(sc 7 0 2 (NC.n y1) (NC.c y1))]),.dead,(oC [zI z7,.int .u32 z8]),(oC [zI z7,(.int .u32 (jF .u32 z8 (QW .u32 (1:Int) k1)))]),.dead,oC q5])) (v:=(zB b57)) (v':=(zB b57)) [some 0,some 1,some 2,some 6] [(false,some 1),(true,some 2),(false,some 6)] [(oC [Sl.v 1 s5]),(oC [sc 3 0 2 n2 c2]),oC q3] [(.agg ⟨[zI z7,(.int .u32 (jF .u32 z8 (QW .u32 (1:Int) k1)))]⟩),(zI (Aj .i64 (Int.add (Int.ofNat k1) (1:Int)))),(zI (Aj .i64 (Int.sub z5 (1:Int)))),(.func (.func 16) ⟨[]⟩ ⟨[pt 1 0]⟩),(.func (.func 19) ⟨[]⟩ ⟨[pt 1 0,(pt 2 0)]⟩)] [(.agg ⟨[Sl.v 1 s6]⟩),(.agg ⟨[(sc 4 0 2 (NC.n y1) (NC.c y1))]⟩),v16,(.agg ⟨q5⟩)] [(oC [Sl.v 1 s6]),(oC [(sc 4 0 2 (NC.n y1) (NC.c y1))]),.dead,oC q5] [some 0,some 1,some 2,none,none,none,some 3,some 4] [(false,(oC [Sl.v 1 s6])),(true,(oC [(sc 4 0 2 (NC.n y1) (NC.c y1))])),(false,.dead),(false,oC q5)] [(oC [Sl.v 1 s6]),(oC [(sc 7 0 2 (NC.n y1) (NC.c y1))]),.dead,oC q5] (sF (by kernel_rfl) (XX h17 rfl)) (En (by kernel_rfl) (En (by kernel_rfl) (En (Nb (anc:=[]) h18) BX))) (Eq.trans (by kernel_rfl) h19) (En rfl (En rfl (En (OY h21) (En rfl BX)))) (En (by kernel_rfl) (En (by kernel_rfl) (En (by kernel_rfl) (En (KO h22) BX)))))) (eE))) ?_
      replace hm:=Ae hm;obtain⟨h23,hm⟩:=hm
      exact⟨(z5,(Int.ofNat k1),(nt b57),s6,(NC.n y1),(NC.c y1),z7,z8,q5),hm,(.k [7] [false,false,true,false] [.tmp 5 false,.cell 2 0 false] [2,3,4,5,11,47] ⟨Cs h23,trivial⟩)⟩
     ·refine .reg (eC 2 (EK tabs [[none,none],[none]] 2 [.tmp 1 false] [false] (pu 10160) [(.agg ⟨[zI z7,(.int .u32 (jF .u32 z8 (QW .u32 (1:Int) k1)))]⟩),pt 1 0] (hT 7 [(oC [Sl.v 1 s3]),(oC [sc 6 0 2 n2 c2]),.dead,(oC [zI z7,.int .u32 z8]),(oC [zI z7,(.int .u32 (jF .u32 z8 (QW .u32 (1:Int) k1)))]),oC q3])) (show _=some ((zB false),_) from (by have hz:EK tabs [[none,none],[none]] 2 [.tmp 1 false] [false] (pu 10160) [(.agg ⟨[zI z7,(.int .u32 (jF .u32 z8 (QW .u32 (1:Int) k1)))]⟩),pt 1 0] (hT 7 [(oC [Sl.v 1 s3]),(oC [sc 6 0 2 n2 c2]),.dead,(oC [zI z7,.int .u32 z8]),(oC [zI z7,(.int .u32 (jF .u32 z8 (QW .u32 (1:Int) k1)))]),oC q3])=some ((zB b2),(hT 7 [(oC [Sl.v 1 s5]),(oC [sc 6 0 2 n2 c2]),.dead,(oC [zI z7,.int .u32 z8]),(oC [zI z7,(.int .u32 (jF .u32 z8 (QW .u32 (1:Int) k1)))]),oC q3])):=(EL (as:=[(.agg ⟨[zI z7,(.int .u32 (jF .u32 z8 (QW .u32 (1:Int) k1)))]⟩),pt 1 0]) (H1:=(hT 7 [(oC [Sl.v 1 s3]),(oC [sc 6 0 2 n2 c2]),.dead,(oC [zI z7,.int .u32 z8]),(oC [zI z7,(.int .u32 (jF .u32 z8 (QW .u32 (1:Int) k1)))]),oC q3])) (BS (Ot (Da Dk (Da Dk Oq))) (BS (Dm Dk) Gj)) (EI (H2:=(hT 7 [(oC [Sl.v 1 s5]),(oC [sc 6 0 2 n2 c2]),.dead,(oC [zI z7,.int .u32 z8]),(oC [zI z7,(.int .u32 (jF .u32 z8 (QW .u32 (1:Int) k1)))]),oC q3])) (v:=(zB b2)) (v':=(zB b2)) [some 0,some 1] [(false,some 1)] [(oC [Sl.v 1 s3])] [(.agg ⟨[zI z7,(.int .u32 (jF .u32 z8 (QW .u32 (1:Int) k1)))]⟩),pt 1 0] [(.agg ⟨[Sl.v 1 s5]⟩)] [(oC [Sl.v 1 s5])] [some 0,some 1,none,none,none,none,none] [(false,(oC [Sl.v 1 s5]))] [(oC [Sl.v 1 s5])] (by kernel_rfl) (En (by kernel_rfl) BX) (Eq.trans (by kernel_rfl) h15) (En rfl BX) (En (by kernel_rfl) BX)));rw[h16] at hz;exact hz)) (eE)) ?_
      exact⟨(z5,(Int.ofNat k1),false,s5,n2,c2,z7,z8,q3),hm,(.k [6] [false,false,true,false] [.tmp 5 false,.cell 2 0 false] [2,3,4,5,11,47] ⟨Cs h9,trivial⟩)⟩
   ·refine Eb (nt (AY z7 (Aj .i64 (Int.add z6 z5)))) h10 ?_
    refine .exit ?_
    exact⟨(s3,n2,c2,q3),hm,(.k [5] [false,false,true,false] [.cell 2 0 false] [] ⟨Cs h9,trivial⟩)⟩
theorem uQ {call:A8} (pu:Af) (n:Nat) (hcall:call=Bb tabs isP pu (inl pu)) {args:LV} {os:List AJ} {z:Value} (ha:args.length=5) (hk:os.length=3) (hpl:∀ o∈os,plainO o) (hm:Ng pu n (args++os.map Ef)=some z):args.length≤48∧BN tt call (tabs.length+3) OW (Fr.made 48 args) (BK tabs os) (FJ tt tabs.length 3 [.tmp 10] z):=by
 subst hcall
 have hq:=BC ha;clear ha;obtain⟨a0,args,rfl,ha⟩:=hq
 have hq:=BC ha;clear ha;obtain⟨a1,args,rfl,ha⟩:=hq
 have hq:=BC ha;clear ha;obtain⟨a2,args,rfl,ha⟩:=hq
 have hq:=BC ha;clear ha;obtain⟨a3,args,rfl,ha⟩:=hq
 have hq:=BC ha;clear ha;obtain⟨a4,args,rfl,ha⟩:=hq
 obtain rfl:=len_nil ha
 have hq:=BC hk;clear hk;obtain⟨b0,os,rfl,hk⟩:=hq
 have hp0:plainO b0:=hpl b0 (by simp)
 have hq:=BC hk;clear hk;obtain⟨b1,os,rfl,hk⟩:=hq
 have hp1:plainO b1:=hpl b1 (by simp)
 have hq:=BC hk;clear hk;obtain⟨b2,os,rfl,hk⟩:=hq
 have hp2:plainO b2:=hpl b2 (by simp)
 obtain rfl:=len_nil hk
 replace hm:Ng pu n [a0,a1,a2,a3,a4,Ef b0,Ef b1,Ef b2]=some z:=hm
 unfold Ng at hm
 replace hm:(oo (Bt a0) none fun l0=>(ll l0 none fun v0 l0=>(ll l0 none fun v1 l0=>(ll l0 (oo (Bi .i64 v0) none fun x0=>(oo (Bi .u32 v1) none fun x1=>(oo (Bi .i64 a1) none fun x2=>(oo (Bi .i64 a2) none fun x3=>(oo (Om 16 0 a3) none fun l1=>(ll l1 none fun v2 l1=>(ll l1 (bb (MK v2 1 0) (oo (Om 19 0 a4) none fun l2=>(ll l2 none fun v3 l2=>(ll l2 none fun v4 l2=>(ll l2 (bb (MK v3 1 0) (bb (MK v4 2 0) (oo (Bt (Ef b0)) none fun l3=>(ll l3 none fun v5 l3=>(ll l3 (oo (Bj 1 v5) none fun s0=>(oo (Bt (Ef b1)) none fun l4=>(ll l4 none fun v6 l4=>(ll l4 (oo (KP 3 0 2 v6) none fun y0=>(oo (Bt (Ef b2)) none fun q0=>(Jb pu n x0 x1 x2 x3 s0 (NC.n y0) (NC.c y0) q0))) fun _ _=>none)))) fun _ _=>none))) none) none) fun _ _=>none)))) none) fun _ _=>none))))))) fun _ _=>none))))=some z:=hm
 replace hm:=BG hm;obtain⟨l0,rfl,hm⟩:=hm
 replace hm:=Ad hm;obtain⟨v0,l4695_0,rfl,hm⟩:=hm
 replace hm:=Ad hm;obtain⟨v1,l4695_1,rfl,hm⟩:=hm
 replace hm:=AC hm;obtain⟨rfl,hm⟩:=hm
 replace hm:=Ai hm;obtain⟨x0,rfl,hm⟩:=hm
 replace hm:=Ai hm;obtain⟨x1,rfl,hm⟩:=hm
 replace hm:=Ai hm;obtain⟨x2,rfl,hm⟩:=hm
 replace hm:=Ai hm;obtain⟨x3,rfl,hm⟩:=hm
 replace hm:=Ab hm;obtain⟨l1,h0,hm⟩:=hm
 obtain rfl:=Hu h0
 replace hm:=Ad hm;obtain⟨v2,l4707_0,rfl,hm⟩:=hm
 replace hm:=AC hm;obtain⟨rfl,hm⟩:=hm
 replace hm:=Ae hm;obtain⟨h1,hm⟩:=hm
 obtain rfl:=KR h1
 replace hm:=Ab hm;obtain⟨l2,h2,hm⟩:=hm
 obtain rfl:=Hu h2
 replace hm:=Ad hm;obtain⟨v3,l4711_0,rfl,hm⟩:=hm
 replace hm:=Ad hm;obtain⟨v4,l4711_1,rfl,hm⟩:=hm
 replace hm:=AC hm;obtain⟨rfl,hm⟩:=hm
 replace hm:=Ae hm;obtain⟨h3,hm⟩:=hm
 obtain rfl:=KR h3
 replace hm:=Ae hm;obtain⟨h4,hm⟩:=hm
 obtain rfl:=KR h4
 replace hm:=Ab hm;obtain⟨l3,h5,hm⟩:=hm
 obtain rfl:=I7 hp0 h5
 replace hm:=Ad hm;obtain⟨v5,l4717_0,rfl,hm⟩:=hm
 replace hm:=AC hm;obtain⟨rfl,hm⟩:=hm
 replace hm:=Al hm;obtain⟨s0,rfl,hm⟩:=hm
 replace hm:=Ab hm;obtain⟨l4,h6,hm⟩:=hm
 obtain rfl:=I7 hp1 h6
 replace hm:=Ad hm;obtain⟨v6,l4722_0,rfl,hm⟩:=hm
 replace hm:=AC hm;obtain⟨rfl,hm⟩:=hm
 replace hm:=Ab hm;obtain⟨y0,h7,hm⟩:=hm
 obtain rfl:=F5 h7
 replace hm:=Ab hm;obtain⟨q0,h8,hm⟩:=hm
 obtain rfl:=I7 hp2 h8
 refine⟨by simp,?_⟩
 exact .same (F':=(fr 48 [(0,(.agg ⟨[zI x0,.int .u32 x1]⟩)),(1,zI x2),(2,zI x3),(3,(.func (.func 16) ⟨[]⟩ ⟨[pt 1 0]⟩)),(4,(.func (.func 19) ⟨[]⟩ ⟨[pt 1 0,(pt 2 0)]⟩))])) (H':=(hT 4 [(oC [Sl.v 1 s0]),(oC [(sc 3 0 2 (NC.n y0) (NC.c y0))]),oC q0])) (by kernel_rfl) (by kernel_rfl) (uP pu n x0 x1 x2 x3 s0 (NC.n y0) (NC.c y0) q0 hm)
def Hy (pu:Af) (n:Nat) (s0:Sl) (n0 c0:Nat) (q0:LV):OV:=
 (bb (Au Ah q0) (some (.tuple ⟨[(.bool true),(.agg ⟨[Sl.v 1 s0]⟩),(.agg ⟨[(.slice (some ⟨4,0,some 2⟩) n0 c0)]⟩),EP,(.agg ⟨q0⟩)]⟩)) none)
def Iz (pu:Af) (n:Nat) (b0:Bool) (s0:Sl) (n0 c0:Nat) (z1 z2:Int) (q0:LV):OV:=
 (bb b0 (oo (pu 23 [(.agg ⟨[.int .i64 z1,.int .u32 z2]⟩)]) none fun v0=>(oo (Bt v0) none fun l0=>(ll l0 none fun v1 l0=>(ll l0 none fun v2 l0=>(ll l0 (oo (Bi .i64 v1) none fun x0=>(oo (Bj 1 v2) none fun s1=>(bb (GV 2 32 n0 c0 1 q0) (bb (Au Ah (Br (Am 0 q0) [.int .i64 x0,Sl.v 1 s1])) (Hy pu n s0 (n0+1) (2*(n0+1)+bb false 1 0) (Br (Am 0 q0) [.int .i64 x0,Sl.v 1 s1])) none) none))) fun _ _=>none))))) (bb (Au Ah q0) (Hy pu n s0 n0 c0 q0) none))
def LJ (pu:Af) (n:Nat) (z1 z2:Int) (s0:Sl) (n0 c0:Nat) (q0:LV):OV:=
 (bb (Au Ah q0) (oo (pu 20 [(.agg ⟨[.int .i64 z1,.int .u32 z2]⟩)]) none fun v0=>(oo (Bt v0) none fun l0=>(ll l0 none fun v1 l0=>(ll l0 none fun v2 l0=>(ll l0 (oo (Bi .i64 v1) none fun x0=>(oo (Bi .u32 v2) none fun x1=>(bb (bq true (an (Bd x0 z1) (an (Bd x1 z2) true))) (oo (pu 22 [(.agg ⟨[.int .i64 z1,.int .u32 z2]⟩)]) none fun v3=>(oo (Bj 1 v3) none fun s1=>(oo (pu 21 [Sl.v 1 s1,Sl.v 1 s0]) none fun v4=>(oo (Bf v4) none fun b0=>(Iz pu n b0 s0 n0 c0 z1 z2 q0))))) (Iz pu n false s0 n0 c0 z1 z2 q0)))) fun _ _=>none))))) none)
def Nh (pu:Af) (n:Nat) (args:LV):OV:=
 (ll args none fun a0 args=>(ll args none fun a1 args=>(ll args none fun a2 args=>(ll args none fun o0 args=>(ll args none fun o1 args=>(ll args none fun o2 args=>(ll args (oo (Bt a0) none fun l0=>(ll l0 none fun v0 l0=>(ll l0 none fun v1 l0=>(ll l0 (oo (Bi .i64 v0) none fun x0=>(oo (Bi .u32 v1) none fun x1=>(bb (MK a1 1 0) (bb (MK a2 2 0) (oo (Bt o0) none fun l1=>(ll l1 none fun v2 l1=>(ll l1 (oo (Bj 1 v2) none fun s0=>(oo (Bt o1) none fun l2=>(ll l2 none fun v3 l2=>(ll l2 (oo (KP 3 0 2 v3) none fun y0=>(oo (Bt o2) none fun q0=>(LJ pu n x0 x1 s0 (NC.n y0) (NC.c y0) q0))) fun _ _=>none)))) fun _ _=>none))) none) none))) fun _ _=>none)))) fun _ _=>none)))))))
theorem ZI (pu:Af) (n:Nat) (s0:Sl) (n0 c0:Nat) (q0:LV) {v:Value} (hm:Hy pu n s0 n0 c0 q0=some v):BN tt (Bb tabs isP pu (inl pu)) 4 kV (fr 20 []) (hT 5 [(oC [Sl.v 1 s0]),(oC [sc 4 0 2 n0 c0]),.dead,oC q0]) (FJ tt 1 3 [.tmp 4] v):=by
 unfold Hy at hm
 refine .then (.rK ?_)
 replace hm:=Ae hm;obtain⟨h0,hm⟩:=hm
 refine .ghs (fr 20 [(4,zB true)]) (hT 5 [(oC [Sl.v 1 s0]),(oC [sc 4 0 2 n0 c0]),.dead,oC q0]) (.k [4] [false,false,true,false] [.cell 2 0 false] [4] ⟨Cs h0,trivial⟩) ?_
 refine .ghs (fr 20 [(4,zB true)]) (hT 5 [(oC [Sl.v 1 s0]),(oC [sc 4 0 2 n0 c0]),.dead,oC q0]) (.k [4] [false,false,true,false] [.cell 2 0 false] [4] ⟨Cs h0,trivial⟩) ?_
 refine .ret ?_
 exact Gi (zB true) [(oC [Sl.v 1 s0]),(oC [sc 4 0 2 n0 c0]),.dead,oC q0] (by kernel_rfl) hm (Nat.le_of_ble_eq_true rfl) (Fa (VT _) (Fa (VT _) (Fa eG (Fa (VT _) EJ))))
theorem uR (pu:Af) (n:Nat) (z1 z2:Int) (s0:Sl) (n0 c0:Nat) (q0:LV) {v:Value} (hm:LJ pu n z1 z2 s0 n0 c0 q0=some v):BN tt (Bb tabs isP pu (inl pu)) 4 SG (fr 20 [(0,(.agg ⟨[zI z1,.int .u32 z2]⟩)),(1,pt 1 0),(2,(pt 2 0))]) (hT 4 [(oC [Sl.v 1 s0]),(oC [sc 3 0 2 n0 c0]),oC q0]) (FJ tt 1 3 [.tmp 4] v):=by
 unfold LJ at hm
 refine .ghs (fr 20 [(0,(.agg ⟨[zI z1,.int .u32 z2]⟩)),(1,pt 1 0),(2,(pt 2 0))]) (hT 5 [(oC [Sl.v 1 s0]),(oC [sc 4 0 2 n0 c0]),.dead,oC q0]) (.mv 2 2 0 3 0 2 n0 c0 [sc 3 0 2 n0 c0] q0 (spA:=false) (ancA:=[]) (ancB:=[]) (v:=(pt 2 0)) (by kernel_rfl) (Qt (off:=0)) (E9.id _ _)) ?_
 refine .then (.rK ?_)
 replace hm:=Ae hm;obtain⟨h0,hm⟩:=hm
 refine .ghs (fr 20 [(1,pt 1 0),(2,(pt 2 0)),(3,(pt 4 0))]) (hT 6 [(oC [Sl.v 1 s0]),(oC [sc 5 0 2 n0 c0]),.dead,(oC [zI z1,.int .u32 z2]),oC q0]) (.k [4] [false,false,true,false] [.tmp 3 false,.cell 2 0 false] [1,2,3] ⟨Cs h0,trivial⟩) ?_
 refine .join (v:=v) (fun y:Sl×Nat×Nat×LV=>((fr 20 []),(hT 5 [(oC [(Sl.v 1 y.1)]),(oC [(sc 4 0 2 y.2.1 y.2.2.1)]),.dead,(oC y.2.2.2)]))) (fun y=>Hy pu n y.1 y.2.1 y.2.2.1 y.2.2.2) ?_ ?_
 ·rintro⟨s1,n1,c1,q1⟩ hm
  exact ZI pu n s1 n1 c1 q1 hm
 ·refine .join (v:=v) (fun y:Bool×Sl×Nat×Nat×Int×Int×LV=>((fr 20 [(2,(pt 2 0)),(3,(pt 4 0)),(14,(zB y.1))]),(hT 6 [(oC [(Sl.v 1 y.2.1)]),(oC [(sc 5 0 2 y.2.2.1 y.2.2.2.1)]),.dead,(oC [(zI y.2.2.2.2.1),(.int .u32 y.2.2.2.2.2.1)]),(oC y.2.2.2.2.2.2)]))) (fun y=>Iz pu n y.1 y.2.1 y.2.2.1 y.2.2.2.1 y.2.2.2.2.1 y.2.2.2.2.2.1 y.2.2.2.2.2.2) ?_ ?_
  ·rintro⟨b0,s2,n2,c2,z3,z4,q2⟩ hm
   unfold Iz at hm
   replace hm:=Ag hm;rcases hm with⟨h1,hm⟩ | ⟨h1,hm⟩
   ·refine .ifT b0 (by kernel_rfl) h1 ?_
    replace hm:=Ab hm;obtain⟨v0,h2,hm⟩:=hm
    replace hm:=BG hm;obtain⟨l0,rfl,hm⟩:=hm
    replace hm:=Ad hm;obtain⟨v1,l3523_0,rfl,hm⟩:=hm
    replace hm:=Ad hm;obtain⟨v2,l3523_1,rfl,hm⟩:=hm
    replace hm:=AC hm;obtain⟨rfl,hm⟩:=hm
    replace hm:=Ai hm;obtain⟨x0,rfl,hm⟩:=hm
    replace hm:=Al hm;obtain⟨s3,rfl,hm⟩:=hm
    replace hm:=Ae hm;obtain⟨h3,hm⟩:=hm
    refine .reg (eC 2 ((oo (pu 23 [(.agg ⟨[zI z3,.int .u32 z4]⟩)]) none fun v=>some (v,(hT 6 [(oC [Sl.v 1 s2]),(oC [sc 5 0 2 n2 c2]),.dead,(oC [zI z3,.int .u32 z4]),oC q2])))) (AB h2) (eC 1 (Oc 2 32 n2 c2 1 5 q2 [zI x0,Sl.v 1 s3] [] (hT 7 [(oC [Sl.v 1 s2]),(oC [sc 5 0 2 n2 c2]),.dead,(oC [zI z3,.int .u32 z4]),oC q2,(oC [zI x0,Sl.v 1 s3])])) (I1 h3) (eE))) ?_
    replace hm:=Ae hm;obtain⟨h4,hm⟩:=hm
    exact⟨(s2,(n2+1),(d2 (n2+1)),(Br (Am 0 q2) [zI x0,Sl.v 1 s3])),hm,(.k [7] [false,false,true,false] [.cell 2 0 false] [] ⟨Cs h4,trivial⟩)⟩
   ·refine .ifF b0 (by kernel_rfl) h1 ?_
    refine .skip ?_
    replace hm:=Ae hm;obtain⟨h5,hm⟩:=hm
    exact⟨(s2,n2,c2,q2),hm,(.k [5] [false,false,true,false] [.cell 2 0 false] [] ⟨Cs h5,trivial⟩)⟩
  ·replace hm:=Ab hm;obtain⟨v3,h6,hm⟩:=hm
   replace hm:=BG hm;obtain⟨l1,rfl,hm⟩:=hm
   replace hm:=Ad hm;obtain⟨v4,l3555_0,rfl,hm⟩:=hm
   replace hm:=Ad hm;obtain⟨v5,l3555_1,rfl,hm⟩:=hm
   replace hm:=AC hm;obtain⟨rfl,hm⟩:=hm
   replace hm:=Ai hm;obtain⟨x1,rfl,hm⟩:=hm
   replace hm:=Ai hm;obtain⟨x2,rfl,hm⟩:=hm
   replace hm:=Ag hm;rcases hm with⟨h7,hm⟩ | ⟨h7,hm⟩
   ·replace hm:=Yy hm;obtain⟨s4,h8,hm⟩:=hm
    replace hm:=Yd hm;obtain⟨b1,h9,hm⟩:=hm
    refine .reg (eC 2 ((oo (pu 20 [(.agg ⟨[zI z1,.int .u32 z2]⟩)]) none fun v=>some (v,(hT 6 [(oC [Sl.v 1 s0]),(oC [sc 5 0 2 n0 c0]),.dead,(oC [zI z1,.int .u32 z2]),oC q0])))) (AB h6) (eD (some ((zB (bq true (an (Bd x1 z1) (an (Bd x2 z2) true)))),(hT 6 [(oC [Sl.v 1 s0]),(oC [sc 5 0 2 n0 c0]),.dead,(oC [zI z1,.int .u32 z2]),oC q0]))) (show _=some ((zB true),_) from (by rw[show (bq true (an (Bd x1 z1) (an (Bd x2 z2) true)))=true from h7])) (eC 3 ((oo (pu 22 [(.agg ⟨[zI z1,.int .u32 z2]⟩)]) none fun v=>some (v,(hT 6 [(oC [Sl.v 1 s0]),(oC [sc 5 0 2 n0 c0]),.dead,(oC [zI z1,.int .u32 z2]),oC q0])))) (AB h8) (eD ((oo (pu 21 [Sl.v 1 s4,Sl.v 1 s0]) none fun v=>some (v,(hT 6 [(oC [Sl.v 1 s0]),(oC [sc 5 0 2 n0 c0]),.dead,(oC [zI z1,.int .u32 z2]),oC q0])))) (AB h9) (eE))))) ?_
    exact⟨(b1,s0,n0,c0,z1,z2,q0),hm,(.k [5] [false,false,true,false] [.tmp 3 false,.cell 2 0 false] [2,3,14] ⟨Cs h0,trivial⟩)⟩
   ·refine .reg (eC 2 ((oo (pu 20 [(.agg ⟨[zI z1,.int .u32 z2]⟩)]) none fun v=>some (v,(hT 6 [(oC [Sl.v 1 s0]),(oC [sc 5 0 2 n0 c0]),.dead,(oC [zI z1,.int .u32 z2]),oC q0])))) (AB h6) (eD (some ((zB (bq true (an (Bd x1 z1) (an (Bd x2 z2) true)))),(hT 6 [(oC [Sl.v 1 s0]),(oC [sc 5 0 2 n0 c0]),.dead,(oC [zI z1,.int .u32 z2]),oC q0]))) (show _=some ((zB false),_) from (by rw[show (bq true (an (Bd x1 z1) (an (Bd x2 z2) true)))=false from h7])) (eE))) ?_
    exact⟨(false,s0,n0,c0,z1,z2,q0),hm,(.k [5] [false,false,true,false] [.tmp 3 false,.cell 2 0 false] [2,3,14] ⟨Cs h0,trivial⟩)⟩
theorem uS {call:A8} (pu:Af) (n:Nat) (hcall:call=Bb tabs isP pu (inl pu)) {args:LV} {os:List AJ} {z:Value} (ha:args.length=3) (hk:os.length=3) (hpl:∀ o∈os,plainO o) (hm:Nh pu n (args++os.map Ef)=some z):args.length≤20∧BN tt call (tabs.length+3) SG (Fr.made 20 args) (BK tabs os) (FJ tt tabs.length 3 [.tmp 4] z):=by
 subst hcall
 have hq:=BC ha;clear ha;obtain⟨a0,args,rfl,ha⟩:=hq
 have hq:=BC ha;clear ha;obtain⟨a1,args,rfl,ha⟩:=hq
 have hq:=BC ha;clear ha;obtain⟨a2,args,rfl,ha⟩:=hq
 obtain rfl:=len_nil ha
 have hq:=BC hk;clear hk;obtain⟨b0,os,rfl,hk⟩:=hq
 have hp0:plainO b0:=hpl b0 (by simp)
 have hq:=BC hk;clear hk;obtain⟨b1,os,rfl,hk⟩:=hq
 have hp1:plainO b1:=hpl b1 (by simp)
 have hq:=BC hk;clear hk;obtain⟨b2,os,rfl,hk⟩:=hq
 have hp2:plainO b2:=hpl b2 (by simp)
 obtain rfl:=len_nil hk
 replace hm:Nh pu n [a0,a1,a2,Ef b0,Ef b1,Ef b2]=some z:=hm
 unfold Nh at hm
 replace hm:(oo (Bt a0) none fun l0=>(ll l0 none fun v0 l0=>(ll l0 none fun v1 l0=>(ll l0 (oo (Bi .i64 v0) none fun x0=>(oo (Bi .u32 v1) none fun x1=>(bb (MK a1 1 0) (bb (MK a2 2 0) (oo (Bt (Ef b0)) none fun l1=>(ll l1 none fun v2 l1=>(ll l1 (oo (Bj 1 v2) none fun s0=>(oo (Bt (Ef b1)) none fun l2=>(ll l2 none fun v3 l2=>(ll l2 (oo (KP 3 0 2 v3) none fun y0=>(oo (Bt (Ef b2)) none fun q0=>(LJ pu n x0 x1 s0 (NC.n y0) (NC.c y0) q0))) fun _ _=>none)))) fun _ _=>none))) none) none))) fun _ _=>none))))=some z:=hm
 replace hm:=BG hm;obtain⟨l0,rfl,hm⟩:=hm
 replace hm:=Ad hm;obtain⟨v0,l3572_0,rfl,hm⟩:=hm
 replace hm:=Ad hm;obtain⟨v1,l3572_1,rfl,hm⟩:=hm
 replace hm:=AC hm;obtain⟨rfl,hm⟩:=hm
 replace hm:=Ai hm;obtain⟨x0,rfl,hm⟩:=hm
 replace hm:=Ai hm;obtain⟨x1,rfl,hm⟩:=hm
 replace hm:=Ae hm;obtain⟨h0,hm⟩:=hm
 obtain rfl:=KR h0
 replace hm:=Ae hm;obtain⟨h1,hm⟩:=hm
 obtain rfl:=KR h1
 replace hm:=Ab hm;obtain⟨l1,h2,hm⟩:=hm
 obtain rfl:=I7 hp0 h2
 replace hm:=Ad hm;obtain⟨v2,l3582_0,rfl,hm⟩:=hm
 replace hm:=AC hm;obtain⟨rfl,hm⟩:=hm
 replace hm:=Al hm;obtain⟨s0,rfl,hm⟩:=hm
 replace hm:=Ab hm;obtain⟨l2,h3,hm⟩:=hm
 obtain rfl:=I7 hp1 h3
 replace hm:=Ad hm;obtain⟨v3,l3587_0,rfl,hm⟩:=hm
 replace hm:=AC hm;obtain⟨rfl,hm⟩:=hm
 replace hm:=Ab hm;obtain⟨y0,h4,hm⟩:=hm
 obtain rfl:=F5 h4
 replace hm:=Ab hm;obtain⟨q0,h5,hm⟩:=hm
 obtain rfl:=I7 hp2 h5
 refine⟨by simp,?_⟩
 exact .same (F':=(fr 20 [(0,(.agg ⟨[zI x0,.int .u32 x1]⟩)),(1,pt 1 0),(2,(pt 2 0))])) (H':=(hT 4 [(oC [Sl.v 1 s0]),(oC [(sc 3 0 2 (NC.n y0) (NC.c y0))]),oC q0])) (by kernel_rfl) (by kernel_rfl) (uR pu n x0 x1 s0 (NC.n y0) (NC.c y0) q0 hm)
def MR (pu:Af) (n:Nat) (s0:Sl) (z1 z2:Int):OV:=
 (some (.tuple ⟨[(.bool (Bd (Np .u32 z2 (1:Int)) (1:Int))),(.agg ⟨[Sl.v 1 s0]⟩)]⟩))
def KT (pu:Af) (n:Nat) (ih0:Sl→Int→Int→Nat→List Nat→Nat→List EO→Nat→OV) (s0:Sl) (z1 z2:Int) (k1:Nat) (l0:List Nat) (k2:Nat) (e0:List EO) (k3:Nat):OV:=
 (bb (Au (fun e=>Nat.blt (EO.born e) k1) e0) (bb (Nat.ble k1 k2) (bK e0 l0 (bb (Au F4 e0) (MR pu n s0 z1 z2) none) (fun e1:EO=>(bb (Au F4 e0) (oo (bL e0 k3 (Br l0 [(EO.born e1)]) k3) none fun v0=>(oo (CQ v0) none fun l1=>(ll l1 none fun v1 l1=>(ll l1 none fun v2 l1=>(ll l1 (oo (Bi .i64 v1) none fun x0=>(oo (Bi .i64 v2) none fun x1=>(oo (EA (Aj .i64 (Int.sub x0 (1:Int)))) none fun k4=>(bb (an (Nat.blt k4 (Sl.n s0)) true) (oo (AL (Sl.cs s0) (k4*1)) none fun v3=>(oo (Bi .i64 v3) none fun x2=>(bb (AY x2 x1) (some (.tuple ⟨[(.bool false),(.agg ⟨[Sl.v 1 s0]⟩)]⟩)) (ih0 s0 z1 z2 k1 (Br l0 [(EO.born e1)]) k3 e0 k3)))) none)))) fun _ _=>none))))) none))) none) none)
def IB (pu:Af) (n w:Nat):Sl→Int→Int→Nat→List Nat→Nat→List EO→Nat→OV:=
 Nat.rec (motive:=fun _=>Sl→Int→Int→Nat→List Nat→Nat→List EO→Nat→OV) (fun _ _ _ _ _ _ _ _=>none) (fun _ ih0=>KT pu n ih0) w
def Jc (pu:Af) (n:Nat) (z1 z2:Int) (s0:Sl):OV:=
 (oo (pu 10170 [(.agg ⟨[.int .i64 z1,.int .u32 z2]⟩)]) none fun v0=>(oo (CQ v0) none fun l0=>(ll l0 none fun v1 l0=>(ll l0 none fun v2 l0=>(ll l0 (bb (FC v1 1) (oo (Fj v2) none fun y0=>(bb (Au F4 (Akd.es y0)) (bb (Au F4 (Akd.es y0)) (IB pu n n s0 z1 z2 (Akd.clock y0) ([]:List Nat) (Akd.clock y0) (Akd.es y0) (Akd.clock y0)) none) none)) none) fun _ _=>none)))))
def Ni (pu:Af) (n:Nat) (args:LV):OV:=
 (ll args none fun a0 args=>(ll args none fun a1 args=>(ll args none fun o0 args=>(ll args (oo (Bt a0) none fun l0=>(ll l0 none fun v0 l0=>(ll l0 none fun v1 l0=>(ll l0 (oo (Bi .i64 v0) none fun x0=>(oo (Bi .u32 v1) none fun x1=>(bb (MK a1 1 0) (oo (Bt o0) none fun l1=>(ll l1 none fun v2 l1=>(ll l1 (oo (Bj 1 v2) none fun s0=>(Jc pu n x0 x1 s0)) fun _ _=>none))) none))) fun _ _=>none)))) fun _ _=>none))))
theorem ZJ (pu:Af) (n:Nat) (s0:Sl) (z1 z2:Int) {v:Value} (hm:MR pu n s0 z1 z2=some v):BN tt (Bb tabs isP pu (inl pu)) 2 Yw (fr 25 [(2,(pt 2 0))]) (hT 3 [(oC [Sl.v 1 s0]),(oC [zI z1,.int .u32 z2])]) (FJ tt 1 1 [.tmp 3] v):=by
 unfold MR at hm
 refine .then (.rK (.ghs (fr 25 [(3,(zB (Bd (Np .u32 z2 (1:Int)) (1:Int))))]) (hT 2 [(oC [Sl.v 1 s0])]) (.k0 [false,false] [] [3]) ?_))
 refine .ghs (fr 25 [(3,(zB (Bd (Np .u32 z2 (1:Int)) (1:Int))))]) (hT 2 [(oC [Sl.v 1 s0])]) (.k0 [false,false] [] [3]) ?_
 refine .ret ?_
 exact Gi (zB (Bd (Np .u32 z2 (1:Int)) (1:Int))) [(oC [Sl.v 1 s0])] (by kernel_rfl) hm (Nat.le_of_ble_eq_true rfl) (Fa (VT _) EJ)
theorem uT (pu:Af) (n:Nat) (z1 z2:Int) (s0:Sl) {v:Value} (hm:Jc pu n z1 z2 s0=some v):BN tt (Bb tabs isP pu (inl pu)) 2 OX (fr 25 [(0,(.agg ⟨[zI z1,.int .u32 z2]⟩)),(1,pt 1 0)]) (hT 2 [(oC [Sl.v 1 s0])]) (FJ tt 1 1 [.tmp 3] v):=by
 unfold Jc at hm
 refine .then (.rK (.ghs (fr 25 [(1,pt 1 0),(2,(pt 2 0))]) (hT 3 [(oC [Sl.v 1 s0]),(oC [zI z1,.int .u32 z2])]) (.k0 [false,false] [.tmp 2 false] [1,2]) ?_))
 refine .join (v:=v) (fun y:Sl×Int×Int=>((fr 25 [(2,(pt 2 0))]),(hT 3 [(oC [(Sl.v 1 y.1)]),(oC [(zI y.2.1),(.int .u32 y.2.2)])]))) (fun y=>MR pu n y.1 y.2.1 y.2.2) ?_ ?_
 ·rintro⟨s1,z3,z4⟩ hm
  exact ZJ pu n s1 z3 z4 hm
 ·refine .then ?_
  replace hm:=Ab hm;obtain⟨v0,h0,hm⟩:=hm
  replace hm:=Ch hm;obtain⟨l0,rfl,hm⟩:=hm
  replace hm:=Ad hm;obtain⟨v1,l3848_0,rfl,hm⟩:=hm
  replace hm:=Ad hm;obtain⟨v2,l3848_1,rfl,hm⟩:=hm
  replace hm:=AC hm;obtain⟨rfl,hm⟩:=hm
  replace hm:=Ae hm;obtain⟨h1,hm⟩:=hm
  obtain rfl:=Ey h1
  replace hm:=Ab hm;obtain⟨y0,h2,hm⟩:=hm
  replace hm:=Ae hm;obtain⟨h3,hm⟩:=hm
  refine .reg (eC 1 (EK tabs [[none,none]] 1 [] [false] (pu 10170) [(.agg ⟨[zI z1,.int .u32 z2]⟩)] (hT 3 [(oC [Sl.v 1 s0]),(oC [zI z1,.int .u32 z2])])) (EL (as:=[(.agg ⟨[zI z1,.int .u32 z2]⟩)]) (H1:=(hT 3 [(oC [Sl.v 1 s0]),(oC [zI z1,.int .u32 z2])])) (BS (Ot (Da Dk (Da Dk Oq))) Gj) (EI (H2:=(hT 4 [(oC [Sl.v 1 s0]),(oC [zI z1,.int .u32 z2]),(.map (Akd.es y0) (Akd.clock y0))])) (v:=(.map (some 1))) (v':=(.map (some 3))) [some 0] [] [] [(.agg ⟨[zI z1,.int .u32 z2]⟩)] [v2] [(.map (Akd.es y0) (Akd.clock y0))] [some 0,none,none,some 1] [(false,(.map (Akd.es y0) (Akd.clock y0)))] [(.map (Akd.es y0) (Akd.clock y0))] (by kernel_rfl) BX (Eq.trans (by kernel_rfl) h0) (En (CK h2) BX) (En (GZ h3) BX))) (eE)) ?_
  replace hm:=Ae hm;obtain⟨h4,hm⟩:=hm
  refine .ghs (fr 25 [(1,pt 1 0),(2,(pt 2 0)),(8,(pt 3 0))]) (hT 5 [(oC [Sl.v 1 s0]),(oC [zI z1,.int .u32 z2]),(.iter (some 4) (Akd.clock y0) ([]:List Nat) (Akd.clock y0)),(.map (Akd.es y0) (Akd.clock y0))]) (.k [3] [false,false] [.tmp 2 false,.tmp 8 false,.itm 3 false] [1,2,8] ⟨Cs h4,trivial⟩) ?_
  refine .block (.loopM (v:=v) (fun y:Sl×Int×Int×Nat×List Nat×Nat×List EO×Nat=>((fr 25 [(1,pt 1 0),(2,(pt 2 0)),(8,(pt 3 0))]),(hT 5 [(oC [(Sl.v 1 y.1)]),(oC [(zI y.2.1),(.int .u32 y.2.2.1)]),(.iter (some 4) y.2.2.2.1 y.2.2.2.2.1 y.2.2.2.2.2.1),(.map y.2.2.2.2.2.2.1 y.2.2.2.2.2.2.2)]))) (fun w y=>IB pu n w y.1 y.2.1 y.2.2.1 y.2.2.2.1 y.2.2.2.2.1 y.2.2.2.2.2.1 y.2.2.2.2.2.2.1 y.2.2.2.2.2.2.2) n ⟨(s0,z1,z2,(Akd.clock y0),([]:List Nat),(Akd.clock y0),(Akd.es y0),(Akd.clock y0)),hm,(.k [4] [false,false] [.tmp 2 false,.tmp 8 false,.itm 3 false] [1,2,8] ⟨Cs h4,trivial⟩)⟩ (fun _=>rfl) ?_)
  rintro w0 ⟨s2,z5,z6,k1,l1,k2,e0,k3⟩ hm
  replace hm:KT pu n (IB pu n w0) s2 z5 z6 k1 l1 k2 e0 k3=some v:=hm
  unfold KT at hm
  refine .then ?_
  replace hm:=Ae hm;obtain⟨h5,hm⟩:=hm
  replace hm:=Ae hm;obtain⟨h6,hm⟩:=hm
  refine .nextK (id:=3) (mid:=4) (since:=k1) (st:=k2) (clock:=k3) (seen:=l1) (es:=e0) (d:=some 9) (x:=(tp 8)) (ty:=0) (os:=[EM 10 9 0 4]) (by kernel_rfl) (by kernel_rfl) (by kernel_rfl) (by kernel_rfl) h5 h6 (by kernel_rfl) (fun _=>by kernel_rfl) (fun h7=>?_) (fun e1 h8=>?_)
  ·replace hm:=mF hm h7
   replace hm:=Ae hm;obtain⟨h9,hm⟩:=hm
   refine .ghs (fr 25 [(1,pt 1 0),(2,(pt 2 0)),(8,(pt 3 0)),(10,zB false)]) (hT 5 [(oC [Sl.v 1 s2]),(oC [zI z5,.int .u32 z6]),(.iter (some 4) k1 l1 k2),(.map e0 k3)]) (.k [4] [false,false] [.tmp 2 false,.tmp 8 false,.itm 3 false] [1,2,8,10] ⟨Cs h9,trivial⟩) ?_
   refine .then (.condF (by kernel_rfl) ?_)
   refine .exit ?_
   exact⟨(s2,z5,z6),hm,(.k0 [false,false] [.tmp 2 false] [2])⟩
  ·replace hm:=mI hm h8
   replace hm:=Ae hm;obtain⟨h10,hm⟩:=hm
   refine .ghs (fr 25 [(1,pt 1 0),(2,(pt 2 0)),(8,(pt 3 0)),(10,zB true)]) (hT 5 [(oC [Sl.v 1 s2]),(oC [zI z5,.int .u32 z6]),(.iter (some 4) k1 (Br l1 [(EO.born e1)]) k3),(.map e0 k3)]) (.k [4] [false,false] [.tmp 2 false,.tmp 8 false,.itm 3 false] [1,2,8,10] ⟨Cs h10,trivial⟩) ?_
   refine .then (.condT (by kernel_rfl) ?_)
   refine .skip (.ghs (fr 25 [(1,pt 1 0),(2,(pt 2 0)),(8,(pt 3 0))]) (hT 5 [(oC [Sl.v 1 s2]),(oC [zI z5,.int .u32 z6]),(.iter (some 4) k1 (Br l1 [(EO.born e1)]) k3),(.map e0 k3)]) (.k [4] [false,false] [.tmp 2 false,.tmp 8 false,.itm 3 false] [1,2,8] ⟨Cs h10,trivial⟩) ?_)
   refine .block (.then ?_)
   replace hm:=Ab hm;obtain⟨v3,h11,hm⟩:=hm
   replace hm:=Ch hm;obtain⟨l2,rfl,hm⟩:=hm
   replace hm:=Ad hm;obtain⟨v4,l3884_0,rfl,hm⟩:=hm
   replace hm:=Ad hm;obtain⟨v5,l3884_1,rfl,hm⟩:=hm
   replace hm:=AC hm;obtain⟨rfl,hm⟩:=hm
   replace hm:=Ai hm;obtain⟨x0,rfl,hm⟩:=hm
   replace hm:=Ai hm;obtain⟨x1,rfl,hm⟩:=hm
   refine .reg (eD (keep (hT 5 [(oC [Sl.v 1 s2]),(oC [zI z5,.int .u32 z6]),(.iter (some 4) k1 (Br l1 [(EO.born e1)]) k3),(.map e0 k3)]) (bL e0 k3 (Br l1 [(EO.born e1)]) k3)) (AZ h11) (eE)) ?_
   refine .ghs (fr 25 [(1,pt 1 0),(2,(pt 2 0)),(4,zI x0),(5,zI x1),(8,(pt 3 0))]) (hT 5 [(oC [Sl.v 1 s2]),(oC [zI z5,.int .u32 z6]),(.iter (some 4) k1 (Br l1 [(EO.born e1)]) k3),(.map e0 k3)]) (.k [4] [false,false] [.tmp 2 false,.tmp 8 false,.itm 3 false] [1,2,4,5,8] ⟨Cs h10,trivial⟩) ?_
   refine .then ?_
   replace hm:=Ab hm;obtain⟨k4,h12,hm⟩:=hm
   replace hm:=Ae hm;obtain⟨h13,hm⟩:=hm
   replace hm:=K8 hm;obtain⟨x2,h14,hm⟩:=hm
   refine .reg (eC 3 (some ((zI (Aj .i64 (Int.sub x0 (1:Int)))),(hT 5 [(oC [Sl.v 1 s2]),(oC [zI z5,.int .u32 z6]),(.iter (some 4) k1 (Br l1 [(EO.born e1)]) k3),(.map e0 k3)]))) (show _=some ((zI (Int.ofNat k4)),_) from (by rw[AR h12])) (eD (keep (hT 5 [(oC [Sl.v 1 s2]),(oC [zI z5,.int .u32 z6]),(.iter (some 4) k1 (Br l1 [(EO.born e1)]) k3),(.map e0 k3)]) (bb (an (Nat.blt k4 (Sl.n s2)) true) (some (Cv (k4*1) (Sl.cs s2))) none)) (AX h13) (eD (keep (hT 5 [(oC [Sl.v 1 s2]),(oC [zI z5,.int .u32 z6]),(.iter (some 4) k1 (Br l1 [(EO.born e1)]) k3),(.map e0 k3)]) (AL (Sl.cs s2) (k4*1))) (AZ h14) (eE)))) ?_
   refine .ghs (fr 25 [(1,pt 1 0),(2,(pt 2 0)),(8,(pt 3 0)),(20,(zB (AY x2 x1)))]) (hT 5 [(oC [Sl.v 1 s2]),(oC [zI z5,.int .u32 z6]),(.iter (some 4) k1 (Br l1 [(EO.born e1)]) k3),(.map e0 k3)]) (.k [4] [false,false] [.tmp 2 false,.tmp 8 false,.itm 3 false] [1,2,8,20] ⟨Cs h10,trivial⟩) ?_
   replace hm:=Ag hm;rcases hm with⟨h15,hm⟩ | ⟨h15,hm⟩
   ·refine DT (AY x2 x1) h15 ?_
    refine .then (.rK (.ghs (fr 25 [(3,zB false)]) (hT 2 [(oC [Sl.v 1 s2])]) (.k0 [false,false] [] [3]) ?_))
    refine .ghs (fr 25 [(3,zB false)]) (hT 2 [(oC [Sl.v 1 s2])]) (.k0 [false,false] [] [3]) ?_
    refine .ret ?_
    exact Gi (zB false) [(oC [Sl.v 1 s2])] (by kernel_rfl) hm (Nat.le_of_ble_eq_true rfl) (Fa (VT _) EJ)
   ·refine Eb (AY x2 x1) h15 ?_
    refine .skip ?_
    exact⟨(s2,z5,z6,k1,(Br l1 [(EO.born e1)]),k3,e0,k3),hm,(.k [4] [false,false] [.tmp 2 false,.tmp 8 false,.itm 3 false] [1,2,8] ⟨Cs h10,trivial⟩)⟩
theorem uU {call:A8} (pu:Af) (n:Nat) (hcall:call=Bb tabs isP pu (inl pu)) {args:LV} {os:List AJ} {z:Value} (ha:args.length=2) (hk:os.length=1) (hpl:∀ o∈os,plainO o) (hm:Ni pu n (args++os.map Ef)=some z):args.length≤25∧BN tt call (tabs.length+1) OX (Fr.made 25 args) (BK tabs os) (FJ tt tabs.length 1 [.tmp 3] z):=by
 subst hcall
 have hq:=BC ha;clear ha;obtain⟨a0,args,rfl,ha⟩:=hq
 have hq:=BC ha;clear ha;obtain⟨a1,args,rfl,ha⟩:=hq
 obtain rfl:=len_nil ha
 have hq:=BC hk;clear hk;obtain⟨b0,os,rfl,hk⟩:=hq
 have hp0:plainO b0:=hpl b0 (by simp)
 obtain rfl:=len_nil hk
 replace hm:Ni pu n [a0,a1,Ef b0]=some z:=hm
 unfold Ni at hm
 replace hm:(oo (Bt a0) none fun l0=>(ll l0 none fun v0 l0=>(ll l0 none fun v1 l0=>(ll l0 (oo (Bi .i64 v0) none fun x0=>(oo (Bi .u32 v1) none fun x1=>(bb (MK a1 1 0) (oo (Bt (Ef b0)) none fun l1=>(ll l1 none fun v2 l1=>(ll l1 (oo (Bj 1 v2) none fun s0=>(Jc pu n x0 x1 s0)) fun _ _=>none))) none))) fun _ _=>none))))=some z:=hm
 replace hm:=BG hm;obtain⟨l0,rfl,hm⟩:=hm
 replace hm:=Ad hm;obtain⟨v0,l3909_0,rfl,hm⟩:=hm
 replace hm:=Ad hm;obtain⟨v1,l3909_1,rfl,hm⟩:=hm
 replace hm:=AC hm;obtain⟨rfl,hm⟩:=hm
 replace hm:=Ai hm;obtain⟨x0,rfl,hm⟩:=hm
 replace hm:=Ai hm;obtain⟨x1,rfl,hm⟩:=hm
 replace hm:=Ae hm;obtain⟨h0,hm⟩:=hm
 obtain rfl:=KR h0
 replace hm:=Ab hm;obtain⟨l1,h1,hm⟩:=hm
 obtain rfl:=I7 hp0 h1
 replace hm:=Ad hm;obtain⟨v2,l3918_0,rfl,hm⟩:=hm
 replace hm:=AC hm;obtain⟨rfl,hm⟩:=hm
 replace hm:=Al hm;obtain⟨s0,rfl,hm⟩:=hm
 refine⟨by simp,?_⟩
 exact .same (F':=(fr 25 [(0,(.agg ⟨[zI x0,.int .u32 x1]⟩)),(1,pt 1 0)])) (H':=(hT 2 [(oC [Sl.v 1 s0])])) (by kernel_rfl) (by kernel_rfl) (uT pu n x0 x1 s0 hm)
end
end Go.RgQM
set_option maxRecDepth 100000
namespace Go.RgQM
open Go.Sp Go.RgQ
noncomputable section
def L:Nat:=1000000
def UJ (pu:Af):Af:=fun g args=>
 bb (Nat.beq g 47) (uF pu L args) (bb (Nat.beq g 32) (m32 pu L args) (bb (Nat.beq g 46) (wT pu L args) (bb (Nat.beq g 22) (wU pu L args) (bb (Nat.beq g 31) (wV pu L args) (bb (Nat.beq g 30) (wW pu L args) (bb (Nat.beq g 43) (m43 pu L args) (bb (Nat.beq g 3) (m3 pu L args) (bb (Nat.beq g 4) (m4 pu L args) (bb (Nat.beq g 5) (m5 pu L args) (bb (Nat.beq g 6) (m6 pu L args) (bb (Nat.beq g 7) (m7 pu L args) (bb (Nat.beq g 8) (m8 pu L args) (bb (Nat.beq g 9) (m9 pu L args) (bb (Nat.beq g 10) (kW pu L args) (bb (Nat.beq g 11) (fE pu L args) (bb (Nat.beq g 12) (m12 pu L args) (bb (Nat.beq g 13) (m13 pu L args) (bb (Nat.beq g 14) (m14 pu L args) (bb (Nat.beq g 20) (m20 pu L args) (bb (Nat.beq g 21) (m21 pu L args) (bb (Nat.beq g 23) (m23 pu L args) (bb (Nat.beq g 24) (m24 pu L args) (bb (Nat.beq g 25) (m25 pu L args) (bb (Nat.beq g 26) (m26 pu L args) (bb (Nat.beq g 27) (m27 pu L args) (bb (Nat.beq g 28) (m28 pu L args) (bb (Nat.beq g 29) (m29 pu L args) (bb (Nat.beq g 33) (m33 pu L args) (bb (Nat.beq g 48) (m48 pu L args) (bb (Nat.beq g 49) (m49 pu L args) (bb (Nat.beq g 50) (m50 pu L args) (bb (Nat.beq g 51) (m51 pu L args) (bb (Nat.beq g 55) (m55 pu L args) (bb (Nat.beq g 56) (m56 pu L args) (bb (Nat.beq g 10170) (LX pu L args) (bb (Nat.beq g 10180) (Ng pu L args) (bb (Nat.beq g 10190) (Nh pu L args) (bb (Nat.beq g 10160) (Ni pu L args) (bb (Nat.beq g 15) (Wv args) (none))))))))))))))))))))))))))))))))))))))))
def BI:Nat→Af:=fun n=>Nat.rec (motive:=fun _=>Af) (fun _ _=>none) (fun _ ih=>UJ ih) n
end
end Go.RgQM
