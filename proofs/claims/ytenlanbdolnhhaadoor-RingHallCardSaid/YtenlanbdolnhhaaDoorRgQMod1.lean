/- Made from wip. -/
import Derived.Test.YtenlanbdolnhhaaDoorRgQMod0x

set_option maxRecDepth 100000
set_option maxHeartbeats 20000000
set_option linter.unusedVariables false
namespace Go.RgQM
open Go.Sp Go.RgQ
noncomputable section

def Xc (pu:Af) (n:Nat) (x5 x7 x9:Int):OV:=
 (bb (nt (Bd x5 (0:Int))) (bb (nt (Bd x5 (0:Int))) (some (.int .i64 (Int.tmod (Aj .i64 (Int.add (Int.tmod x9 x5) x5)) x5))) none) none)
def uF (pu:Af) (n:Nat) (args:LV):OV:=
 (ll args none fun a0 args=>(ll args none fun a1 args=>(ll args (oo (Bt a0) none fun l1=>(ll l1 none fun v3 l1=>(ll l1 none fun v4 l1=>(ll l1 (oo (Bi .i64 v3) none fun x5=>(oo (Bi .u32 v4) none fun x7=>(oo (Bi .i64 a1) none fun x9=>(Xc pu n x5 x7 x9)))) fun _ _=>none)))) fun _ _=>none)))
theorem r47 {call:A8} (pu:Af) (n:Nat) (hcall:call=Bb tabs isP pu (inl pu)) {args:LV} {v:Value} (hm:uF pu n args=some v) (_:∀ x∈args,closed2 x=true):args.length≤15∧BN tt call 1 V3 (Fr.made 15 args) (Ao tabs) (Fin tt 1 [.tmp 4] v):=by
 subst hcall
 unfold uF at hm
 replace hm:=Ad hm;obtain⟨a0,args_0,rfl,hm⟩:=hm
 replace hm:=Ad hm;obtain⟨a1,args_1,rfl,hm⟩:=hm
 replace hm:=AC hm;obtain⟨rfl,hm⟩:=hm
 replace hm:=BG hm;obtain⟨l1,rfl,hm⟩:=hm
 replace hm:=Ad hm;obtain⟨v3,l1_0,rfl,hm⟩:=hm
 replace hm:=Ad hm;obtain⟨v4,l1_1,rfl,hm⟩:=hm
 replace hm:=AC hm;obtain⟨rfl,hm⟩:=hm
 replace hm:=Ai hm;obtain⟨x5,rfl,hm⟩:=hm
 replace hm:=Ai hm;obtain⟨x7,rfl,hm⟩:=hm
 replace hm:=Ai hm;obtain⟨x9,rfl,hm⟩:=hm
 unfold Xc at hm
 refine⟨by simp,?_⟩
 refine .same (F':=(fr 15 [(0,(.agg ⟨[zI x5,.int .u32 x7]⟩)),(1,zI x9)])) (H':=AO) (by kernel_rfl) (by kernel_rfl) ?_
 refine .then (.rK (.ghs (fr 15 [(1,zI x9),(2,pt 1 0)]) (hT 2 [(oC [zI x5,.int .u32 x7])]) (.k0 [false] [.tmp 2 false] [1,2]) ?_))
 refine .then ?_
 replace hm:=Ae hm;obtain⟨h13,hm⟩:=hm
 replace hm:=Ae hm;obtain⟨h14,hm⟩:=hm
 refine .reg (eC 3 (keep (hT 2 [(oC [zI x5,.int .u32 x7])]) (bb (Bd x5 (0:Int)) none (some (zI (Int.tmod x9 x5))))) (XH h13) (eC 5 (keep (hT 2 [(oC [zI x5,.int .u32 x7])]) (bb (Bd x5 (0:Int)) none (some (zI (Int.tmod (Aj .i64 (Int.add (Int.tmod x9 x5) x5)) x5))))) (XH h14) (eE))) ?_
 refine .ghs (fr 15 [(4,(zI (Int.tmod (Aj .i64 (Int.add (Int.tmod x9 x5) x5)) x5)))]) AO (.k0 [false] [] [4]) ?_
 refine .ret ?_
 exact A7 (zI (Int.tmod (Aj .i64 (Int.add (Int.tmod x9 x5) x5)) x5)) hm

def AcD (pu:Af) (n:Nat) (x19 x21 x23:Int):OV:=
 (oo (EA x23) none fun k27=>(some (.bool (Bd (Np .u32 (G6 .u32 x21 k27) (1:Int)) (1:Int)))))
def m32 (pu:Af) (n:Nat) (args:LV):OV:=
 (ll args none fun a0 args=>(ll args none fun a1 args=>(ll args (oo (Bt a0) none fun l15=>(ll l15 none fun v17 l15=>(ll l15 none fun v18 l15=>(ll l15 (oo (Bi .i64 v17) none fun x19=>(oo (Bi .u32 v18) none fun x21=>(oo (Bi .i64 a1) none fun x23=>(AcD pu n x19 x21 x23)))) fun _ _=>none)))) fun _ _=>none)))
theorem r32 {call:A8} (pu:Af) (n:Nat) (hcall:call=Bb tabs isP pu (inl pu)) {args:LV} {v:Value} (hm:m32 pu n args=some v) (_:∀ x∈args,closed2 x=true):args.length≤11∧BN tt call 1 V4 (Fr.made 11 args) (Ao tabs) (Fin tt 1 [.tmp 4] v):=by
 subst hcall
 unfold m32 at hm
 replace hm:=Ad hm;obtain⟨a0,args_0,rfl,hm⟩:=hm
 replace hm:=Ad hm;obtain⟨a1,args_1,rfl,hm⟩:=hm
 replace hm:=AC hm;obtain⟨rfl,hm⟩:=hm
 replace hm:=BG hm;obtain⟨l15,rfl,hm⟩:=hm
 replace hm:=Ad hm;obtain⟨v17,l15_0,rfl,hm⟩:=hm
 replace hm:=Ad hm;obtain⟨v18,l15_1,rfl,hm⟩:=hm
 replace hm:=AC hm;obtain⟨rfl,hm⟩:=hm
 replace hm:=Ai hm;obtain⟨x19,rfl,hm⟩:=hm
 replace hm:=Ai hm;obtain⟨x21,rfl,hm⟩:=hm
 replace hm:=Ai hm;obtain⟨x23,rfl,hm⟩:=hm
 unfold AcD at hm
 refine⟨by simp,?_⟩
 refine .same (F':=(fr 11 [(0,(.agg ⟨[zI x19,.int .u32 x21]⟩)),(1,zI x23)])) (H':=AO) (by kernel_rfl) (by kernel_rfl) ?_
 refine .then (.rK (.ghs (fr 11 [(1,zI x23),(2,pt 1 0)]) (hT 2 [(oC [zI x19,.int .u32 x21])]) (.k0 [false] [.tmp 2 false] [1,2]) ?_))
 refine .then ?_
 replace hm:=Ab hm;obtain⟨k27,h28,hm⟩:=hm
 obtain rfl:=AR h28
 refine .rK (.ghs (fr 11 [(4,(zB (Bd (Np .u32 (G6 .u32 x21 k27) (1:Int)) (1:Int))))]) AO (.k0 [false] [] [4]) ?_)
 refine .ret ?_
 exact A7 (zB (Bd (Np .u32 (G6 .u32 x21 k27) (1:Int)) (1:Int))) hm
def TW (pu:Af) (n n0 c0:Nat) (q0:LV):OV:=
 (bb (Au Ah q0) (bb (an (Nat.ble (0+n0*1) (len q0)) (Au Ah (Aq (n0*1) (Am 0 q0)))) (some (Sl.v 1 (Sl.mk n0 0 (Aq (n0*1) (Am 0 q0))))) none) none)
def Qu (pu:Af) (n:Nat) (ih0:Nat→Nat→Int→Int→Int→Int→LV→OV) (n0 c0:Nat) (z1 z2 z3 z4:Int) (q0:LV):OV:=
 (bb (Au Ah q0) (ih0 n0 c0 z1 (Aj .i64 (Int.add z2 (1:Int))) z3 z4 q0) none)
def OZ (pu:Af) (n:Nat) (ih0:Nat→Nat→Int→Int→Int→Int→LV→OV) (n0 c0:Nat) (z1 z2 z3 z4:Int) (q0:LV):OV:=
 (bb (Au Ah q0) (bb (AY z2 z1) (oo (pu 32 [(.agg ⟨[.int .i64 z3,.int .u32 z4]⟩),.int .i64 z2]) none fun v0=>(oo (Bf v0) none fun b0=>(bb b0 (bb (GV 1 8 n0 c0 1 q0) (bb (Au Ah (Br (Am 0 q0) [.int .i64 z2])) (Qu pu n ih0 (n0+1) (2*(n0+1)+bb false 1 0) z1 z2 z3 z4 (Br (Am 0 q0) [.int .i64 z2])) none) none) (Qu pu n ih0 n0 c0 z1 z2 z3 z4 q0)))) (TW pu n n0 c0 q0)) none)
def OE (pu:Af) (n w:Nat):Nat→Nat→Int→Int→Int→Int→LV→OV:=
 Nat.rec (motive:=fun _=>Nat→Nat→Int→Int→Int→Int→LV→OV) (fun _ _ _ _ _ _ _=>none) (fun _ ih0=>OZ pu n ih0) w
def AcE (pu:Af) (n:Nat) (x33 x35:Int):OV:=
 (OE pu n n 0 0 x33 (0:Int) x33 x35 ([]:LV))
def wT (pu:Af) (n:Nat) (args:LV):OV:=
 (ll args none fun a0 args=>(ll args (oo (Bt a0) none fun l29=>(ll l29 none fun v31 l29=>(ll l29 none fun v32 l29=>(ll l29 (oo (Bi .i64 v31) none fun x33=>(oo (Bi .u32 v32) none fun x35=>(AcE pu n x33 x35))) fun _ _=>none)))) fun _ _=>none))
theorem AcF (pu:Af) (n n0 c0:Nat) (q0:LV) {v:Value} (hm:TW pu n n0 c0 q0=some v):BN tt (Bb tabs isP pu (inl pu)) 1 Ye (fr 19 [(3,sc 1 0 1 n0 c0)]) (hT 2 [oC q0]) (Fin tt 1 [.tmp 2] v):=by
 unfold TW at hm
 refine .then (.rK ?_)
 replace hm:=Ae hm;obtain⟨h0,hm⟩:=hm
 refine .ghs (fr 19 [(2,sc 1 0 1 n0 c0)]) (hT 2 [oC q0]) (.k [1] [false] [.tmp 2 false] [2] ⟨Cs h0,trivial⟩) ?_
 replace hm:=Ae hm;obtain⟨h1,hm⟩:=hm
 refine .ghs (Fr.puts (fr 19 [(2,sc 1 0 1 n0 c0)]) [(2,(Sl.v 1 (Sl.mk n0 0 (Aq (n0*1) (Am 0 q0)))))]) (hT 2 [.dead]) (.freezeC 1 2 1 (an (Nat.ble (0+n0*1) (len q0)) (Au Ah (Aq (n0*1) (Am 0 q0)))) (F1:=(Fr.puts (fr 19 [(2,sc 1 0 1 n0 c0)]) [(2,(Sl.v 1 (Sl.mk n0 0 (Aq (n0*1) (Am 0 q0)))))])) (H1:=(hT 2 [.dead])) (by kernel_rfl) (by kernel_rfl) h1 (E9.id _ _)) ?_
 refine .ret ?_
 exact A7 (Sl.v 1 (Sl.mk n0 0 (Aq (n0*1) (Am 0 q0)))) hm
theorem r46 {call:A8} (pu:Af) (n:Nat) (hcall:call=Bb tabs isP pu (inl pu)) {args:LV} {v:Value} (hm:wT pu n args=some v) (_:∀ x∈args,closed2 x=true):args.length≤19∧BN tt call 1 RQ (Fr.made 19 args) (Ao tabs) (Fin tt 1 [.tmp 2] v):=by
 subst hcall
 unfold wT at hm
 replace hm:=Ad hm;obtain⟨a0,args_0,rfl,hm⟩:=hm
 replace hm:=AC hm;obtain⟨rfl,hm⟩:=hm
 replace hm:=BG hm;obtain⟨l29,rfl,hm⟩:=hm
 replace hm:=Ad hm;obtain⟨v31,l29_0,rfl,hm⟩:=hm
 replace hm:=Ad hm;obtain⟨v32,WL,rfl,hm⟩:=hm
 replace hm:=AC hm;obtain⟨rfl,hm⟩:=hm
 replace hm:=Ai hm;obtain⟨x33,rfl,hm⟩:=hm
 replace hm:=Ai hm;obtain⟨x35,rfl,hm⟩:=hm
 unfold AcE at hm
 refine⟨by simp,?_⟩
 refine .same (F':=(fr 19 [(0,(.agg ⟨[zI x33,.int .u32 x35]⟩))])) (H':=AO) (by kernel_rfl) (by kernel_rfl) ?_
 refine .then (.rK (.ghs (fr 19 [(1,pt 1 0)]) (hT 2 [(oC [zI x33,.int .u32 x35])]) (.k0 [false] [.tmp 1 false] [1]) ?_))
 refine .then (.rK (.ghs (fr 19 [(1,pt 1 0),(3,(.slice none 0 0))]) (hT 2 [(oC [zI x33,.int .u32 x35])]) (.k0 [false] [.tmp 1 false] [1,3]) ?_))
 refine .join (v:=v) (fun y:Nat×Nat×LV=>((fr 19 [(3,(sc 1 0 1 y.1 y.2.1))]),(hT 2 [(oC y.2.2)]))) (fun y=>TW pu n y.1 y.2.1 y.2.2) ?_ ?_
 ·rintro⟨n0,c0,q0⟩ hm
  exact AcF pu n n0 c0 q0 hm
 ·refine .then (.rK (.ghs (fr 19 [(1,pt 1 0),(3,(.slice none 0 0)),(6,zI x33),(7,(zI (0:Int)))]) (hT 2 [(oC [zI x33,.int .u32 x35])]) (.k0 [false] [.tmp 1 false] [1,3,6,7]) ?_))
  refine .block (.loopM (v:=v) (fun y:Nat×Nat×Int×Int×Int×Int×LV=>((fr 19 [(1,pt 1 0),(3,(sc 2 0 1 y.1 y.2.1)),(6,(zI y.2.2.1)),(7,(zI y.2.2.2.1))]),(hT 3 [(oC [(zI y.2.2.2.2.1),(.int .u32 y.2.2.2.2.2.1)]),(oC y.2.2.2.2.2.2)]))) (fun w y=>OE pu n w y.1 y.2.1 y.2.2.1 y.2.2.2.1 y.2.2.2.2.1 y.2.2.2.2.2.1 y.2.2.2.2.2.2) n ⟨(0,0,x33,(0:Int),x33,x35,([]:LV)),hm,(.thaw 3 1 (by kernel_rfl) (.k0 [false] [.tmp 1 false,.tmp 3 false] [1,3,6,7]))⟩ (fun _=>rfl) ?_)
  rintro w0 ⟨n1,c1,z1,z2,z3,z4,q1⟩ hm
  replace hm:OZ pu n (OE pu n w0) n1 c1 z1 z2 z3 z4 q1=some v:=hm
  unfold OZ at hm
  refine .then (.rK ?_)
  replace hm:=Ae hm;obtain⟨h0,hm⟩:=hm
  refine .ghs (fr 19 [(1,pt 1 0),(3,sc 2 0 1 n1 c1),(6,zI z1),(7,zI z2),(8,(zB (AY z2 z1)))]) (hT 3 [(oC [zI z3,.int .u32 z4]),oC q1]) (.k [2] [false] [.tmp 1 false,.tmp 3 false] [1,3,6,7,8] ⟨Cs h0,trivial⟩) ?_
  refine .then ?_
  replace hm:=Ag hm;rcases hm with⟨h1,hm⟩ | ⟨h1,hm⟩
  ·refine DT (AY z2 z1) h1 ?_
   refine .skip (.ghs (fr 19 [(1,pt 1 0),(3,sc 2 0 1 n1 c1),(6,zI z1),(7,zI z2)]) (hT 3 [(oC [zI z3,.int .u32 z4]),oC q1]) (.k [2] [false] [.tmp 1 false,.tmp 3 false] [1,3,6,7] ⟨Cs h0,trivial⟩) ?_)
   refine .join (v:=v) (fun y:Nat×Nat×Int×Int×Int×Int×LV=>((fr 19 [(1,pt 1 0),(3,(sc 2 0 1 y.1 y.2.1)),(6,(zI y.2.2.1)),(7,(zI y.2.2.2.1))]),(hT 3 [(oC [(zI y.2.2.2.2.1),(.int .u32 y.2.2.2.2.2.1)]),(oC y.2.2.2.2.2.2)]))) (fun y=>Qu pu n (OE pu n w0) y.1 y.2.1 y.2.2.1 y.2.2.2.1 y.2.2.2.2.1 y.2.2.2.2.2.1 y.2.2.2.2.2.2) ?_ ?_
   ·rintro⟨n2,c2,z5,z6,z7,z8,q2⟩ hm
    unfold Qu at hm
    refine .rK ?_
    replace hm:=Ae hm;obtain⟨h2,hm⟩:=hm
    exact⟨(n2,c2,z5,(Aj .i64 (Int.add z6 (1:Int))),z7,z8,q2),hm,(.k [2] [false] [.tmp 1 false,.tmp 3 false] [1,3,6,7] ⟨Cs h2,trivial⟩)⟩
   ·refine .block (.then (.rK (.ghs (fr 19 [(1,pt 1 0),(3,sc 2 0 1 n1 c1),(4,zI z2),(6,zI z1),(7,zI z2)]) (hT 3 [(oC [zI z3,.int .u32 z4]),oC q1]) (.k [2] [false] [.tmp 1 false,.tmp 3 false] [1,3,4,6,7] ⟨Cs h0,trivial⟩) ?_)))
    refine .then ?_
    replace hm:=Yd hm;obtain⟨b0,h3,hm⟩:=hm
    refine .reg (eC 2 ((oo (pu 32 [(.agg ⟨[zI z3,.int .u32 z4]⟩),zI z2]) none fun v=>some (v,(hT 3 [(oC [zI z3,.int .u32 z4]),oC q1])))) (AB h3) (eE)) ?_
    refine .ghs (fr 19 [(1,pt 1 0),(3,sc 2 0 1 n1 c1),(4,zI z2),(6,zI z1),(7,zI z2),(12,zB b0)]) (hT 3 [(oC [zI z3,.int .u32 z4]),oC q1]) (.k [2] [false] [.tmp 1 false,.tmp 3 false] [1,3,4,6,7,12] ⟨Cs h0,trivial⟩) ?_
    replace hm:=Ag hm;rcases hm with⟨h4,hm⟩ | ⟨h4,hm⟩
    ·refine .ifT b0 (by kernel_rfl) h4 ?_
     replace hm:=Ae hm;obtain⟨h5,hm⟩:=hm
     refine .reg (eC 3 (Oc 1 8 n1 c1 1 2 q1 [zI z2] [] (hT 4 [(oC [zI z3,.int .u32 z4]),oC q1,(oC [zI z2])])) (I1 h5) (eE)) ?_
     replace hm:=Ae hm;obtain⟨h6,hm⟩:=hm
     exact⟨((n1+1),(d2 (n1+1)),z1,z2,z3,z4,(Br (Am 0 q1) [zI z2])),hm,(.k [4] [false] [.tmp 1 false,.tmp 3 false] [1,3,6,7] ⟨Cs h6,trivial⟩)⟩
    ·refine .ifF b0 (by kernel_rfl) h4 ?_
     refine .skip ?_
     exact⟨(n1,c1,z1,z2,z3,z4,q1),hm,(.k [2] [false] [.tmp 1 false,.tmp 3 false] [1,3,6,7] ⟨Cs h0,trivial⟩)⟩
  ·refine Eb (AY z2 z1) h1 ?_
   refine .exit ?_
   exact⟨(n1,c1,q1),hm,(.k [2] [false] [.tmp 3 false] [3] ⟨Cs h0,trivial⟩)⟩
def Ua (pu:Af) (n n0 c0:Nat) (q0:LV):OV:=
 (bb (Au Ah q0) (bb (an (Nat.ble (0+n0*1) (len q0)) (Au Ah (Aq (n0*1) (Am 0 q0)))) (some (Sl.v 1 (Sl.mk n0 0 (Aq (n0*1) (Am 0 q0))))) none) none)
def Ub (pu:Af) (n:Nat) (ih0:Nat→Nat→LV→Nat→List Nat→Nat→List EO→Nat→OV) (n0 c0:Nat) (q0:LV) (k1:Nat) (l0:List Nat) (k2:Nat) (e0:List EO) (k3:Nat):OV:=
 (bb (Au (fun e=>Nat.blt (EO.born e) k1) e0) (bb (Nat.ble k1 k2) (bK e0 l0 (bb (Au Ah q0) (bb (Au F4 e0) (Ua pu n n0 c0 q0) none) none) (fun e1:EO=>(bb (Au Ah q0) (bb (Au F4 e0) (oo (bL e0 k3 (Br l0 [(EO.born e1)]) k3) none fun v0=>(oo (CQ v0) none fun l1=>(ll l1 none fun v1 l1=>(ll l1 none fun v2 l1=>(ll l1 (oo (Bi .i64 v1) none fun x0=>(oo (Bi .i64 v2) none fun x1=>(oo (EA (Aj .i64 (Int.sub x0 (1:Int)))) none fun k4=>(bb (an (Nat.blt k4 n0) true) (bb (an (Nat.ble ((0+k4*1)+1) (len q0)) true) (bb (Au Ah (BM ([.int .i64 x1]:LV) (0+k4*1) q0)) (ih0 n0 c0 (BM ([.int .i64 x1]:LV) (0+k4*1) q0) k1 (Br l0 [(EO.born e1)]) k3 e0 k3) none) none) none)))) fun _ _=>none))))) none) none))) none) none)
def O0 (pu:Af) (n w:Nat):Nat→Nat→LV→Nat→List Nat→Nat→List EO→Nat→OV:=
 Nat.rec (motive:=fun _=>Nat→Nat→LV→Nat→List Nat→Nat→List EO→Nat→OV) (fun _ _ _ _ _ _ _ _=>none) (fun _ ih0=>Ub pu n ih0) w
def eH (pu:Af) (n:Nat) (x0 x1:Int):OV:=
 (oo (EA (Aj .i64 (Int.sub x0 (1:Int)))) none fun k1=>(bb (an (Nat.ble k1 k1) (an (Nat.ble (k1*8) 1099511627776) (an (Nat.ble k1 1099511627776) true))) (bb (Au Ah (AF ([(.int .i64 (0:Int))]:LV) k1)) (oo (pu 10170 [(.agg ⟨[.int .i64 x0,.int .u32 x1]⟩)]) none fun v0=>(oo (CQ v0) none fun l0=>(ll l0 none fun v1 l0=>(ll l0 none fun v2 l0=>(ll l0 (bb (FC v1 1) (oo (Fj v2) none fun y0=>(bb (Au F4 (Akd.es y0)) (bb (Au F4 (Akd.es y0)) (O0 pu n n k1 (2*k1+bb true 1 0) (AF ([(.int .i64 (0:Int))]:LV) k1) (Akd.clock y0) ([]:List Nat) (Akd.clock y0) (Akd.es y0) (Akd.clock y0)) none) none)) none) fun _ _=>none))))) none) none))
def wU (pu:Af) (n:Nat) (args:LV):OV:=
 (ll args none fun a0 args=>(ll args (oo (Bt a0) none fun l0=>(ll l0 none fun v0 l0=>(ll l0 none fun v1 l0=>(ll l0 (oo (Bi .i64 v0) none fun x0=>(oo (Bi .u32 v1) none fun x1=>(eH pu n x0 x1))) fun _ _=>none)))) fun _ _=>none))
theorem AcG (pu:Af) (n n0 c0:Nat) (q0:LV) {v:Value} (hm:Ua pu n n0 c0 q0=some v):BN tt (Bb tabs isP pu (inl pu)) 1 Yf (fr 24 [(3,sc 1 0 1 n0 c0)]) (hT 2 [oC q0]) (Fin tt 1 [.tmp 2] v):=by
 unfold Ua at hm
 refine .then (.rK ?_)
 replace hm:=Ae hm;obtain⟨h0,hm⟩:=hm
 refine .ghs (fr 24 [(2,sc 1 0 1 n0 c0)]) (hT 2 [oC q0]) (.k [1] [false] [.tmp 2 false] [2] ⟨Cs h0,trivial⟩) ?_
 replace hm:=Ae hm;obtain⟨h1,hm⟩:=hm
 refine .ghs (Fr.puts (fr 24 [(2,sc 1 0 1 n0 c0)]) [(2,(Sl.v 1 (Sl.mk n0 0 (Aq (n0*1) (Am 0 q0)))))]) (hT 2 [.dead]) (.freezeC 1 2 1 (an (Nat.ble (0+n0*1) (len q0)) (Au Ah (Aq (n0*1) (Am 0 q0)))) (F1:=(Fr.puts (fr 24 [(2,sc 1 0 1 n0 c0)]) [(2,(Sl.v 1 (Sl.mk n0 0 (Aq (n0*1) (Am 0 q0)))))])) (H1:=(hT 2 [.dead])) (by kernel_rfl) (by kernel_rfl) h1 (E9.id _ _)) ?_
 refine .ret ?_
 exact A7 (Sl.v 1 (Sl.mk n0 0 (Aq (n0*1) (Am 0 q0)))) hm
theorem r22 {call:A8} (pu:Af) (n:Nat) (hcall:call=Bb tabs isP pu (inl pu)) {args:LV} {v:Value} (hm:wU pu n args=some v) (_:∀ x∈args,closed2 x=true):args.length≤24∧BN tt call 1 RS (Fr.made 24 args) (Ao tabs) (Fin tt 1 [.tmp 2] v):=by
 subst hcall
 unfold wU at hm
 replace hm:=Ad hm;obtain⟨a0,args_0,rfl,hm⟩:=hm
 replace hm:=AC hm;obtain⟨rfl,hm⟩:=hm
 replace hm:=BG hm;obtain⟨l0,rfl,hm⟩:=hm
 replace hm:=Ad hm;obtain⟨v0,l198_0,rfl,hm⟩:=hm
 replace hm:=Ad hm;obtain⟨v1,l198_1,rfl,hm⟩:=hm
 replace hm:=AC hm;obtain⟨rfl,hm⟩:=hm
 replace hm:=Ai hm;obtain⟨x0,rfl,hm⟩:=hm
 replace hm:=Ai hm;obtain⟨x1,rfl,hm⟩:=hm
 unfold eH at hm
 refine⟨by simp,?_⟩
 refine .same (F':=(fr 24 [(0,(.agg ⟨[zI x0,.int .u32 x1]⟩))])) (H':=AO) (by kernel_rfl) (by kernel_rfl) ?_
 refine .then (.rK (.ghs (fr 24 [(1,pt 1 0)]) (hT 2 [(oC [zI x0,.int .u32 x1])]) (.k0 [false] [.tmp 1 false] [1]) ?_))
 refine .then ?_
 replace hm:=Ab hm;obtain⟨k1,h0,hm⟩:=hm
 replace hm:=Ae hm;obtain⟨h1,hm⟩:=hm
 refine .reg (eC 2 (some ((zI (Aj .i64 (Int.sub x0 (1:Int)))),(hT 2 [(oC [zI x0,.int .u32 x1])]))) (show _=some ((zI (Int.ofNat k1)),_) from (by rw[AR h0])) (eD (bb (an (Nat.ble k1 k1) (an (Nat.ble (k1*8) 1099511627776) (an (Nat.ble k1 1099511627776) true))) (some ((sc 2 0 1 k1 (2*k1+bb true 1 0)),(hT 3 [(oC [zI x0,.int .u32 x1]),(oC (AF ([(zI (0:Int))]:LV) k1))]))) none) (kH h1) (eE))) ?_
 replace hm:=Ae hm;obtain⟨h2,hm⟩:=hm
 refine .ghs (fr 24 [(1,pt 1 0),(3,(sc 2 0 1 k1 (2*k1+bb true 1 0)))]) (hT 3 [(oC [zI x0,.int .u32 x1]),(oC (AF ([(zI (0:Int))]:LV) k1))]) (.k [2] [false] [.tmp 1 false,.tmp 3 false] [1,3] ⟨Cs h2,trivial⟩) ?_
 refine .join (v:=v) (fun y:Nat×Nat×LV=>((fr 24 [(3,(sc 1 0 1 y.1 y.2.1))]),(hT 2 [(oC y.2.2)]))) (fun y=>Ua pu n y.1 y.2.1 y.2.2) ?_ ?_
 ·rintro⟨n0,c0,q0⟩ hm
  exact AcG pu n n0 c0 q0 hm
 ·refine .then ?_
  replace hm:=Ab hm;obtain⟨v2,h3,hm⟩:=hm
  replace hm:=Ch hm;obtain⟨l1,rfl,hm⟩:=hm
  replace hm:=Ad hm;obtain⟨v3,l1787_0,rfl,hm⟩:=hm
  replace hm:=Ad hm;obtain⟨v4,l1787_1,rfl,hm⟩:=hm
  replace hm:=AC hm;obtain⟨rfl,hm⟩:=hm
  replace hm:=Ae hm;obtain⟨h4,hm⟩:=hm
  obtain rfl:=Ey h4
  replace hm:=Ab hm;obtain⟨y0,h5,hm⟩:=hm
  replace hm:=Ae hm;obtain⟨h6,hm⟩:=hm
  refine .reg (eC 1 (EK tabs [[none,none]] 1 [] [false] (pu 10170) [(.agg ⟨[zI x0,.int .u32 x1]⟩)] (hT 3 [(oC [zI x0,.int .u32 x1]),(oC (AF ([(zI (0:Int))]:LV) k1))])) (EL (as:=[(.agg ⟨[zI x0,.int .u32 x1]⟩)]) (H1:=(hT 3 [(oC [zI x0,.int .u32 x1]),(oC (AF ([(zI (0:Int))]:LV) k1))])) (BS (Ot (Da Dk (Da Dk Oq))) Gj) (EI (H2:=(hT 4 [(oC [zI x0,.int .u32 x1]),(oC (AF ([(zI (0:Int))]:LV) k1)),(.map (Akd.es y0) (Akd.clock y0))])) (v:=(.map (some 1))) (v':=(.map (some 3))) [some 0] [] [] [(.agg ⟨[zI x0,.int .u32 x1]⟩)] [v4] [(.map (Akd.es y0) (Akd.clock y0))] [some 0,none,none,some 1] [(false,(.map (Akd.es y0) (Akd.clock y0)))] [(.map (Akd.es y0) (Akd.clock y0))] (by kernel_rfl) BX (Eq.trans (by kernel_rfl) h3) (En (CK h5) BX) (En (GZ h6) BX))) (eE)) ?_
  replace hm:=Ae hm;obtain⟨h7,hm⟩:=hm
  refine .ghs (fr 24 [(3,(sc 1 0 1 k1 (2*k1+bb true 1 0))),(12,(pt 2 0))]) (hT 4 [(oC (AF ([(zI (0:Int))]:LV) k1)),(.iter (some 3) (Akd.clock y0) ([]:List Nat) (Akd.clock y0)),(.map (Akd.es y0) (Akd.clock y0))]) (.k [2,3] [false] [.tmp 3 false,.tmp 12 false,.itm 2 false] [3,12] ⟨Cs h2,Cs h7,trivial⟩) ?_
  refine .block (.loopM (v:=v) (fun y:Nat×Nat×LV×Nat×List Nat×Nat×List EO×Nat=>((fr 24 [(3,(sc 1 0 1 y.1 y.2.1)),(12,(pt 2 0))]),(hT 4 [(oC y.2.2.1),(.iter (some 3) y.2.2.2.1 y.2.2.2.2.1 y.2.2.2.2.2.1),(.map y.2.2.2.2.2.2.1 y.2.2.2.2.2.2.2)]))) (fun w y=>O0 pu n w y.1 y.2.1 y.2.2.1 y.2.2.2.1 y.2.2.2.2.1 y.2.2.2.2.2.1 y.2.2.2.2.2.2.1 y.2.2.2.2.2.2.2) n ⟨(k1,(2*k1+bb true 1 0),(AF ([(zI (0:Int))]:LV) k1),(Akd.clock y0),([]:List Nat),(Akd.clock y0),(Akd.es y0),(Akd.clock y0)),hm,(.k [1,3] [false] [.tmp 3 false,.tmp 12 false,.itm 2 false] [3,12] ⟨Cs h2,Cs h7,trivial⟩)⟩ (fun _=>rfl) ?_)
  rintro w0 ⟨n1,c1,q1,k2,l2,k3,e0,k4⟩ hm
  replace hm:Ub pu n (O0 pu n w0) n1 c1 q1 k2 l2 k3 e0 k4=some v:=hm
  unfold Ub at hm
  refine .then ?_
  replace hm:=Ae hm;obtain⟨h8,hm⟩:=hm
  replace hm:=Ae hm;obtain⟨h9,hm⟩:=hm
  refine .nextK (id:=2) (mid:=3) (since:=k2) (st:=k3) (clock:=k4) (seen:=l2) (es:=e0) (d:=some 13) (x:=(tp 12)) (ty:=0) (os:=[EM 14 13 0 4]) (by kernel_rfl) (by kernel_rfl) (by kernel_rfl) (by kernel_rfl) h8 h9 (by kernel_rfl) (fun _=>by kernel_rfl) (fun h10=>?_) (fun e1 h11=>?_)
  ·replace hm:=mF hm h10
   replace hm:=Ae hm;obtain⟨h12,hm⟩:=hm
   replace hm:=Ae hm;obtain⟨h13,hm⟩:=hm
   refine .ghs (fr 24 [(3,sc 1 0 1 n1 c1),(12,(pt 2 0)),(14,zB false)]) (hT 4 [oC q1,(.iter (some 3) k2 l2 k3),(.map e0 k4)]) (.k [1,3] [false] [.tmp 3 false,.tmp 12 false,.itm 2 false] [3,12,14] ⟨Cs h12,Cs h13,trivial⟩) ?_
   refine .then (.condF (by kernel_rfl) ?_)
   refine .exit ?_
   exact⟨(n1,c1,q1),hm,(.k [1] [false] [.tmp 3 false] [3] ⟨Cs h12,trivial⟩)⟩
  ·replace hm:=mI hm h11
   replace hm:=Ae hm;obtain⟨h14,hm⟩:=hm
   replace hm:=Ae hm;obtain⟨h15,hm⟩:=hm
   refine .ghs (fr 24 [(3,sc 1 0 1 n1 c1),(12,(pt 2 0)),(14,zB true)]) (hT 4 [oC q1,(.iter (some 3) k2 (Br l2 [(EO.born e1)]) k4),(.map e0 k4)]) (.k [1,3] [false] [.tmp 3 false,.tmp 12 false,.itm 2 false] [3,12,14] ⟨Cs h14,Cs h15,trivial⟩) ?_
   refine .then (.condT (by kernel_rfl) ?_)
   refine .skip (.ghs (fr 24 [(3,sc 1 0 1 n1 c1),(12,(pt 2 0))]) (hT 4 [oC q1,(.iter (some 3) k2 (Br l2 [(EO.born e1)]) k4),(.map e0 k4)]) (.k [1,3] [false] [.tmp 3 false,.tmp 12 false,.itm 2 false] [3,12] ⟨Cs h14,Cs h15,trivial⟩) ?_)
   refine .block (.then ?_)
   replace hm:=Ab hm;obtain⟨v5,h16,hm⟩:=hm
   replace hm:=Ch hm;obtain⟨l3,rfl,hm⟩:=hm
   replace hm:=Ad hm;obtain⟨v6,l1825_0,rfl,hm⟩:=hm
   replace hm:=Ad hm;obtain⟨v7,l1825_1,rfl,hm⟩:=hm
   replace hm:=AC hm;obtain⟨rfl,hm⟩:=hm
   replace hm:=Ai hm;obtain⟨x2,rfl,hm⟩:=hm
   replace hm:=Ai hm;obtain⟨x3,rfl,hm⟩:=hm
   refine .reg (eD (keep (hT 4 [oC q1,(.iter (some 3) k2 (Br l2 [(EO.born e1)]) k4),(.map e0 k4)]) (bL e0 k4 (Br l2 [(EO.born e1)]) k4)) (AZ h16) (eE)) ?_
   refine .ghs (fr 24 [(3,sc 1 0 1 n1 c1),(4,zI x2),(5,zI x3),(12,(pt 2 0))]) (hT 4 [oC q1,(.iter (some 3) k2 (Br l2 [(EO.born e1)]) k4),(.map e0 k4)]) (.k [1,3] [false] [.tmp 3 false,.tmp 12 false,.itm 2 false] [3,4,5,12] ⟨Cs h14,Cs h15,trivial⟩) ?_
   replace hm:=Ab hm;obtain⟨k5,h17,hm⟩:=hm
   replace hm:=Ae hm;obtain⟨h18,hm⟩:=hm
   replace hm:=Ae hm;obtain⟨h19,hm⟩:=hm
   refine .reg (eC 2 (some ((zI (Aj .i64 (Int.sub x2 (1:Int)))),(hT 4 [oC q1,(.iter (some 3) k2 (Br l2 [(EO.born e1)]) k4),(.map e0 k4)]))) (show _=some ((zI (Int.ofNat k5)),_) from (by rw[AR h17])) (eC 1 (keep (hT 4 [oC q1,(.iter (some 3) k2 (Br l2 [(EO.born e1)]) k4),(.map e0 k4)]) (bb (an (Nat.blt k5 n1) true) (some (.pointer (some ⟨1,(0+k5*1),none⟩))) none)) (AX h18) (eD (done (bb (an (Nat.ble ((0+k5*1)+1) (len q1)) true) (some (hT 4 [(oC (BM ([zI x3]:LV) (0+k5*1) q1)),(.iter (some 3) k2 (Br l2 [(EO.born e1)]) k4),(.map e0 k4)])) none) undef) (Js h19) (eE)))) ?_
   replace hm:=Ae hm;obtain⟨h20,hm⟩:=hm
   exact⟨(n1,c1,(BM ([zI x3]:LV) (0+k5*1) q1),k2,(Br l2 [(EO.born e1)]),k4,e0,k4),hm,(.k [1,3] [false] [.tmp 3 false,.tmp 12 false,.itm 2 false] [3,12] ⟨Cs h20,Cs h15,trivial⟩)⟩
def Ww (pu:Af) (n:Nat) (z1:Int):OV:=
 (some (.int .i64 z1))
def MH (pu:Af) (n:Nat) (ih0:Int→Nat→List Nat→Nat→List EO→Nat→OV) (z1 z2:Int) (b0:Bool) (k1:Nat) (l0:List Nat) (k2:Nat) (e0:List EO) (k3:Nat):OV:=
 (bb b0 (bb (Au F4 e0) (ih0 z2 k1 l0 k2 e0 k3) none) (bb (Au F4 e0) (ih0 z1 k1 l0 k2 e0 k3) none))
def Ud (pu:Af) (n:Nat) (ih0:Int→Nat→List Nat→Nat→List EO→Nat→OV) (z1:Int) (k1:Nat) (l0:List Nat) (k2:Nat) (e0:List EO) (k3:Nat):OV:=
 (bb (Au (fun e=>Nat.blt (EO.born e) k1) e0) (bb (Nat.ble k1 k2) (bK e0 l0 (bb (Au F4 e0) (Ww pu n z1) none) (fun e1:EO=>(bb (Au F4 e0) (oo (bL e0 k3 (Br l0 [(EO.born e1)]) k3) none fun v0=>(oo (CQ v0) none fun l1=>(ll l1 none fun v1 l1=>(ll l1 none fun v2 l1=>(ll l1 (oo (Bi .i64 v1) none fun x0=>(oo (Bi .i64 v2) none fun x1=>(bb (AY (1:Int) x1) (bb (Bd z1 (0:Int)) (MH pu n ih0 z1 x0 true k1 (Br l0 [(EO.born e1)]) k3 e0 k3) (MH pu n ih0 z1 x0 (AY x0 z1) k1 (Br l0 [(EO.born e1)]) k3 e0 k3)) (MH pu n ih0 z1 x0 false k1 (Br l0 [(EO.born e1)]) k3 e0 k3)))) fun _ _=>none))))) none))) none) none)
def LW (pu:Af) (n w:Nat):Int→Nat→List Nat→Nat→List EO→Nat→OV:=
 Nat.rec (motive:=fun _=>Int→Nat→List Nat→Nat→List EO→Nat→OV) (fun _ _ _ _ _ _=>none) (fun _ ih0=>Ud pu n ih0) w
def eO (pu:Af) (n:Nat) (x0 x1:Int):OV:=
 (oo (pu 10170 [(.agg ⟨[.int .i64 x0,.int .u32 x1]⟩)]) none fun v0=>(oo (CQ v0) none fun l0=>(ll l0 none fun v1 l0=>(ll l0 none fun v2 l0=>(ll l0 (bb (FC v1 1) (oo (Fj v2) none fun y0=>(bb (Au F4 (Akd.es y0)) (bb (Au F4 (Akd.es y0)) (LW pu n n (0:Int) (Akd.clock y0) ([]:List Nat) (Akd.clock y0) (Akd.es y0) (Akd.clock y0)) none) none)) none) fun _ _=>none)))))
def wV (pu:Af) (n:Nat) (args:LV):OV:=
 (ll args none fun a0 args=>(ll args (oo (Bt a0) none fun l0=>(ll l0 none fun v0 l0=>(ll l0 none fun v1 l0=>(ll l0 (oo (Bi .i64 v0) none fun x0=>(oo (Bi .u32 v1) none fun x1=>(eO pu n x0 x1))) fun _ _=>none)))) fun _ _=>none))
theorem AcH (pu:Af) (n:Nat) (z1:Int) {v:Value} (hm:Ww pu n z1=some v):BN tt (Bb tabs isP pu (inl pu)) 1 Yg (fr 27 [(3,zI z1)]) AO (Fin tt 1 [.tmp 2] v):=by
 unfold Ww at hm
 refine .then (.rK (.ghs (fr 27 [(2,zI z1)]) AO (.k0 [false] [] [2]) ?_))
 refine .ret ?_
 exact A7 (zI z1) hm
theorem r31 {call:A8} (pu:Af) (n:Nat) (hcall:call=Bb tabs isP pu (inl pu)) {args:LV} {v:Value} (hm:wV pu n args=some v) (_:∀ x∈args,closed2 x=true):args.length≤27∧BN tt call 1 RU (Fr.made 27 args) (Ao tabs) (Fin tt 1 [.tmp 2] v):=by
 subst hcall
 unfold wV at hm
 replace hm:=Ad hm;obtain⟨a0,args_0,rfl,hm⟩:=hm
 replace hm:=AC hm;obtain⟨rfl,hm⟩:=hm
 replace hm:=BG hm;obtain⟨l0,rfl,hm⟩:=hm
 replace hm:=Ad hm;obtain⟨v0,l1842_0,rfl,hm⟩:=hm
 replace hm:=Ad hm;obtain⟨v1,l1842_1,rfl,hm⟩:=hm
 replace hm:=AC hm;obtain⟨rfl,hm⟩:=hm
 replace hm:=Ai hm;obtain⟨x0,rfl,hm⟩:=hm
 replace hm:=Ai hm;obtain⟨x1,rfl,hm⟩:=hm
 unfold eO at hm
 refine⟨by simp,?_⟩
 refine .same (F':=(fr 27 [(0,(.agg ⟨[zI x0,.int .u32 x1]⟩))])) (H':=AO) (by kernel_rfl) (by kernel_rfl) ?_
 refine .then (.rK (.ghs (fr 27 [(1,pt 1 0)]) (hT 2 [(oC [zI x0,.int .u32 x1])]) (.k0 [false] [.tmp 1 false] [1]) ?_))
 refine .then (.rK (.ghs (fr 27 [(1,pt 1 0),(3,(zI (0:Int)))]) (hT 2 [(oC [zI x0,.int .u32 x1])]) (.k0 [false] [.tmp 1 false] [1,3]) ?_))
 refine .join (v:=v) (fun y:Int=>((fr 27 [(3,zI y)]),AO)) (fun y=>Ww pu n y) ?_ ?_
 ·rintro z1 hm
  exact AcH pu n z1 hm
 ·refine .then ?_
  replace hm:=Ab hm;obtain⟨v2,h0,hm⟩:=hm
  replace hm:=Ch hm;obtain⟨l1,rfl,hm⟩:=hm
  replace hm:=Ad hm;obtain⟨v3,l2029_0,rfl,hm⟩:=hm
  replace hm:=Ad hm;obtain⟨v4,l2029_1,rfl,hm⟩:=hm
  replace hm:=AC hm;obtain⟨rfl,hm⟩:=hm
  replace hm:=Ae hm;obtain⟨h1,hm⟩:=hm
  obtain rfl:=Ey h1
  replace hm:=Ab hm;obtain⟨y0,h2,hm⟩:=hm
  replace hm:=Ae hm;obtain⟨h3,hm⟩:=hm
  refine .reg (eC 1 (EK tabs [[none,none]] 1 [] [false] (pu 10170) [(.agg ⟨[zI x0,.int .u32 x1]⟩)] (hT 2 [(oC [zI x0,.int .u32 x1])])) (EL (as:=[(.agg ⟨[zI x0,.int .u32 x1]⟩)]) (H1:=(hT 2 [(oC [zI x0,.int .u32 x1])])) (BS (Ot (Da Dk (Da Dk Oq))) Gj) (EI (H2:=(hT 3 [(oC [zI x0,.int .u32 x1]),(.map (Akd.es y0) (Akd.clock y0))])) (v:=(.map (some 1))) (v':=(.map (some 2))) [some 0] [] [] [(.agg ⟨[zI x0,.int .u32 x1]⟩)] [v4] [(.map (Akd.es y0) (Akd.clock y0))] [some 0,none,some 1] [(false,(.map (Akd.es y0) (Akd.clock y0)))] [(.map (Akd.es y0) (Akd.clock y0))] (by kernel_rfl) BX (Eq.trans (by kernel_rfl) h0) (En (CK h2) BX) (En (GZ h3) BX))) (eE)) ?_
  replace hm:=Ae hm;obtain⟨h4,hm⟩:=hm
  refine .ghs (fr 27 [(3,(zI (0:Int))),(8,pt 1 0)]) (hT 3 [(.iter (some 2) (Akd.clock y0) ([]:List Nat) (Akd.clock y0)),(.map (Akd.es y0) (Akd.clock y0))]) (.k [2] [false] [.tmp 8 false,.itm 1 false] [3,8] ⟨Cs h4,trivial⟩) ?_
  refine .block (.loopM (v:=v) (fun y:Int×Nat×List Nat×Nat×List EO×Nat=>((fr 27 [(3,(zI y.1)),(8,pt 1 0)]),(hT 3 [(.iter (some 2) y.2.1 y.2.2.1 y.2.2.2.1),(.map y.2.2.2.2.1 y.2.2.2.2.2)]))) (fun w y=>LW pu n w y.1 y.2.1 y.2.2.1 y.2.2.2.1 y.2.2.2.2.1 y.2.2.2.2.2) n ⟨((0:Int),(Akd.clock y0),([]:List Nat),(Akd.clock y0),(Akd.es y0),(Akd.clock y0)),hm,(.k [2] [false] [.tmp 8 false,.itm 1 false] [3,8] ⟨Cs h4,trivial⟩)⟩ (fun _=>rfl) ?_)
  rintro w0 ⟨z2,k1,l2,k2,e0,k3⟩ hm
  replace hm:Ud pu n (LW pu n w0) z2 k1 l2 k2 e0 k3=some v:=hm
  unfold Ud at hm
  refine .then ?_
  replace hm:=Ae hm;obtain⟨h5,hm⟩:=hm
  replace hm:=Ae hm;obtain⟨h6,hm⟩:=hm
  refine .nextK (id:=1) (mid:=2) (since:=k1) (st:=k2) (clock:=k3) (seen:=l2) (es:=e0) (d:=some 9) (x:=(tp 8)) (ty:=0) (os:=[EM 10 9 0 4]) (by kernel_rfl) (by kernel_rfl) (by kernel_rfl) (by kernel_rfl) h5 h6 (by kernel_rfl) (fun _=>by kernel_rfl) (fun h7=>?_) (fun e1 h8=>?_)
  ·replace hm:=mF hm h7
   replace hm:=Ae hm;obtain⟨h9,hm⟩:=hm
   refine .ghs (fr 27 [(3,zI z2),(8,pt 1 0),(10,zB false)]) (hT 3 [(.iter (some 2) k1 l2 k2),(.map e0 k3)]) (.k [2] [false] [.tmp 8 false,.itm 1 false] [3,8,10] ⟨Cs h9,trivial⟩) ?_
   refine .then (.condF (by kernel_rfl) ?_)
   refine .exit ?_
   exact⟨z2,hm,(.k0 [false] [] [3])⟩
  ·replace hm:=mI hm h8
   replace hm:=Ae hm;obtain⟨h10,hm⟩:=hm
   refine .ghs (fr 27 [(3,zI z2),(8,pt 1 0),(10,zB true)]) (hT 3 [(.iter (some 2) k1 (Br l2 [(EO.born e1)]) k3),(.map e0 k3)]) (.k [2] [false] [.tmp 8 false,.itm 1 false] [3,8,10] ⟨Cs h10,trivial⟩) ?_
   refine .then (.condT (by kernel_rfl) ?_)
   refine .skip (.ghs (fr 27 [(3,zI z2),(8,pt 1 0)]) (hT 3 [(.iter (some 2) k1 (Br l2 [(EO.born e1)]) k3),(.map e0 k3)]) (.k [2] [false] [.tmp 8 false,.itm 1 false] [3,8] ⟨Cs h10,trivial⟩) ?_)
   refine .block (.then ?_)
   replace hm:=Ab hm;obtain⟨v5,h11,hm⟩:=hm
   replace hm:=Ch hm;obtain⟨l3,rfl,hm⟩:=hm
   replace hm:=Ad hm;obtain⟨v6,l2063_0,rfl,hm⟩:=hm
   replace hm:=Ad hm;obtain⟨v7,l2063_1,rfl,hm⟩:=hm
   replace hm:=AC hm;obtain⟨rfl,hm⟩:=hm
   replace hm:=Ai hm;obtain⟨x2,rfl,hm⟩:=hm
   replace hm:=Ai hm;obtain⟨x3,rfl,hm⟩:=hm
   refine .reg (eD (keep (hT 3 [(.iter (some 2) k1 (Br l2 [(EO.born e1)]) k3),(.map e0 k3)]) (bL e0 k3 (Br l2 [(EO.born e1)]) k3)) (AZ h11) (eE)) ?_
   refine .ghs (fr 27 [(3,zI z2),(4,zI x2),(5,zI x3),(8,pt 1 0)]) (hT 3 [(.iter (some 2) k1 (Br l2 [(EO.born e1)]) k3),(.map e0 k3)]) (.k [2] [false] [.tmp 8 false,.itm 1 false] [3,4,5,8] ⟨Cs h10,trivial⟩) ?_
   refine .join (v:=v) (fun y:Int×Int×Bool×Nat×List Nat×Nat×List EO×Nat=>((fr 27 [(3,(zI y.1)),(4,(zI y.2.1)),(8,pt 1 0),(24,(zB y.2.2.1))]),(hT 3 [(.iter (some 2) y.2.2.2.1 y.2.2.2.2.1 y.2.2.2.2.2.1),(.map y.2.2.2.2.2.2.1 y.2.2.2.2.2.2.2)]))) (fun y=>MH pu n (LW pu n w0) y.1 y.2.1 y.2.2.1 y.2.2.2.1 y.2.2.2.2.1 y.2.2.2.2.2.1 y.2.2.2.2.2.2.1 y.2.2.2.2.2.2.2) ?_ ?_
   ·rintro⟨z3,z4,b0,k4,l4,k5,e2,k6⟩ hm
    unfold MH at hm
    replace hm:=Ag hm;rcases hm with⟨h12,hm⟩ | ⟨h12,hm⟩
    ·refine .ifT b0 (by kernel_rfl) h12 ?_
     refine .rK ?_
     replace hm:=Ae hm;obtain⟨h13,hm⟩:=hm
     exact⟨(z4,k4,l4,k5,e2,k6),hm,(.k [2] [false] [.tmp 8 false,.itm 1 false] [3,8] ⟨Cs h13,trivial⟩)⟩
    ·refine .ifF b0 (by kernel_rfl) h12 ?_
     refine .skip ?_
     replace hm:=Ae hm;obtain⟨h14,hm⟩:=hm
     exact⟨(z3,k4,l4,k5,e2,k6),hm,(.k [2] [false] [.tmp 8 false,.itm 1 false] [3,8] ⟨Cs h14,trivial⟩)⟩
   ·replace hm:=Ag hm;rcases hm with⟨h15,hm⟩ | ⟨h15,hm⟩
    ·replace hm:=Ag hm;rcases hm with⟨h16,hm⟩ | ⟨h16,hm⟩
     ·refine .reg (eC 1 (some ((zB (AY (1:Int) x3)),(hT 3 [(.iter (some 2) k1 (Br l2 [(EO.born e1)]) k3),(.map e0 k3)]))) (show _=some ((zB true),_) from (by rw[show (AY (1:Int) x3)=true from h15])) (eC 2 (some ((zB (Bd z2 (0:Int))),(hT 3 [(.iter (some 2) k1 (Br l2 [(EO.born e1)]) k3),(.map e0 k3)]))) (show _=some ((zB true),_) from (by rw[show (Bd z2 (0:Int))=true from h16])) (eE))) ?_
      exact⟨(z2,x2,true,k1,(Br l2 [(EO.born e1)]),k3,e0,k3),hm,(.k [2] [false] [.tmp 8 false,.itm 1 false] [3,4,8,24] ⟨Cs h10,trivial⟩)⟩
     ·refine .reg (eC 1 (some ((zB (AY (1:Int) x3)),(hT 3 [(.iter (some 2) k1 (Br l2 [(EO.born e1)]) k3),(.map e0 k3)]))) (show _=some ((zB true),_) from (by rw[show (AY (1:Int) x3)=true from h15])) (eC 2 (some ((zB (Bd z2 (0:Int))),(hT 3 [(.iter (some 2) k1 (Br l2 [(EO.born e1)]) k3),(.map e0 k3)]))) (show _=some ((zB false),_) from (by rw[show (Bd z2 (0:Int))=false from h16])) (eE))) ?_
      exact⟨(z2,x2,(AY x2 z2),k1,(Br l2 [(EO.born e1)]),k3,e0,k3),hm,(.k [2] [false] [.tmp 8 false,.itm 1 false] [3,4,8,24] ⟨Cs h10,trivial⟩)⟩
    ·refine .reg (eC 1 (some ((zB (AY (1:Int) x3)),(hT 3 [(.iter (some 2) k1 (Br l2 [(EO.born e1)]) k3),(.map e0 k3)]))) (show _=some ((zB false),_) from (by rw[show (AY (1:Int) x3)=false from h15])) (eE)) ?_
     exact⟨(z2,x2,false,k1,(Br l2 [(EO.born e1)]),k3,e0,k3),hm,(.k [2] [false] [.tmp 8 false,.itm 1 false] [3,4,8,24] ⟨Cs h10,trivial⟩)⟩
def Qv (pu:Af) (n:Nat) (b0:Bool):OV:=
 (some (.bool b0))
def eP (pu:Af) (n:Nat) (x0 x1:Int):OV:=
 (oo (pu 31 [(.agg ⟨[.int .i64 x0,.int .u32 x1]⟩)]) none fun v0=>(oo (Bi .i64 v0) none fun x2=>(bb (Bd x2 (0:Int)) (oo (pu 10170 [(.agg ⟨[.int .i64 x0,.int .u32 x1]⟩)]) none fun v1=>(oo (CQ v1) none fun l0=>(ll l0 none fun v2 l0=>(ll l0 none fun v3 l0=>(ll l0 (bb (FC v2 1) (oo (Fj v3) none fun y0=>(bb (Au F4 (Akd.es y0)) (Qv pu n (Bd (Int.ofNat (len (Akd.es y0))) (Aj .i64 (Int.sub x0 (1:Int))))) none)) none) fun _ _=>none))))) (Qv pu n false))))
def wW (pu:Af) (n:Nat) (args:LV):OV:=
 (ll args none fun a0 args=>(ll args (oo (Bt a0) none fun l0=>(ll l0 none fun v0 l0=>(ll l0 none fun v1 l0=>(ll l0 (oo (Bi .i64 v0) none fun x0=>(oo (Bi .u32 v1) none fun x1=>(eP pu n x0 x1))) fun _ _=>none)))) fun _ _=>none))
theorem AcI (pu:Af) (n:Nat) (b0:Bool) {v:Value} (hm:Qv pu n b0=some v):BN tt (Bb tabs isP pu (inl pu)) 1 .ret (fr 15 [(2,zB b0)]) AO (Fin tt 1 [.tmp 2] v):=by
 unfold Qv at hm
 refine .ret ?_
 exact A7 (zB b0) hm
theorem r30 {call:A8} (pu:Af) (n:Nat) (hcall:call=Bb tabs isP pu (inl pu)) {args:LV} {v:Value} (hm:wW pu n args=some v) (_:∀ x∈args,closed2 x=true):args.length≤15∧BN tt call 1 V5 (Fr.made 15 args) (Ao tabs) (Fin tt 1 [.tmp 2] v):=by
 subst hcall
 unfold wW at hm
 replace hm:=Ad hm;obtain⟨a0,args_0,rfl,hm⟩:=hm
 replace hm:=AC hm;obtain⟨rfl,hm⟩:=hm
 replace hm:=BG hm;obtain⟨l0,rfl,hm⟩:=hm
 replace hm:=Ad hm;obtain⟨v0,l2094_0,rfl,hm⟩:=hm
 replace hm:=Ad hm;obtain⟨v1,l2094_1,rfl,hm⟩:=hm
 replace hm:=AC hm;obtain⟨rfl,hm⟩:=hm
 replace hm:=Ai hm;obtain⟨x0,rfl,hm⟩:=hm
 replace hm:=Ai hm;obtain⟨x1,rfl,hm⟩:=hm
 unfold eP at hm
 refine⟨by simp,?_⟩
 refine .same (F':=(fr 15 [(0,(.agg ⟨[zI x0,.int .u32 x1]⟩))])) (H':=AO) (by kernel_rfl) (by kernel_rfl) ?_
 refine .then (.rK (.ghs (fr 15 [(1,pt 1 0)]) (hT 2 [(oC [zI x0,.int .u32 x1])]) (.k0 [false] [.tmp 1 false] [1]) ?_))
 refine .join (v:=v) (fun y:Bool=>((fr 15 [(2,zB y)]),AO)) (fun y=>Qv pu n y) ?_ ?_
 ·rintro b0 hm
  exact AcI pu n b0 hm
 ·replace hm:=K8 hm;obtain⟨x2,h0,hm⟩:=hm
  replace hm:=Ag hm;rcases hm with⟨h1,hm⟩ | ⟨h1,hm⟩
  ·replace hm:=Ab hm;obtain⟨v2,h2,hm⟩:=hm
   replace hm:=Ch hm;obtain⟨l1,rfl,hm⟩:=hm
   replace hm:=Ad hm;obtain⟨v3,l2197_0,rfl,hm⟩:=hm
   replace hm:=Ad hm;obtain⟨v4,l2197_1,rfl,hm⟩:=hm
   replace hm:=AC hm;obtain⟨rfl,hm⟩:=hm
   replace hm:=Ae hm;obtain⟨h3,hm⟩:=hm
   obtain rfl:=Ey h3
   replace hm:=Ab hm;obtain⟨y0,h4,hm⟩:=hm
   replace hm:=Ae hm;obtain⟨h5,hm⟩:=hm
   refine .reg (eC 1 ((oo (pu 31 [(.agg ⟨[zI x0,.int .u32 x1]⟩)]) none fun v=>some (v,(hT 2 [(oC [zI x0,.int .u32 x1])])))) (AB h0) (eD (some ((zB (Bd x2 (0:Int))),(hT 2 [(oC [zI x0,.int .u32 x1])]))) (show _=some ((zB true),_) from (by rw[show (Bd x2 (0:Int))=true from h1])) (eC 5 (EK tabs [[none,none]] 1 [] [false] (pu 10170) [(.agg ⟨[zI x0,.int .u32 x1]⟩)] (hT 2 [(oC [zI x0,.int .u32 x1])])) (EL (as:=[(.agg ⟨[zI x0,.int .u32 x1]⟩)]) (H1:=(hT 2 [(oC [zI x0,.int .u32 x1])])) (BS (Ot (Da Dk (Da Dk Oq))) Gj) (EI (H2:=(hT 3 [(oC [zI x0,.int .u32 x1]),(.map (Akd.es y0) (Akd.clock y0))])) (v:=(.map (some 1))) (v':=(.map (some 2))) [some 0] [] [] [(.agg ⟨[zI x0,.int .u32 x1]⟩)] [v4] [(.map (Akd.es y0) (Akd.clock y0))] [some 0,none,some 1] [(false,(.map (Akd.es y0) (Akd.clock y0)))] [(.map (Akd.es y0) (Akd.clock y0))] (by kernel_rfl) BX (Eq.trans (by kernel_rfl) h2) (En (CK h4) BX) (En (GZ h5) BX))) (eE)))) ?_
   exact⟨(Bd (Int.ofNat (len (Akd.es y0))) (Aj .i64 (Int.sub x0 (1:Int)))),hm,(.k0 [false] [] [2])⟩
  ·refine .reg (eC 1 ((oo (pu 31 [(.agg ⟨[zI x0,.int .u32 x1]⟩)]) none fun v=>some (v,(hT 2 [(oC [zI x0,.int .u32 x1])])))) (AB h0) (eD (some ((zB (Bd x2 (0:Int))),(hT 2 [(oC [zI x0,.int .u32 x1])]))) (show _=some ((zB false),_) from (by rw[show (Bd x2 (0:Int))=false from h1])) (eE))) ?_
   exact⟨false,hm,(.k0 [false] [] [2])⟩

def AcJ (pu:Af) (n:Nat) (s0:Sl):OV:=
 (some (Sl.v 1 s0))
def m43 (pu:Af) (n:Nat) (args:LV):OV:=
 (ll args none fun a0 args=>(ll args (oo (Bj 1 a0) none fun s0=>(AcJ pu n s0)) fun _ _=>none))
theorem r43 {call:A8} (pu:Af) (n:Nat) (hcall:call=Bb tabs isP pu (inl pu)) {args:LV} {v:Value} (hm:m43 pu n args=some v) (_:∀ x∈args,closed2 x=true):args.length≤4∧BN tt call 1 V6 (Fr.made 4 args) (Ao tabs) (Fin tt 1 [.tmp 2] v):=by
 subst hcall
 unfold m43 at hm
 replace hm:=Ad hm;obtain⟨a0,args_0,rfl,hm⟩:=hm
 replace hm:=AC hm;obtain⟨rfl,hm⟩:=hm
 replace hm:=Al hm;obtain⟨s0,rfl,hm⟩:=hm
 unfold AcJ at hm
 refine⟨by simp,?_⟩
 refine .same (F':=(fr 4 [(0,Sl.v 1 s0)])) (H':=AO) (by kernel_rfl) (by kernel_rfl) ?_
 refine .then (.rK (.ghs (fr 4 [(0,Sl.v 1 s0)]) AO (.k0 [false] [] [0]) ?_))
 refine .then (.rK (.ghs (fr 4 [(2,Sl.v 1 s0)]) AO (.k0 [false] [] [2]) ?_))
 refine .ret ?_
 exact A7 (Sl.v 1 s0) hm
def Ki (pu:Af) (n:Nat) (b0:Bool):OV:=
 (some (.bool b0))
def Gq (pu:Af) (n:Nat) (z1 z2 z3 z4:Int) (s0:Sl):OV:=
 (oo (pu 9 [(.agg ⟨[.int .i64 z4,Sl.v 1 s0]⟩),(.int .i64 (Aj .i64 (Int.sub z2 (1:Int))))]) none fun v0=>(oo (CQ v0) none fun l0=>(ll l0 none fun v1 l0=>(ll l0 none fun v2 l0=>(ll l0 (oo (Bt v1) none fun l1=>(ll l1 none fun v3 l1=>(ll l1 none fun v4 l1=>(ll l1 (oo (Bi .i64 v3) none fun x0=>(oo (Bj 1 v4) none fun s1=>(oo (Bi .i64 v2) none fun x1=>(bb (nt (Bd x1 (0:Int))) (some (.bool false)) (oo (pu 10 [(.agg ⟨[.int .i64 x0,Sl.v 1 s1]⟩)]) none fun v5=>(oo (CQ v5) none fun l2=>(ll l2 none fun v6 l2=>(ll l2 none fun v7 l2=>(ll l2 (oo (Bf v6) none fun b0=>(oo (Bi .i64 v7) none fun x2=>(oo (pu 13 [.int .i64 z2,.int .u32 z3,(.int .i64 (1:Int)),(.int .i64 (Aj .i64 z1))]) none fun v8=>(oo (Bi .u32 v8) none fun x3=>(oo (pu 12 [.int .i64 z2,.int .u32 x3]) none fun v9=>(oo (Bt v9) none fun l3=>(ll l3 none fun v10 l3=>(ll l3 none fun v11 l3=>(ll l3 (oo (Bi .i64 v10) none fun x4=>(oo (Bj 1 v11) none fun s2=>(oo (pu 11 [(.agg ⟨[.int .i64 x4,Sl.v 1 s2]⟩)]) none fun v12=>(oo (CQ v12) none fun l4=>(ll l4 none fun v13 l4=>(ll l4 none fun v14 l4=>(ll l4 (oo (Bj 1 v13) none fun s3=>(oo (Bi .i64 v14) none fun x5=>(oo (pu 12 [.int .i64 z2,(.int .u32 (Np .u32 z3 (Aj .u32 (Int.sub z3 (1:Int)))))]) none fun v15=>(oo (Bt v15) none fun l5=>(ll l5 none fun v16 l5=>(ll l5 none fun v17 l5=>(ll l5 (oo (Bi .i64 v16) none fun x6=>(oo (Bj 1 v17) none fun s4=>(oo (pu 11 [(.agg ⟨[.int .i64 x6,Sl.v 1 s4]⟩)]) none fun v18=>(oo (CQ v18) none fun l6=>(ll l6 none fun v19 l6=>(ll l6 none fun v20 l6=>(ll l6 (oo (Bj 1 v19) none fun s5=>(oo (Bi .i64 v20) none fun x7=>(bb (Bd x2 (0:Int)) (bb b0 (bb (Bd x5 (0:Int)) (bb (Bd (Int.ofNat (Sl.n s3)) (0:Int)) (bb (Bd x7 (0:Int)) (oo (pu 14 [.int .u32 z3]) none fun v21=>(oo (Bi .i64 v21) none fun x8=>(oo (pu 8 [Sl.v 1 s5,.int .i64 x8]) none fun v22=>(oo (Bf v22) none fun b1=>(bb b1 (oo (pu 15 []) none fun v23=>(oo (Bf v23) none fun b2=>(Ki pu n b2))) (Ki pu n false)))))) (Ki pu n false)) (Ki pu n false)) (Ki pu n false)) (Ki pu n false)) (Ki pu n false)))) fun _ _=>none))))))) fun _ _=>none))))))) fun _ _=>none))))))) fun _ _=>none))))))))) fun _ _=>none))))))))) fun _ _=>none)))) fun _ _=>none)))))
def Yz (pu:Af) (n:Nat) (ih0:Int→Int→Int→Int→Sl→Int→Int→Sl→OV) (z1 z2 z3 z4:Int) (s0:Sl) (z5:Int) (b0:Bool) (z6:Int) (s1:Sl):OV:=
 (bb b0 (some (.bool false)) (ih0 z1 z2 z3 z4 s0 (Aj .i64 (Int.add z5 (1:Int))) z6 s1))
def uG (pu:Af) (n:Nat) (ih0:Int→Int→Int→Int→Sl→Int→Int→Sl→OV) (z1 z2 z3 z4:Int) (s0:Sl) (z5 z6:Int) (s1:Sl):OV:=
 (bb (AY z5 z2) (bb (AY z5 (4:Int)) (bb (nt (Bd z5 (0:Int))) (bb (Bd (Int.tmod (Aj .i64 (Int.sub z2 (1:Int))) z5) (0:Int)) (oo (pu 8 [Sl.v 1 s0,.int .i64 z5]) none fun v0=>(oo (Bf v0) none fun b0=>(Yz pu n ih0 z1 z2 z3 z4 s0 z5 (nt b0) z6 s1))) (Yz pu n ih0 z1 z2 z3 z4 s0 z5 false z6 s1)) none) (Yz pu n ih0 z1 z2 z3 z4 s0 z5 false z6 s1)) (Gq pu n z1 z3 z4 z6 s1))
def eQ (pu:Af) (n w:Nat):Int→Int→Int→Int→Sl→Int→Int→Sl→OV:=
 Nat.rec (motive:=fun _=>Int→Int→Int→Int→Sl→Int→Int→Sl→OV) (fun _ _ _ _ _ _ _ _=>none) (fun _ ih0=>uG pu n ih0) w
def eT (pu:Af) (n:Nat) (z1 z2 z3 z4:Int) (s0:Sl) (b0:Bool) (z5:Int) (s1:Sl):OV:=
 (bb b0 (some (.bool false)) (eQ pu n n z1 z2 z3 z4 s0 (2:Int) z5 s1))
def Gs (pu:Af) (n:Nat) (z1 z2 z3:Int) (s0:Sl) (z4 z5:Int) (s1:Sl):OV:=
 (oo (pu 5 [(.agg ⟨[.int .i64 z5,Sl.v 1 s1]⟩)]) none fun v0=>(oo (CQ v0) none fun l0=>(ll l0 none fun v1 l0=>(ll l0 none fun v2 l0=>(ll l0 (oo (Bj 1 v1) none fun s2=>(oo (Bi .i64 v2) none fun x0=>(bb (nt (Bd x0 (0:Int))) (eT pu n z1 z2 z3 z4 s2 true z5 s1) (oo (pu 7 [.int .i64 z3,.int .u32 z4]) none fun v3=>(oo (Bj 1 v3) none fun s3=>(oo (pu 6 [Sl.v 1 s3,Sl.v 1 s0]) none fun v4=>(oo (Bf v4) none fun b0=>(eT pu n z1 z2 z3 z4 s2 (nt b0) z5 s1)))))))) fun _ _=>none)))))
def Wx (pu:Af) (n:Nat) (ih0:Int→Int→Int→Sl→Int→Sl→Int→Int→Int→Sl→OV) (z1 z2 z3:Int) (s0:Sl) (z4 z5:Int) (s1:Sl) (z6 z7:Int) (b0:Bool) (z8:Int) (s2:Sl):OV:=
 (bb b0 (some (.bool false)) (oo (EA z5) none fun k1=>(ih0 z1 z2 z3 s0 (jF .u32 z4 (QW .u32 (1:Int) k1)) s1 z6 (Aj .i64 (Int.add z7 (1:Int))) z8 s2)))
def uH (pu:Af) (n:Nat) (ih0:Int→Int→Int→Sl→Int→Sl→Int→Int→Int→Sl→OV) (z1 z2 z3:Int) (s0:Sl) (z4:Int) (s1:Sl) (z5 z6 z7:Int) (s2:Sl):OV:=
 (bb (AY z6 z5) (oo (EA z6) none fun k1=>(bb (an (Nat.blt k1 (Sl.n s1)) true) (oo (AL (Sl.cs s1) (k1*1)) none fun v0=>(oo (Bi .i64 v0) none fun x0=>(bb (AY x0 (0:Int)) (Wx pu n ih0 z1 z2 z3 s0 z4 x0 s1 z5 (Int.ofNat k1) true z7 s2) (Wx pu n ih0 z1 z2 z3 s0 z4 x0 s1 z5 (Int.ofNat k1) (nt (AY x0 z3)) z7 s2)))) none)) (Gs pu n z1 z2 z3 s0 z4 z7 s2))
def eU (pu:Af) (n w:Nat):Int→Int→Int→Sl→Int→Sl→Int→Int→Int→Sl→OV:=
 Nat.rec (motive:=fun _=>Int→Int→Int→Sl→Int→Sl→Int→Int→Int→Sl→OV) (fun _ _ _ _ _ _ _ _ _ _=>none) (fun _ ih0=>uH pu n ih0) w
def eX (pu:Af) (n:Nat) (z1 z2 z3:Int) (s0:Sl) (b0:Bool) (z4:Int) (s1:Sl):OV:=
 (bb b0 (some (.bool false)) (eU pu n n z1 z2 z3 s0 (0:Int) s1 (Int.ofNat (Sl.n s1)) (0:Int) z4 s1))
def G9 (pu:Af) (n:Nat) (z1 z2 z3 z4:Int) (s0 s1:Sl) (b0:Bool):OV:=
 (bb b0 (some (.bool false)) (bb (nt (Bd (Int.ofNat (Sl.n s1)) (0:Int))) (oo (EA (Int.tmod (Aj .i64 z1) (Int.ofNat (Sl.n s1)))) none fun k1=>(bb (an (Nat.blt k1 (Sl.n s1)) true) (bb (Nat.ble ((k1*2)+2) (len (Sl.cs s1))) (oo (AL (Sl.cs s1) (k1*2)) none fun v0=>(oo (Bi .i64 v0) none fun x0=>(oo (AL (Sl.cs s1) ((k1*2)+1)) none fun v1=>(oo (Bj 1 v1) none fun s2=>(bb (nt (Bd x0 z4)) (eX pu n z2 z3 z4 s0 true x0 s2) (eX pu n z2 z3 z4 s0 (nt (Bd (Int.ofNat (Sl.n s2)) z3)) x0 s2)))))) none) none)) none))
def LU (pu:Af) (n:Nat) (z1 z2 z3 z4:Int) (n0 c0:Nat) (q0:LV):OV:=
 (bb (an (Nat.ble (0+n0*1) (len q0)) (Au Ah (Aq (n0*1) (Am 0 q0)))) (oo (pu 4 [.int .i64 z4,(Sl.v 1 (Sl.mk n0 0 (Aq (n0*1) (Am 0 q0))))]) none fun v0=>(oo (CQ v0) none fun l0=>(ll l0 none fun v1 l0=>(ll l0 none fun v2 l0=>(ll l0 (oo (Bj 2 v1) none fun s0=>(oo (Bi .i64 v2) none fun x0=>(bb (nt (Bd x0 (0:Int))) (G9 pu n z1 z2 z3 z4 (Sl.mk n0 0 (Aq (n0*1) (Am 0 q0))) s0 true) (bb (Bd (Int.ofNat (Sl.n s0)) (0:Int)) (G9 pu n z1 z2 z3 z4 (Sl.mk n0 0 (Aq (n0*1) (Am 0 q0))) s0 true) (G9 pu n z1 z2 z3 z4 (Sl.mk n0 0 (Aq (n0*1) (Am 0 q0))) s0 (AY (1000:Int) (Int.ofNat (Sl.n s0)))))))) fun _ _=>none))))) none)
def YA (pu:Af) (n:Nat) (ih0:Int→Int→Int→Int→Nat→Nat→Int→Int→LV→OV) (z1 z2 z3 z4:Int) (n0 c0:Nat) (z5 z6:Int) (q0:LV):OV:=
 (bb (Au Ah q0) (bb (AY z6 z5) (bb (GV 1 8 n0 c0 1 q0) (bb (Au Ah (Br (Am 0 q0) [(.int .i64 (1:Int))])) (ih0 z1 z2 z3 z4 (n0+1) (2*(n0+1)+bb false 1 0) z5 (Aj .i64 (Int.add z6 (1:Int))) (Br (Am 0 q0) [(.int .i64 (1:Int))])) none) none) (LU pu n z1 z2 z3 z4 n0 c0 q0)) none)
def O1 (pu:Af) (n w:Nat):Int→Int→Int→Int→Nat→Nat→Int→Int→LV→OV:=
 Nat.rec (motive:=fun _=>Int→Int→Int→Int→Nat→Nat→Int→Int→LV→OV) (fun _ _ _ _ _ _ _ _ _=>none) (fun _ ih0=>YA pu n ih0) w
def YB (pu:Af) (n:Nat) (x0 x1 x2:Int):OV:=
 (O1 pu n n x1 x2 (Aj .i64 (Int.add (2:Int) (Int.tmod (Aj .i64 x0) (4:Int)))) (Aj .i64 (Int.add (Aj .i64 (Int.mul (Aj .i64 (Int.add (2:Int) (Int.tmod (Aj .i64 x0) (4:Int)))) (Aj .i64 (Int.sub (Aj .i64 (Int.add (2:Int) (Int.tmod (Aj .i64 x0) (4:Int)))) (1:Int))))) (1:Int))) 0 0 (Aj .i64 (Int.sub (Aj .i64 (Int.add (Aj .i64 (Int.mul (Aj .i64 (Int.add (2:Int) (Int.tmod (Aj .i64 x0) (4:Int)))) (Aj .i64 (Int.sub (Aj .i64 (Int.add (2:Int) (Int.tmod (Aj .i64 x0) (4:Int)))) (1:Int))))) (1:Int))) (1:Int))) (0:Int) ([]:LV))
def m3 (pu:Af) (n:Nat) (args:LV):OV:=
 (ll args none fun a0 args=>(ll args none fun a1 args=>(ll args none fun a2 args=>(ll args (oo (Bi .u8 a0) none fun x0=>(oo (Bi .u8 a1) none fun x1=>(oo (Bi .u8 a2) none fun x2=>(YB pu n x0 x1 x2)))) fun _ _=>none))))
theorem Af0 (pu:Af) (n:Nat) (b0:Bool) {v:Value} (hm:Ki pu n b0=some v):BN tt (Bb tabs isP pu (inl pu)) 1 .ret (fr 199 [(6,zB b0)]) AO (Fin tt 1 [.tmp 6] v):=by
 unfold Ki at hm
 refine .ret ?_
 exact A7 (zB b0) hm
theorem Af1 (pu:Af) (n:Nat) (z1 z2 z3 z4:Int) (s0:Sl) {v:Value} (hm:Gq pu n z1 z2 z3 z4 s0=some v):BN tt (Bb tabs isP pu (inl pu)) 1 jJ (fr 199 [(2,(zY z1)),(8,zI z2),(12,pt 1 0),(13,.int .u32 z3)]) (hT 2 [(oC [zI z4,Sl.v 1 s0])]) (Fin tt 1 [.tmp 6] v):=by
 unfold Gq at hm
 refine .then ?_
 replace hm:=Ab hm;obtain⟨v0,h0,hm⟩:=hm
 replace hm:=Ch hm;obtain⟨l0,rfl,hm⟩:=hm
 replace hm:=Ad hm;obtain⟨v1,l2636_0,rfl,hm⟩:=hm
 replace hm:=Ad hm;obtain⟨v2,l2636_1,rfl,hm⟩:=hm
 replace hm:=AC hm;obtain⟨rfl,hm⟩:=hm
 replace hm:=BG hm;obtain⟨l1,rfl,hm⟩:=hm
 replace hm:=Ad hm;obtain⟨v3,l2640_0,rfl,hm⟩:=hm
 replace hm:=Ad hm;obtain⟨v4,l2640_1,rfl,hm⟩:=hm
 replace hm:=AC hm;obtain⟨rfl,hm⟩:=hm
 replace hm:=Ai hm;obtain⟨x0,rfl,hm⟩:=hm
 replace hm:=Al hm;obtain⟨s1,rfl,hm⟩:=hm
 replace hm:=Ai hm;obtain⟨x1,rfl,hm⟩:=hm
 refine .reg (eC 3 ((oo (pu 9 [(.agg ⟨[zI z4,Sl.v 1 s0]⟩),(zI (Aj .i64 (Int.sub z2 (1:Int))))]) none fun v=>some (v,(hT 2 [(oC [zI z4,Sl.v 1 s0])])))) (AB h0) (eE)) ?_
 refine .ghs (fr 199 [(2,(zY z1)),(8,zI z2),(13,.int .u32 z3),(19,pt 1 0),(20,zI x1)]) (hT 2 [(oC [zI x0,Sl.v 1 s1])]) (.k0 [false] [.tmp 19 false] [2,8,13,19,20]) ?_
 refine .then (.then (.rK (.ghs (fr 199 [(2,(zY z1)),(8,zI z2),(13,.int .u32 z3),(19,pt 1 0),(144,(zB (nt (Bd x1 (0:Int)))))]) (hT 2 [(oC [zI x0,Sl.v 1 s1])]) (.k0 [false] [.tmp 19 false] [2,8,13,19,144]) ?_)))
 replace hm:=Ag hm;rcases hm with⟨h1,hm⟩ | ⟨h1,hm⟩
 ·refine DT (nt (Bd x1 (0:Int))) h1 ?_
  refine .then (.rK (.ghs (fr 199 [(6,zB false)]) AO (.k0 [false] [] [6]) ?_))
  refine .ret ?_
  exact A7 (zB false) hm
 ·refine Eb (nt (Bd x1 (0:Int))) h1 ?_
  refine .skip (.ghs (fr 199 [(2,(zY z1)),(8,zI z2),(13,.int .u32 z3),(19,pt 1 0)]) (hT 2 [(oC [zI x0,Sl.v 1 s1])]) (.k0 [false] [.tmp 19 false] [2,8,13,19]) ?_)
  refine .then ?_
  replace hm:=Ab hm;obtain⟨v5,h2,hm⟩:=hm
  replace hm:=Ch hm;obtain⟨l2,rfl,hm⟩:=hm
  replace hm:=Ad hm;obtain⟨v6,l2663_0,rfl,hm⟩:=hm
  replace hm:=Ad hm;obtain⟨v7,l2663_1,rfl,hm⟩:=hm
  replace hm:=AC hm;obtain⟨rfl,hm⟩:=hm
  replace hm:=Be hm;obtain⟨b0,rfl,hm⟩:=hm
  replace hm:=Ai hm;obtain⟨x2,rfl,hm⟩:=hm
  refine .reg (eC 1 ((oo (pu 10 [(.agg ⟨[zI x0,Sl.v 1 s1]⟩)]) none fun v=>some (v,(hT 2 [(oC [zI x0,Sl.v 1 s1])])))) (AB h2) (eE)) ?_
  refine .ghs (fr 199 [(2,(zY z1)),(8,zI z2),(13,.int .u32 z3),(21,zB b0),(22,zI x2)]) AO (.k0 [false] [] [2,8,13,21,22]) ?_
  refine .then ?_
  replace hm:=K8 hm;obtain⟨x3,h3,hm⟩:=hm
  replace hm:=Ab hm;obtain⟨v8,h4,hm⟩:=hm
  replace hm:=BG hm;obtain⟨l3,rfl,hm⟩:=hm
  replace hm:=Ad hm;obtain⟨v9,l2701_0,rfl,hm⟩:=hm
  replace hm:=Ad hm;obtain⟨v10,l2701_1,rfl,hm⟩:=hm
  replace hm:=AC hm;obtain⟨rfl,hm⟩:=hm
  replace hm:=Ai hm;obtain⟨x4,rfl,hm⟩:=hm
  replace hm:=Al hm;obtain⟨s2,rfl,hm⟩:=hm
  replace hm:=Ab hm;obtain⟨v11,h5,hm⟩:=hm
  replace hm:=Ch hm;obtain⟨l4,rfl,hm⟩:=hm
  replace hm:=Ad hm;obtain⟨v12,l2711_0,rfl,hm⟩:=hm
  replace hm:=Ad hm;obtain⟨v13,l2711_1,rfl,hm⟩:=hm
  replace hm:=AC hm;obtain⟨rfl,hm⟩:=hm
  replace hm:=Al hm;obtain⟨s3,rfl,hm⟩:=hm
  replace hm:=Ai hm;obtain⟨x5,rfl,hm⟩:=hm
  refine .reg (eC 5 ((oo (pu 13 [zI z2,.int .u32 z3,(zI (1:Int)),(zI (Aj .i64 z1))]) none fun v=>some (v,AO))) (AB h3) (eD ((oo (pu 12 [zI z2,.int .u32 x3]) none fun v=>some (v,AO))) (AB h4) (eD ((oo (pu 11 [(.agg ⟨[zI x4,Sl.v 1 s2]⟩)]) none fun v=>some (v,AO))) (AB h5) (eE)))) ?_
  refine .ghs (fr 199 [(8,zI z2),(13,.int .u32 z3),(21,zB b0),(22,zI x2),(23,Sl.v 1 s3),(24,zI x5)]) AO (.k0 [false] [] [8,13,21,22,23,24]) ?_
  refine .then ?_
  replace hm:=Ab hm;obtain⟨v14,h6,hm⟩:=hm
  replace hm:=BG hm;obtain⟨l5,rfl,hm⟩:=hm
  replace hm:=Ad hm;obtain⟨v15,l2731_0,rfl,hm⟩:=hm
  replace hm:=Ad hm;obtain⟨v16,l2731_1,rfl,hm⟩:=hm
  replace hm:=AC hm;obtain⟨rfl,hm⟩:=hm
  replace hm:=Ai hm;obtain⟨x6,rfl,hm⟩:=hm
  replace hm:=Al hm;obtain⟨s4,rfl,hm⟩:=hm
  refine .reg (eC 5 ((oo (pu 12 [zI z2,(.int .u32 (Np .u32 z3 (Aj .u32 (Int.sub z3 (1:Int)))))]) none fun v=>some (v,AO))) (AB h6) (eE)) ?_
  refine .ghs (fr 199 [(13,.int .u32 z3),(21,zB b0),(22,zI x2),(23,Sl.v 1 s3),(24,zI x5),(25,pt 1 0)]) (hT 2 [(oC [zI x6,Sl.v 1 s4])]) (.k0 [false] [.tmp 25 false] [13,21,22,23,24,25]) ?_
  refine .then ?_
  replace hm:=Ab hm;obtain⟨v17,h7,hm⟩:=hm
  replace hm:=Ch hm;obtain⟨l6,rfl,hm⟩:=hm
  replace hm:=Ad hm;obtain⟨v18,l2751_0,rfl,hm⟩:=hm
  replace hm:=Ad hm;obtain⟨v19,l2751_1,rfl,hm⟩:=hm
  replace hm:=AC hm;obtain⟨rfl,hm⟩:=hm
  replace hm:=Al hm;obtain⟨s5,rfl,hm⟩:=hm
  replace hm:=Ai hm;obtain⟨x7,rfl,hm⟩:=hm
  refine .reg (eC 1 ((oo (pu 11 [(.agg ⟨[zI x6,Sl.v 1 s4]⟩)]) none fun v=>some (v,(hT 2 [(oC [zI x6,Sl.v 1 s4])])))) (AB h7) (eE)) ?_
  refine .ghs (fr 199 [(13,.int .u32 z3),(21,zB b0),(22,zI x2),(23,Sl.v 1 s3),(24,zI x5),(26,Sl.v 1 s5),(27,zI x7)]) AO (.k0 [false] [] [13,21,22,23,24,26,27]) ?_
  refine .join (v:=v) (fun y:Bool=>((fr 199 [(6,zB y)]),AO)) (fun y=>Ki pu n y) ?_ ?_
  ·rintro b1 hm
   exact Af0 pu n b1 hm
  ·replace hm:=Ag hm;rcases hm with⟨h8,hm⟩ | ⟨h8,hm⟩
   ·replace hm:=Ag hm;rcases hm with⟨h9,hm⟩ | ⟨h9,hm⟩
    ·replace hm:=Ag hm;rcases hm with⟨h10,hm⟩ | ⟨h10,hm⟩
     ·replace hm:=Ag hm;rcases hm with⟨h11,hm⟩ | ⟨h11,hm⟩
      ·replace hm:=Ag hm;rcases hm with⟨h12,hm⟩ | ⟨h12,hm⟩
       ·replace hm:=K8 hm;obtain⟨x8,h13,hm⟩:=hm
        replace hm:=Yd hm;obtain⟨b2,h14,hm⟩:=hm
        replace hm:=Ag hm;rcases hm with⟨h15,hm⟩ | ⟨h15,hm⟩
        ·replace hm:=Yd hm;obtain⟨b57,h16,hm⟩:=hm
         refine .reg (eN 8 (Fr.puts (fr 199 [(13,.int .u32 z3),(21,zB b0),(22,zI x2),(23,Sl.v 1 s3),(24,zI x5),(26,Sl.v 1 s5),(27,zI x7)]) [(172,zI x2),(173,zB true),(174,zB true),(175,zB true),(176,zB true),(177,zB true),(178,zI x5),(179,zB true)]) AO (eC 1 (some ((zB (Bd x2 (0:Int))),AO)) (show _=some ((zB true),_) from (by rw[show (Bd x2 (0:Int))=true from h8])) (eC 1 (some ((zB b0),AO)) (show _=some ((zB true),_) from (by rw[show b0=true from h9])) (eC 3 (some ((zB (Bd x5 (0:Int))),AO)) (show _=some ((zB true),_) from (by rw[show (Bd x5 (0:Int))=true from h10])) (by kernel_rfl)))) (eC 4 (some ((zB (Bd (Int.ofNat (Sl.n s3)) (0:Int))),AO)) (show _=some ((zB true),_) from (by rw[show (Bd (Int.ofNat (Sl.n s3)) (0:Int))=true from h11])) (eC 3 (some ((zB (Bd x7 (0:Int))),AO)) (show _=some ((zB true),_) from (by rw[show (Bd x7 (0:Int))=true from h12])) (eC 4 ((oo (pu 14 [.int .u32 z3]) none fun v=>some (v,AO))) (AB h13) (eD ((oo (pu 8 [Sl.v 1 s5,zI x8]) none fun v=>some (v,AO))) (show _=some ((zB true),_) from (by have hz:(oo (pu 8 [Sl.v 1 s5,zI x8]) none fun v=>some (v,AO))=some ((zB b2),AO):=(AB h14);rw[h15] at hz;exact hz)) (eC 2 ((oo (pu 15 []) none fun v=>some (v,AO))) (AB h16) (eE))))))) ?_
         exact⟨b57,hm,(.k0 [false] [] [6])⟩
        ·refine .reg (eN 8 (Fr.puts (fr 199 [(13,.int .u32 z3),(21,zB b0),(22,zI x2),(23,Sl.v 1 s3),(24,zI x5),(26,Sl.v 1 s5),(27,zI x7)]) [(172,zI x2),(173,zB true),(174,zB true),(175,zB true),(176,zB true),(177,zB true),(178,zI x5),(179,zB true)]) AO (eC 1 (some ((zB (Bd x2 (0:Int))),AO)) (show _=some ((zB true),_) from (by rw[show (Bd x2 (0:Int))=true from h8])) (eC 1 (some ((zB b0),AO)) (show _=some ((zB true),_) from (by rw[show b0=true from h9])) (eC 3 (some ((zB (Bd x5 (0:Int))),AO)) (show _=some ((zB true),_) from (by rw[show (Bd x5 (0:Int))=true from h10])) (by kernel_rfl)))) (eC 4 (some ((zB (Bd (Int.ofNat (Sl.n s3)) (0:Int))),AO)) (show _=some ((zB true),_) from (by rw[show (Bd (Int.ofNat (Sl.n s3)) (0:Int))=true from h11])) (eC 3 (some ((zB (Bd x7 (0:Int))),AO)) (show _=some ((zB true),_) from (by rw[show (Bd x7 (0:Int))=true from h12])) (eC 4 ((oo (pu 14 [.int .u32 z3]) none fun v=>some (v,AO))) (AB h13) (eD ((oo (pu 8 [Sl.v 1 s5,zI x8]) none fun v=>some (v,AO))) (show _=some ((zB false),_) from (by have hz:(oo (pu 8 [Sl.v 1 s5,zI x8]) none fun v=>some (v,AO))=some ((zB b2),AO):=(AB h14);rw[h15] at hz;exact hz)) (eE)))))) ?_
         exact⟨false,hm,(.k0 [false] [] [6])⟩
       ·refine .reg (eC 1 (some ((zB (Bd x2 (0:Int))),AO)) (show _=some ((zB true),_) from (by rw[show (Bd x2 (0:Int))=true from h8])) (eC 1 (some ((zB b0),AO)) (show _=some ((zB true),_) from (by rw[show b0=true from h9])) (eC 3 (some ((zB (Bd x5 (0:Int))),AO)) (show _=some ((zB true),_) from (by rw[show (Bd x5 (0:Int))=true from h10])) (eC 4 (some ((zB (Bd (Int.ofNat (Sl.n s3)) (0:Int))),AO)) (show _=some ((zB true),_) from (by rw[show (Bd (Int.ofNat (Sl.n s3)) (0:Int))=true from h11])) (eC 3 (some ((zB (Bd x7 (0:Int))),AO)) (show _=some ((zB false),_) from (by rw[show (Bd x7 (0:Int))=false from h12])) (eE)))))) ?_
        exact⟨false,hm,(.k0 [false] [] [6])⟩
      ·refine .reg (eC 1 (some ((zB (Bd x2 (0:Int))),AO)) (show _=some ((zB true),_) from (by rw[show (Bd x2 (0:Int))=true from h8])) (eC 1 (some ((zB b0),AO)) (show _=some ((zB true),_) from (by rw[show b0=true from h9])) (eC 3 (some ((zB (Bd x5 (0:Int))),AO)) (show _=some ((zB true),_) from (by rw[show (Bd x5 (0:Int))=true from h10])) (eC 4 (some ((zB (Bd (Int.ofNat (Sl.n s3)) (0:Int))),AO)) (show _=some ((zB false),_) from (by rw[show (Bd (Int.ofNat (Sl.n s3)) (0:Int))=false from h11])) (eE))))) ?_
       exact⟨false,hm,(.k0 [false] [] [6])⟩
     ·refine .reg (eC 1 (some ((zB (Bd x2 (0:Int))),AO)) (show _=some ((zB true),_) from (by rw[show (Bd x2 (0:Int))=true from h8])) (eC 1 (some ((zB b0),AO)) (show _=some ((zB true),_) from (by rw[show b0=true from h9])) (eC 3 (some ((zB (Bd x5 (0:Int))),AO)) (show _=some ((zB false),_) from (by rw[show (Bd x5 (0:Int))=false from h10])) (eE)))) ?_
      exact⟨false,hm,(.k0 [false] [] [6])⟩
    ·refine .reg (eC 1 (some ((zB (Bd x2 (0:Int))),AO)) (show _=some ((zB true),_) from (by rw[show (Bd x2 (0:Int))=true from h8])) (eC 1 (some ((zB b0),AO)) (show _=some ((zB false),_) from (by rw[show b0=false from h9])) (eE))) ?_
     exact⟨false,hm,(.k0 [false] [] [6])⟩
   ·refine .reg (eC 1 (some ((zB (Bd x2 (0:Int))),AO)) (show _=some ((zB false),_) from (by rw[show (Bd x2 (0:Int))=false from h8])) (eE)) ?_
    exact⟨false,hm,(.k0 [false] [] [6])⟩
theorem Af2 (pu:Af) (n:Nat) (z1 z2 z3:Int) (s0:Sl) (z4 z5:Int) (s1:Sl) {v:Value} (hm:Gs pu n z1 z2 z3 s0 z4 z5 s1=some v):BN tt (Bb tabs isP pu (inl pu)) 1 jK (fr 199 [(2,(zY z1)),(7,zI z2),(8,zI z3),(9,Sl.v 1 s0),(12,pt 1 0),(13,.int .u32 z4)]) (hT 2 [(oC [zI z5,Sl.v 1 s1])]) (Fin tt 1 [.tmp 6] v):=by
 unfold Gs at hm
 refine .then ?_
 replace hm:=Ab hm;obtain⟨v0,h0,hm⟩:=hm
 replace hm:=Ch hm;obtain⟨l0,rfl,hm⟩:=hm
 replace hm:=Ad hm;obtain⟨v1,l2438_0,rfl,hm⟩:=hm
 replace hm:=Ad hm;obtain⟨v2,l2438_1,rfl,hm⟩:=hm
 replace hm:=AC hm;obtain⟨rfl,hm⟩:=hm
 replace hm:=Al hm;obtain⟨s2,rfl,hm⟩:=hm
 replace hm:=Ai hm;obtain⟨x0,rfl,hm⟩:=hm
 refine .reg (eC 1 ((oo (pu 5 [(.agg ⟨[zI z5,Sl.v 1 s1]⟩)]) none fun v=>some (v,(hT 2 [(oC [zI z5,Sl.v 1 s1])])))) (AB h0) (eE)) ?_
 refine .ghs (fr 199 [(2,(zY z1)),(7,zI z2),(8,zI z3),(9,Sl.v 1 s0),(12,pt 1 0),(13,.int .u32 z4),(16,Sl.v 1 s2),(17,zI x0)]) (hT 2 [(oC [zI z5,Sl.v 1 s1])]) (.k0 [false] [.tmp 12 false] [2,7,8,9,12,13,16,17]) ?_
 refine .then (.join (v:=v) (fun y:Int×Int×Int×Int×Sl×Bool×Int×Sl=>((fr 199 [(2,(zY y.1)),(7,(zI y.2.1)),(8,(zI y.2.2.1)),(12,pt 1 0),(13,(.int .u32 y.2.2.2.1)),(16,(Sl.v 1 y.2.2.2.2.1)),(115,(zB y.2.2.2.2.2.1))]),(hT 2 [(oC [(zI y.2.2.2.2.2.2.1),(Sl.v 1 y.2.2.2.2.2.2.2)])]))) (fun y=>eT pu n y.1 y.2.1 y.2.2.1 y.2.2.2.1 y.2.2.2.2.1 y.2.2.2.2.2.1 y.2.2.2.2.2.2.1 y.2.2.2.2.2.2.2) ?_ ?_)
 ·rintro⟨z6,z7,z8,z9,s3,b0,z10,s4⟩ hm
  unfold eT at hm
  replace hm:=Ag hm;rcases hm with⟨h1,hm⟩ | ⟨h1,hm⟩
  ·refine .ifT b0 (by kernel_rfl) h1 ?_
   refine .then (.rK (.ghs (fr 199 [(6,zB false)]) AO (.k0 [false] [] [6]) ?_))
   refine .ret ?_
   exact A7 (zB false) hm
  ·refine .ifF b0 (by kernel_rfl) h1 ?_
   refine .skip (.ghs (fr 199 [(2,(zY z6)),(7,zI z7),(8,zI z8),(12,pt 1 0),(13,.int .u32 z9),(16,Sl.v 1 s3)]) (hT 2 [(oC [zI z10,Sl.v 1 s4])]) (.k0 [false] [.tmp 12 false] [2,7,8,12,13,16]) ?_)
   refine .join (v:=v) (fun y:Int×Int×Int×Int×Sl=>((fr 199 [(2,(zY y.1)),(8,(zI y.2.1)),(12,pt 1 0),(13,(.int .u32 y.2.2.1))]),(hT 2 [(oC [(zI y.2.2.2.1),(Sl.v 1 y.2.2.2.2)])]))) (fun y=>Gq pu n y.1 y.2.1 y.2.2.1 y.2.2.2.1 y.2.2.2.2) ?_ ?_
   ·rintro⟨z11,z12,z13,z14,s5⟩ hm
    exact Af1 pu n z11 z12 z13 z14 s5 hm
   ·refine .then (.rK (.ghs (fr 199 [(2,(zY z6)),(7,zI z7),(8,zI z8),(12,pt 1 0),(13,.int .u32 z9),(16,Sl.v 1 s3),(18,(zI (2:Int)))]) (hT 2 [(oC [zI z10,Sl.v 1 s4])]) (.k0 [false] [.tmp 12 false] [2,7,8,12,13,16,18]) ?_))
    refine .block (.loopM (v:=v) (fun y:Int×Int×Int×Int×Sl×Int×Int×Sl=>((fr 199 [(2,(zY y.1)),(7,(zI y.2.1)),(8,(zI y.2.2.1)),(12,pt 1 0),(13,(.int .u32 y.2.2.2.1)),(16,(Sl.v 1 y.2.2.2.2.1)),(18,(zI y.2.2.2.2.2.1))]),(hT 2 [(oC [(zI y.2.2.2.2.2.2.1),(Sl.v 1 y.2.2.2.2.2.2.2)])]))) (fun w y=>eQ pu n w y.1 y.2.1 y.2.2.1 y.2.2.2.1 y.2.2.2.2.1 y.2.2.2.2.2.1 y.2.2.2.2.2.2.1 y.2.2.2.2.2.2.2) n ⟨(z6,z7,z8,z9,s3,(2:Int),z10,s4),hm,(.k0 [false] [.tmp 12 false] [2,7,8,12,13,16,18])⟩ (fun _=>rfl) ?_)
    rintro w0 ⟨z15,z16,z17,z18,s6,z19,z20,s7⟩ hm
    replace hm:uG pu n (eQ pu n w0) z15 z16 z17 z18 s6 z19 z20 s7=some v:=hm
    unfold uG at hm
    refine .then (.then (.rK (.ghs (fr 199 [(2,(zY z15)),(7,zI z16),(8,zI z17),(12,pt 1 0),(13,.int .u32 z18),(16,Sl.v 1 s6),(18,zI z19),(118,(zB (AY z19 z16)))]) (hT 2 [(oC [zI z20,Sl.v 1 s7])]) (.k0 [false] [.tmp 12 false] [2,7,8,12,13,16,18,118]) ?_)))
    replace hm:=Ag hm;rcases hm with⟨h2,hm⟩ | ⟨h2,hm⟩
    ·refine DT (AY z19 z16) h2 ?_
     refine .skip (.ghs (fr 199 [(2,(zY z15)),(7,zI z16),(8,zI z17),(12,pt 1 0),(13,.int .u32 z18),(16,Sl.v 1 s6),(18,zI z19)]) (hT 2 [(oC [zI z20,Sl.v 1 s7])]) (.k0 [false] [.tmp 12 false] [2,7,8,12,13,16,18]) ?_)
     refine .then (.block (.join (v:=v) (fun y:Int×Int×Int×Int×Sl×Int×Bool×Int×Sl=>((fr 199 [(2,(zY y.1)),(7,(zI y.2.1)),(8,(zI y.2.2.1)),(12,pt 1 0),(13,(.int .u32 y.2.2.2.1)),(16,(Sl.v 1 y.2.2.2.2.1)),(18,(zI y.2.2.2.2.2.1)),(135,(zB y.2.2.2.2.2.2.1))]),(hT 2 [(oC [(zI y.2.2.2.2.2.2.2.1),(Sl.v 1 y.2.2.2.2.2.2.2.2)])]))) (fun y=>Yz pu n (eQ pu n w0) y.1 y.2.1 y.2.2.1 y.2.2.2.1 y.2.2.2.2.1 y.2.2.2.2.2.1 y.2.2.2.2.2.2.1 y.2.2.2.2.2.2.2.1 y.2.2.2.2.2.2.2.2) ?_ ?_))
     ·rintro⟨z21,z22,z23,z24,s8,z25,b1,z26,s9⟩ hm
      unfold Yz at hm
      replace hm:=Ag hm;rcases hm with⟨h3,hm⟩ | ⟨h3,hm⟩
      ·refine .ifT b1 (by kernel_rfl) h3 ?_
       refine .then (.rK (.ghs (fr 199 [(6,zB false)]) AO (.k0 [false] [] [6]) ?_))
       refine .ret ?_
       exact A7 (zB false) hm
      ·refine .ifF b1 (by kernel_rfl) h3 ?_
       refine .skip (.ghs (fr 199 [(2,(zY z21)),(7,zI z22),(8,zI z23),(12,pt 1 0),(13,.int .u32 z24),(16,Sl.v 1 s8),(18,zI z25)]) (hT 2 [(oC [zI z26,Sl.v 1 s9])]) (.k0 [false] [.tmp 12 false] [2,7,8,12,13,16,18]) ?_)
       refine .rK ?_
       exact⟨(z21,z22,z23,z24,s8,(Aj .i64 (Int.add z25 (1:Int))),z26,s9),hm,(.k0 [false] [.tmp 12 false] [2,7,8,12,13,16,18])⟩
     ·replace hm:=Ag hm;rcases hm with⟨h4,hm⟩ | ⟨h4,hm⟩
      ·replace hm:=Ae hm;obtain⟨h5,hm⟩:=hm
       replace hm:=Ag hm;rcases hm with⟨h6,hm⟩ | ⟨h6,hm⟩
       ·replace hm:=Yd hm;obtain⟨b2,h7,hm⟩:=hm
        refine .reg (eC 1 (some ((zB (AY z19 (4:Int))),(hT 2 [(oC [zI z20,Sl.v 1 s7])]))) (show _=some ((zB true),_) from (by rw[show (AY z19 (4:Int))=true from h4])) (eC 4 (keep (hT 2 [(oC [zI z20,Sl.v 1 s7])]) (bb (Bd z19 (0:Int)) none (some (zI (Int.tmod (Aj .i64 (Int.sub z16 (1:Int))) z19))))) (XH h5) (eD (some ((zB (Bd (Int.tmod (Aj .i64 (Int.sub z16 (1:Int))) z19) (0:Int))),(hT 2 [(oC [zI z20,Sl.v 1 s7])]))) (show _=some ((zB true),_) from (by rw[show (Bd (Int.tmod (Aj .i64 (Int.sub z16 (1:Int))) z19) (0:Int))=true from h6])) (eC 4 ((oo (pu 8 [Sl.v 1 s6,zI z19]) none fun v=>some (v,(hT 2 [(oC [zI z20,Sl.v 1 s7])])))) (AB h7) (eE))))) ?_
        exact⟨(z15,z16,z17,z18,s6,z19,(nt b2),z20,s7),hm,(.k0 [false] [.tmp 12 false] [2,7,8,12,13,16,18,135])⟩
       ·refine .reg (eC 1 (some ((zB (AY z19 (4:Int))),(hT 2 [(oC [zI z20,Sl.v 1 s7])]))) (show _=some ((zB true),_) from (by rw[show (AY z19 (4:Int))=true from h4])) (eC 4 (keep (hT 2 [(oC [zI z20,Sl.v 1 s7])]) (bb (Bd z19 (0:Int)) none (some (zI (Int.tmod (Aj .i64 (Int.sub z16 (1:Int))) z19))))) (XH h5) (eD (some ((zB (Bd (Int.tmod (Aj .i64 (Int.sub z16 (1:Int))) z19) (0:Int))),(hT 2 [(oC [zI z20,Sl.v 1 s7])]))) (show _=some ((zB false),_) from (by rw[show (Bd (Int.tmod (Aj .i64 (Int.sub z16 (1:Int))) z19) (0:Int))=false from h6])) (eE)))) ?_
        exact⟨(z15,z16,z17,z18,s6,z19,false,z20,s7),hm,(.k0 [false] [.tmp 12 false] [2,7,8,12,13,16,18,135])⟩
      ·refine .reg (eC 1 (some ((zB (AY z19 (4:Int))),(hT 2 [(oC [zI z20,Sl.v 1 s7])]))) (show _=some ((zB false),_) from (by rw[show (AY z19 (4:Int))=false from h4])) (eE)) ?_
       exact⟨(z15,z16,z17,z18,s6,z19,false,z20,s7),hm,(.k0 [false] [.tmp 12 false] [2,7,8,12,13,16,18,135])⟩
    ·refine Eb (AY z19 z16) h2 ?_
     refine .exit ?_
     exact⟨(z15,z17,z18,z20,s7),hm,(.k0 [false] [.tmp 12 false] [2,8,12,13])⟩
 ·replace hm:=Ag hm;rcases hm with⟨h8,hm⟩ | ⟨h8,hm⟩
  ·refine .reg (eC 1 (some ((zB (nt (Bd x0 (0:Int)))),(hT 2 [(oC [zI z5,Sl.v 1 s1])]))) (show _=some ((zB true),_) from (by rw[show (nt (Bd x0 (0:Int)))=true from h8])) (eE)) ?_
   exact⟨(z1,z2,z3,z4,s2,true,z5,s1),hm,(.k0 [false] [.tmp 12 false] [2,7,8,12,13,16,115])⟩
  ·replace hm:=Yy hm;obtain⟨s10,h9,hm⟩:=hm
   replace hm:=Yd hm;obtain⟨b57,h10,hm⟩:=hm
   refine .reg (eC 1 (some ((zB (nt (Bd x0 (0:Int)))),(hT 2 [(oC [zI z5,Sl.v 1 s1])]))) (show _=some ((zB false),_) from (by rw[show (nt (Bd x0 (0:Int)))=false from h8])) (eC 3 ((oo (pu 7 [zI z3,.int .u32 z4]) none fun v=>some (v,(hT 2 [(oC [zI z5,Sl.v 1 s1])])))) (AB h9) (eC 1 ((oo (pu 6 [Sl.v 1 s10,Sl.v 1 s0]) none fun v=>some (v,(hT 2 [(oC [zI z5,Sl.v 1 s1])])))) (AB h10) (eE)))) ?_
   exact⟨(z1,z2,z3,z4,s2,(nt b57),z5,s1),hm,(.k0 [false] [.tmp 12 false] [2,7,8,12,13,16,115])⟩
theorem Af3 (pu:Af) (n:Nat) (z1 z2 z3 z4:Int) (n0 c0:Nat) (q0:LV) {v:Value} (hm:LU pu n z1 z2 z3 z4 n0 c0 q0=some v):BN tt (Bb tabs isP pu (inl pu)) 1 jL (fr 199 [(1,(zY z1)),(2,(zY z2)),(7,zI z3),(8,zI z4),(9,sc 1 0 1 n0 c0)]) (hT 2 [oC q0]) (Fin tt 1 [.tmp 6] v):=by
 unfold LU at hm
 refine .then ?_
 replace hm:=Ae hm;obtain⟨h0,hm⟩:=hm
 refine .ghs (Fr.puts (fr 199 [(1,(zY z1)),(2,(zY z2)),(7,zI z3),(8,zI z4),(9,sc 1 0 1 n0 c0)]) [(9,(Sl.v 1 (Sl.mk n0 0 (Aq (n0*1) (Am 0 q0)))))]) (hT 2 [.dead]) (.freezeC 1 9 1 (an (Nat.ble (0+n0*1) (len q0)) (Au Ah (Aq (n0*1) (Am 0 q0)))) (F1:=(Fr.puts (fr 199 [(1,(zY z1)),(2,(zY z2)),(7,zI z3),(8,zI z4),(9,sc 1 0 1 n0 c0)]) [(9,(Sl.v 1 (Sl.mk n0 0 (Aq (n0*1) (Am 0 q0)))))])) (H1:=(hT 2 [.dead])) (by kernel_rfl) (by kernel_rfl) h0 (E9.id _ _)) ?_
 replace hm:=Ab hm;obtain⟨v0,h1,hm⟩:=hm
 replace hm:=Ch hm;obtain⟨l0,rfl,hm⟩:=hm
 replace hm:=Ad hm;obtain⟨v1,l2261_0,rfl,hm⟩:=hm
 replace hm:=Ad hm;obtain⟨v2,l2261_1,rfl,hm⟩:=hm
 replace hm:=AC hm;obtain⟨rfl,hm⟩:=hm
 replace hm:=Al hm;obtain⟨s0,rfl,hm⟩:=hm
 replace hm:=Ai hm;obtain⟨x0,rfl,hm⟩:=hm
 refine .reg (eC 2 ((oo (pu 4 [zI z4,(Sl.v 1 (Sl.mk n0 0 (Aq (n0*1) (Am 0 q0))))]) none fun v=>some (v,(hT 2 [.dead])))) (AB h1) (eE)) ?_
 refine .ghs (fr 199 [(1,(zY z1)),(2,(zY z2)),(7,zI z3),(8,zI z4),(9,(Sl.v 1 (Sl.mk n0 0 (Aq (n0*1) (Am 0 q0))))),(10,(Sl.v 2 s0)),(11,zI x0)]) AO (.k0 [false] [] [1,2,7,8,9,10,11]) ?_
 refine .then (.join (v:=v) (fun y:Int×Int×Int×Int×Sl×Sl×Bool=>((fr 199 [(1,(zY y.1)),(2,(zY y.2.1)),(7,(zI y.2.2.1)),(8,(zI y.2.2.2.1)),(9,(Sl.v 1 y.2.2.2.2.1)),(10,(Sl.v 2 y.2.2.2.2.2.1)),(62,(zB y.2.2.2.2.2.2))]),AO)) (fun y=>G9 pu n y.1 y.2.1 y.2.2.1 y.2.2.2.1 y.2.2.2.2.1 y.2.2.2.2.2.1 y.2.2.2.2.2.2) ?_ ?_)
 ·rintro⟨z5,z6,z7,z8,s1,s2,b0⟩ hm
  unfold G9 at hm
  replace hm:=Ag hm;rcases hm with⟨h2,hm⟩ | ⟨h2,hm⟩
  ·refine .ifT b0 (by kernel_rfl) h2 ?_
   refine .then (.rK (.ghs (fr 199 [(6,zB false)]) AO (.k0 [false] [] [6]) ?_))
   refine .ret ?_
   exact A7 (zB false) hm
  ·refine .ifF b0 (by kernel_rfl) h2 ?_
   refine .skip (.ghs (fr 199 [(1,(zY z5)),(2,(zY z6)),(7,zI z7),(8,zI z8),(9,Sl.v 1 s1),(10,(Sl.v 2 s2))]) AO (.k0 [false] [] [1,2,7,8,9,10]) ?_)
   refine .then ?_
   replace hm:=Ae hm;obtain⟨h3,hm⟩:=hm
   replace hm:=Ab hm;obtain⟨k1,h4,hm⟩:=hm
   replace hm:=Ae hm;obtain⟨h5,hm⟩:=hm
   replace hm:=Ae hm;obtain⟨h6,hm⟩:=hm
   replace hm:=K8 hm;obtain⟨x1,h7,hm⟩:=hm
   replace hm:=Yy hm;obtain⟨s3,h8,hm⟩:=hm
   refine .reg (eC 5 (keep AO (bb (Bd (Int.ofNat (Sl.n s2)) (0:Int)) none (some (zI (Int.tmod (Aj .i64 z5) (Int.ofNat (Sl.n s2))))))) (show _=some ((zI (Int.ofNat k1)),_) from (nat_eq (X:=(Int.tmod (Aj .i64 z5) (Int.ofNat (Sl.n s2)))) (XH h3) h4)) (eD (keep AO (bb (an (Nat.blt k1 (Sl.n s2)) true) (some (Cv (k1*2) (Sl.cs s2))) none)) (AX h5) (eD (keep AO (bb (Nat.ble ((k1*2)+2) (len (Sl.cs s2))) (some (.agg ⟨Aq 2 (Am (k1*2) (Sl.cs s2))⟩)) none)) (Pd h6 (Ca h7 (Ca h8 rfl))) (eE)))) ?_
   refine .ghs (fr 199 [(2,(zY z6)),(7,zI z7),(8,zI z8),(9,Sl.v 1 s1),(12,pt 1 0)]) (hT 2 [(oC [zI x1,Sl.v 1 s3])]) (.k0 [false] [.tmp 12 false] [2,7,8,9,12]) ?_
   refine .then (.join (v:=v) (fun y:Int×Int×Int×Sl×Bool×Int×Sl=>((fr 199 [(2,(zY y.1)),(7,(zI y.2.1)),(8,(zI y.2.2.1)),(9,(Sl.v 1 y.2.2.2.1)),(12,pt 1 0),(81,(zB y.2.2.2.2.1))]),(hT 2 [(oC [(zI y.2.2.2.2.2.1),(Sl.v 1 y.2.2.2.2.2.2)])]))) (fun y=>eX pu n y.1 y.2.1 y.2.2.1 y.2.2.2.1 y.2.2.2.2.1 y.2.2.2.2.2.1 y.2.2.2.2.2.2) ?_ ?_)
   ·rintro⟨z9,z10,z11,s4,b1,z12,s5⟩ hm
    unfold eX at hm
    replace hm:=Ag hm;rcases hm with⟨h9,hm⟩ | ⟨h9,hm⟩
    ·refine .ifT b1 (by kernel_rfl) h9 ?_
     refine .then (.rK (.ghs (fr 199 [(6,zB false)]) AO (.k0 [false] [] [6]) ?_))
     refine .ret ?_
     exact A7 (zB false) hm
    ·refine .ifF b1 (by kernel_rfl) h9 ?_
     refine .skip (.ghs (fr 199 [(2,(zY z9)),(7,zI z10),(8,zI z11),(9,Sl.v 1 s4),(12,pt 1 0)]) (hT 2 [(oC [zI z12,Sl.v 1 s5])]) (.k0 [false] [.tmp 12 false] [2,7,8,9,12]) ?_)
     refine .then (.rK (.ghs (fr 199 [(2,(zY z9)),(7,zI z10),(8,zI z11),(9,Sl.v 1 s4),(12,pt 1 0),(13,(.int .u32 (0:Int)))]) (hT 2 [(oC [zI z12,Sl.v 1 s5])]) (.k0 [false] [.tmp 12 false] [2,7,8,9,12,13]) ?_))
     refine .join (v:=v) (fun y:Int×Int×Int×Sl×Int×Int×Sl=>((fr 199 [(2,(zY y.1)),(7,(zI y.2.1)),(8,(zI y.2.2.1)),(9,(Sl.v 1 y.2.2.2.1)),(12,pt 1 0),(13,(.int .u32 y.2.2.2.2.1))]),(hT 2 [(oC [(zI y.2.2.2.2.2.1),(Sl.v 1 y.2.2.2.2.2.2)])]))) (fun y=>Gs pu n y.1 y.2.1 y.2.2.1 y.2.2.2.1 y.2.2.2.2.1 y.2.2.2.2.2.1 y.2.2.2.2.2.2) ?_ ?_
     ·rintro⟨z13,z14,z15,s6,z16,z17,s7⟩ hm
      exact Af2 pu n z13 z14 z15 s6 z16 z17 s7 hm
     ·refine .then (.rK (.ghs (fr 199 [(2,(zY z9)),(7,zI z10),(8,zI z11),(9,Sl.v 1 s4),(12,pt 1 0),(13,(.int .u32 (0:Int))),(83,Sl.v 1 s5),(84,(zI (Int.ofNat (Sl.n s5)))),(85,(zI (0:Int)))]) (hT 2 [(oC [zI z12,Sl.v 1 s5])]) (.k0 [false] [.tmp 12 false] [2,7,8,9,12,13,83,84,85]) ?_))
      refine .block (.loopM (v:=v) (fun y:Int×Int×Int×Sl×Int×Sl×Int×Int×Int×Sl=>((fr 199 [(2,(zY y.1)),(7,(zI y.2.1)),(8,(zI y.2.2.1)),(9,(Sl.v 1 y.2.2.2.1)),(12,pt 1 0),(13,(.int .u32 y.2.2.2.2.1)),(83,(Sl.v 1 y.2.2.2.2.2.1)),(84,(zI y.2.2.2.2.2.2.1)),(85,(zI y.2.2.2.2.2.2.2.1))]),(hT 2 [(oC [(zI y.2.2.2.2.2.2.2.2.1),(Sl.v 1 y.2.2.2.2.2.2.2.2.2)])]))) (fun w y=>eU pu n w y.1 y.2.1 y.2.2.1 y.2.2.2.1 y.2.2.2.2.1 y.2.2.2.2.2.1 y.2.2.2.2.2.2.1 y.2.2.2.2.2.2.2.1 y.2.2.2.2.2.2.2.2.1 y.2.2.2.2.2.2.2.2.2) n ⟨(z9,z10,z11,s4,(0:Int),s5,(Int.ofNat (Sl.n s5)),(0:Int),z12,s5),hm,(.k0 [false] [.tmp 12 false] [2,7,8,9,12,13,83,84,85])⟩ (fun _=>rfl) ?_)
      rintro w0 ⟨z18,z19,z20,s8,z21,s9,z22,z23,z24,s10⟩ hm
      replace hm:uH pu n (eU pu n w0) z18 z19 z20 s8 z21 s9 z22 z23 z24 s10=some v:=hm
      unfold uH at hm
      refine .then (.rK (.ghs (fr 199 [(2,(zY z18)),(7,zI z19),(8,zI z20),(9,Sl.v 1 s8),(12,pt 1 0),(13,.int .u32 z21),(83,Sl.v 1 s9),(84,zI z22),(85,zI z23),(86,(zB (AY z23 z22)))]) (hT 2 [(oC [zI z24,Sl.v 1 s10])]) (.k0 [false] [.tmp 12 false] [2,7,8,9,12,13,83,84,85,86]) ?_))
      refine .then ?_
      replace hm:=Ag hm;rcases hm with⟨h10,hm⟩ | ⟨h10,hm⟩
      ·refine DT (AY z23 z22) h10 ?_
       refine .skip (.ghs (fr 199 [(2,(zY z18)),(7,zI z19),(8,zI z20),(9,Sl.v 1 s8),(12,pt 1 0),(13,.int .u32 z21),(83,Sl.v 1 s9),(84,zI z22),(85,zI z23)]) (hT 2 [(oC [zI z24,Sl.v 1 s10])]) (.k0 [false] [.tmp 12 false] [2,7,8,9,12,13,83,84,85]) ?_)
       refine .then (.block (.then ?_))
       replace hm:=Ab hm;obtain⟨k2,h11,hm⟩:=hm
       obtain rfl:=AR h11
       replace hm:=Ae hm;obtain⟨h12,hm⟩:=hm
       replace hm:=K8 hm;obtain⟨x2,h13,hm⟩:=hm
       refine .reg (eD (keep (hT 2 [(oC [zI z24,Sl.v 1 s10])]) (bb (an (Nat.blt k2 (Sl.n s9)) true) (some (Cv (k2*1) (Sl.cs s9))) none)) (AX h12) (eD (keep (hT 2 [(oC [zI z24,Sl.v 1 s10])]) (AL (Sl.cs s9) (k2*1))) (AZ h13) (eE))) ?_
       refine .ghs (fr 199 [(2,(zY z18)),(7,zI z19),(8,zI z20),(9,Sl.v 1 s8),(12,pt 1 0),(13,.int .u32 z21),(15,zI x2),(83,Sl.v 1 s9),(84,zI z22),(85,(zI (Int.ofNat k2)))]) (hT 2 [(oC [zI z24,Sl.v 1 s10])]) (.k0 [false] [.tmp 12 false] [2,7,8,9,12,13,15,83,84,85]) ?_
       refine .then (.join (v:=v) (fun y:Int×Int×Int×Sl×Int×Int×Sl×Int×Int×Bool×Int×Sl=>((fr 199 [(2,(zY y.1)),(7,(zI y.2.1)),(8,(zI y.2.2.1)),(9,(Sl.v 1 y.2.2.2.1)),(12,pt 1 0),(13,(.int .u32 y.2.2.2.2.1)),(15,(zI y.2.2.2.2.2.1)),(83,(Sl.v 1 y.2.2.2.2.2.2.1)),(84,(zI y.2.2.2.2.2.2.2.1)),(85,(zI y.2.2.2.2.2.2.2.2.1)),(95,(zB y.2.2.2.2.2.2.2.2.2.1))]),(hT 2 [(oC [(zI y.2.2.2.2.2.2.2.2.2.2.1),(Sl.v 1 y.2.2.2.2.2.2.2.2.2.2.2)])]))) (fun y=>Wx pu n (eU pu n w0) y.1 y.2.1 y.2.2.1 y.2.2.2.1 y.2.2.2.2.1 y.2.2.2.2.2.1 y.2.2.2.2.2.2.1 y.2.2.2.2.2.2.2.1 y.2.2.2.2.2.2.2.2.1 y.2.2.2.2.2.2.2.2.2.1 y.2.2.2.2.2.2.2.2.2.2.1 y.2.2.2.2.2.2.2.2.2.2.2) ?_ ?_)
       ·rintro⟨z25,z26,z27,s11,z28,z29,s12,z30,z31,b2,z32,s13⟩ hm
        unfold Wx at hm
        replace hm:=Ag hm;rcases hm with⟨h14,hm⟩ | ⟨h14,hm⟩
        ·refine .ifT b2 (by kernel_rfl) h14 ?_
         refine .then (.rK (.ghs (fr 199 [(6,zB false)]) AO (.k0 [false] [] [6]) ?_))
         refine .ret ?_
         exact A7 (zB false) hm
        ·refine .ifF b2 (by kernel_rfl) h14 ?_
         refine .skip (.ghs (fr 199 [(2,(zY z25)),(7,zI z26),(8,zI z27),(9,Sl.v 1 s11),(12,pt 1 0),(13,.int .u32 z28),(15,zI z29),(83,Sl.v 1 s12),(84,zI z30),(85,zI z31)]) (hT 2 [(oC [zI z32,Sl.v 1 s13])]) (.k0 [false] [.tmp 12 false] [2,7,8,9,12,13,15,83,84,85]) ?_)
         replace hm:=Ab hm;obtain⟨k3,h15,hm⟩:=hm
         obtain rfl:=AR h15
         refine .rK (.ghs (fr 199 [(2,(zY z25)),(7,zI z26),(8,zI z27),(9,Sl.v 1 s11),(12,pt 1 0),(13,(.int .u32 (jF .u32 z28 (QW .u32 (1:Int) k3)))),(83,Sl.v 1 s12),(84,zI z30),(85,zI z31)]) (hT 2 [(oC [zI z32,Sl.v 1 s13])]) (.k0 [false] [.tmp 12 false] [2,7,8,9,12,13,83,84,85]) ?_)
         refine .rK ?_
         exact⟨(z25,z26,z27,s11,(jF .u32 z28 (QW .u32 (1:Int) k3)),s12,z30,(Aj .i64 (Int.add z31 (1:Int))),z32,s13),hm,(.k0 [false] [.tmp 12 false] [2,7,8,9,12,13,83,84,85])⟩
       ·replace hm:=Ag hm;rcases hm with⟨h16,hm⟩ | ⟨h16,hm⟩
        ·refine .reg (eC 1 (some ((zB (AY x2 (0:Int))),(hT 2 [(oC [zI z24,Sl.v 1 s10])]))) (show _=some ((zB true),_) from (by rw[show (AY x2 (0:Int))=true from h16])) (eE)) ?_
         exact⟨(z18,z19,z20,s8,z21,x2,s9,z22,(Int.ofNat k2),true,z24,s10),hm,(.k0 [false] [.tmp 12 false] [2,7,8,9,12,13,15,83,84,85,95])⟩
        ·refine .reg (eC 1 (some ((zB (AY x2 (0:Int))),(hT 2 [(oC [zI z24,Sl.v 1 s10])]))) (show _=some ((zB false),_) from (by rw[show (AY x2 (0:Int))=false from h16])) (eE)) ?_
         exact⟨(z18,z19,z20,s8,z21,x2,s9,z22,(Int.ofNat k2),(nt (AY x2 z20)),z24,s10),hm,(.k0 [false] [.tmp 12 false] [2,7,8,9,12,13,15,83,84,85,95])⟩
      ·refine Eb (AY z23 z22) h10 ?_
       refine .exit ?_
       exact⟨(z18,z19,z20,s8,z21,z24,s10),hm,(.k0 [false] [.tmp 12 false] [2,7,8,9,12,13])⟩
   ·replace hm:=Ag hm;rcases hm with⟨h17,hm⟩ | ⟨h17,hm⟩
    ·refine .reg (eC 3 (some ((zB (nt (Bd x1 z8))),(hT 2 [(oC [zI x1,Sl.v 1 s3])]))) (show _=some ((zB true),_) from (by rw[show (nt (Bd x1 z8))=true from h17])) (eE)) ?_
     exact⟨(z6,z7,z8,s1,true,x1,s3),hm,(.k0 [false] [.tmp 12 false] [2,7,8,9,12,81])⟩
    ·refine .reg (eC 3 (some ((zB (nt (Bd x1 z8))),(hT 2 [(oC [zI x1,Sl.v 1 s3])]))) (show _=some ((zB false),_) from (by rw[show (nt (Bd x1 z8))=false from h17])) (eE)) ?_
     exact⟨(z6,z7,z8,s1,(nt (Bd (Int.ofNat (Sl.n s3)) z7)),x1,s3),hm,(.k0 [false] [.tmp 12 false] [2,7,8,9,12,81])⟩
 ·replace hm:=Ag hm;rcases hm with⟨h18,hm⟩ | ⟨h18,hm⟩
  ·refine .reg (eC 1 (some ((zB (nt (Bd x0 (0:Int)))),AO)) (show _=some ((zB true),_) from (by rw[show (nt (Bd x0 (0:Int)))=true from h18])) (eE)) ?_
   exact⟨(z1,z2,z3,z4,(Sl.mk n0 0 (Aq (n0*1) (Am 0 q0))),s0,true),hm,(.k0 [false] [] [1,2,7,8,9,10,62])⟩
  ·replace hm:=Ag hm;rcases hm with⟨h19,hm⟩ | ⟨h19,hm⟩
   ·refine .reg (eC 1 (some ((zB (nt (Bd x0 (0:Int)))),AO)) (show _=some ((zB false),_) from (by rw[show (nt (Bd x0 (0:Int)))=false from h18])) (eC 3 (some ((zB (Bd (Int.ofNat (Sl.n s0)) (0:Int))),AO)) (show _=some ((zB true),_) from (by rw[show (Bd (Int.ofNat (Sl.n s0)) (0:Int))=true from h19])) (eE))) ?_
    exact⟨(z1,z2,z3,z4,(Sl.mk n0 0 (Aq (n0*1) (Am 0 q0))),s0,true),hm,(.k0 [false] [] [1,2,7,8,9,10,62])⟩
   ·refine .reg (eC 1 (some ((zB (nt (Bd x0 (0:Int)))),AO)) (show _=some ((zB false),_) from (by rw[show (nt (Bd x0 (0:Int)))=false from h18])) (eC 3 (some ((zB (Bd (Int.ofNat (Sl.n s0)) (0:Int))),AO)) (show _=some ((zB false),_) from (by rw[show (Bd (Int.ofNat (Sl.n s0)) (0:Int))=false from h19])) (eE))) ?_
    exact⟨(z1,z2,z3,z4,(Sl.mk n0 0 (Aq (n0*1) (Am 0 q0))),s0,(AY (1000:Int) (Int.ofNat (Sl.n s0)))),hm,(.k0 [false] [] [1,2,7,8,9,10,62])⟩
theorem r3 {call:A8} (pu:Af) (n:Nat) (hcall:call=Bb tabs isP pu (inl pu)) {args:LV} {v:Value} (hm:m3 pu n args=some v) (_:∀ x∈args,closed2 x=true):args.length≤199∧BN tt call 1 RX (Fr.made 199 args) (Ao tabs) (Fin tt 1 [.tmp 6] v):=by
 subst hcall
 unfold m3 at hm
 replace hm:=Ad hm;obtain⟨a0,args_0,rfl,hm⟩:=hm
 replace hm:=Ad hm;obtain⟨a1,args_1,rfl,hm⟩:=hm
 replace hm:=Ad hm;obtain⟨a2,args_2,rfl,hm⟩:=hm
 replace hm:=AC hm;obtain⟨rfl,hm⟩:=hm
 replace hm:=Ai hm;obtain⟨x0,rfl,hm⟩:=hm
 replace hm:=Ai hm;obtain⟨x1,rfl,hm⟩:=hm
 replace hm:=Ai hm;obtain⟨x2,rfl,hm⟩:=hm
 unfold YB at hm
 refine⟨by simp,?_⟩
 refine .same (F':=(fr 199 [(0,(zY x0)),(1,(zY x1)),(2,(zY x2))])) (H':=AO) (by kernel_rfl) (by kernel_rfl) ?_
 refine .then (.rK (.ghs (fr 199 [(0,(zY x0)),(1,(zY x1)),(2,(zY x2))]) AO (.k0 [false] [] [0,1,2]) ?_))
 refine .then (.rK (.ghs (fr 199 [(1,(zY x1)),(2,(zY x2)),(7,(zI (Aj .i64 (Int.add (2:Int) (Int.tmod (Aj .i64 x0) (4:Int))))))]) AO (.k0 [false] [] [1,2,7]) ?_))
 refine .then (.rK (.ghs (fr 199 [(1,(zY x1)),(2,(zY x2)),(7,(zI (Aj .i64 (Int.add (2:Int) (Int.tmod (Aj .i64 x0) (4:Int)))))),(8,(zI (Aj .i64 (Int.add (Aj .i64 (Int.mul (Aj .i64 (Int.add (2:Int) (Int.tmod (Aj .i64 x0) (4:Int)))) (Aj .i64 (Int.sub (Aj .i64 (Int.add (2:Int) (Int.tmod (Aj .i64 x0) (4:Int)))) (1:Int))))) (1:Int)))))]) AO (.k0 [false] [] [1,2,7,8]) ?_))
 refine .then (.rK (.ghs (fr 199 [(1,(zY x1)),(2,(zY x2)),(7,(zI (Aj .i64 (Int.add (2:Int) (Int.tmod (Aj .i64 x0) (4:Int)))))),(8,(zI (Aj .i64 (Int.add (Aj .i64 (Int.mul (Aj .i64 (Int.add (2:Int) (Int.tmod (Aj .i64 x0) (4:Int)))) (Aj .i64 (Int.sub (Aj .i64 (Int.add (2:Int) (Int.tmod (Aj .i64 x0) (4:Int)))) (1:Int))))) (1:Int))))),(9,(.slice none 0 0))]) AO (.k0 [false] [] [1,2,7,8,9]) ?_))
 refine .join (v:=v) (fun y:Int×Int×Int×Int×Nat×Nat×LV=>((fr 199 [(1,(zY y.1)),(2,(zY y.2.1)),(7,(zI y.2.2.1)),(8,(zI y.2.2.2.1)),(9,(sc 1 0 1 y.2.2.2.2.1 y.2.2.2.2.2.1))]),(hT 2 [(oC y.2.2.2.2.2.2)]))) (fun y=>LU pu n y.1 y.2.1 y.2.2.1 y.2.2.2.1 y.2.2.2.2.1 y.2.2.2.2.2.1 y.2.2.2.2.2.2) ?_ ?_
 ·rintro⟨z1,z2,z3,z4,n0,c0,q0⟩ hm
  exact Af3 pu n z1 z2 z3 z4 n0 c0 q0 hm
 ·refine .then (.rK (.ghs (fr 199 [(1,(zY x1)),(2,(zY x2)),(7,(zI (Aj .i64 (Int.add (2:Int) (Int.tmod (Aj .i64 x0) (4:Int)))))),(8,(zI (Aj .i64 (Int.add (Aj .i64 (Int.mul (Aj .i64 (Int.add (2:Int) (Int.tmod (Aj .i64 x0) (4:Int)))) (Aj .i64 (Int.sub (Aj .i64 (Int.add (2:Int) (Int.tmod (Aj .i64 x0) (4:Int)))) (1:Int))))) (1:Int))))),(9,(.slice none 0 0)),(38,(zI (Aj .i64 (Int.sub (Aj .i64 (Int.add (Aj .i64 (Int.mul (Aj .i64 (Int.add (2:Int) (Int.tmod (Aj .i64 x0) (4:Int)))) (Aj .i64 (Int.sub (Aj .i64 (Int.add (2:Int) (Int.tmod (Aj .i64 x0) (4:Int)))) (1:Int))))) (1:Int))) (1:Int))))),(39,(zI (0:Int)))]) AO (.k0 [false] [] [1,2,7,8,9,38,39]) ?_))
  refine .block (.loopM (v:=v) (fun y:Int×Int×Int×Int×Nat×Nat×Int×Int×LV=>((fr 199 [(1,(zY y.1)),(2,(zY y.2.1)),(7,(zI y.2.2.1)),(8,(zI y.2.2.2.1)),(9,(sc 1 0 1 y.2.2.2.2.1 y.2.2.2.2.2.1)),(38,(zI y.2.2.2.2.2.2.1)),(39,(zI y.2.2.2.2.2.2.2.1))]),(hT 2 [(oC y.2.2.2.2.2.2.2.2)]))) (fun w y=>O1 pu n w y.1 y.2.1 y.2.2.1 y.2.2.2.1 y.2.2.2.2.1 y.2.2.2.2.2.1 y.2.2.2.2.2.2.1 y.2.2.2.2.2.2.2.1 y.2.2.2.2.2.2.2.2) n ⟨(x1,x2,(Aj .i64 (Int.add (2:Int) (Int.tmod (Aj .i64 x0) (4:Int)))),(Aj .i64 (Int.add (Aj .i64 (Int.mul (Aj .i64 (Int.add (2:Int) (Int.tmod (Aj .i64 x0) (4:Int)))) (Aj .i64 (Int.sub (Aj .i64 (Int.add (2:Int) (Int.tmod (Aj .i64 x0) (4:Int)))) (1:Int))))) (1:Int))),0,0,(Aj .i64 (Int.sub (Aj .i64 (Int.add (Aj .i64 (Int.mul (Aj .i64 (Int.add (2:Int) (Int.tmod (Aj .i64 x0) (4:Int)))) (Aj .i64 (Int.sub (Aj .i64 (Int.add (2:Int) (Int.tmod (Aj .i64 x0) (4:Int)))) (1:Int))))) (1:Int))) (1:Int))),(0:Int),([]:LV)),hm,(.thaw 9 1 (by kernel_rfl) (.k0 [false] [.tmp 9 false] [1,2,7,8,9,38,39]))⟩ (fun _=>rfl) ?_)
  rintro w0 ⟨z5,z6,z7,z8,n1,c1,z9,z10,q1⟩ hm
  replace hm:YA pu n (O1 pu n w0) z5 z6 z7 z8 n1 c1 z9 z10 q1=some v:=hm
  unfold YA at hm
  refine .then (.rK ?_)
  replace hm:=Ae hm;obtain⟨h0,hm⟩:=hm
  refine .ghs (fr 199 [(1,(zY z5)),(2,(zY z6)),(7,zI z7),(8,zI z8),(9,sc 1 0 1 n1 c1),(38,zI z9),(39,zI z10),(40,(zB (AY z10 z9)))]) (hT 2 [oC q1]) (.k [1] [false] [.tmp 9 false] [1,2,7,8,9,38,39,40] ⟨Cs h0,trivial⟩) ?_
  refine .then ?_
  replace hm:=Ag hm;rcases hm with⟨h1,hm⟩ | ⟨h1,hm⟩
  ·refine DT (AY z10 z9) h1 ?_
   refine .skip (.ghs (fr 199 [(1,(zY z5)),(2,(zY z6)),(7,zI z7),(8,zI z8),(9,sc 1 0 1 n1 c1),(38,zI z9),(39,zI z10)]) (hT 2 [oC q1]) (.k [1] [false] [.tmp 9 false] [1,2,7,8,9,38,39] ⟨Cs h0,trivial⟩) ?_)
   refine .then (.block ?_)
   replace hm:=Ae hm;obtain⟨h2,hm⟩:=hm
   refine .reg (eC 2 (Oc 1 8 n1 c1 1 1 q1 [(zI (1:Int))] [] (hT 3 [oC q1,(oC [(zI (1:Int))])])) (I1 h2) (eE)) ?_
   replace hm:=Ae hm;obtain⟨h3,hm⟩:=hm
   refine .ghs (fr 199 [(1,(zY z5)),(2,(zY z6)),(7,zI z7),(8,zI z8),(9,(sc 1 0 1 (n1+1) (d2 (n1+1)))),(38,zI z9),(39,zI z10)]) (hT 2 [(oC (Br (Am 0 q1) [(zI (1:Int))]))]) (.k [3] [false] [.tmp 9 false] [1,2,7,8,9,38,39] ⟨Cs h3,trivial⟩) ?_
   refine .rK ?_
   exact⟨(z5,z6,z7,z8,(n1+1),(d2 (n1+1)),z9,(Aj .i64 (Int.add z10 (1:Int))),(Br (Am 0 q1) [(zI (1:Int))])),hm,(.k [1] [false] [.tmp 9 false] [1,2,7,8,9,38,39] ⟨Cs h3,trivial⟩)⟩
  ·refine Eb (AY z10 z9) h1 ?_
   refine .exit ?_
   exact⟨(z5,z6,z7,z8,n1,c1,q1),hm,(.k [1] [false] [.tmp 9 false] [1,2,7,8,9] ⟨Cs h0,trivial⟩)⟩
end
end Go.RgQM
