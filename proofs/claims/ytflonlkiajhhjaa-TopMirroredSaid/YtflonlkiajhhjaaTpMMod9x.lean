/- Made from wip. -/
import Derived.Test.YtflonlkiajhhjaaTpMMod0x

set_option maxRecDepth 100000
set_option maxHeartbeats 20000000
set_option linter.unusedVariables false
namespace Go.TpMM
open Go.Sp Go.TpM
noncomputable section

def Ae2 (pu:Af) (n:Nat) (x0:Int):OV:=
 (oo (pu 95 [.int .u64 x0]) none fun v0=>(oo (Bi .i64 v0) none fun x1=>(some (.int .i64 x1))))
def m69 (pu:Af) (n:Nat) (args:LV):OV:=
 (ll args none fun a0 args=>(ll args (oo (Bi .u64 a0) none fun x0=>(Ae2 pu n x0)) fun _ _=>none))
theorem r69 {call:A8} (pu:Af) (n:Nat) (hcall:call=Bb tabs isP pu (inl pu)) {args:LV} {v:Value} (hm:m69 pu n args=some v) (_:∀ x∈args,closed2 x=true):args.length≤8∧BN tt call 0 QR (Fr.made 8 args) (Ao tabs) (Fin tt 0 [.tmp 2] v):=by
 subst hcall
 unfold m69 at hm
 replace hm:=Ad hm;obtain⟨a0,args_0,rfl,hm⟩:=hm
 replace hm:=AC hm;obtain⟨rfl,hm⟩:=hm
 replace hm:=Ai hm;obtain⟨x0,rfl,hm⟩:=hm
 unfold Ae2 at hm
 refine⟨by simp,?_⟩
 refine .same (F':=(fr 8 [(0,(zU x0))])) (H':=(hp 0 [])) (by kernel_rfl) (by kernel_rfl) ?_
 refine .then (.rK (.ghs (fr 8 [(0,(zU x0))]) (hp 0 []) (.k0 [] [] [0]) ?_))
 refine .then (.condF (by kernel_rfl) ?_)
 refine .skip (.ghs (fr 8 [(0,(zU x0))]) (hp 0 []) (.k0 [] [] [0]) ?_)
 refine .then ?_
 replace hm:=Dn hm;obtain⟨x1,h0,hm⟩:=hm
 refine .reg (eC 1 ((oo (pu 95 [(zU x0)]) none fun v=>some (v,(hp 0 [])))) (AB h0) (eE)) ?_
 refine .ghs (fr 8 [(2,zI x1)]) (hp 0 []) (.k0 [] [] [2]) ?_
 refine .ret ?_
 exact Ay (zI x1) hm

def Ae3 (pu:Af) (n:Nat) (x0 x1:Int):OV:=
 (oo (pu 96 [.int .i64 x0]) none fun v0=>(oo (Bf v0) none fun b0=>(oo (pu 96 [.int .i64 x1]) none fun v1=>(oo (Bf v1) none fun b1=>(bb b0 (bb b1 (some (.int .i64 (0:Int))) (some (.int .i64 (-1:Int)))) (bb b1 (some (.int .i64 (1:Int))) (bb (AY x0 x1) (some (.int .i64 (-1:Int))) (bb (AY x1 x0) (some (.int .i64 (1:Int))) (some (.int .i64 (0:Int)))))))))))
def m70 (pu:Af) (n:Nat) (args:LV):OV:=
 (ll args none fun a0 args=>(ll args none fun a1 args=>(ll args (oo (Bi .i64 a0) none fun x0=>(oo (Bi .i64 a1) none fun x1=>(Ae3 pu n x0 x1))) fun _ _=>none)))
theorem r70 {call:A8} (pu:Af) (n:Nat) (hcall:call=Bb tabs isP pu (inl pu)) {args:LV} {v:Value} (hm:m70 pu n args=some v) (_:∀ x∈args,closed2 x=true):args.length≤20∧BN tt call 0 O1 (Fr.made 20 args) (Ao tabs) (Fin tt 0 [.tmp 4] v):=by
 subst hcall
 unfold m70 at hm
 replace hm:=Ad hm;obtain⟨a0,args_0,rfl,hm⟩:=hm
 replace hm:=Ad hm;obtain⟨a1,args_1,rfl,hm⟩:=hm
 replace hm:=AC hm;obtain⟨rfl,hm⟩:=hm
 replace hm:=Ai hm;obtain⟨x0,rfl,hm⟩:=hm
 replace hm:=Ai hm;obtain⟨x1,rfl,hm⟩:=hm
 unfold Ae3 at hm
 refine⟨by simp,?_⟩
 refine .same (F':=(fr 20 [(0,zI x0),(1,zI x1)])) (H':=(hp 0 [])) (by kernel_rfl) (by kernel_rfl) ?_
 refine .then (.rK (.ghs (fr 20 [(0,zI x0),(1,zI x1)]) (hp 0 []) (.k0 [] [] [0,1]) ?_))
 refine .then ?_
 replace hm:=Jf hm;obtain⟨b0,h0,hm⟩:=hm
 refine .reg (eC 1 ((oo (pu 96 [zI x0]) none fun v=>some (v,(hp 0 [])))) (AB h0) (eE)) ?_
 refine .ghs (fr 20 [(0,zI x0),(1,zI x1),(5,zB b0)]) (hp 0 []) (.k0 [] [] [0,1,5]) ?_
 refine .then ?_
 replace hm:=Jf hm;obtain⟨b1,h1,hm⟩:=hm
 refine .reg (eC 1 ((oo (pu 96 [zI x1]) none fun v=>some (v,(hp 0 [])))) (AB h1) (eE)) ?_
 refine .ghs (fr 20 [(0,zI x0),(1,zI x1),(5,zB b0),(6,zB b1)]) (hp 0 []) (.k0 [] [] [0,1,5,6]) ?_
 refine .then (.then (.rK (.ghs (fr 20 [(0,zI x0),(1,zI x1),(6,zB b1),(11,zB b0)]) (hp 0 []) (.k0 [] [] [0,1,6,11]) ?_)))
 replace hm:=Ag hm;rcases hm with⟨h2,hm⟩ | ⟨h2,hm⟩
 ·refine .ifT b0 (by kernel_rfl) h2 ?_
  refine .then (.then (.rK (.ghs (fr 20 [(12,zB b1)]) (hp 0 []) (.k0 [] [] [12]) ?_)))
  replace hm:=Ag hm;rcases hm with⟨h3,hm⟩ | ⟨h3,hm⟩
  ·refine .ifT b1 (by kernel_rfl) h3 ?_
   refine .then (.rK (.ghs (fr 20 [(4,(zI (0:Int)))]) (hp 0 []) (.k0 [] [] [4]) ?_))
   refine .ret ?_
   exact Ay (zI (0:Int)) hm
  ·refine .ifF b1 (by kernel_rfl) h3 ?_
   refine .skip (.ghs (fr 20 []) (hp 0 []) (.k0 [] [] []) ?_)
   refine .then (.rK (.ghs (fr 20 [(4,(zI (-1:Int)))]) (hp 0 []) (.k0 [] [] [4]) ?_))
   refine .ret ?_
   exact Ay (zI (-1:Int)) hm
 ·refine .ifF b0 (by kernel_rfl) h2 ?_
  refine .skip (.ghs (fr 20 [(0,zI x0),(1,zI x1),(6,zB b1)]) (hp 0 []) (.k0 [] [] [0,1,6]) ?_)
  refine .then (.then (.rK (.ghs (fr 20 [(0,zI x0),(1,zI x1),(13,zB b1)]) (hp 0 []) (.k0 [] [] [0,1,13]) ?_)))
  replace hm:=Ag hm;rcases hm with⟨h4,hm⟩ | ⟨h4,hm⟩
  ·refine .ifT b1 (by kernel_rfl) h4 ?_
   refine .then (.rK (.ghs (fr 20 [(4,(zI (1:Int)))]) (hp 0 []) (.k0 [] [] [4]) ?_))
   refine .ret ?_
   exact Ay (zI (1:Int)) hm
  ·refine .ifF b1 (by kernel_rfl) h4 ?_
   refine .skip (.ghs (fr 20 [(0,zI x0),(1,zI x1)]) (hp 0 []) (.k0 [] [] [0,1]) ?_)
   refine .then (.then (.rK (.ghs (fr 20 [(0,zI x0),(1,zI x1),(16,(zB (AY x0 x1)))]) (hp 0 []) (.k0 [] [] [0,1,16]) ?_)))
   replace hm:=Ag hm;rcases hm with⟨h5,hm⟩ | ⟨h5,hm⟩
   ·refine A7 (AY x0 x1) h5 ?_
    refine .then (.rK (.ghs (fr 20 [(4,(zI (-1:Int)))]) (hp 0 []) (.k0 [] [] [4]) ?_))
    refine .ret ?_
    exact Ay (zI (-1:Int)) hm
   ·refine Bp (AY x0 x1) h5 ?_
    refine .skip (.ghs (fr 20 [(0,zI x0),(1,zI x1)]) (hp 0 []) (.k0 [] [] [0,1]) ?_)
    refine .then (.then (.rK (.ghs (fr 20 [(19,(zB (AY x1 x0)))]) (hp 0 []) (.k0 [] [] [19]) ?_)))
    replace hm:=Ag hm;rcases hm with⟨h6,hm⟩ | ⟨h6,hm⟩
    ·refine A7 (AY x1 x0) h6 ?_
     refine .then (.rK (.ghs (fr 20 [(4,(zI (1:Int)))]) (hp 0 []) (.k0 [] [] [4]) ?_))
     refine .ret ?_
     exact Ay (zI (1:Int)) hm
    ·refine Bp (AY x1 x0) h6 ?_
     refine .skip (.ghs (fr 20 []) (hp 0 []) (.k0 [] [] []) ?_)
     refine .then (.rK (.ghs (fr 20 [(4,(zI (0:Int)))]) (hp 0 []) (.k0 [] [] [4]) ?_))
     refine .ret ?_
     exact Ay (zI (0:Int)) hm
def PP (pu:Af) (n:Nat) (z0 z1:Int):OV:=
 (oo (EA (Aj .u8 z0)) none fun k1=>(oo (Ad5[k1]?) none fun c0=>(some (.int .i64 (Aj .i64 (Int.add z1 (Aj .i64 (Int.ofNat (UInt8.toNat c0)))))))))
def PQ (pu:Af) (n:Nat) (z0 z1:Int):OV:=
 (bb (nt (AY z0 (256:Int))) (PP pu n (G6 .u64 z0 8) (Aj .i64 (Int.add z1 (8:Int)))) (PP pu n z0 z1))
def Qp (pu:Af) (n:Nat) (z0 z1:Int):OV:=
 (bb (nt (AY z0 (65536:Int))) (PQ pu n (G6 .u64 z0 16) (Aj .i64 (Int.add z1 (16:Int)))) (PQ pu n z0 z1))
def Ae4 (pu:Af) (n:Nat) (x0:Int):OV:=
 (bb (nt (AY x0 (4294967296:Int))) (Qp pu n (G6 .u64 x0 32) (32:Int)) (Qp pu n x0 (0:Int)))
def m95 (pu:Af) (n:Nat) (args:LV):OV:=
 (ll args none fun a0 args=>(ll args (oo (Bi .u64 a0) none fun x0=>(Ae4 pu n x0)) fun _ _=>none))
theorem Ae5 (pu:Af) (n:Nat) (z0 z1:Int) {v:Value} (hm:PP pu n z0 z1=some v):BN tt (Bb tabs isP pu (inl pu)) 0 U0 (fr 25 [(0,(zU z0)),(2,zI z1)]) (hp 0 []) (Fin tt 0 [.tmp 2] v):=by
 unfold PP at hm
 refine .then ?_
 replace hm:=Ab hm;obtain⟨k1,h0,hm⟩:=hm
 replace hm:=Ab hm;obtain⟨c0,h1,hm⟩:=hm
 refine .reg (eC 2 (some ((zY (Aj .u8 z0)),(hp 0 []))) (show _=some ((zY (Int.ofNat k1)),_) from (by rw[AR h0])) (eD (keep (hp 0 []) (oo (Ad5[k1]?) none fun b=>iv .u8 (.ofNat b.toNat))) (Ad0 h1) (eE))) ?_
 refine .ghs (fr 25 [(2,(zI (Aj .i64 (Int.add z1 (Aj .i64 (Int.ofNat (UInt8.toNat c0)))))))]) (hp 0 []) (.k0 [] [] [2]) ?_
 refine .ret ?_
 exact Ay (zI (Aj .i64 (Int.add z1 (Aj .i64 (Int.ofNat (UInt8.toNat c0)))))) hm
theorem Ae6 (pu:Af) (n:Nat) (z0 z1:Int) {v:Value} (hm:PQ pu n z0 z1=some v):BN tt (Bb tabs isP pu (inl pu)) 0 VL (fr 25 [(0,(zU z0)),(2,zI z1)]) (hp 0 []) (Fin tt 0 [.tmp 2] v):=by
 unfold PQ at hm
 refine .join (v:=v) (fun y:Int×Int=>((fr 25 [(0,(zU y.1)),(2,(zI y.2))]),(hp 0 []))) (fun y=>PP pu n y.1 y.2) ?_ ?_
 ·rintro⟨z2,z3⟩ hm
  exact Ae5 pu n z2 z3 hm
 ·refine .then (.rK (.ghs (fr 25 [(0,(zU z0)),(2,zI z1),(14,(zB (nt (AY z0 (256:Int)))))]) (hp 0 []) (.k0 [] [] [0,2,14]) ?_))
  replace hm:=Ag hm;rcases hm with⟨h0,hm⟩ | ⟨h0,hm⟩
  ·refine A7 (nt (AY z0 (256:Int))) h0 ?_
   refine .then (.rK (.ghs (fr 25 [(0,(zU (G6 .u64 z0 8))),(2,zI z1)]) (hp 0 []) (.k0 [] [] [0,2]) ?_))
   refine .rK ?_
   exact⟨((G6 .u64 z0 8),(Aj .i64 (Int.add z1 (8:Int)))),hm,(.k0 [] [] [0,2])⟩
  ·refine Bp (nt (AY z0 (256:Int))) h0 ?_
   refine .skip ?_
   exact⟨(z0,z1),hm,(.k0 [] [] [0,2])⟩
theorem Ae7 (pu:Af) (n:Nat) (z0 z1:Int) {v:Value} (hm:Qp pu n z0 z1=some v):BN tt (Bb tabs isP pu (inl pu)) 0 VM (fr 25 [(0,(zU z0)),(2,zI z1)]) (hp 0 []) (Fin tt 0 [.tmp 2] v):=by
 unfold Qp at hm
 refine .join (v:=v) (fun y:Int×Int=>((fr 25 [(0,(zU y.1)),(2,(zI y.2))]),(hp 0 []))) (fun y=>PQ pu n y.1 y.2) ?_ ?_
 ·rintro⟨z2,z3⟩ hm
  exact Ae6 pu n z2 z3 hm
 ·refine .then (.rK (.ghs (fr 25 [(0,(zU z0)),(2,zI z1),(8,(zB (nt (AY z0 (65536:Int)))))]) (hp 0 []) (.k0 [] [] [0,2,8]) ?_))
  replace hm:=Ag hm;rcases hm with⟨h0,hm⟩ | ⟨h0,hm⟩
  ·refine A7 (nt (AY z0 (65536:Int))) h0 ?_
   refine .then (.rK (.ghs (fr 25 [(0,(zU (G6 .u64 z0 16))),(2,zI z1)]) (hp 0 []) (.k0 [] [] [0,2]) ?_))
   refine .rK ?_
   exact⟨((G6 .u64 z0 16),(Aj .i64 (Int.add z1 (16:Int)))),hm,(.k0 [] [] [0,2])⟩
  ·refine Bp (nt (AY z0 (65536:Int))) h0 ?_
   refine .skip ?_
   exact⟨(z0,z1),hm,(.k0 [] [] [0,2])⟩
theorem r95 {call:A8} (pu:Af) (n:Nat) (hcall:call=Bb tabs isP pu (inl pu)) {args:LV} {v:Value} (hm:m95 pu n args=some v) (_:∀ x∈args,closed2 x=true):args.length≤25∧BN tt call 0 O3 (Fr.made 25 args) (Ao tabs) (Fin tt 0 [.tmp 2] v):=by
 subst hcall
 unfold m95 at hm
 replace hm:=Ad hm;obtain⟨a0,args_0,rfl,hm⟩:=hm
 replace hm:=AC hm;obtain⟨rfl,hm⟩:=hm
 replace hm:=Ai hm;obtain⟨x0,rfl,hm⟩:=hm
 unfold Ae4 at hm
 refine⟨by simp,?_⟩
 refine .same (F':=(fr 25 [(0,(zU x0))])) (H':=(hp 0 [])) (by kernel_rfl) (by kernel_rfl) ?_
 refine .then (.rK (.ghs (fr 25 [(0,(zU x0)),(2,(zI (0:Int)))]) (hp 0 []) (.k0 [] [] [0,2]) ?_))
 refine .join (v:=v) (fun y:Int×Int=>((fr 25 [(0,(zU y.1)),(2,(zI y.2))]),(hp 0 []))) (fun y=>Qp pu n y.1 y.2) ?_ ?_
 ·rintro⟨z0,z1⟩ hm
  exact Ae7 pu n z0 z1 hm
 ·refine .then (.rK (.ghs (fr 25 [(0,(zU x0)),(2,(zI (0:Int))),(4,(zB (nt (AY x0 (4294967296:Int)))))]) (hp 0 []) (.k0 [] [] [0,2,4]) ?_))
  replace hm:=Ag hm;rcases hm with⟨h0,hm⟩ | ⟨h0,hm⟩
  ·refine A7 (nt (AY x0 (4294967296:Int))) h0 ?_
   refine .then (.rK (.ghs (fr 25 [(0,(zU (G6 .u64 x0 32)))]) (hp 0 []) (.k0 [] [] [0]) ?_))
   refine .rK ?_
   exact⟨((G6 .u64 x0 32),(32:Int)),hm,(.k0 [] [] [0,2])⟩
  ·refine Bp (nt (AY x0 (4294967296:Int))) h0 ?_
   refine .skip ?_
   exact⟨(x0,(0:Int)),hm,(.k0 [] [] [0,2])⟩

def Ae8 (pu:Af) (n:Nat) (x0:Int):OV:=
 (some (.bool (nt (Bd x0 x0))))
def m96 (pu:Af) (n:Nat) (args:LV):OV:=
 (ll args none fun a0 args=>(ll args (oo (Bi .i64 a0) none fun x0=>(Ae8 pu n x0)) fun _ _=>none))
theorem r96 {call:A8} (pu:Af) (n:Nat) (hcall:call=Bb tabs isP pu (inl pu)) {args:LV} {v:Value} (hm:m96 pu n args=some v) (_:∀ x∈args,closed2 x=true):args.length≤6∧BN tt call 0 QS (Fr.made 6 args) (Ao tabs) (Fin tt 0 [.tmp 2] v):=by
 subst hcall
 unfold m96 at hm
 replace hm:=Ad hm;obtain⟨a0,args_0,rfl,hm⟩:=hm
 replace hm:=AC hm;obtain⟨rfl,hm⟩:=hm
 replace hm:=Ai hm;obtain⟨x0,rfl,hm⟩:=hm
 unfold Ae8 at hm
 refine⟨by simp,?_⟩
 refine .same (F':=(fr 6 [(0,zI x0)])) (H':=(hp 0 [])) (by kernel_rfl) (by kernel_rfl) ?_
 refine .then (.rK (.ghs (fr 6 [(0,zI x0)]) (hp 0 []) (.k0 [] [] [0]) ?_))
 refine .then (.rK (.ghs (fr 6 [(2,(zB (nt (Bd x0 x0))))]) (hp 0 []) (.k0 [] [] [2]) ?_))
 refine .ret ?_
 exact Ay (zB (nt (Bd x0 x0))) hm

def Jj (pu:Af) (n:Nat) (s0:Sl):OV:=
 (some (.tuple ⟨[Sl.v 1 s0]⟩))
def KV (pu:Af) (n:Nat) (args:LV):OV:=
 (ll args none fun a0 args=>(ll args (oo (Bj 1 a0) none fun s0=>(Jj pu n s0)) fun _ _=>none))
theorem uS (pu:Af) (n:Nat) (s0:Sl) {v:Value} (hm:Jj pu n s0=some v):BN tt (Bb tabs isP pu (inl pu)) 0 VU (fr 4 [(0,Sl.v 1 s0)]) (hp 0 []) (FJ tt 0 0 [.tmp 2] v):=by
 unfold Jj at hm
 refine .then (.rK (.ghs (fr 4 [(0,Sl.v 1 s0)]) (hp 0 []) (.k0 [] [] [0]) ?_))
 refine .then (.rK (.ghs (fr 4 [(2,Sl.v 1 s0)]) (hp 0 []) (.k0 [] [] [2]) ?_))
 refine .ghs (fr 4 [(2,Sl.v 1 s0)]) (hp 0 []) (.k0 [] [] [2]) ?_
 refine .ret ?_
 exact Gv (Sl.v 1 s0) [] (by kernel_rfl) hm (Nat.le_of_ble_eq_true rfl) FK
theorem uT {call:A8} (pu:Af) (n:Nat) (hcall:call=Bb tabs isP pu (inl pu)) {args:LV} {os:List AJ} {z:Value} (ha:args.length=1) (hk:os.length=0) (hpl:∀ o∈os,plainO o) (hm:KV pu n (args++os.map Ef)=some z):args.length≤4∧BN tt call (tabs.length+0) VU (Fr.made 4 args) (BK tabs os) (FJ tt tabs.length 0 [.tmp 2] z):=by
 subst hcall
 have hq:=Bq ha;clear ha;obtain⟨a0,args,rfl,ha⟩:=hq
 obtain rfl:=len_nil ha
 obtain rfl:=len_nil hk
 replace hm:KV pu n [a0]=some z:=hm
 unfold KV at hm
 replace hm:(oo (Bj 1 a0) none fun s0=>(Jj pu n s0))=some z:=hm
 replace hm:=Al hm;obtain⟨s0,rfl,hm⟩:=hm
 refine⟨by simp,?_⟩
 exact .same (F':=(fr 4 [(0,Sl.v 1 s0)])) (H':=(hp 0 [])) (by kernel_rfl) (by kernel_rfl) (uS pu n s0 hm)

def Jv (pu:Af) (n n0 c0:Nat) (q0:LV):OV:=
 (bb (Au Ah q0) (oo (pu 69 [(.int .u64 (Aj .u64 (Int.ofNat n0)))]) none fun v0=>(oo (Bi .i64 v0) none fun x0=>(bb (Dp (Nat.ble 2 c0) (MQ q0)) (bb (Au Ah q0) (oo (pu 10680 [(.slice (some ⟨0,0,some 1⟩) n0 c0),(.int .i64 (0:Int)),(.int .i64 (Int.ofNat n0)),.int .i64 x0,(.func (.func 45) ⟨[]⟩ ⟨[]⟩),(.agg ⟨q0⟩)]) none fun v1=>(oo (CQ v1) none fun l0=>(ll l0 none fun v2 l0=>(ll l0 none fun v3 l0=>(ll l0 (bb (Pm v2) (oo (Bt v3) none fun q1=>(bb (Au Ah q1) (bb (Au Ah q1) (some (.tuple ⟨[(.tuple ⟨[]⟩),(.agg ⟨q1⟩)]⟩)) none) none)) none) fun _ _=>none))))) none) none))) none)
def KW (pu:Af) (n:Nat) (args:LV):OV:=
 (ll args none fun a0 args=>(ll args none fun a1 args=>(ll args none fun o0 args=>(ll args (oo (Hw 0 0 1 a0) none fun y0=>(oo (L6 45 0 a1) none fun l0=>(ll l0 (oo (Bt o0) none fun q0=>(Jv pu n (NC.n y0) (NC.c y0) q0)) fun _ _=>none))) fun _ _=>none))))
theorem uU (pu:Af) (n n0 c0:Nat) (q0:LV) {v:Value} (hm:Jv pu n n0 c0 q0=some v):BN tt (Bb tabs isP pu (inl pu)) 1 Pi (fr 14 [(0,sc 0 0 1 n0 c0),(1,(.func (.func 45) ⟨[]⟩ ⟨[]⟩))]) (hp 1 [oC q0]) (FJ tt 0 1 [] v):=by
 unfold Jv at hm
 refine .then (.rK ?_)
 replace hm:=Ae hm;obtain⟨h0,hm⟩:=hm
 refine .ghs (fr 14 [(0,sc 0 0 1 n0 c0),(1,(.func (.func 45) ⟨[]⟩ ⟨[]⟩)),(4,(zI (Int.ofNat n0)))]) (hp 1 [oC q0]) (.k [0] [false] [] [0,1,4] ⟨AO h0,trivial⟩) ?_
 replace hm:=Dn hm;obtain⟨x0,h1,hm⟩:=hm
 replace hm:=Ae hm;obtain⟨h2,hm⟩:=hm
 replace hm:=Ae hm;obtain⟨h3,hm⟩:=hm
 replace hm:=Ab hm;obtain⟨v0,h4,hm⟩:=hm
 replace hm:=Ch hm;obtain⟨l0,rfl,hm⟩:=hm
 replace hm:=Ad hm;obtain⟨v1,l10229_0,rfl,hm⟩:=hm
 replace hm:=Ad hm;obtain⟨v2,l10229_1,rfl,hm⟩:=hm
 replace hm:=AC hm;obtain⟨rfl,hm⟩:=hm
 replace hm:=Ae hm;obtain⟨h5,hm⟩:=hm
 obtain rfl:=Ki h5
 replace hm:=BG hm;obtain⟨q1,rfl,hm⟩:=hm
 replace hm:=Ae hm;obtain⟨h6,hm⟩:=hm
 refine .reg (eC 4 ((oo (pu 69 [(zU (Aj .u64 (Int.ofNat n0)))]) none fun v=>some (v,(hp 1 [oC q0])))) (AB h1) (eC 1 (Gp tabs [[none],[none],[none],[none],[none]] 5 [.tmp 0 false] [false] (pu 10680) [sc 0 0 1 n0 c0,(zI (0:Int)),(zI (Int.ofNat n0)),zI x0,(.func (.func 45) ⟨[]⟩ ⟨[]⟩)] (hp 1 [oC q0])) (HV (as:=[sc 0 0 1 n0 c0,(zI (0:Int)),(zI (Int.ofNat n0)),zI x0,(.func (.func 45) ⟨[]⟩ ⟨[]⟩)]) (H1:=(hp 1 [oC q0])) (Fh (Gm Jb) (Fh (Gm Jb) (Fh (Gm Jb) (Fh (Gm Jb) (Fh (Gm Jb) KJ))))) (Hz (H2:=(hp 1 [oC q1])) (v:=(.tuple ⟨[]⟩)) (v':=(.tuple ⟨[]⟩)) [some 0] [(false,some 0)] [oC q0] [sc 0 0 1 n0 c0,(zI (0:Int)),(zI (Int.ofNat n0)),zI x0,(.func (.func 45) ⟨[]⟩ ⟨[]⟩)] [(.agg ⟨q1⟩)] [oC q1] [some 0] [(false,oC q1)] [oC q1] (sF (by kernel_rfl) (RO h2 rfl)) (FM (Jh (anc:=[]) h3) DT) (Eq.trans (by kernel_rfl) h4) (FM rfl DT) (FM (Ji h6) DT))) (eE))) ?_
 replace hm:=Ae hm;obtain⟨h7,hm⟩:=hm
 refine .ghs (fr 14 []) (hp 1 [oC q1]) (.k [0] [false] [] [] ⟨AO h7,trivial⟩) ?_
 exact Kh (.tuple ⟨[]⟩) [oC q1] (by kernel_rfl) hm (Nat.le_of_ble_eq_true rfl) (CY (O6 _) FK)
theorem uV {call:A8} (pu:Af) (n:Nat) (hcall:call=Bb tabs isP pu (inl pu)) {args:LV} {os:List AJ} {z:Value} (ha:args.length=2) (hk:os.length=1) (hpl:∀ o∈os,plainO o) (hm:KW pu n (args++os.map Ef)=some z):args.length≤14∧BN tt call (tabs.length+1) Pi (Fr.made 14 args) (BK tabs os) (FJ tt tabs.length 1 [] z):=by
 subst hcall
 have hq:=Bq ha;clear ha;obtain⟨a0,args,rfl,ha⟩:=hq
 have hq:=Bq ha;clear ha;obtain⟨a1,args,rfl,ha⟩:=hq
 obtain rfl:=len_nil ha
 have hq:=Bq hk;clear hk;obtain⟨b0,os,rfl,hk⟩:=hq
 have hp0:plainO b0:=hpl b0 (by simp)
 obtain rfl:=len_nil hk
 replace hm:KW pu n [a0,a1,Ef b0]=some z:=hm
 unfold KW at hm
 replace hm:(oo (Hw 0 0 1 a0) none fun y0=>(oo (L6 45 0 a1) none fun l0=>(ll l0 (oo (Bt (Ef b0)) none fun q0=>(Jv pu n (NC.n y0) (NC.c y0) q0)) fun _ _=>none)))=some z:=hm
 replace hm:=Ab hm;obtain⟨y0,h0,hm⟩:=hm
 obtain rfl:=FD h0
 replace hm:=Ab hm;obtain⟨l0,h1,hm⟩:=hm
 obtain rfl:=Gw h1
 replace hm:=AC hm;obtain⟨rfl,hm⟩:=hm
 replace hm:=Ab hm;obtain⟨q0,h2,hm⟩:=hm
 obtain rfl:=FX hp0 h2
 refine⟨by simp,?_⟩
 exact .same (F':=(fr 14 [(0,(sc 0 0 1 (NC.n y0) (NC.c y0))),(1,(.func (.func 45) ⟨[]⟩ ⟨[]⟩))])) (H':=(hp 1 [oC q0])) (by kernel_rfl) (by kernel_rfl) (uU pu n (NC.n y0) (NC.c y0) q0 hm)
def KX (pu:Af) (n:Nat) (ih0:Nat→Nat→Int→Int→Int→Bool→Bool→LV→OV) (n0 c0:Nat) (z0 z1 z2:Int) (b0 b1:Bool) (z3:Int) (q0:LV):OV:=
 none
def KZ (pu:Af) (n:Nat) (ih0:Nat→Nat→Int→Int→Int→Bool→Bool→LV→OV) (n0 c0:Nat) (z0 z1 z2:Int) (b0 b1:Bool) (q0:LV):OV:=
 (bb (Au Ah q0) (bb (nt (AY (12:Int) (Aj .i64 (Int.sub z1 z0)))) (bb (Dp (Nat.ble 2 c0) (MQ q0)) (bb (Au Ah q0) (oo (pu 10860 [(.slice (some ⟨0,0,some 1⟩) n0 c0),.int .i64 z0,.int .i64 z1,(.func (.func 45) ⟨[]⟩ ⟨[]⟩),(.agg ⟨q0⟩)]) none fun v0=>(oo (CQ v0) none fun l0=>(ll l0 none fun v1 l0=>(ll l0 none fun v2 l0=>(ll l0 (bb (Pm v1) (oo (Bt v2) none fun q1=>(bb (Au Ah q1) (bb (Au Ah q1) (some (.tuple ⟨[(.tuple ⟨[]⟩),(.agg ⟨q1⟩)]⟩)) none) none)) none) fun _ _=>none))))) none) none) (bb (Bd z2 (0:Int)) none (bb (nt b0) none (KX pu n ih0 n0 c0 z0 z1 z2 b0 b1 (Aj .i64 (Int.sub z1 z0)) q0)))) none)
def HY (pu:Af) (n w:Nat):Nat→Nat→Int→Int→Int→Bool→Bool→LV→OV:=
 Nat.rec (motive:=fun _=>Nat→Nat→Int→Int→Int→Bool→Bool→LV→OV) (fun _ _ _ _ _ _ _ _=>none) (fun _ ih0=>KZ pu n ih0) w
def Jw (pu:Af) (n n0 c0:Nat) (z0 z1 z2:Int) (q0:LV):OV:=
 (bb (Au Ah q0) (HY pu n n n0 c0 z0 z1 z2 true true q0) none)
def K3 (pu:Af) (n:Nat) (args:LV):OV:=
 (ll args none fun a0 args=>(ll args none fun a1 args=>(ll args none fun a2 args=>(ll args none fun a3 args=>(ll args none fun a4 args=>(ll args none fun o0 args=>(ll args (oo (Hw 0 0 1 a0) none fun y0=>(oo (Bi .i64 a1) none fun x0=>(oo (Bi .i64 a2) none fun x1=>(oo (Bi .i64 a3) none fun x2=>(oo (L6 45 0 a4) none fun l0=>(ll l0 (oo (Bt o0) none fun q0=>(Jw pu n (NC.n y0) (NC.c y0) x0 x1 x2 q0)) fun _ _=>none)))))) fun _ _=>none)))))))
theorem uW (pu:Af) (n n0 c0:Nat) (z0 z1 z2:Int) (q0:LV) {v:Value} (hm:Jw pu n n0 c0 z0 z1 z2 q0=some v):BN tt (Bb tabs isP pu (inl pu)) 1 Kc (fr 148 [(0,sc 0 0 1 n0 c0),(1,zI z0),(2,zI z1),(3,zI z2),(4,(.func (.func 45) ⟨[]⟩ ⟨[]⟩))]) (hp 1 [oC q0]) (FJ tt 0 1 [] v):=by
 unfold Jw at hm
 refine .then (.rK ?_)
 replace hm:=Ae hm;obtain⟨h0,hm⟩:=hm
 refine .ghs (fr 148 [(0,sc 0 0 1 n0 c0),(1,zI z0),(2,zI z1),(3,zI z2),(4,(.func (.func 45) ⟨[]⟩ ⟨[]⟩)),(10,zB true)]) (hp 1 [oC q0]) (.k [0] [false] [] [0,1,2,3,4,10] ⟨AO h0,trivial⟩) ?_
 refine .then (.rK (.ghs (fr 148 [(0,sc 0 0 1 n0 c0),(1,zI z0),(2,zI z1),(3,zI z2),(4,(.func (.func 45) ⟨[]⟩ ⟨[]⟩)),(10,zB true),(11,zB true)]) (hp 1 [oC q0]) (.k [0] [false] [] [0,1,2,3,4,10,11] ⟨AO h0,trivial⟩) ?_))
 refine .block (.loopM (v:=v) (fun y:Nat×Nat×Int×Int×Int×Bool×Bool×LV=>((fr 148 [(0,(sc 0 0 1 y.1 y.2.1)),(1,(zI y.2.2.1)),(2,(zI y.2.2.2.1)),(3,(zI y.2.2.2.2.1)),(4,(.func (.func 45) ⟨[]⟩ ⟨[]⟩)),(10,(zB y.2.2.2.2.2.1)),(11,(zB y.2.2.2.2.2.2.1))]),(hp 1 [(oC y.2.2.2.2.2.2.2)]))) (fun w y=>HY pu n w y.1 y.2.1 y.2.2.1 y.2.2.2.1 y.2.2.2.2.1 y.2.2.2.2.2.1 y.2.2.2.2.2.2.1 y.2.2.2.2.2.2.2) n ⟨(n0,c0,z0,z1,z2,true,true,q0),hm,(.k [0] [false] [] [0,1,2,3,4,10,11] ⟨AO h0,trivial⟩)⟩ (fun _=>rfl) ?_)
 rintro w0 ⟨n1,c1,z3,z4,z5,b0,b1,q1⟩ hm
 replace hm:KZ pu n (HY pu n w0) n1 c1 z3 z4 z5 b0 b1 q1=some v:=hm
 unfold KZ at hm
 refine .block (.then (.rK ?_))
 replace hm:=Ae hm;obtain⟨h1,hm⟩:=hm
 refine .ghs (fr 148 [(0,sc 0 0 1 n1 c1),(1,zI z3),(2,zI z4),(3,zI z5),(4,(.func (.func 45) ⟨[]⟩ ⟨[]⟩)),(10,zB b0),(11,zB b1),(12,(zI (Aj .i64 (Int.sub z4 z3))))]) (hp 1 [oC q1]) (.k [0] [false] [] [0,1,2,3,4,10,11,12] ⟨AO h1,trivial⟩) ?_
 refine .then (.then (.rK (.ghs (fr 148 [(0,sc 0 0 1 n1 c1),(1,zI z3),(2,zI z4),(3,zI z5),(4,(.func (.func 45) ⟨[]⟩ ⟨[]⟩)),(10,zB b0),(11,zB b1),(12,(zI (Aj .i64 (Int.sub z4 z3)))),(25,(zB (nt (AY (12:Int) (Aj .i64 (Int.sub z4 z3))))))]) (hp 1 [oC q1]) (.k [0] [false] [] [0,1,2,3,4,10,11,12,25] ⟨AO h1,trivial⟩) ?_)))
 replace hm:=Ag hm;rcases hm with⟨h2,hm⟩ | ⟨h2,hm⟩
 ·refine A7 (nt (AY (12:Int) (Aj .i64 (Int.sub z4 z3)))) h2 ?_
  refine .then ?_
  replace hm:=Ae hm;obtain⟨h3,hm⟩:=hm
  replace hm:=Ae hm;obtain⟨h4,hm⟩:=hm
  replace hm:=Ab hm;obtain⟨v0,h5,hm⟩:=hm
  replace hm:=Ch hm;obtain⟨l0,rfl,hm⟩:=hm
  replace hm:=Ad hm;obtain⟨v1,l10168_0,rfl,hm⟩:=hm
  replace hm:=Ad hm;obtain⟨v2,l10168_1,rfl,hm⟩:=hm
  replace hm:=AC hm;obtain⟨rfl,hm⟩:=hm
  replace hm:=Ae hm;obtain⟨h6,hm⟩:=hm
  obtain rfl:=Ki h6
  replace hm:=BG hm;obtain⟨q2,rfl,hm⟩:=hm
  replace hm:=Ae hm;obtain⟨h7,hm⟩:=hm
  refine .reg (eC 4 (Gp tabs [[none],[none],[none],[none]] 4 [.tmp 0 false] [false] (pu 10860) [sc 0 0 1 n1 c1,zI z3,zI z4,(.func (.func 45) ⟨[]⟩ ⟨[]⟩)] (hp 1 [oC q1])) (HV (as:=[sc 0 0 1 n1 c1,zI z3,zI z4,(.func (.func 45) ⟨[]⟩ ⟨[]⟩)]) (H1:=(hp 1 [oC q1])) (Fh (Gm Jb) (Fh (Gm Jb) (Fh (Gm Jb) (Fh (Gm Jb) KJ)))) (Hz (H2:=(hp 1 [oC q2])) (v:=(.tuple ⟨[]⟩)) (v':=(.tuple ⟨[]⟩)) [some 0] [(false,some 0)] [oC q1] [sc 0 0 1 n1 c1,zI z3,zI z4,(.func (.func 45) ⟨[]⟩ ⟨[]⟩)] [(.agg ⟨q2⟩)] [oC q2] [some 0] [(false,oC q2)] [oC q2] (sF (by kernel_rfl) (RO h3 rfl)) (FM (Jh (anc:=[]) h4) DT) (Eq.trans (by kernel_rfl) h5) (FM rfl DT) (FM (Ji h7) DT))) (eE)) ?_
  replace hm:=Ae hm;obtain⟨h8,hm⟩:=hm
  refine .ghs (fr 148 []) (hp 1 [oC q2]) (.k [0] [false] [] [] ⟨AO h8,trivial⟩) ?_
  refine .ghs (fr 148 []) (hp 1 [oC q2]) (.k [0] [false] [] [] ⟨AO h8,trivial⟩) ?_
  refine .ret ?_
  exact Gv (.tuple ⟨[]⟩) [oC q2] (by kernel_rfl) hm (Nat.le_of_ble_eq_true rfl) (CY (O6 _) FK)
 ·refine Bp (nt (AY (12:Int) (Aj .i64 (Int.sub z4 z3)))) h2 ?_
  refine .skip (.ghs (fr 148 [(0,sc 0 0 1 n1 c1),(1,zI z3),(2,zI z4),(3,zI z5),(4,(.func (.func 45) ⟨[]⟩ ⟨[]⟩)),(10,zB b0),(11,zB b1),(12,(zI (Aj .i64 (Int.sub z4 z3))))]) (hp 1 [oC q1]) (.k [0] [false] [] [0,1,2,3,4,10,11,12] ⟨AO h1,trivial⟩) ?_)
  refine .then (.then (.rK (.ghs (fr 148 [(0,sc 0 0 1 n1 c1),(1,zI z3),(2,zI z4),(3,zI z5),(4,(.func (.func 45) ⟨[]⟩ ⟨[]⟩)),(10,zB b0),(11,zB b1),(12,(zI (Aj .i64 (Int.sub z4 z3)))),(32,(zB (Bd z5 (0:Int))))]) (hp 1 [oC q1]) (.k [0] [false] [] [0,1,2,3,4,10,11,12,32] ⟨AO h1,trivial⟩) ?_)))
  replace hm:=Ag hm;rcases hm with⟨h9,hm⟩ | ⟨h9,hm⟩
  ·refine A7 (Bd z5 (0:Int)) h9 ?_
   refine .then ?_
   cases hm
  ·refine Bp (Bd z5 (0:Int)) h9 ?_
   refine .skip (.ghs (fr 148 [(0,sc 0 0 1 n1 c1),(1,zI z3),(2,zI z4),(3,zI z5),(4,(.func (.func 45) ⟨[]⟩ ⟨[]⟩)),(10,zB b0),(11,zB b1),(12,(zI (Aj .i64 (Int.sub z4 z3))))]) (hp 1 [oC q1]) (.k [0] [false] [] [0,1,2,3,4,10,11,12] ⟨AO h1,trivial⟩) ?_)
   refine .join (v:=v) (fun y:Nat×Nat×Int×Int×Int×Bool×Bool×Int×LV=>((fr 148 [(0,(sc 0 0 1 y.1 y.2.1)),(1,(zI y.2.2.1)),(2,(zI y.2.2.2.1)),(3,(zI y.2.2.2.2.1)),(4,(.func (.func 45) ⟨[]⟩ ⟨[]⟩)),(10,(zB y.2.2.2.2.2.1)),(11,(zB y.2.2.2.2.2.2.1)),(12,(zI y.2.2.2.2.2.2.2.1))]),(hp 1 [(oC y.2.2.2.2.2.2.2.2)]))) (fun y=>KX pu n (HY pu n w0) y.1 y.2.1 y.2.2.1 y.2.2.2.1 y.2.2.2.2.1 y.2.2.2.2.2.1 y.2.2.2.2.2.2.1 y.2.2.2.2.2.2.2.1 y.2.2.2.2.2.2.2.2) ?_ ?_
   ·rintro⟨n2,c2,z6,z7,z8,b2,b3,z9,q3⟩ hm
    unfold KX at hm
    refine .then ?_
    cases hm
   ·refine .then (.rK (.ghs (fr 148 [(0,sc 0 0 1 n1 c1),(1,zI z3),(2,zI z4),(3,zI z5),(4,(.func (.func 45) ⟨[]⟩ ⟨[]⟩)),(10,zB b0),(11,zB b1),(12,(zI (Aj .i64 (Int.sub z4 z3)))),(39,(zB (nt b0)))]) (hp 1 [oC q1]) (.k [0] [false] [] [0,1,2,3,4,10,11,12,39] ⟨AO h1,trivial⟩) ?_))
    replace hm:=Ag hm;rcases hm with⟨h10,hm⟩ | ⟨h10,hm⟩
    ·refine A7 (nt b0) h10 ?_
     refine .then ?_
     cases hm
    ·refine Bp (nt b0) h10 ?_
     refine .skip ?_
     exact⟨(n1,c1,z3,z4,z5,b0,b1,(Aj .i64 (Int.sub z4 z3)),q1),hm,(.k [0] [false] [] [0,1,2,3,4,10,11,12] ⟨AO h1,trivial⟩)⟩
theorem uX {call:A8} (pu:Af) (n:Nat) (hcall:call=Bb tabs isP pu (inl pu)) {args:LV} {os:List AJ} {z:Value} (ha:args.length=5) (hk:os.length=1) (hpl:∀ o∈os,plainO o) (hm:K3 pu n (args++os.map Ef)=some z):args.length≤148∧BN tt call (tabs.length+1) Kc (Fr.made 148 args) (BK tabs os) (FJ tt tabs.length 1 [] z):=by
 subst hcall
 have hq:=Bq ha;clear ha;obtain⟨a0,args,rfl,ha⟩:=hq
 have hq:=Bq ha;clear ha;obtain⟨a1,args,rfl,ha⟩:=hq
 have hq:=Bq ha;clear ha;obtain⟨a2,args,rfl,ha⟩:=hq
 have hq:=Bq ha;clear ha;obtain⟨a3,args,rfl,ha⟩:=hq
 have hq:=Bq ha;clear ha;obtain⟨a4,args,rfl,ha⟩:=hq
 obtain rfl:=len_nil ha
 have hq:=Bq hk;clear hk;obtain⟨b0,os,rfl,hk⟩:=hq
 have hp0:plainO b0:=hpl b0 (by simp)
 obtain rfl:=len_nil hk
 replace hm:K3 pu n [a0,a1,a2,a3,a4,Ef b0]=some z:=hm
 unfold K3 at hm
 replace hm:(oo (Hw 0 0 1 a0) none fun y0=>(oo (Bi .i64 a1) none fun x0=>(oo (Bi .i64 a2) none fun x1=>(oo (Bi .i64 a3) none fun x2=>(oo (L6 45 0 a4) none fun l0=>(ll l0 (oo (Bt (Ef b0)) none fun q0=>(Jw pu n (NC.n y0) (NC.c y0) x0 x1 x2 q0)) fun _ _=>none))))))=some z:=hm
 replace hm:=Ab hm;obtain⟨y0,h0,hm⟩:=hm
 obtain rfl:=FD h0
 replace hm:=Ai hm;obtain⟨x0,rfl,hm⟩:=hm
 replace hm:=Ai hm;obtain⟨x1,rfl,hm⟩:=hm
 replace hm:=Ai hm;obtain⟨x2,rfl,hm⟩:=hm
 replace hm:=Ab hm;obtain⟨l0,h1,hm⟩:=hm
 obtain rfl:=Gw h1
 replace hm:=AC hm;obtain⟨rfl,hm⟩:=hm
 replace hm:=Ab hm;obtain⟨q0,h2,hm⟩:=hm
 obtain rfl:=FX hp0 h2
 refine⟨by simp,?_⟩
 exact .same (F':=(fr 148 [(0,(sc 0 0 1 (NC.n y0) (NC.c y0))),(1,zI x0),(2,zI x1),(3,zI x2),(4,(.func (.func 45) ⟨[]⟩ ⟨[]⟩))])) (H':=(hp 1 [oC q0])) (by kernel_rfl) (by kernel_rfl) (uW pu n (NC.n y0) (NC.c y0) x0 x1 x2 q0 hm)
def K4 (pu:Af) (n:Nat) (ih0:Nat→Nat→Int→Int→Int→LV→OV) (n0 c0:Nat) (z0 z1 z2:Int) (q0:LV):OV:=
 (bb (Au Ah q0) (ih0 n0 c0 z0 z1 (Aj .i64 (Int.add z2 (1:Int))) q0) none)
def Iq (pu:Af) (n:Nat) (ih0:Nat→Nat→Int→Int→Int→LV→OV) (ih1:Nat→Nat→Int→Int→Int→Int→LV→OV) (n0 c0:Nat) (z0 z1 z2 z3:Int) (b0:Bool) (q0:LV):OV:=
 (bb b0 (bb (Au Ah q0) (oo (EA (Aj .i64 (Int.sub z3 (1:Int)))) none fun k1=>(oo (EA (Aj .i64 (Int.sub z3 (1:Int)))) none fun k2=>(bb (an (Nat.blt k2 n0) true) (oo (AL q0 (0+k2*1)) none fun v0=>(oo (Bj 1 v0) none fun s0=>(oo (EA z3) none fun k3=>(bb (an (Nat.blt k3 n0) true) (oo (AL q0 (0+k3*1)) none fun v1=>(oo (Bj 1 v1) none fun s1=>(bb (an (Nat.blt k3 n0) true) (bb (an (Nat.ble ((0+k3*1)+1) (len q0)) true) (bb (an (Nat.blt k1 n0) true) (bb (an (Nat.ble ((0+k1*1)+1) (len (BM ([Sl.v 1 s0]:LV) (0+k3*1) q0))) true) (bb (Au Ah (BM ([Sl.v 1 s1]:LV) (0+k1*1) (BM ([Sl.v 1 s0]:LV) (0+k3*1) q0))) (ih1 n0 c0 z0 z1 z2 (Aj .i64 (Int.sub (Int.ofNat k3) (1:Int))) (BM ([Sl.v 1 s1]:LV) (0+k1*1) (BM ([Sl.v 1 s0]:LV) (0+k3*1) q0))) none) none) none) none) none))) none)))) none))) none) (bb (Au Ah q0) (K4 pu n ih0 n0 c0 z0 z1 z2 q0) none))
def K5 (pu:Af) (n:Nat) (ih0:Nat→Nat→Int→Int→Int→LV→OV) (ih1:Nat→Nat→Int→Int→Int→Int→LV→OV) (n0 c0:Nat) (z0 z1 z2 z3:Int) (q0:LV):OV:=
 (bb (AY z0 z3) (oo (EA z3) none fun k1=>(bb (an (Nat.blt k1 n0) true) (oo (AL q0 (0+k1*1)) none fun v0=>(oo (Bj 1 v0) none fun s0=>(oo (EA (Aj .i64 (Int.sub (Int.ofNat k1) (1:Int)))) none fun k2=>(bb (an (Nat.blt k2 n0) true) (oo (AL q0 (0+k2*1)) none fun v1=>(oo (Bj 1 v1) none fun s1=>(oo (pu 45 [Sl.v 1 s0,Sl.v 1 s1]) none fun v2=>(oo (Bi .i64 v2) none fun x0=>(bb (Au Ah q0) (Iq pu n ih0 ih1 n0 c0 z0 z1 z2 (Int.ofNat k1) (AY x0 (0:Int)) q0) none))))) none)))) none)) (bb (Au Ah q0) (Iq pu n ih0 ih1 n0 c0 z0 z1 z2 z3 false q0) none))
def Ir (pu:Af) (n:Nat) (ih0:Nat→Nat→Int→Int→Int→LV→OV) (w:Nat):Nat→Nat→Int→Int→Int→Int→LV→OV:=
 Nat.rec (motive:=fun _=>Nat→Nat→Int→Int→Int→Int→LV→OV) (fun _ _ _ _ _ _ _=>none) (fun _ ih1=>K5 pu n ih0 ih1) w
def K6 (pu:Af) (n:Nat) (ih0:Nat→Nat→Int→Int→Int→LV→OV) (n0 c0:Nat) (z0 z1 z2:Int) (q0:LV):OV:=
 (bb (Au Ah q0) (bb (AY z2 z1) (Ir pu n ih0 n n0 c0 z0 z1 z2 z2 q0) (some (.tuple ⟨[(.tuple ⟨[]⟩),(.agg ⟨q0⟩)]⟩))) none)
def Fp (pu:Af) (n w:Nat):Nat→Nat→Int→Int→Int→LV→OV:=
 Nat.rec (motive:=fun _=>Nat→Nat→Int→Int→Int→LV→OV) (fun _ _ _ _ _ _=>none) (fun _ ih0=>K6 pu n ih0) w
def JN (pu:Af) (n n0 c0:Nat) (z0 z1:Int) (q0:LV):OV:=
 (bb (Au Ah q0) (Fp pu n n n0 c0 z0 z1 (Aj .i64 (Int.add z0 (1:Int))) q0) none)
def K7 (pu:Af) (n:Nat) (args:LV):OV:=
 (ll args none fun a0 args=>(ll args none fun a1 args=>(ll args none fun a2 args=>(ll args none fun a3 args=>(ll args none fun o0 args=>(ll args (oo (Hw 0 0 1 a0) none fun y0=>(oo (Bi .i64 a1) none fun x0=>(oo (Bi .i64 a2) none fun x1=>(oo (L6 45 0 a3) none fun l0=>(ll l0 (oo (Bt o0) none fun q0=>(JN pu n (NC.n y0) (NC.c y0) x0 x1 q0)) fun _ _=>none))))) fun _ _=>none))))))
theorem uY (pu:Af) (n n0 c0:Nat) (z0 z1:Int) (q0:LV) {v:Value} (hm:JN pu n n0 c0 z0 z1 q0=some v):BN tt (Bb tabs isP pu (inl pu)) 1 Ke (fr 53 [(0,sc 0 0 1 n0 c0),(1,zI z0),(2,zI z1),(3,(.func (.func 45) ⟨[]⟩ ⟨[]⟩))]) (hp 1 [oC q0]) (FJ tt 0 1 [] v):=by
 unfold JN at hm
 refine .then (.rK ?_)
 replace hm:=Ae hm;obtain⟨h0,hm⟩:=hm
 refine .ghs (fr 53 [(0,sc 0 0 1 n0 c0),(1,zI z0),(2,zI z1),(3,(.func (.func 45) ⟨[]⟩ ⟨[]⟩)),(8,(zI (Aj .i64 (Int.add z0 (1:Int)))))]) (hp 1 [oC q0]) (.k [0] [false] [] [0,1,2,3,8] ⟨AO h0,trivial⟩) ?_
 refine .block (.loopM (v:=v) (fun y:Nat×Nat×Int×Int×Int×LV=>((fr 53 [(0,(sc 0 0 1 y.1 y.2.1)),(1,(zI y.2.2.1)),(2,(zI y.2.2.2.1)),(3,(.func (.func 45) ⟨[]⟩ ⟨[]⟩)),(8,(zI y.2.2.2.2.1))]),(hp 1 [(oC y.2.2.2.2.2)]))) (fun w y=>Fp pu n w y.1 y.2.1 y.2.2.1 y.2.2.2.1 y.2.2.2.2.1 y.2.2.2.2.2) n ⟨(n0,c0,z0,z1,(Aj .i64 (Int.add z0 (1:Int))),q0),hm,(.k [0] [false] [] [0,1,2,3,8] ⟨AO h0,trivial⟩)⟩ (fun _=>rfl) ?_)
 rintro w0 ⟨n1,c1,z2,z3,z4,q1⟩ hm
 replace hm:K6 pu n (Fp pu n w0) n1 c1 z2 z3 z4 q1=some v:=hm
 unfold K6 at hm
 refine .then (.then (.rK ?_))
 replace hm:=Ae hm;obtain⟨h1,hm⟩:=hm
 refine .ghs (fr 53 [(0,sc 0 0 1 n1 c1),(1,zI z2),(2,zI z3),(3,(.func (.func 45) ⟨[]⟩ ⟨[]⟩)),(8,zI z4),(14,(zB (AY z4 z3)))]) (hp 1 [oC q1]) (.k [0] [false] [] [0,1,2,3,8,14] ⟨AO h1,trivial⟩) ?_
 replace hm:=Ag hm;rcases hm with⟨h2,hm⟩ | ⟨h2,hm⟩
 ·refine A7 (AY z4 z3) h2 ?_
  refine .skip (.ghs (fr 53 [(0,sc 0 0 1 n1 c1),(1,zI z2),(2,zI z3),(3,(.func (.func 45) ⟨[]⟩ ⟨[]⟩)),(8,zI z4)]) (hp 1 [oC q1]) (.k [0] [false] [] [0,1,2,3,8] ⟨AO h1,trivial⟩) ?_)
  refine .join (v:=v) (fun y:Nat×Nat×Int×Int×Int×LV=>((fr 53 [(0,(sc 0 0 1 y.1 y.2.1)),(1,(zI y.2.2.1)),(2,(zI y.2.2.2.1)),(3,(.func (.func 45) ⟨[]⟩ ⟨[]⟩)),(8,(zI y.2.2.2.2.1))]),(hp 1 [(oC y.2.2.2.2.2)]))) (fun y=>K4 pu n (Fp pu n w0) y.1 y.2.1 y.2.2.1 y.2.2.2.1 y.2.2.2.2.1 y.2.2.2.2.2) ?_ ?_
  ·rintro⟨n2,c2,z5,z6,z7,q2⟩ hm
   unfold K4 at hm
   refine .rK ?_
   replace hm:=Ae hm;obtain⟨h3,hm⟩:=hm
   exact⟨(n2,c2,z5,z6,(Aj .i64 (Int.add z7 (1:Int))),q2),hm,(.k [0] [false] [] [0,1,2,3,8] ⟨AO h3,trivial⟩)⟩
  ·refine .block (.then (.rK (.ghs (fr 53 [(0,sc 0 0 1 n1 c1),(1,zI z2),(2,zI z3),(3,(.func (.func 45) ⟨[]⟩ ⟨[]⟩)),(8,zI z4),(9,zI z4)]) (hp 1 [oC q1]) (.k [0] [false] [] [0,1,2,3,8,9] ⟨AO h1,trivial⟩) ?_)))
   refine .block (.loopM (v:=v) (fun y:Nat×Nat×Int×Int×Int×Int×LV=>((fr 53 [(0,(sc 0 0 1 y.1 y.2.1)),(1,(zI y.2.2.1)),(2,(zI y.2.2.2.1)),(3,(.func (.func 45) ⟨[]⟩ ⟨[]⟩)),(8,(zI y.2.2.2.2.1)),(9,(zI y.2.2.2.2.2.1))]),(hp 1 [(oC y.2.2.2.2.2.2)]))) (fun w y=>Ir pu n (Fp pu n w0) w y.1 y.2.1 y.2.2.1 y.2.2.2.1 y.2.2.2.2.1 y.2.2.2.2.2.1 y.2.2.2.2.2.2) n ⟨(n1,c1,z2,z3,z4,z4,q1),hm,(.k [0] [false] [] [0,1,2,3,8,9] ⟨AO h1,trivial⟩)⟩ (fun _=>rfl) ?_)
   rintro w1 ⟨n3,c3,z8,z9,z10,z11,q3⟩ hm
   replace hm:K5 pu n (Fp pu n w0) (Ir pu n (Fp pu n w0) w1) n3 c3 z8 z9 z10 z11 q3=some v:=hm
   unfold K5 at hm
   refine .then (.join (v:=v) (fun y:Nat×Nat×Int×Int×Int×Int×Bool×LV=>((fr 53 [(0,(sc 0 0 1 y.1 y.2.1)),(1,(zI y.2.2.1)),(2,(zI y.2.2.2.1)),(3,(.func (.func 45) ⟨[]⟩ ⟨[]⟩)),(8,(zI y.2.2.2.2.1)),(9,(zI y.2.2.2.2.2.1)),(34,(zB y.2.2.2.2.2.2.1))]),(hp 1 [(oC y.2.2.2.2.2.2.2)]))) (fun y=>Iq pu n (Fp pu n w0) (Ir pu n (Fp pu n w0) w1) y.1 y.2.1 y.2.2.1 y.2.2.2.1 y.2.2.2.2.1 y.2.2.2.2.2.1 y.2.2.2.2.2.2.1 y.2.2.2.2.2.2.2) ?_ ?_)
   ·rintro⟨n4,c6,z12,z13,z14,z15,b0,q4⟩ hm
    unfold Iq at hm
    replace hm:=Ag hm;rcases hm with⟨h4,hm⟩ | ⟨h4,hm⟩
    ·refine .ifT b0 (by kernel_rfl) h4 ?_
     refine .skip ?_
     replace hm:=Ae hm;obtain⟨h5,hm⟩:=hm
     refine .ghs (fr 53 [(0,sc 0 0 1 n4 c6),(1,zI z12),(2,zI z13),(3,(.func (.func 45) ⟨[]⟩ ⟨[]⟩)),(8,zI z14),(9,zI z15)]) (hp 1 [oC q4]) (.k [0] [false] [] [0,1,2,3,8,9] ⟨AO h5,trivial⟩) ?_
     refine .then (.block ?_)
     replace hm:=Ab hm;obtain⟨k1,h6,hm⟩:=hm
     replace hm:=Ab hm;obtain⟨k2,h7,hm⟩:=hm
     replace hm:=Ae hm;obtain⟨h8,hm⟩:=hm
     replace hm:=I9 hm;obtain⟨s0,h9,hm⟩:=hm
     replace hm:=Ab hm;obtain⟨k3,h10,hm⟩:=hm
     obtain rfl:=AR h10
     replace hm:=Ae hm;obtain⟨h11,hm⟩:=hm
     replace hm:=I9 hm;obtain⟨s1,h12,hm⟩:=hm
     replace hm:=Ae hm;obtain⟨h13,hm⟩:=hm
     replace hm:=Ae hm;obtain⟨h14,hm⟩:=hm
     replace hm:=Ae hm;obtain⟨h15,hm⟩:=hm
     replace hm:=Ae hm;obtain⟨h16,hm⟩:=hm
     refine .reg (eN 9 (Fr.puts (fr 53 [(0,sc 0 0 1 n4 c6),(1,zI z12),(2,zI z13),(3,(.func (.func 45) ⟨[]⟩ ⟨[]⟩)),(8,zI z14),(9,(zI (Int.ofNat k3)))]) [(37,sc 0 0 1 n4 c6),(38,(zI (Int.ofNat k3))),(39,sc 0 0 1 n4 c6),(40,(zI (Int.ofNat k3))),(41,(zI (Int.ofNat k1))),(42,sc 0 0 1 n4 c6),(43,(zI (Int.ofNat k3))),(44,(zI (Int.ofNat k2))),(45,(.pointer (some ⟨0,(0+k2*1),none⟩)))]) (hp 1 [oC q4]) (eC 4 (some ((zI (Aj .i64 (Int.sub (Int.ofNat k3) (1:Int)))),(hp 1 [oC q4]))) (show _=some ((zI (Int.ofNat k1)),_) from (by rw[AR h6])) (eC 2 (some ((zI (Aj .i64 (Int.sub (Int.ofNat k3) (1:Int)))),(hp 1 [oC q4]))) (show _=some ((zI (Int.ofNat k2)),_) from (by rw[AR h7])) (eD (keep (hp 1 [oC q4]) (bb (an (Nat.blt k2 n4) true) (some (.pointer (some ⟨0,(0+k2*1),none⟩))) none)) (AX h8) (by kernel_rfl)))) (eN 5 (Fr.puts (fr 53 [(0,sc 0 0 1 n4 c6),(1,zI z12),(2,zI z13),(3,(.func (.func 45) ⟨[]⟩ ⟨[]⟩)),(8,zI z14),(9,(zI (Int.ofNat k3)))]) [(37,sc 0 0 1 n4 c6),(38,(zI (Int.ofNat k3))),(39,sc 0 0 1 n4 c6),(40,(zI (Int.ofNat k3))),(41,(zI (Int.ofNat k1))),(42,sc 0 0 1 n4 c6),(43,(zI (Int.ofNat k3))),(44,(zI (Int.ofNat k2))),(45,(.pointer (some ⟨0,(0+k2*1),none⟩))),(46,Sl.v 1 s0),(47,sc 0 0 1 n4 c6),(48,(zI (Int.ofNat k3))),(49,(.pointer (some ⟨0,(0+k3*1),none⟩))),(50,Sl.v 1 s1)]) (hp 1 [oC q4]) (eD (keep (hp 1 [oC q4]) (AL q4 (0+k2*1))) (AZ h9) (eC 2 (keep (hp 1 [oC q4]) (bb (an (Nat.blt k3 n4) true) (some (.pointer (some ⟨0,(0+k3*1),none⟩))) none)) (AX h11) (eD (keep (hp 1 [oC q4]) (AL q4 (0+k3*1))) (AZ h12) (by kernel_rfl)))) (eD (keep (hp 1 [oC q4]) (bb (an (Nat.blt k3 n4) true) (some (.pointer (some ⟨0,(0+k3*1),none⟩))) none)) (AX h13) (eD (done (bb (an (Nat.ble ((0+k3*1)+1) (len q4)) true) (some (hp 1 [(oC (BM ([Sl.v 1 s0]:LV) (0+k3*1) q4))])) none) undef) (Js h14) (eD (keep (hp 1 [(oC (BM ([Sl.v 1 s0]:LV) (0+k3*1) q4))]) (bb (an (Nat.blt k1 n4) true) (some (.pointer (some ⟨0,(0+k1*1),none⟩))) none)) (AX h15) (eD (done (bb (an (Nat.ble ((0+k1*1)+1) (len (BM ([Sl.v 1 s0]:LV) (0+k3*1) q4))) true) (some (hp 1 [(oC (BM ([Sl.v 1 s1]:LV) (0+k1*1) (BM ([Sl.v 1 s0]:LV) (0+k3*1) q4)))])) none) undef) (Js h16) (eE))))))) ?_
     replace hm:=Ae hm;obtain⟨h17,hm⟩:=hm
     refine .ghs (fr 53 [(0,sc 0 0 1 n4 c6),(1,zI z12),(2,zI z13),(3,(.func (.func 45) ⟨[]⟩ ⟨[]⟩)),(8,zI z14),(9,(zI (Int.ofNat k3)))]) (hp 1 [(oC (BM ([Sl.v 1 s1]:LV) (0+k1*1) (BM ([Sl.v 1 s0]:LV) (0+k3*1) q4)))]) (.k [0] [false] [] [0,1,2,3,8,9] ⟨AO h17,trivial⟩) ?_
     refine .rK ?_
     exact⟨(n4,c6,z12,z13,z14,(Aj .i64 (Int.sub (Int.ofNat k3) (1:Int))),(BM ([Sl.v 1 s1]:LV) (0+k1*1) (BM ([Sl.v 1 s0]:LV) (0+k3*1) q4))),hm,(.k [0] [false] [] [0,1,2,3,8,9] ⟨AO h17,trivial⟩)⟩
    ·refine .ifF b0 (by kernel_rfl) h4 ?_
     refine .exit ?_
     replace hm:=Ae hm;obtain⟨h18,hm⟩:=hm
     exact⟨(n4,c6,z12,z13,z14,q4),hm,(.k [0] [false] [] [0,1,2,3,8] ⟨AO h18,trivial⟩)⟩
   ·replace hm:=Ag hm;rcases hm with⟨h19,hm⟩ | ⟨h19,hm⟩
    ·replace hm:=Ab hm;obtain⟨k4,h20,hm⟩:=hm
     obtain rfl:=AR h20
     replace hm:=Ae hm;obtain⟨h21,hm⟩:=hm
     replace hm:=I9 hm;obtain⟨s2,h22,hm⟩:=hm
     replace hm:=Ab hm;obtain⟨k5,h23,hm⟩:=hm
     replace hm:=Ae hm;obtain⟨h24,hm⟩:=hm
     replace hm:=I9 hm;obtain⟨s3,h25,hm⟩:=hm
     replace hm:=Dn hm;obtain⟨x0,h26,hm⟩:=hm
     refine .reg (eN 9 (Fr.puts (fr 53 [(0,sc 0 0 1 n3 c3),(1,zI z8),(2,zI z9),(3,(.func (.func 45) ⟨[]⟩ ⟨[]⟩)),(8,zI z10),(9,(zI (Int.ofNat k4)))]) [(18,(zI (Int.ofNat k4))),(19,zI z8),(20,zB true),(21,zB true),(22,(.func (.func 45) ⟨[]⟩ ⟨[]⟩)),(23,sc 0 0 1 n3 c3),(24,(zI (Int.ofNat k4))),(25,(.pointer (some ⟨0,(0+k4*1),none⟩))),(26,Sl.v 1 s2)]) (hp 1 [oC q3]) (eC 2 (some ((zB (AY z8 (Int.ofNat k4))),(hp 1 [oC q3]))) (show _=some ((zB true),_) from (by rw[show (AY z8 (Int.ofNat k4))=true from h19])) (eC 4 (keep (hp 1 [oC q3]) (bb (an (Nat.blt k4 n3) true) (some (.pointer (some ⟨0,(0+k4*1),none⟩))) none)) (AX h21) (eD (keep (hp 1 [oC q3]) (AL q3 (0+k4*1))) (AZ h22) (by kernel_rfl)))) (eC 2 (some ((zI (Aj .i64 (Int.sub (Int.ofNat k4) (1:Int)))),(hp 1 [oC q3]))) (show _=some ((zI (Int.ofNat k5)),_) from (by rw[AR h23])) (eD (keep (hp 1 [oC q3]) (bb (an (Nat.blt k5 n3) true) (some (.pointer (some ⟨0,(0+k5*1),none⟩))) none)) (AX h24) (eD (keep (hp 1 [oC q3]) (AL q3 (0+k5*1))) (AZ h25) (eD ((oo (pu 45 [Sl.v 1 s2,Sl.v 1 s3]) none fun v=>some (v,(hp 1 [oC q3])))) (AB h26) (eE)))))) ?_
     replace hm:=Ae hm;obtain⟨h27,hm⟩:=hm
     exact⟨(n3,c3,z8,z9,z10,(Int.ofNat k4),(AY x0 (0:Int)),q3),hm,(.k [0] [false] [] [0,1,2,3,8,9,34] ⟨AO h27,trivial⟩)⟩
    ·refine .reg (eC 2 (some ((zB (AY z8 z11)),(hp 1 [oC q3]))) (show _=some ((zB false),_) from (by rw[show (AY z8 z11)=false from h19])) (eE)) ?_
     replace hm:=Ae hm;obtain⟨h28,hm⟩:=hm
     exact⟨(n3,c3,z8,z9,z10,z11,false,q3),hm,(.k [0] [false] [] [0,1,2,3,8,9,34] ⟨AO h28,trivial⟩)⟩
 ·refine Bp (AY z4 z3) h2 ?_
  refine .exit ?_
  refine .ghs (fr 53 []) (hp 1 [oC q1]) (.k [0] [false] [] [] ⟨AO h1,trivial⟩) ?_
  exact Kh (.tuple ⟨[]⟩) [oC q1] (by kernel_rfl) hm (Nat.le_of_ble_eq_true rfl) (CY (O6 _) FK)
theorem uZ {call:A8} (pu:Af) (n:Nat) (hcall:call=Bb tabs isP pu (inl pu)) {args:LV} {os:List AJ} {z:Value} (ha:args.length=4) (hk:os.length=1) (hpl:∀ o∈os,plainO o) (hm:K7 pu n (args++os.map Ef)=some z):args.length≤53∧BN tt call (tabs.length+1) Ke (Fr.made 53 args) (BK tabs os) (FJ tt tabs.length 1 [] z):=by
 subst hcall
 have hq:=Bq ha;clear ha;obtain⟨a0,args,rfl,ha⟩:=hq
 have hq:=Bq ha;clear ha;obtain⟨a1,args,rfl,ha⟩:=hq
 have hq:=Bq ha;clear ha;obtain⟨a2,args,rfl,ha⟩:=hq
 have hq:=Bq ha;clear ha;obtain⟨a3,args,rfl,ha⟩:=hq
 obtain rfl:=len_nil ha
 have hq:=Bq hk;clear hk;obtain⟨b0,os,rfl,hk⟩:=hq
 have hp0:plainO b0:=hpl b0 (by simp)
 obtain rfl:=len_nil hk
 replace hm:K7 pu n [a0,a1,a2,a3,Ef b0]=some z:=hm
 unfold K7 at hm
 replace hm:(oo (Hw 0 0 1 a0) none fun y0=>(oo (Bi .i64 a1) none fun x0=>(oo (Bi .i64 a2) none fun x1=>(oo (L6 45 0 a3) none fun l0=>(ll l0 (oo (Bt (Ef b0)) none fun q0=>(JN pu n (NC.n y0) (NC.c y0) x0 x1 q0)) fun _ _=>none)))))=some z:=hm
 replace hm:=Ab hm;obtain⟨y0,h0,hm⟩:=hm
 obtain rfl:=FD h0
 replace hm:=Ai hm;obtain⟨x0,rfl,hm⟩:=hm
 replace hm:=Ai hm;obtain⟨x1,rfl,hm⟩:=hm
 replace hm:=Ab hm;obtain⟨l0,h1,hm⟩:=hm
 obtain rfl:=Gw h1
 replace hm:=AC hm;obtain⟨rfl,hm⟩:=hm
 replace hm:=Ab hm;obtain⟨q0,h2,hm⟩:=hm
 obtain rfl:=FX hp0 h2
 refine⟨by simp,?_⟩
 exact .same (F':=(fr 53 [(0,(sc 0 0 1 (NC.n y0) (NC.c y0))),(1,zI x0),(2,zI x1),(3,(.func (.func 45) ⟨[]⟩ ⟨[]⟩))])) (H':=(hp 1 [oC q0])) (by kernel_rfl) (by kernel_rfl) (uY pu n (NC.n y0) (NC.c y0) x0 x1 q0 hm)
def Iy (pu:Af) (n n0 c0:Nat) (q0:LV):OV:=
 (bb (Au Ah q0) (some (.tuple ⟨[(.slice (some ⟨0,0,some 1⟩) n0 c0),(.agg ⟨q0⟩)]⟩)) none)
def K8 (pu:Af) (n:Nat) (ih0:Nat→Nat→Int→LV→OV) (n0 c0:Nat) (z0:Int) (q0:LV):OV:=
 (bb (Au Ah q0) (ih0 n0 c0 (Aj .i64 (Int.add z0 (1:Int))) q0) none)
def K9 (pu:Af) (n:Nat) (ih0:Nat→Nat→Int→LV→OV) (n0 c0:Nat) (z0:Int) (q0:LV):OV:=
 (oo (EA z0) none fun k1=>(bb (Nat.ble k1 n0) (bb (nt (Nat.beq (n0 - k1) 0)) (bb (an (Nat.ble ((0+k1*1)+len (AF ([(.slice none 0 0)]:LV) (n0 - k1))) (len q0)) (Au D6 (AF ([(.slice none 0 0)]:LV) (n0 - k1)))) (bb (Au Ah (BM (AF ([(.slice none 0 0)]:LV) (n0 - k1)) (0+k1*1) q0)) (bb (Nat.ble k1 (c0 / 2)) (some (.tuple ⟨[(.slice (some ⟨0,0,some 1⟩) k1 (2*(c0 / 2)+bb (Dp false (Nat.beq (c0 % 2) 1)) 1 0)),(.agg ⟨(BM (AF ([(.slice none 0 0)]:LV) (n0 - k1)) (0+k1*1) q0)⟩)]⟩)) none) none) none) none) none))
def Iz (pu:Af) (n:Nat) (ih0:Nat→Nat→Int→LV→OV) (ih1:Nat→Nat→Int→Nat→Nat→Nat→Int→LV→OV) (n0 c0:Nat) (z0:Int) (n1 n2 c1:Nat) (z1:Int) (q0:LV):OV:=
 (bb (Au Ah q0) (ih1 n0 c0 z0 n1 n2 c1 (Aj .i64 (Int.add z1 (1:Int))) q0) none)
def LJ (pu:Af) (n:Nat) (ih0:Nat→Nat→Int→LV→OV) (ih1:Nat→Nat→Int→Nat→Nat→Nat→Int→LV→OV) (n0 c0:Nat) (z0:Int) (n1 n2 c1:Nat) (z1:Int) (q0:LV):OV:=
 (bb (Au Ah q0) (bb (AY z1 (Int.ofNat n2)) (oo (EA z1) none fun k1=>(bb (an (Nat.blt k1 n2) true) (oo (AL q0 (n1+k1*1)) none fun v0=>(oo (Bj 1 v0) none fun s0=>(oo (EA (Aj .i64 (Int.sub (Int.ofNat k1) (1:Int)))) none fun k2=>(bb (an (Nat.blt k2 n2) true) (oo (AL q0 (n1+k2*1)) none fun v1=>(oo (Bj 1 v1) none fun s1=>(oo (pu 47 [Sl.v 1 s0,Sl.v 1 s1]) none fun v2=>(oo (Bf v2) none fun b0=>(bb (nt b0) (bb (an (Nat.blt k1 n2) true) (oo (AL q0 (n1+k1*1)) none fun v3=>(oo (Bj 1 v3) none fun s2=>(oo (EA z0) none fun k3=>(bb (an (Nat.blt k3 n0) true) (bb (an (Nat.ble ((0+k3*1)+1) (len q0)) true) (bb (Au Ah (BM ([Sl.v 1 s2]:LV) (0+k3*1) q0)) (Iz pu n ih0 ih1 n0 c0 (Aj .i64 (Int.add (Int.ofNat k3) (1:Int))) n1 n2 c1 (Int.ofNat k1) (BM ([Sl.v 1 s2]:LV) (0+k3*1) q0)) none) none) none)))) none) (Iz pu n ih0 ih1 n0 c0 z0 n1 n2 c1 (Int.ofNat k1) q0)))))) none)))) none)) (K9 pu n ih0 n0 c0 z0 q0)) none)
def IB (pu:Af) (n:Nat) (ih0:Nat→Nat→Int→LV→OV) (w:Nat):Nat→Nat→Int→Nat→Nat→Nat→Int→LV→OV:=
 Nat.rec (motive:=fun _=>Nat→Nat→Int→Nat→Nat→Nat→Int→LV→OV) (fun _ _ _ _ _ _ _ _=>none) (fun _ ih1=>LJ pu n ih0 ih1) w
def LK (pu:Af) (n:Nat) (ih0:Nat→Nat→Int→LV→OV) (n0 c0:Nat) (z0:Int) (q0:LV):OV:=
 (bb (Au Ah q0) (bb (AY z0 (Int.ofNat n0)) (oo (EA z0) none fun k1=>(bb (an (Nat.blt k1 n0) true) (oo (AL q0 (0+k1*1)) none fun v0=>(oo (Bj 1 v0) none fun s0=>(oo (EA (Aj .i64 (Int.sub (Int.ofNat k1) (1:Int)))) none fun k2=>(bb (an (Nat.blt k2 n0) true) (oo (AL q0 (0+k2*1)) none fun v1=>(oo (Bj 1 v1) none fun s1=>(oo (pu 47 [Sl.v 1 s0,Sl.v 1 s1]) none fun v2=>(oo (Bf v2) none fun b0=>(bb b0 (bb (Nat.ble k1 n0) (IB pu n ih0 n n0 c0 (Int.ofNat k1) (0+k1*1) (n0 - k1) (2*(c0 / 2 - k1)+bb (Dp false (Nat.beq (c0 % 2) 1)) 1 0) (1:Int) q0) none) (K8 pu n ih0 n0 c0 (Int.ofNat k1) q0)))))) none)))) none)) (Iy pu n n0 c0 q0)) none)
def Dy (pu:Af) (n w:Nat):Nat→Nat→Int→LV→OV:=
 Nat.rec (motive:=fun _=>Nat→Nat→Int→LV→OV) (fun _ _ _ _=>none) (fun _ ih0=>LK pu n ih0) w
def JO (pu:Af) (n n0 c0:Nat) (q0:LV):OV:=
 (bb (Au Ah q0) (bb (AY (Int.ofNat n0) (2:Int)) (some (.tuple ⟨[(.slice (some ⟨0,0,some 1⟩) n0 c0),(.agg ⟨q0⟩)]⟩)) (Dy pu n n n0 c0 (1:Int) q0)) none)
def LM (pu:Af) (n:Nat) (args:LV):OV:=
 (ll args none fun a0 args=>(ll args none fun a1 args=>(ll args none fun o0 args=>(ll args (oo (Hw 0 0 1 a0) none fun y0=>(oo (L6 47 0 a1) none fun l0=>(ll l0 (oo (Bt o0) none fun q0=>(JO pu n (NC.n y0) (NC.c y0) q0)) fun _ _=>none))) fun _ _=>none))))
theorem Xe (pu:Af) (n n0 c0:Nat) (q0:LV) {v:Value} (hm:Iy pu n n0 c0 q0=some v):BN tt (Bb tabs isP pu (inl pu)) 1 VZ (fr 66 [(0,sc 0 0 1 n0 c0)]) (hp 1 [oC q0]) (FJ tt 0 1 [.tmp 4] v):=by
 unfold Iy at hm
 refine .then (.rK ?_)
 replace hm:=Ae hm;obtain⟨h0,hm⟩:=hm
 refine .ghs (fr 66 [(4,sc 0 0 1 n0 c0)]) (hp 1 [oC q0]) (.k [0] [false] [] [4] ⟨AO h0,trivial⟩) ?_
 refine .ghs (fr 66 [(4,sc 0 0 1 n0 c0)]) (hp 1 [oC q0]) (.k [0] [false] [] [4] ⟨AO h0,trivial⟩) ?_
 refine .ret ?_
 exact Gv (sc 0 0 1 n0 c0) [oC q0] (by kernel_rfl) hm (Nat.le_of_ble_eq_true rfl) (CY (O6 _) FK)
theorem vB (pu:Af) (n n0 c0:Nat) (q0:LV) {v:Value} (hm:JO pu n n0 c0 q0=some v):BN tt (Bb tabs isP pu (inl pu)) 1 Kg (fr 66 [(0,sc 0 0 1 n0 c0),(1,(.func (.func 47) ⟨[]⟩ ⟨[]⟩))]) (hp 1 [oC q0]) (FJ tt 0 1 [.tmp 4] v):=by
 unfold JO at hm
 refine .then (.rK ?_)
 replace hm:=Ae hm;obtain⟨h0,hm⟩:=hm
 refine .ghs (fr 66 [(0,sc 0 0 1 n0 c0),(1,(.func (.func 47) ⟨[]⟩ ⟨[]⟩))]) (hp 1 [oC q0]) (.k [0] [false] [] [0,1] ⟨AO h0,trivial⟩) ?_
 refine .then (.then (.rK (.ghs (fr 66 [(0,sc 0 0 1 n0 c0),(1,(.func (.func 47) ⟨[]⟩ ⟨[]⟩)),(10,(zB (AY (Int.ofNat n0) (2:Int))))]) (hp 1 [oC q0]) (.k [0] [false] [] [0,1,10] ⟨AO h0,trivial⟩) ?_)))
 replace hm:=Ag hm;rcases hm with⟨h1,hm⟩ | ⟨h1,hm⟩
 ·refine A7 (AY (Int.ofNat n0) (2:Int)) h1 ?_
  refine .then (.rK (.ghs (fr 66 [(4,sc 0 0 1 n0 c0)]) (hp 1 [oC q0]) (.k [0] [false] [] [4] ⟨AO h0,trivial⟩) ?_))
  refine .ghs (fr 66 [(4,sc 0 0 1 n0 c0)]) (hp 1 [oC q0]) (.k [0] [false] [] [4] ⟨AO h0,trivial⟩) ?_
  refine .ret ?_
  exact Gv (sc 0 0 1 n0 c0) [oC q0] (by kernel_rfl) hm (Nat.le_of_ble_eq_true rfl) (CY (O6 _) FK)
 ·refine Bp (AY (Int.ofNat n0) (2:Int)) h1 ?_
  refine .skip (.ghs (fr 66 [(0,sc 0 0 1 n0 c0),(1,(.func (.func 47) ⟨[]⟩ ⟨[]⟩))]) (hp 1 [oC q0]) (.k [0] [false] [] [0,1] ⟨AO h0,trivial⟩) ?_)
  refine .join (v:=v) (fun y:Nat×Nat×LV=>((fr 66 [(0,(sc 0 0 1 y.1 y.2.1))]),(hp 1 [(oC y.2.2)]))) (fun y=>Iy pu n y.1 y.2.1 y.2.2) ?_ ?_
  ·rintro⟨n1,c1,q1⟩ hm
   exact Xe pu n n1 c1 q1 hm
  ·refine .then (.rK (.ghs (fr 66 [(0,sc 0 0 1 n0 c0),(1,(.func (.func 47) ⟨[]⟩ ⟨[]⟩)),(5,(zI (1:Int)))]) (hp 1 [oC q0]) (.k [0] [false] [] [0,1,5] ⟨AO h0,trivial⟩) ?_))
   refine .block (.loopM (v:=v) (fun y:Nat×Nat×Int×LV=>((fr 66 [(0,(sc 0 0 1 y.1 y.2.1)),(1,(.func (.func 47) ⟨[]⟩ ⟨[]⟩)),(5,(zI y.2.2.1))]),(hp 1 [(oC y.2.2.2)]))) (fun w y=>Dy pu n w y.1 y.2.1 y.2.2.1 y.2.2.2) n ⟨(n0,c0,(1:Int),q0),hm,(.k [0] [false] [] [0,1,5] ⟨AO h0,trivial⟩)⟩ (fun _=>rfl) ?_)
   rintro w0 ⟨n2,c2,z0,q2⟩ hm
   replace hm:LK pu n (Dy pu n w0) n2 c2 z0 q2=some v:=hm
   unfold LK at hm
   refine .then (.then (.rK ?_))
   replace hm:=Ae hm;obtain⟨h2,hm⟩:=hm
   refine .ghs (fr 66 [(0,sc 0 0 1 n2 c2),(1,(.func (.func 47) ⟨[]⟩ ⟨[]⟩)),(5,zI z0),(15,(zB (AY z0 (Int.ofNat n2))))]) (hp 1 [oC q2]) (.k [0] [false] [] [0,1,5,15] ⟨AO h2,trivial⟩) ?_
   replace hm:=Ag hm;rcases hm with⟨h3,hm⟩ | ⟨h3,hm⟩
   ·refine A7 (AY z0 (Int.ofNat n2)) h3 ?_
    refine .skip (.ghs (fr 66 [(0,sc 0 0 1 n2 c2),(1,(.func (.func 47) ⟨[]⟩ ⟨[]⟩)),(5,zI z0)]) (hp 1 [oC q2]) (.k [0] [false] [] [0,1,5] ⟨AO h2,trivial⟩) ?_)
    refine .join (v:=v) (fun y:Nat×Nat×Int×LV=>((fr 66 [(0,(sc 0 0 1 y.1 y.2.1)),(1,(.func (.func 47) ⟨[]⟩ ⟨[]⟩)),(5,(zI y.2.2.1))]),(hp 1 [(oC y.2.2.2)]))) (fun y=>K8 pu n (Dy pu n w0) y.1 y.2.1 y.2.2.1 y.2.2.2) ?_ ?_
    ·rintro⟨n3,c3,z1,q3⟩ hm
     unfold K8 at hm
     refine .rK ?_
     replace hm:=Ae hm;obtain⟨h4,hm⟩:=hm
     exact⟨(n3,c3,(Aj .i64 (Int.add z1 (1:Int))),q3),hm,(.k [0] [false] [] [0,1,5] ⟨AO h4,trivial⟩)⟩
    ·refine .block (.then ?_)
     replace hm:=Ab hm;obtain⟨k1,h5,hm⟩:=hm
     obtain rfl:=AR h5
     replace hm:=Ae hm;obtain⟨h6,hm⟩:=hm
     replace hm:=I9 hm;obtain⟨s0,h7,hm⟩:=hm
     replace hm:=Ab hm;obtain⟨k2,h8,hm⟩:=hm
     replace hm:=Ae hm;obtain⟨h9,hm⟩:=hm
     replace hm:=I9 hm;obtain⟨s1,h10,hm⟩:=hm
     replace hm:=Jf hm;obtain⟨b0,h11,hm⟩:=hm
     refine .reg (eN 8 (Fr.puts (fr 66 [(0,sc 0 0 1 n2 c2),(1,(.func (.func 47) ⟨[]⟩ ⟨[]⟩)),(5,(zI (Int.ofNat k1)))]) [(18,(.func (.func 47) ⟨[]⟩ ⟨[]⟩)),(19,sc 0 0 1 n2 c2),(20,(zI (Int.ofNat k1))),(21,(.pointer (some ⟨0,(0+k1*1),none⟩))),(22,Sl.v 1 s0),(23,sc 0 0 1 n2 c2),(24,(zI (Int.ofNat k1))),(25,(zI (Int.ofNat k2)))]) (hp 1 [oC q2]) (eC 3 (keep (hp 1 [oC q2]) (bb (an (Nat.blt k1 n2) true) (some (.pointer (some ⟨0,(0+k1*1),none⟩))) none)) (AX h6) (eD (keep (hp 1 [oC q2]) (AL q2 (0+k1*1))) (AZ h7) (eC 2 (some ((zI (Aj .i64 (Int.sub (Int.ofNat k1) (1:Int)))),(hp 1 [oC q2]))) (show _=some ((zI (Int.ofNat k2)),_) from (by rw[AR h8])) (by kernel_rfl)))) (eD (keep (hp 1 [oC q2]) (bb (an (Nat.blt k2 n2) true) (some (.pointer (some ⟨0,(0+k2*1),none⟩))) none)) (AX h9) (eD (keep (hp 1 [oC q2]) (AL q2 (0+k2*1))) (AZ h10) (eD ((oo (pu 47 [Sl.v 1 s0,Sl.v 1 s1]) none fun v=>some (v,(hp 1 [oC q2])))) (AB h11) (eE))))) ?_
     refine .ghs (fr 66 [(0,sc 0 0 1 n2 c2),(1,(.func (.func 47) ⟨[]⟩ ⟨[]⟩)),(5,(zI (Int.ofNat k1))),(28,zB b0)]) (hp 1 [oC q2]) (.k [0] [false] [] [0,1,5,28] ⟨AO h2,trivial⟩) ?_
     replace hm:=Ag hm;rcases hm with⟨h12,hm⟩ | ⟨h12,hm⟩
     ·refine .ifT b0 (by kernel_rfl) h12 ?_
      refine .then ?_
      replace hm:=Ae hm;obtain⟨h13,hm⟩:=hm
      refine .reg (eC 2 (keep (hp 1 [oC q2]) (oo (bb (Nat.ble k1 n2) (some k1) none) none fun l=>some (sliceAt 0 (0+l*1) 1 (n2 - l) (c2 / 2 - l) (Dp false (Nat.beq (c2 % 2) 1))))) (show _=some ((.slice (some ⟨0,(0+k1*1),some 1⟩) (n2 - k1) (2*(c2 / 2 - k1)+bb (Dp false (Nat.beq (c2 % 2) 1)) 1 0)),(hp 1 [oC q2])) from (RJ h13).trans (by kernel_rfl)) (eE)) ?_
      refine .ghs (fr 66 [(0,sc 0 0 1 n2 c2),(1,(.func (.func 47) ⟨[]⟩ ⟨[]⟩)),(5,(zI (Int.ofNat k1))),(6,(.slice (some ⟨0,(0+k1*1),some 1⟩) (n2 - k1) (2*(c2 / 2 - k1)+bb (Dp false (Nat.beq (c2 % 2) 1)) 1 0)))]) (hp 1 [oC q2]) (.k [0] [false] [] [0,1,5,6] ⟨AO h2,trivial⟩) ?_
      refine .join (v:=v) (fun y:Nat×Nat×Int×LV=>((fr 66 [(0,(sc 0 0 1 y.1 y.2.1)),(5,(zI y.2.2.1))]),(hp 1 [(oC y.2.2.2)]))) (fun y=>K9 pu n (Dy pu n w0) y.1 y.2.1 y.2.2.1 y.2.2.2) ?_ ?_
      ·rintro⟨n4,c6,z2,q4⟩ hm
       unfold K9 at hm
       refine .then ?_
       replace hm:=Ab hm;obtain⟨k3,h14,hm⟩:=hm
       obtain rfl:=AR h14
       replace hm:=Ae hm;obtain⟨h15,hm⟩:=hm
       replace hm:=Ae hm;obtain⟨h16,hm⟩:=hm
       replace hm:=Ae hm;obtain⟨h17,hm⟩:=hm
       refine .reg (eC 2 (keep (hp 1 [oC q4]) (oo (bb (Nat.ble k3 n4) (some k3) none) none fun l=>some (sliceAt 0 (0+l*1) 1 (n4 - l) (c6 / 2 - l) (Dp false (Nat.beq (c6 % 2) 1))))) (show _=some ((.slice (some ⟨0,(0+k3*1),some 1⟩) (n4 - k3) (2*(c6 / 2 - k3)+bb (Dp false (Nat.beq (c6 % 2) 1)) 1 0)),(hp 1 [oC q4])) from (RJ h15).trans (by kernel_rfl)) (eD (done (bb (nt (Nat.beq (n4 - k3) 0)) (bb (an (Nat.ble ((0+k3*1)+len (AF ([(.slice none 0 0)]:LV) (n4 - k3))) (len q4)) (Au D6 (AF ([(.slice none 0 0)]:LV) (n4 - k3)))) (some (hp 1 [(oC (BM (AF ([(.slice none 0 0)]:LV) (n4 - k3)) (0+k3*1) q4))])) none) none) undef) (bH h16 h17) (eE))) ?_
       replace hm:=Ae hm;obtain⟨h18,hm⟩:=hm
       refine .ghs (fr 66 [(0,sc 0 0 1 n4 c6),(5,(zI (Int.ofNat k3)))]) (hp 1 [(oC (BM (AF ([(.slice none 0 0)]:LV) (n4 - k3)) (0+k3*1) q4))]) (.k [0] [false] [] [0,5] ⟨AO h18,trivial⟩) ?_
       refine .then ?_
       replace hm:=Ae hm;obtain⟨h19,hm⟩:=hm
       refine .reg (eC 2 (keep (hp 1 [(oC (BM (AF ([(.slice none 0 0)]:LV) (n4 - k3)) (0+k3*1) q4))]) (oo (bb (Nat.ble k3 (c6 / 2)) (some k3) none) none fun h=>some (sliceAt 0 (0+0*1) 1 (h - 0) (c6 / 2 - 0) (Dp false (Nat.beq (c6 % 2) 1))))) (show _=some ((sc 0 0 1 k3 (2*(c6 / 2)+bb (Dp false (Nat.beq (c6 % 2) 1)) 1 0)),(hp 1 [(oC (BM (AF ([(.slice none 0 0)]:LV) (n4 - k3)) (0+k3*1) q4))])) from (RJ h19).trans (by kernel_rfl)) (eE)) ?_
       refine .ghs (fr 66 [(4,(sc 0 0 1 k3 (2*(c6 / 2)+bb (Dp false (Nat.beq (c6 % 2) 1)) 1 0)))]) (hp 1 [(oC (BM (AF ([(.slice none 0 0)]:LV) (n4 - k3)) (0+k3*1) q4))]) (.k [0] [false] [] [4] ⟨AO h18,trivial⟩) ?_
       refine .ghs (fr 66 [(4,(sc 0 0 1 k3 (2*(c6 / 2)+bb (Dp false (Nat.beq (c6 % 2) 1)) 1 0)))]) (hp 1 [(oC (BM (AF ([(.slice none 0 0)]:LV) (n4 - k3)) (0+k3*1) q4))]) (.k [0] [false] [] [4] ⟨AO h18,trivial⟩) ?_
       refine .ret ?_
       exact Gv (sc 0 0 1 k3 (2*(c6 / 2)+bb (Dp false (Nat.beq (c6 % 2) 1)) 1 0)) [(oC (BM (AF ([(.slice none 0 0)]:LV) (n4 - k3)) (0+k3*1) q4))] (by kernel_rfl) hm (Nat.le_of_ble_eq_true rfl) (CY (O6 _) FK)
      ·refine .then (.rK (.ghs (fr 66 [(0,sc 0 0 1 n2 c2),(1,(.func (.func 47) ⟨[]⟩ ⟨[]⟩)),(5,(zI (Int.ofNat k1))),(6,(.slice (some ⟨0,(0+k1*1),some 1⟩) (n2 - k1) (2*(c2 / 2 - k1)+bb (Dp false (Nat.beq (c2 % 2) 1)) 1 0))),(7,(zI (1:Int)))]) (hp 1 [oC q2]) (.k [0] [false] [] [0,1,5,6,7] ⟨AO h2,trivial⟩) ?_))
       refine .block (.loopM (v:=v) (fun y:Nat×Nat×Int×Nat×Nat×Nat×Int×LV=>((fr 66 [(0,(sc 0 0 1 y.1 y.2.1)),(1,(.func (.func 47) ⟨[]⟩ ⟨[]⟩)),(5,(zI y.2.2.1)),(6,(.slice (some ⟨0,y.2.2.2.1,some 1⟩) y.2.2.2.2.1 y.2.2.2.2.2.1)),(7,(zI y.2.2.2.2.2.2.1))]),(hp 1 [(oC y.2.2.2.2.2.2.2)]))) (fun w y=>IB pu n (Dy pu n w0) w y.1 y.2.1 y.2.2.1 y.2.2.2.1 y.2.2.2.2.1 y.2.2.2.2.2.1 y.2.2.2.2.2.2.1 y.2.2.2.2.2.2.2) n ⟨(n2,c2,(Int.ofNat k1),(0+k1*1),(n2 - k1),(2*(c2 / 2 - k1)+bb (Dp false (Nat.beq (c2 % 2) 1)) 1 0),(1:Int),q2),hm,(.k [0] [false] [] [0,1,5,6,7] ⟨AO h2,trivial⟩)⟩ (fun _=>rfl) ?_)
       rintro w1 ⟨n5,c7,z3,n6,n7,c8,z4,q5⟩ hm
       replace hm:LJ pu n (Dy pu n w0) (IB pu n (Dy pu n w0) w1) n5 c7 z3 n6 n7 c8 z4 q5=some v:=hm
       unfold LJ at hm
       refine .then (.then (.rK ?_))
       replace hm:=Ae hm;obtain⟨h20,hm⟩:=hm
       refine .ghs (fr 66 [(0,sc 0 0 1 n5 c7),(1,(.func (.func 47) ⟨[]⟩ ⟨[]⟩)),(5,zI z3),(6,(.slice (some ⟨0,n6,some 1⟩) n7 c8)),(7,zI z4),(35,(zB (AY z4 (Int.ofNat n7))))]) (hp 1 [oC q5]) (.k [0] [false] [] [0,1,5,6,7,35] ⟨AO h20,trivial⟩) ?_
       replace hm:=Ag hm;rcases hm with⟨h21,hm⟩ | ⟨h21,hm⟩
       ·refine A7 (AY z4 (Int.ofNat n7)) h21 ?_
        refine .skip (.ghs (fr 66 [(0,sc 0 0 1 n5 c7),(1,(.func (.func 47) ⟨[]⟩ ⟨[]⟩)),(5,zI z3),(6,(.slice (some ⟨0,n6,some 1⟩) n7 c8)),(7,zI z4)]) (hp 1 [oC q5]) (.k [0] [false] [] [0,1,5,6,7] ⟨AO h20,trivial⟩) ?_)
        refine .join (v:=v) (fun y:Nat×Nat×Int×Nat×Nat×Nat×Int×LV=>((fr 66 [(0,(sc 0 0 1 y.1 y.2.1)),(1,(.func (.func 47) ⟨[]⟩ ⟨[]⟩)),(5,(zI y.2.2.1)),(6,(.slice (some ⟨0,y.2.2.2.1,some 1⟩) y.2.2.2.2.1 y.2.2.2.2.2.1)),(7,(zI y.2.2.2.2.2.2.1))]),(hp 1 [(oC y.2.2.2.2.2.2.2)]))) (fun y=>Iz pu n (Dy pu n w0) (IB pu n (Dy pu n w0) w1) y.1 y.2.1 y.2.2.1 y.2.2.2.1 y.2.2.2.2.1 y.2.2.2.2.2.1 y.2.2.2.2.2.2.1 y.2.2.2.2.2.2.2) ?_ ?_
        ·rintro⟨n8,c9,z5,n9,n10,c21,z6,q6⟩ hm
         unfold Iz at hm
         refine .rK ?_
         replace hm:=Ae hm;obtain⟨h22,hm⟩:=hm
         exact⟨(n8,c9,z5,n9,n10,c21,(Aj .i64 (Int.add z6 (1:Int))),q6),hm,(.k [0] [false] [] [0,1,5,6,7] ⟨AO h22,trivial⟩)⟩
        ·refine .block (.then ?_)
         replace hm:=Ab hm;obtain⟨k4,h23,hm⟩:=hm
         obtain rfl:=AR h23
         replace hm:=Ae hm;obtain⟨h24,hm⟩:=hm
         replace hm:=I9 hm;obtain⟨s2,h25,hm⟩:=hm
         replace hm:=Ab hm;obtain⟨k5,h26,hm⟩:=hm
         replace hm:=Ae hm;obtain⟨h27,hm⟩:=hm
         replace hm:=I9 hm;obtain⟨s3,h28,hm⟩:=hm
         replace hm:=Jf hm;obtain⟨b1,h29,hm⟩:=hm
         refine .reg (eN 8 (Fr.puts (fr 66 [(0,sc 0 0 1 n5 c7),(1,(.func (.func 47) ⟨[]⟩ ⟨[]⟩)),(5,zI z3),(6,(.slice (some ⟨0,n6,some 1⟩) n7 c8)),(7,(zI (Int.ofNat k4)))]) [(38,(.func (.func 47) ⟨[]⟩ ⟨[]⟩)),(39,(.slice (some ⟨0,n6,some 1⟩) n7 c8)),(40,(zI (Int.ofNat k4))),(41,(.pointer (some ⟨0,(n6+k4*1),none⟩))),(42,Sl.v 1 s2),(43,(.slice (some ⟨0,n6,some 1⟩) n7 c8)),(44,(zI (Int.ofNat k4))),(45,(zI (Int.ofNat k5)))]) (hp 1 [oC q5]) (eC 3 (keep (hp 1 [oC q5]) (bb (an (Nat.blt k4 n7) true) (some (.pointer (some ⟨0,(n6+k4*1),none⟩))) none)) (AX h24) (eD (keep (hp 1 [oC q5]) (AL q5 (n6+k4*1))) (AZ h25) (eC 2 (some ((zI (Aj .i64 (Int.sub (Int.ofNat k4) (1:Int)))),(hp 1 [oC q5]))) (show _=some ((zI (Int.ofNat k5)),_) from (by rw[AR h26])) (by kernel_rfl)))) (eD (keep (hp 1 [oC q5]) (bb (an (Nat.blt k5 n7) true) (some (.pointer (some ⟨0,(n6+k5*1),none⟩))) none)) (AX h27) (eD (keep (hp 1 [oC q5]) (AL q5 (n6+k5*1))) (AZ h28) (eD ((oo (pu 47 [Sl.v 1 s2,Sl.v 1 s3]) none fun v=>some (v,(hp 1 [oC q5])))) (AB h29) (eE))))) ?_
         refine .ghs (fr 66 [(0,sc 0 0 1 n5 c7),(1,(.func (.func 47) ⟨[]⟩ ⟨[]⟩)),(5,zI z3),(6,(.slice (some ⟨0,n6,some 1⟩) n7 c8)),(7,(zI (Int.ofNat k4))),(49,(zB (nt b1)))]) (hp 1 [oC q5]) (.k [0] [false] [] [0,1,5,6,7,49] ⟨AO h20,trivial⟩) ?_
         replace hm:=Ag hm;rcases hm with⟨h30,hm⟩ | ⟨h30,hm⟩
         ·refine A7 (nt b1) h30 ?_
          refine .then ?_
          replace hm:=Ae hm;obtain⟨h31,hm⟩:=hm
          replace hm:=I9 hm;obtain⟨s4,h32,hm⟩:=hm
          replace hm:=Ab hm;obtain⟨k6,h33,hm⟩:=hm
          obtain rfl:=AR h33
          replace hm:=Ae hm;obtain⟨h34,hm⟩:=hm
          replace hm:=Ae hm;obtain⟨h35,hm⟩:=hm
          refine .reg (eC 4 (keep (hp 1 [oC q5]) (bb (an (Nat.blt k4 n7) true) (some (.pointer (some ⟨0,(n6+k4*1),none⟩))) none)) (AX h31) (eD (keep (hp 1 [oC q5]) (AL q5 (n6+k4*1))) (AZ h32) (eD (keep (hp 1 [oC q5]) (bb (an (Nat.blt k6 n5) true) (some (.pointer (some ⟨0,(0+k6*1),none⟩))) none)) (AX h34) (eD (done (bb (an (Nat.ble ((0+k6*1)+1) (len q5)) true) (some (hp 1 [(oC (BM ([Sl.v 1 s4]:LV) (0+k6*1) q5))])) none) undef) (Js h35) (eE))))) ?_
          replace hm:=Ae hm;obtain⟨h36,hm⟩:=hm
          refine .ghs (fr 66 [(0,sc 0 0 1 n5 c7),(1,(.func (.func 47) ⟨[]⟩ ⟨[]⟩)),(5,(zI (Int.ofNat k6))),(6,(.slice (some ⟨0,n6,some 1⟩) n7 c8)),(7,(zI (Int.ofNat k4)))]) (hp 1 [(oC (BM ([Sl.v 1 s4]:LV) (0+k6*1) q5))]) (.k [0] [false] [] [0,1,5,6,7] ⟨AO h36,trivial⟩) ?_
          refine .rK ?_
          exact⟨(n5,c7,(Aj .i64 (Int.add (Int.ofNat k6) (1:Int))),n6,n7,c8,(Int.ofNat k4),(BM ([Sl.v 1 s4]:LV) (0+k6*1) q5)),hm,(.k [0] [false] [] [0,1,5,6,7] ⟨AO h36,trivial⟩)⟩
         ·refine Bp (nt b1) h30 ?_
          refine .skip ?_
          exact⟨(n5,c7,z3,n6,n7,c8,(Int.ofNat k4),q5),hm,(.k [0] [false] [] [0,1,5,6,7] ⟨AO h20,trivial⟩)⟩
       ·refine Bp (AY z4 (Int.ofNat n7)) h21 ?_
        refine .exit ?_
        exact⟨(n5,c7,z3,q5),hm,(.k [0] [false] [] [0,5] ⟨AO h20,trivial⟩)⟩
     ·refine .ifF b0 (by kernel_rfl) h12 ?_
      refine .skip ?_
      exact⟨(n2,c2,(Int.ofNat k1),q2),hm,(.k [0] [false] [] [0,1,5] ⟨AO h2,trivial⟩)⟩
   ·refine Bp (AY z0 (Int.ofNat n2)) h3 ?_
    refine .exit ?_
    exact⟨(n2,c2,q2),hm,(.k [0] [false] [] [0] ⟨AO h2,trivial⟩)⟩
theorem vC {call:A8} (pu:Af) (n:Nat) (hcall:call=Bb tabs isP pu (inl pu)) {args:LV} {os:List AJ} {z:Value} (ha:args.length=2) (hk:os.length=1) (hpl:∀ o∈os,plainO o) (hm:LM pu n (args++os.map Ef)=some z):args.length≤66∧BN tt call (tabs.length+1) Kg (Fr.made 66 args) (BK tabs os) (FJ tt tabs.length 1 [.tmp 4] z):=by
 subst hcall
 have hq:=Bq ha;clear ha;obtain⟨a0,args,rfl,ha⟩:=hq
 have hq:=Bq ha;clear ha;obtain⟨a1,args,rfl,ha⟩:=hq
 obtain rfl:=len_nil ha
 have hq:=Bq hk;clear hk;obtain⟨b0,os,rfl,hk⟩:=hq
 have hp0:plainO b0:=hpl b0 (by simp)
 obtain rfl:=len_nil hk
 replace hm:LM pu n [a0,a1,Ef b0]=some z:=hm
 unfold LM at hm
 replace hm:(oo (Hw 0 0 1 a0) none fun y0=>(oo (L6 47 0 a1) none fun l0=>(ll l0 (oo (Bt (Ef b0)) none fun q0=>(JO pu n (NC.n y0) (NC.c y0) q0)) fun _ _=>none)))=some z:=hm
 replace hm:=Ab hm;obtain⟨y0,h0,hm⟩:=hm
 obtain rfl:=FD h0
 replace hm:=Ab hm;obtain⟨l0,h1,hm⟩:=hm
 obtain rfl:=Gw h1
 replace hm:=AC hm;obtain⟨rfl,hm⟩:=hm
 replace hm:=Ab hm;obtain⟨q0,h2,hm⟩:=hm
 obtain rfl:=FX hp0 h2
 refine⟨by simp,?_⟩
 exact .same (F':=(fr 66 [(0,(sc 0 0 1 (NC.n y0) (NC.c y0))),(1,(.func (.func 47) ⟨[]⟩ ⟨[]⟩))])) (H':=(hp 1 [oC q0])) (by kernel_rfl) (by kernel_rfl) (vB pu n (NC.n y0) (NC.c y0) q0 hm)
end
end Go.TpMM
set_option maxRecDepth 100000
set_option maxHeartbeats 20000000
set_option linter.unusedVariables false
namespace Go.TpMM
open Go.Sp Go.TpM
noncomputable section
def LQ (pu:Af) (n:Nat) (ih0:Int→Nat→Nat→Nat→Nat→List EO→Nat→LV→LV→Nat→List Nat→Nat→OV) (z0:Int) (n0 c0 n1 c1:Nat) (e0:List EO) (k1:Nat) (q0:LV) (q1:LV) (k2:Nat) (l0:List Nat) (k3:Nat):OV:=
 (bb (Au (fun e=>Nat.blt (EO.born e) k2) e0) (bb (Nat.ble k2 k3) (V8 e0 l0 (bb (Au F4 e0) (bb (Au Ah q0) (bb (Au Ah q1) (some (.tuple ⟨[(.tuple ⟨[]⟩),(.agg ⟨[.int .i64 z0,(.slice (some ⟨2,0,some 4⟩) n0 c0),(.slice (some ⟨3,0,some 1⟩) n1 c1)]⟩),(Ef (.map e0 k1)),(.agg ⟨q0⟩),(.agg ⟨q1⟩)]⟩)) none) none) none) (fun e1:EO=>(bb (Au F4 e0) (bb (Au Ah q0) (bb (Au Ah q1) (oo (Ad1 e0 k1 (Br l0 [(EO.born e1)]) k1) none fun v0=>(oo (CQ v0) none fun l1=>(ll l1 none fun v1 l1=>(ll l1 none fun v2 l1=>(ll l1 (oo (Bi .i64 v1) none fun x0=>(oo (Bf v2) none fun b0=>(bb b0 (oo (EA x0) none fun k4=>(bb (an (Nat.blt k4 n1) true) (oo (AL q1 (0+k4*1)) none fun v3=>(oo (Bi .i64 v3) none fun x1=>(bb (an (Nat.blt k4 n1) true) (bb (an (Nat.ble ((0+k4*1)+1) (len q1)) true) (bb (Au Ah (BM ([(.int .i64 (Aj .i64 (Int.add x1 (1:Int))))]:LV) (0+k4*1) q1)) (ih0 z0 n0 c0 n1 c1 e0 k1 q0 (BM ([(.int .i64 (Aj .i64 (Int.add x1 (1:Int))))]:LV) (0+k4*1) q1) k2 (Br l0 [(EO.born e1)]) k1) none) none) none))) none)) (oo (EA x0) none fun k5=>(bb (an (Nat.blt k5 n1) true) (oo (AL q1 (0+k5*1)) none fun v4=>(oo (Bi .i64 v4) none fun x2=>(bb (an (Nat.blt k5 n1) true) (bb (an (Nat.ble ((0+k5*1)+1) (len q1)) true) (bb (Au Ah (BM ([(.int .i64 (Aj .i64 (Int.sub x2 (1:Int))))]:LV) (0+k5*1) q1)) (ih0 z0 n0 c0 n1 c1 e0 k1 q0 (BM ([(.int .i64 (Aj .i64 (Int.sub x2 (1:Int))))]:LV) (0+k5*1) q1) k2 (Br l0 [(EO.born e1)]) k1) none) none) none))) none))))) fun _ _=>none))))) none) none) none))) none) none)
def LU (pu:Af) (n w:Nat):Int→Nat→Nat→Nat→Nat→List EO→Nat→LV→LV→Nat→List Nat→Nat→OV:=
 Nat.rec (motive:=fun _=>Int→Nat→Nat→Nat→Nat→List EO→Nat→LV→LV→Nat→List Nat→Nat→OV) (fun _ _ _ _ _ _ _ _ _ _ _ _=>none) (fun _ ih0=>LQ pu n ih0) w
def JP (pu:Af) (n:Nat) (z0:Int) (n0 c0 n1 c1:Nat) (e0:List EO) (k1:Nat) (q0:LV) (q1:LV):OV:=
 (bb (Au F4 e0) (bb (Au Ah q0) (bb (Au Ah q1) (LU pu n n z0 n0 c0 n1 c1 e0 k1 q0 q1 k1 ([]:List Nat) k1) none) none) none)
def LW (pu:Af) (n:Nat) (args:LV):OV:=
 (ll args none fun a0 args=>(ll args none fun a1 args=>(ll args none fun o0 args=>(ll args none fun o1 args=>(ll args none fun o2 args=>(ll args none fun o3 args=>(ll args (bb (Yj a0 0 0) (bb (Yk a1 1) (oo (Bt o0) none fun l0=>(ll l0 none fun v0 l0=>(ll l0 none fun v1 l0=>(ll l0 none fun v2 l0=>(ll l0 (oo (Bi .i64 v0) none fun x0=>(oo (Hw 2 0 4 v1) none fun y0=>(oo (Hw 3 0 1 v2) none fun y1=>(oo (Fj o1) none fun y2=>(oo (Bt o2) none fun q0=>(oo (Bt o3) none fun q1=>(JP pu n x0 (NC.n y0) (NC.c y0) (NC.n y1) (NC.c y1) (Akd.es y2) (Akd.clock y2) q0 q1))))))) fun _ _=>none))))) none) none) fun _ _=>none)))))))
theorem vD (pu:Af) (n:Nat) (z0:Int) (n0 c0 n1 c1:Nat) (e0:List EO) (k1:Nat) (q0:LV) (q1:LV) {v:Value} (hm:JP pu n z0 n0 c0 n1 c1 e0 k1 q0 q1=some v):BN tt (Bb tabs isP pu (inl pu)) 4 Hy (fr 32 [(0,(pt 0 0)),(1,(.map (some 1)))]) (hp 4 [(oC [zI z0,sc 2 0 4 n0 c0,sc 3 0 1 n1 c1]),(.map e0 k1),oC q0,oC q1]) (FJ tt 0 4 [] v):=by
 unfold JP at hm
 refine .then (.rK ?_)
 replace hm:=Ae hm;obtain⟨h0,hm⟩:=hm
 replace hm:=Ae hm;obtain⟨h1,hm⟩:=hm
 replace hm:=Ae hm;obtain⟨h2,hm⟩:=hm
 refine .ghs (fr 32 [(0,(pt 0 0)),(7,(pt 4 0))]) (hp 5 [(oC [zI z0,sc 2 0 4 n0 c0,sc 3 0 1 n1 c1]),(.map e0 k1),oC q0,oC q1,(.iter (some 1) k1 ([]:List Nat) k1)]) (.k [1,2,3] [true,false,false,false] [.tmp 7 false] [0,7] ⟨AO h0,AO h1,AO h2,trivial⟩) ?_
 refine .block (.loopM (v:=v) (fun y:Int×Nat×Nat×Nat×Nat×List EO×Nat×LV×LV×Nat×List Nat×Nat=>((fr 32 [(0,(pt 0 0)),(7,(pt 4 0))]),(hp 5 [(oC [(zI y.1),(sc 2 0 4 y.2.1 y.2.2.1),(sc 3 0 1 y.2.2.2.1 y.2.2.2.2.1)]),(.map y.2.2.2.2.2.1 y.2.2.2.2.2.2.1),(oC y.2.2.2.2.2.2.2.1),(oC y.2.2.2.2.2.2.2.2.1),(.iter (some 1) y.2.2.2.2.2.2.2.2.2.1 y.2.2.2.2.2.2.2.2.2.2.1 y.2.2.2.2.2.2.2.2.2.2.2)]))) (fun w y=>LU pu n w y.1 y.2.1 y.2.2.1 y.2.2.2.1 y.2.2.2.2.1 y.2.2.2.2.2.1 y.2.2.2.2.2.2.1 y.2.2.2.2.2.2.2.1 y.2.2.2.2.2.2.2.2.1 y.2.2.2.2.2.2.2.2.2.1 y.2.2.2.2.2.2.2.2.2.2.1 y.2.2.2.2.2.2.2.2.2.2.2) n ⟨(z0,n0,c0,n1,c1,e0,k1,q0,q1,k1,([]:List Nat),k1),hm,(.k [1,2,3] [true,false,false,false] [.tmp 7 false] [0,7] ⟨AO h0,AO h1,AO h2,trivial⟩)⟩ (fun _=>rfl) ?_)
 rintro w0 ⟨z1,n2,c2,n3,c3,e1,k2,q2,q3,k3,l0,k4⟩ hm
 replace hm:LQ pu n (LU pu n w0) z1 n2 c2 n3 c3 e1 k2 q2 q3 k3 l0 k4=some v:=hm
 unfold LQ at hm
 refine .then ?_
 replace hm:=Ae hm;obtain⟨h3,hm⟩:=hm
 replace hm:=Ae hm;obtain⟨h4,hm⟩:=hm
 refine .nextK (id:=4) (mid:=1) (since:=k3) (st:=k4) (clock:=k2) (seen:=l0) (es:=e1) (d:=some 8) (x:=(tp 7)) (ty:=0) (os:=[EM 9 8 0 4]) (by kernel_rfl) (by kernel_rfl) (by kernel_rfl) (by kernel_rfl) h3 h4 (by kernel_rfl) (fun _=>by kernel_rfl) (fun h5=>?_) (fun e2 h6=>?_)
 ·replace hm:=uM hm h5
  replace hm:=Ae hm;obtain⟨h7,hm⟩:=hm
  replace hm:=Ae hm;obtain⟨h8,hm⟩:=hm
  replace hm:=Ae hm;obtain⟨h9,hm⟩:=hm
  refine .ghs (fr 32 [(0,(pt 0 0)),(7,(pt 4 0)),(9,zB false)]) (hp 5 [(oC [zI z1,sc 2 0 4 n2 c2,sc 3 0 1 n3 c3]),(.map e1 k2),oC q2,oC q3,(.iter (some 1) k3 l0 k4)]) (.k [1,2,3] [true,false,false,false] [.tmp 7 false] [0,7,9] ⟨AO h7,AO h8,AO h9,trivial⟩) ?_
  refine .then (.condF (by kernel_rfl) ?_)
  refine .exit ?_
  refine .ghs (fr 32 []) (hp 4 [(oC [zI z1,sc 2 0 4 n2 c2,sc 3 0 1 n3 c3]),(.map e1 k2),oC q2,oC q3]) (.k [1,2,3] [true,false,false,false] [] [] ⟨AO h7,AO h8,AO h9,trivial⟩) ?_
  exact Kh (.tuple ⟨[]⟩) [(oC [zI z1,sc 2 0 4 n2 c2,sc 3 0 1 n3 c3]),(.map e1 k2),oC q2,oC q3] (by kernel_rfl) hm (Nat.le_of_ble_eq_true rfl) (CY (O6 _) (CY (Aid _ _) (CY (O6 _) (CY (O6 _) FK))))
 ·replace hm:=uN hm h6
  replace hm:=Ae hm;obtain⟨h10,hm⟩:=hm
  replace hm:=Ae hm;obtain⟨h11,hm⟩:=hm
  replace hm:=Ae hm;obtain⟨h12,hm⟩:=hm
  refine .ghs (fr 32 [(0,(pt 0 0)),(7,(pt 4 0)),(9,zB true)]) (hp 5 [(oC [zI z1,sc 2 0 4 n2 c2,sc 3 0 1 n3 c3]),(.map e1 k2),oC q2,oC q3,(.iter (some 1) k3 (Br l0 [(EO.born e2)]) k2)]) (.k [1,2,3] [true,false,false,false] [.tmp 7 false] [0,7,9] ⟨AO h10,AO h11,AO h12,trivial⟩) ?_
  refine .then (.condT (by kernel_rfl) ?_)
  refine .skip (.ghs (fr 32 [(0,(pt 0 0)),(7,(pt 4 0))]) (hp 5 [(oC [zI z1,sc 2 0 4 n2 c2,sc 3 0 1 n3 c3]),(.map e1 k2),oC q2,oC q3,(.iter (some 1) k3 (Br l0 [(EO.born e2)]) k2)]) (.k [1,2,3] [true,false,false,false] [.tmp 7 false] [0,7] ⟨AO h10,AO h11,AO h12,trivial⟩) ?_)
  refine .block (.then ?_)
  replace hm:=Ab hm;obtain⟨v0,h13,hm⟩:=hm
  replace hm:=Ch hm;obtain⟨l1,rfl,hm⟩:=hm
  replace hm:=Ad hm;obtain⟨v1,l19831_0,rfl,hm⟩:=hm
  replace hm:=Ad hm;obtain⟨v2,l19831_1,rfl,hm⟩:=hm
  replace hm:=AC hm;obtain⟨rfl,hm⟩:=hm
  replace hm:=Ai hm;obtain⟨x0,rfl,hm⟩:=hm
  replace hm:=Be hm;obtain⟨b0,rfl,hm⟩:=hm
  refine .reg (eD (keep (hp 5 [(oC [zI z1,sc 2 0 4 n2 c2,sc 3 0 1 n3 c3]),(.map e1 k2),oC q2,oC q3,(.iter (some 1) k3 (Br l0 [(EO.born e2)]) k2)]) (Ad1 e1 k2 (Br l0 [(EO.born e2)]) k2)) (AZ h13) (eE)) ?_
  refine .ghs (fr 32 [(0,(pt 0 0)),(4,zI x0),(5,zB b0),(7,(pt 4 0))]) (hp 5 [(oC [zI z1,sc 2 0 4 n2 c2,sc 3 0 1 n3 c3]),(.map e1 k2),oC q2,oC q3,(.iter (some 1) k3 (Br l0 [(EO.born e2)]) k2)]) (.k [1,2,3] [true,false,false,false] [.tmp 7 false] [0,4,5,7] ⟨AO h10,AO h11,AO h12,trivial⟩) ?_
  refine .then (.rK (.ghs (fr 32 [(0,(pt 0 0)),(4,zI x0),(7,(pt 4 0)),(13,zB b0)]) (hp 5 [(oC [zI z1,sc 2 0 4 n2 c2,sc 3 0 1 n3 c3]),(.map e1 k2),oC q2,oC q3,(.iter (some 1) k3 (Br l0 [(EO.born e2)]) k2)]) (.k [1,2,3] [true,false,false,false] [.tmp 7 false] [0,4,7,13] ⟨AO h10,AO h11,AO h12,trivial⟩) ?_))
  replace hm:=Ag hm;rcases hm with⟨h14,hm⟩ | ⟨h14,hm⟩
  ·refine .ifT b0 (by kernel_rfl) h14 ?_
   replace hm:=Ab hm;obtain⟨k5,h15,hm⟩:=hm
   obtain rfl:=AR h15
   replace hm:=Ae hm;obtain⟨h16,hm⟩:=hm
   replace hm:=Dn hm;obtain⟨x1,h17,hm⟩:=hm
   replace hm:=Ae hm;obtain⟨h18,hm⟩:=hm
   replace hm:=Ae hm;obtain⟨h19,hm⟩:=hm
   refine .reg (eC 5 (keep (hp 5 [(oC [zI z1,sc 2 0 4 n2 c2,sc 3 0 1 n3 c3]),(.map e1 k2),oC q2,oC q3,(.iter (some 1) k3 (Br l0 [(EO.born e2)]) k2)]) (bb (an (Nat.blt k5 n3) true) (some (.pointer (some ⟨3,(0+k5*1),none⟩))) none)) (AX h16) (eD (keep (hp 5 [(oC [zI z1,sc 2 0 4 n2 c2,sc 3 0 1 n3 c3]),(.map e1 k2),oC q2,oC q3,(.iter (some 1) k3 (Br l0 [(EO.born e2)]) k2)]) (AL q3 (0+k5*1))) (AZ h17) (eC 1 (keep (hp 5 [(oC [zI z1,sc 2 0 4 n2 c2,sc 3 0 1 n3 c3]),(.map e1 k2),oC q2,oC q3,(.iter (some 1) k3 (Br l0 [(EO.born e2)]) k2)]) (bb (an (Nat.blt k5 n3) true) (some (.pointer (some ⟨3,(0+k5*1),none⟩))) none)) (AX h18) (eD (done (bb (an (Nat.ble ((0+k5*1)+1) (len q3)) true) (some (hp 5 [(oC [zI z1,sc 2 0 4 n2 c2,sc 3 0 1 n3 c3]),(.map e1 k2),oC q2,(oC (BM ([(zI (Aj .i64 (Int.add x1 (1:Int))))]:LV) (0+k5*1) q3)),(.iter (some 1) k3 (Br l0 [(EO.born e2)]) k2)])) none) undef) (Js h19) (eE))))) ?_
   replace hm:=Ae hm;obtain⟨h20,hm⟩:=hm
   exact⟨(z1,n2,c2,n3,c3,e1,k2,q2,(BM ([(zI (Aj .i64 (Int.add x1 (1:Int))))]:LV) (0+k5*1) q3),k3,(Br l0 [(EO.born e2)]),k2),hm,(.k [1,2,3] [true,false,false,false] [.tmp 7 false] [0,7] ⟨AO h10,AO h11,AO h20,trivial⟩)⟩
  ·refine .ifF b0 (by kernel_rfl) h14 ?_
   replace hm:=Ab hm;obtain⟨k6,h21,hm⟩:=hm
   obtain rfl:=AR h21
   replace hm:=Ae hm;obtain⟨h22,hm⟩:=hm
   replace hm:=Dn hm;obtain⟨x2,h23,hm⟩:=hm
   replace hm:=Ae hm;obtain⟨h24,hm⟩:=hm
   replace hm:=Ae hm;obtain⟨h25,hm⟩:=hm
   refine .reg (eC 5 (keep (hp 5 [(oC [zI z1,sc 2 0 4 n2 c2,sc 3 0 1 n3 c3]),(.map e1 k2),oC q2,oC q3,(.iter (some 1) k3 (Br l0 [(EO.born e2)]) k2)]) (bb (an (Nat.blt k6 n3) true) (some (.pointer (some ⟨3,(0+k6*1),none⟩))) none)) (AX h22) (eD (keep (hp 5 [(oC [zI z1,sc 2 0 4 n2 c2,sc 3 0 1 n3 c3]),(.map e1 k2),oC q2,oC q3,(.iter (some 1) k3 (Br l0 [(EO.born e2)]) k2)]) (AL q3 (0+k6*1))) (AZ h23) (eC 1 (keep (hp 5 [(oC [zI z1,sc 2 0 4 n2 c2,sc 3 0 1 n3 c3]),(.map e1 k2),oC q2,oC q3,(.iter (some 1) k3 (Br l0 [(EO.born e2)]) k2)]) (bb (an (Nat.blt k6 n3) true) (some (.pointer (some ⟨3,(0+k6*1),none⟩))) none)) (AX h24) (eD (done (bb (an (Nat.ble ((0+k6*1)+1) (len q3)) true) (some (hp 5 [(oC [zI z1,sc 2 0 4 n2 c2,sc 3 0 1 n3 c3]),(.map e1 k2),oC q2,(oC (BM ([(zI (Aj .i64 (Int.sub x2 (1:Int))))]:LV) (0+k6*1) q3)),(.iter (some 1) k3 (Br l0 [(EO.born e2)]) k2)])) none) undef) (Js h25) (eE))))) ?_
   replace hm:=Ae hm;obtain⟨h26,hm⟩:=hm
   exact⟨(z1,n2,c2,n3,c3,e1,k2,q2,(BM ([(zI (Aj .i64 (Int.sub x2 (1:Int))))]:LV) (0+k6*1) q3),k3,(Br l0 [(EO.born e2)]),k2),hm,(.k [1,2,3] [true,false,false,false] [.tmp 7 false] [0,7] ⟨AO h10,AO h11,AO h26,trivial⟩)⟩
theorem vE {call:A8} (pu:Af) (n:Nat) (hcall:call=Bb tabs isP pu (inl pu)) {args:LV} {os:List AJ} {z:Value} (ha:args.length=2) (hk:os.length=4) (hpl:∀ o∈os,plainO o) (hm:LW pu n (args++os.map Ef)=some z):args.length≤32∧BN tt call (tabs.length+4) Hy (Fr.made 32 args) (BK tabs os) (FJ tt tabs.length 4 [] z):=by
 subst hcall
 have hq:=Bq ha;clear ha;obtain⟨a0,args,rfl,ha⟩:=hq
 have hq:=Bq ha;clear ha;obtain⟨a1,args,rfl,ha⟩:=hq
 obtain rfl:=len_nil ha
 have hq:=Bq hk;clear hk;obtain⟨b0,os,rfl,hk⟩:=hq
 have hp0:plainO b0:=hpl b0 (by simp)
 have hq:=Bq hk;clear hk;obtain⟨b1,os,rfl,hk⟩:=hq
 have hp1:plainO b1:=hpl b1 (by simp)
 have hq:=Bq hk;clear hk;obtain⟨b2,os,rfl,hk⟩:=hq
 have hp2:plainO b2:=hpl b2 (by simp)
 have hq:=Bq hk;clear hk;obtain⟨b3,os,rfl,hk⟩:=hq
 have hp3:plainO b3:=hpl b3 (by simp)
 obtain rfl:=len_nil hk
 replace hm:LW pu n [a0,a1,Ef b0,Ef b1,Ef b2,Ef b3]=some z:=hm
 unfold LW at hm
 replace hm:(bb (Yj a0 0 0) (bb (Yk a1 1) (oo (Bt (Ef b0)) none fun l0=>(ll l0 none fun v0 l0=>(ll l0 none fun v1 l0=>(ll l0 none fun v2 l0=>(ll l0 (oo (Bi .i64 v0) none fun x0=>(oo (Hw 2 0 4 v1) none fun y0=>(oo (Hw 3 0 1 v2) none fun y1=>(oo (Fj (Ef b1)) none fun y2=>(oo (Bt (Ef b2)) none fun q0=>(oo (Bt (Ef b3)) none fun q1=>(JP pu n x0 (NC.n y0) (NC.c y0) (NC.n y1) (NC.c y1) (Akd.es y2) (Akd.clock y2) q0 q1))))))) fun _ _=>none))))) none) none)=some z:=hm
 replace hm:=Ae hm;obtain⟨h0,hm⟩:=hm
 obtain rfl:=Yl h0
 replace hm:=Ae hm;obtain⟨h1,hm⟩:=hm
 obtain rfl:=Ym h1
 replace hm:=Ab hm;obtain⟨l0,h2,hm⟩:=hm
 obtain rfl:=FX hp0 h2
 replace hm:=Ad hm;obtain⟨v0,l19880_0,rfl,hm⟩:=hm
 replace hm:=Ad hm;obtain⟨v1,l19880_1,rfl,hm⟩:=hm
 replace hm:=Ad hm;obtain⟨v2,l19880_2,rfl,hm⟩:=hm
 replace hm:=AC hm;obtain⟨rfl,hm⟩:=hm
 replace hm:=Ai hm;obtain⟨x0,rfl,hm⟩:=hm
 replace hm:=Ab hm;obtain⟨y0,h3,hm⟩:=hm
 obtain rfl:=FD h3
 replace hm:=Ab hm;obtain⟨y1,h4,hm⟩:=hm
 obtain rfl:=FD h4
 replace hm:=Ab hm;obtain⟨y2,h5,hm⟩:=hm
 obtain rfl:=Ul hp1 h5
 replace hm:=Ab hm;obtain⟨q0,h6,hm⟩:=hm
 obtain rfl:=FX hp2 h6
 replace hm:=Ab hm;obtain⟨q1,h7,hm⟩:=hm
 obtain rfl:=FX hp3 h7
 refine⟨by simp,?_⟩
 exact .same (F':=(fr 32 [(0,(pt 0 0)),(1,(.map (some 1)))])) (H':=(hp 4 [(oC [zI x0,(sc 2 0 4 (NC.n y0) (NC.c y0)),(sc 3 0 1 (NC.n y1) (NC.c y1))]),(.map (Akd.es y2) (Akd.clock y2)),oC q0,oC q1])) (by kernel_rfl) (by kernel_rfl) (vD pu n x0 (NC.n y0) (NC.c y0) (NC.n y1) (NC.c y1) (Akd.es y2) (Akd.clock y2) q0 q1 hm)
end
end Go.TpMM
