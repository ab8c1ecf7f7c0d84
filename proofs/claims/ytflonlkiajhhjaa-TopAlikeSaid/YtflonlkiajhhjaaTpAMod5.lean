/- Made from wip. -/
import Derived.Test.YtflonlkiajhhjaaTpAMod1x

set_option maxRecDepth 100000
set_option maxHeartbeats 20000000
set_option linter.unusedVariables false
namespace Go.TpAM
open Go.Sp Go.TpA
noncomputable section

def Ada (pu:Af) (n:Nat) (x0:Int):OV:=
 (oo (pu 95 [.int .u64 x0]) none fun v0=>(oo (Bi .i64 v0) none fun x1=>(some (.int .i64 x1))))
def m69 (pu:Af) (n:Nat) (args:LV):OV:=
 (ll args none fun a0 args=>(ll args (oo (Bi .u64 a0) none fun x0=>(Ada pu n x0)) fun _ _=>none))
theorem r69 {call:A8} (pu:Af) (n:Nat) (hcall:call=Bb tabs isP pu (inl pu)) {args:LV} {v:Value} (hm:m69 pu n args=some v) (_:∀ x∈args,closed2 x=true):args.length≤8∧BN tt call 0 Sg (Fr.made 8 args) (Ao tabs) (Fin tt 0 [.tmp 2] v):=by
 subst hcall
 unfold m69 at hm
 replace hm:=Ad hm;obtain⟨a0,args_0,rfl,hm⟩:=hm
 replace hm:=AC hm;obtain⟨rfl,hm⟩:=hm
 replace hm:=Ai hm;obtain⟨x0,rfl,hm⟩:=hm
 unfold Ada at hm
 refine⟨by simp,?_⟩
 refine .same (F':=(fr 8 [(0,(zU x0))])) (H':=(hp 0 [])) (by kernel_rfl) (by kernel_rfl) ?_
 refine .then (.rK (.ghs (fr 8 [(0,(zU x0))]) (hp 0 []) (.k0 [] [] [0]) ?_))
 refine .then (.condF (by kernel_rfl) ?_)
 refine .skip (.ghs (fr 8 [(0,(zU x0))]) (hp 0 []) (.k0 [] [] [0]) ?_)
 refine .then ?_
 replace hm:=Hw hm;obtain⟨x1,h0,hm⟩:=hm
 refine .reg (eC 1 ((oo (pu 95 [(zU x0)]) none fun v=>some (v,(hp 0 [])))) (AB h0) (eE)) ?_
 refine .ghs (fr 8 [(2,zI x1)]) (hp 0 []) (.k0 [] [] [2]) ?_
 refine .ret ?_
 exact Bp (zI x1) hm

def Adb (pu:Af) (n:Nat) (x0 x1:Int):OV:=
 (oo (pu 96 [.int .i64 x0]) none fun v0=>(oo (Bf v0) none fun b0=>(oo (pu 96 [.int .i64 x1]) none fun v1=>(oo (Bf v1) none fun b1=>(bb b0 (bb b1 (some (.int .i64 (0:Int))) (some (.int .i64 (-1:Int)))) (bb b1 (some (.int .i64 (1:Int))) (bb (AY x0 x1) (some (.int .i64 (-1:Int))) (bb (AY x1 x0) (some (.int .i64 (1:Int))) (some (.int .i64 (0:Int)))))))))))
def m70 (pu:Af) (n:Nat) (args:LV):OV:=
 (ll args none fun a0 args=>(ll args none fun a1 args=>(ll args (oo (Bi .i64 a0) none fun x0=>(oo (Bi .i64 a1) none fun x1=>(Adb pu n x0 x1))) fun _ _=>none)))
theorem r70 {call:A8} (pu:Af) (n:Nat) (hcall:call=Bb tabs isP pu (inl pu)) {args:LV} {v:Value} (hm:m70 pu n args=some v) (_:∀ x∈args,closed2 x=true):args.length≤20∧BN tt call 0 PI (Fr.made 20 args) (Ao tabs) (Fin tt 0 [.tmp 4] v):=by
 subst hcall
 unfold m70 at hm
 replace hm:=Ad hm;obtain⟨a0,args_0,rfl,hm⟩:=hm
 replace hm:=Ad hm;obtain⟨a1,args_1,rfl,hm⟩:=hm
 replace hm:=AC hm;obtain⟨rfl,hm⟩:=hm
 replace hm:=Ai hm;obtain⟨x0,rfl,hm⟩:=hm
 replace hm:=Ai hm;obtain⟨x1,rfl,hm⟩:=hm
 unfold Adb at hm
 refine⟨by simp,?_⟩
 refine .same (F':=(fr 20 [(0,zI x0),(1,zI x1)])) (H':=(hp 0 [])) (by kernel_rfl) (by kernel_rfl) ?_
 refine .then (.rK (.ghs (fr 20 [(0,zI x0),(1,zI x1)]) (hp 0 []) (.k0 [] [] [0,1]) ?_))
 refine .then ?_
 replace hm:=WX hm;obtain⟨b0,h0,hm⟩:=hm
 refine .reg (eC 1 ((oo (pu 96 [zI x0]) none fun v=>some (v,(hp 0 [])))) (AB h0) (eE)) ?_
 refine .ghs (fr 20 [(0,zI x0),(1,zI x1),(5,zB b0)]) (hp 0 []) (.k0 [] [] [0,1,5]) ?_
 refine .then ?_
 replace hm:=WX hm;obtain⟨b1,h1,hm⟩:=hm
 refine .reg (eC 1 ((oo (pu 96 [zI x1]) none fun v=>some (v,(hp 0 [])))) (AB h1) (eE)) ?_
 refine .ghs (fr 20 [(0,zI x0),(1,zI x1),(5,zB b0),(6,zB b1)]) (hp 0 []) (.k0 [] [] [0,1,5,6]) ?_
 refine .then (.then (.rK (.ghs (fr 20 [(0,zI x0),(1,zI x1),(6,zB b1),(11,zB b0)]) (hp 0 []) (.k0 [] [] [0,1,6,11]) ?_)))
 replace hm:=Ag hm;rcases hm with⟨h2,hm⟩ | ⟨h2,hm⟩
 ·refine .ifT b0 (by kernel_rfl) h2 ?_
  refine .then (.then (.rK (.ghs (fr 20 [(12,zB b1)]) (hp 0 []) (.k0 [] [] [12]) ?_)))
  replace hm:=Ag hm;rcases hm with⟨h3,hm⟩ | ⟨h3,hm⟩
  ·refine .ifT b1 (by kernel_rfl) h3 ?_
   refine .then (.rK (.ghs (fr 20 [(4,(zI (0:Int)))]) (hp 0 []) (.k0 [] [] [4]) ?_))
   refine .ret ?_
   exact Bp (zI (0:Int)) hm
  ·refine .ifF b1 (by kernel_rfl) h3 ?_
   refine .skip (.ghs (fr 20 []) (hp 0 []) (.k0 [] [] []) ?_)
   refine .then (.rK (.ghs (fr 20 [(4,(zI (-1:Int)))]) (hp 0 []) (.k0 [] [] [4]) ?_))
   refine .ret ?_
   exact Bp (zI (-1:Int)) hm
 ·refine .ifF b0 (by kernel_rfl) h2 ?_
  refine .skip (.ghs (fr 20 [(0,zI x0),(1,zI x1),(6,zB b1)]) (hp 0 []) (.k0 [] [] [0,1,6]) ?_)
  refine .then (.then (.rK (.ghs (fr 20 [(0,zI x0),(1,zI x1),(13,zB b1)]) (hp 0 []) (.k0 [] [] [0,1,13]) ?_)))
  replace hm:=Ag hm;rcases hm with⟨h4,hm⟩ | ⟨h4,hm⟩
  ·refine .ifT b1 (by kernel_rfl) h4 ?_
   refine .then (.rK (.ghs (fr 20 [(4,(zI (1:Int)))]) (hp 0 []) (.k0 [] [] [4]) ?_))
   refine .ret ?_
   exact Bp (zI (1:Int)) hm
  ·refine .ifF b1 (by kernel_rfl) h4 ?_
   refine .skip (.ghs (fr 20 [(0,zI x0),(1,zI x1)]) (hp 0 []) (.k0 [] [] [0,1]) ?_)
   refine .then (.then (.rK (.ghs (fr 20 [(0,zI x0),(1,zI x1),(16,(zB (AY x0 x1)))]) (hp 0 []) (.k0 [] [] [0,1,16]) ?_)))
   replace hm:=Ag hm;rcases hm with⟨h5,hm⟩ | ⟨h5,hm⟩
   ·refine Cs (AY x0 x1) h5 ?_
    refine .then (.rK (.ghs (fr 20 [(4,(zI (-1:Int)))]) (hp 0 []) (.k0 [] [] [4]) ?_))
    refine .ret ?_
    exact Bp (zI (-1:Int)) hm
   ·refine CY (AY x0 x1) h5 ?_
    refine .skip (.ghs (fr 20 [(0,zI x0),(1,zI x1)]) (hp 0 []) (.k0 [] [] [0,1]) ?_)
    refine .then (.then (.rK (.ghs (fr 20 [(19,(zB (AY x1 x0)))]) (hp 0 []) (.k0 [] [] [19]) ?_)))
    replace hm:=Ag hm;rcases hm with⟨h6,hm⟩ | ⟨h6,hm⟩
    ·refine Cs (AY x1 x0) h6 ?_
     refine .then (.rK (.ghs (fr 20 [(4,(zI (1:Int)))]) (hp 0 []) (.k0 [] [] [4]) ?_))
     refine .ret ?_
     exact Bp (zI (1:Int)) hm
    ·refine CY (AY x1 x0) h6 ?_
     refine .skip (.ghs (fr 20 []) (hp 0 []) (.k0 [] [] []) ?_)
     refine .then (.rK (.ghs (fr 20 [(4,(zI (0:Int)))]) (hp 0 []) (.k0 [] [] [4]) ?_))
     refine .ret ?_
     exact Bp (zI (0:Int)) hm

def Adc (pu:Af) (n:Nat) (x0 x1 x2 x3:Int):OV:=
 (some (.int .i64 (Aj .i64 (Int.add (Aj .i64 (Int.add x0 x1)) (Aj .i64 (Int.mul (2:Int) x2))))))
def m72 (pu:Af) (n:Nat) (args:LV):OV:=
 (ll args none fun a0 args=>(ll args (oo (Bt a0) none fun l0=>(ll l0 none fun v0 l0=>(ll l0 none fun v1 l0=>(ll l0 none fun v2 l0=>(ll l0 none fun v3 l0=>(ll l0 (oo (Bi .i64 v0) none fun x0=>(oo (Bi .i64 v1) none fun x1=>(oo (Bi .i64 v2) none fun x2=>(oo (Bi .i64 v3) none fun x3=>(Adc pu n x0 x1 x2 x3))))) fun _ _=>none)))))) fun _ _=>none))
theorem r72 {call:A8} (pu:Af) (n:Nat) (hcall:call=Bb tabs isP pu (inl pu)) {args:LV} {v:Value} (hm:m72 pu n args=some v) (_:∀ x∈args,closed2 x=true):args.length≤12∧BN tt call 0 Si (Fr.made 12 args) (Ao tabs) (Fin tt 0 [.tmp 2] v):=by
 subst hcall
 unfold m72 at hm
 replace hm:=Ad hm;obtain⟨a0,args_0,rfl,hm⟩:=hm
 replace hm:=AC hm;obtain⟨rfl,hm⟩:=hm
 replace hm:=BG hm;obtain⟨l0,rfl,hm⟩:=hm
 replace hm:=Ad hm;obtain⟨v0,l1546832_0,rfl,hm⟩:=hm
 replace hm:=Ad hm;obtain⟨v1,l1546832_1,rfl,hm⟩:=hm
 replace hm:=Ad hm;obtain⟨v2,l1546832_2,rfl,hm⟩:=hm
 replace hm:=Ad hm;obtain⟨v3,l1546832_3,rfl,hm⟩:=hm
 replace hm:=AC hm;obtain⟨rfl,hm⟩:=hm
 replace hm:=Ai hm;obtain⟨x0,rfl,hm⟩:=hm
 replace hm:=Ai hm;obtain⟨x1,rfl,hm⟩:=hm
 replace hm:=Ai hm;obtain⟨x2,rfl,hm⟩:=hm
 replace hm:=Ai hm;obtain⟨x3,rfl,hm⟩:=hm
 unfold Adc at hm
 refine⟨by simp,?_⟩
 refine .same (F':=(fr 12 [(0,(.agg ⟨[zI x0,zI x1,zI x2,zI x3]⟩))])) (H':=(hp 0 [])) (by kernel_rfl) (by kernel_rfl) ?_
 refine .then (.rK (.ghs (fr 12 [(1,(pt 0 0))]) (hp 1 [(oC [zI x0,zI x1,zI x2,zI x3])]) (.k0 [] [.tmp 1 false] [1]) ?_))
 refine .then (.rK (.ghs (fr 12 [(2,(zI (Aj .i64 (Int.add (Aj .i64 (Int.add x0 x1)) (Aj .i64 (Int.mul (2:Int) x2))))))]) (hp 0 []) (.k0 [] [] [2]) ?_))
 refine .ret ?_
 exact Bp (zI (Aj .i64 (Int.add (Aj .i64 (Int.add x0 x1)) (Aj .i64 (Int.mul (2:Int) x2))))) hm
def Ul (pu:Af) (n:Nat) (z0:Int):OV:=
 (some (.int .i64 z0))
def WH (pu:Af) (n:Nat) (ih0:Int→Int→Int→OV) (z0 z1 z2:Int):OV:=
 (bb (AY z2 z1) (ih0 (Aj .i64 (Int.mul z0 (3:Int))) z1 (Aj .i64 (Int.add z2 (1:Int)))) (Ul pu n z0))
def WI (pu:Af) (n w:Nat):Int→Int→Int→OV:=
 Nat.rec (motive:=fun _=>Int→Int→Int→OV) (fun _ _ _=>none) (fun _ ih0=>WH pu n ih0) w
def Ade (pu:Af) (n:Nat) (x0:Int):OV:=
 (WI pu n n (1:Int) x0 (0:Int))
def m73 (pu:Af) (n:Nat) (args:LV):OV:=
 (ll args none fun a0 args=>(ll args (oo (Bi .i64 a0) none fun x0=>(Ade pu n x0)) fun _ _=>none))
theorem Adf (pu:Af) (n:Nat) (z0:Int) {v:Value} (hm:Ul pu n z0=some v):BN tt (Bb tabs isP pu (inl pu)) 0 UN (fr 11 [(3,zI z0)]) (hp 0 []) (Fin tt 0 [.tmp 2] v):=by
 unfold Ul at hm
 refine .then (.rK (.ghs (fr 11 [(2,zI z0)]) (hp 0 []) (.k0 [] [] [2]) ?_))
 refine .ret ?_
 exact Bp (zI z0) hm
theorem r73 {call:A8} (pu:Af) (n:Nat) (hcall:call=Bb tabs isP pu (inl pu)) {args:LV} {v:Value} (hm:m73 pu n args=some v) (_:∀ x∈args,closed2 x=true):args.length≤11∧BN tt call 0 PK (Fr.made 11 args) (Ao tabs) (Fin tt 0 [.tmp 2] v):=by
 subst hcall
 unfold m73 at hm
 replace hm:=Ad hm;obtain⟨a0,args_0,rfl,hm⟩:=hm
 replace hm:=AC hm;obtain⟨rfl,hm⟩:=hm
 replace hm:=Ai hm;obtain⟨x0,rfl,hm⟩:=hm
 unfold Ade at hm
 refine⟨by simp,?_⟩
 refine .same (F':=(fr 11 [(0,zI x0)])) (H':=(hp 0 [])) (by kernel_rfl) (by kernel_rfl) ?_
 refine .then (.rK (.ghs (fr 11 [(0,zI x0)]) (hp 0 []) (.k0 [] [] [0]) ?_))
 refine .then (.rK (.ghs (fr 11 [(0,zI x0),(3,(zI (1:Int)))]) (hp 0 []) (.k0 [] [] [0,3]) ?_))
 refine .join (v:=v) (fun y:Int=>((fr 11 [(3,zI y)]),(hp 0 []))) (fun y=>Ul pu n y) ?_ ?_
 ·rintro z0 hm
  exact Adf pu n z0 hm
 ·refine .then (.rK (.ghs (fr 11 [(3,(zI (1:Int))),(4,zI x0),(5,(zI (0:Int)))]) (hp 0 []) (.k0 [] [] [3,4,5]) ?_))
  refine .block (.loopM (v:=v) (fun y:Int×Int×Int=>((fr 11 [(3,(zI y.1)),(4,(zI y.2.1)),(5,(zI y.2.2))]),(hp 0 []))) (fun w y=>WI pu n w y.1 y.2.1 y.2.2) n ⟨((1:Int),x0,(0:Int)),hm,(.k0 [] [] [3,4,5])⟩ (fun _=>rfl) ?_)
  rintro w0 ⟨z1,z2,z3⟩ hm
  replace hm:WH pu n (WI pu n w0) z1 z2 z3=some v:=hm
  unfold WH at hm
  refine .then (.rK (.ghs (fr 11 [(3,zI z1),(4,zI z2),(5,zI z3),(6,(zB (AY z3 z2)))]) (hp 0 []) (.k0 [] [] [3,4,5,6]) ?_))
  refine .then ?_
  replace hm:=Ag hm;rcases hm with⟨h0,hm⟩ | ⟨h0,hm⟩
  ·refine Cs (AY z3 z2) h0 ?_
   refine .skip (.ghs (fr 11 [(3,zI z1),(4,zI z2),(5,zI z3)]) (hp 0 []) (.k0 [] [] [3,4,5]) ?_)
   refine .then (.block (.rK (.ghs (fr 11 [(3,(zI (Aj .i64 (Int.mul z1 (3:Int))))),(4,zI z2),(5,zI z3)]) (hp 0 []) (.k0 [] [] [3,4,5]) ?_)))
   refine .rK ?_
   exact⟨((Aj .i64 (Int.mul z1 (3:Int))),z2,(Aj .i64 (Int.add z3 (1:Int)))),hm,(.k0 [] [] [3,4,5])⟩
  ·refine CY (AY z3 z2) h0 ?_
   refine .exit ?_
   exact⟨z1,hm,(.k0 [] [] [3])⟩
def QN (pu:Af) (n:Nat) (z0 z1:Int):OV:=
 (oo (EA (Aj .u8 z0)) none fun k1=>(oo (AcB[k1]?) none fun c0=>(some (.int .i64 (Aj .i64 (Int.add z1 (Aj .i64 (Int.ofNat (UInt8.toNat c0)))))))))
def QO (pu:Af) (n:Nat) (z0 z1:Int):OV:=
 (bb (nt (AY z0 (256:Int))) (QN pu n (G6 .u64 z0 8) (Aj .i64 (Int.add z1 (8:Int)))) (QN pu n z0 z1))
def QR (pu:Af) (n:Nat) (z0 z1:Int):OV:=
 (bb (nt (AY z0 (65536:Int))) (QO pu n (G6 .u64 z0 16) (Aj .i64 (Int.add z1 (16:Int)))) (QO pu n z0 z1))
def Adg (pu:Af) (n:Nat) (x0:Int):OV:=
 (bb (nt (AY x0 (4294967296:Int))) (QR pu n (G6 .u64 x0 32) (32:Int)) (QR pu n x0 (0:Int)))
def m95 (pu:Af) (n:Nat) (args:LV):OV:=
 (ll args none fun a0 args=>(ll args (oo (Bi .u64 a0) none fun x0=>(Adg pu n x0)) fun _ _=>none))
theorem Adh (pu:Af) (n:Nat) (z0 z1:Int) {v:Value} (hm:QN pu n z0 z1=some v):BN tt (Bb tabs isP pu (inl pu)) 0 UO (fr 25 [(0,(zU z0)),(2,zI z1)]) (hp 0 []) (Fin tt 0 [.tmp 2] v):=by
 unfold QN at hm
 refine .then ?_
 replace hm:=Ab hm;obtain⟨k1,h0,hm⟩:=hm
 replace hm:=Ab hm;obtain⟨c0,h1,hm⟩:=hm
 refine .reg (eC 2 (some ((zY (Aj .u8 z0)),(hp 0 []))) (show _=some ((zY (Int.ofNat k1)),_) from (by rw[AR h0])) (eD (keep (hp 0 []) (oo (AcB[k1]?) none fun b=>iv .u8 (.ofNat b.toNat))) (Acx h1) (eE))) ?_
 refine .ghs (fr 25 [(2,(zI (Aj .i64 (Int.add z1 (Aj .i64 (Int.ofNat (UInt8.toNat c0)))))))]) (hp 0 []) (.k0 [] [] [2]) ?_
 refine .ret ?_
 exact Bp (zI (Aj .i64 (Int.add z1 (Aj .i64 (Int.ofNat (UInt8.toNat c0)))))) hm
theorem Adi (pu:Af) (n:Nat) (z0 z1:Int) {v:Value} (hm:QO pu n z0 z1=some v):BN tt (Bb tabs isP pu (inl pu)) 0 UQ (fr 25 [(0,(zU z0)),(2,zI z1)]) (hp 0 []) (Fin tt 0 [.tmp 2] v):=by
 unfold QO at hm
 refine .join (v:=v) (fun y:Int×Int=>((fr 25 [(0,(zU y.1)),(2,(zI y.2))]),(hp 0 []))) (fun y=>QN pu n y.1 y.2) ?_ ?_
 ·rintro⟨z2,z3⟩ hm
  exact Adh pu n z2 z3 hm
 ·refine .then (.rK (.ghs (fr 25 [(0,(zU z0)),(2,zI z1),(14,(zB (nt (AY z0 (256:Int)))))]) (hp 0 []) (.k0 [] [] [0,2,14]) ?_))
  replace hm:=Ag hm;rcases hm with⟨h0,hm⟩ | ⟨h0,hm⟩
  ·refine Cs (nt (AY z0 (256:Int))) h0 ?_
   refine .then (.rK (.ghs (fr 25 [(0,(zU (G6 .u64 z0 8))),(2,zI z1)]) (hp 0 []) (.k0 [] [] [0,2]) ?_))
   refine .rK ?_
   exact⟨((G6 .u64 z0 8),(Aj .i64 (Int.add z1 (8:Int)))),hm,(.k0 [] [] [0,2])⟩
  ·refine CY (nt (AY z0 (256:Int))) h0 ?_
   refine .skip ?_
   exact⟨(z0,z1),hm,(.k0 [] [] [0,2])⟩
theorem Adj (pu:Af) (n:Nat) (z0 z1:Int) {v:Value} (hm:QR pu n z0 z1=some v):BN tt (Bb tabs isP pu (inl pu)) 0 UT (fr 25 [(0,(zU z0)),(2,zI z1)]) (hp 0 []) (Fin tt 0 [.tmp 2] v):=by
 unfold QR at hm
 refine .join (v:=v) (fun y:Int×Int=>((fr 25 [(0,(zU y.1)),(2,(zI y.2))]),(hp 0 []))) (fun y=>QO pu n y.1 y.2) ?_ ?_
 ·rintro⟨z2,z3⟩ hm
  exact Adi pu n z2 z3 hm
 ·refine .then (.rK (.ghs (fr 25 [(0,(zU z0)),(2,zI z1),(8,(zB (nt (AY z0 (65536:Int)))))]) (hp 0 []) (.k0 [] [] [0,2,8]) ?_))
  replace hm:=Ag hm;rcases hm with⟨h0,hm⟩ | ⟨h0,hm⟩
  ·refine Cs (nt (AY z0 (65536:Int))) h0 ?_
   refine .then (.rK (.ghs (fr 25 [(0,(zU (G6 .u64 z0 16))),(2,zI z1)]) (hp 0 []) (.k0 [] [] [0,2]) ?_))
   refine .rK ?_
   exact⟨((G6 .u64 z0 16),(Aj .i64 (Int.add z1 (16:Int)))),hm,(.k0 [] [] [0,2])⟩
  ·refine CY (nt (AY z0 (65536:Int))) h0 ?_
   refine .skip ?_
   exact⟨(z0,z1),hm,(.k0 [] [] [0,2])⟩
theorem r95 {call:A8} (pu:Af) (n:Nat) (hcall:call=Bb tabs isP pu (inl pu)) {args:LV} {v:Value} (hm:m95 pu n args=some v) (_:∀ x∈args,closed2 x=true):args.length≤25∧BN tt call 0 PL (Fr.made 25 args) (Ao tabs) (Fin tt 0 [.tmp 2] v):=by
 subst hcall
 unfold m95 at hm
 replace hm:=Ad hm;obtain⟨a0,args_0,rfl,hm⟩:=hm
 replace hm:=AC hm;obtain⟨rfl,hm⟩:=hm
 replace hm:=Ai hm;obtain⟨x0,rfl,hm⟩:=hm
 unfold Adg at hm
 refine⟨by simp,?_⟩
 refine .same (F':=(fr 25 [(0,(zU x0))])) (H':=(hp 0 [])) (by kernel_rfl) (by kernel_rfl) ?_
 refine .then (.rK (.ghs (fr 25 [(0,(zU x0)),(2,(zI (0:Int)))]) (hp 0 []) (.k0 [] [] [0,2]) ?_))
 refine .join (v:=v) (fun y:Int×Int=>((fr 25 [(0,(zU y.1)),(2,(zI y.2))]),(hp 0 []))) (fun y=>QR pu n y.1 y.2) ?_ ?_
 ·rintro⟨z0,z1⟩ hm
  exact Adj pu n z0 z1 hm
 ·refine .then (.rK (.ghs (fr 25 [(0,(zU x0)),(2,(zI (0:Int))),(4,(zB (nt (AY x0 (4294967296:Int)))))]) (hp 0 []) (.k0 [] [] [0,2,4]) ?_))
  replace hm:=Ag hm;rcases hm with⟨h0,hm⟩ | ⟨h0,hm⟩
  ·refine Cs (nt (AY x0 (4294967296:Int))) h0 ?_
   refine .then (.rK (.ghs (fr 25 [(0,(zU (G6 .u64 x0 32)))]) (hp 0 []) (.k0 [] [] [0]) ?_))
   refine .rK ?_
   exact⟨((G6 .u64 x0 32),(32:Int)),hm,(.k0 [] [] [0,2])⟩
  ·refine CY (nt (AY x0 (4294967296:Int))) h0 ?_
   refine .skip ?_
   exact⟨(x0,(0:Int)),hm,(.k0 [] [] [0,2])⟩

def Adk (pu:Af) (n:Nat) (x0:Int):OV:=
 (some (.bool (nt (Bd x0 x0))))
def m96 (pu:Af) (n:Nat) (args:LV):OV:=
 (ll args none fun a0 args=>(ll args (oo (Bi .i64 a0) none fun x0=>(Adk pu n x0)) fun _ _=>none))
theorem r96 {call:A8} (pu:Af) (n:Nat) (hcall:call=Bb tabs isP pu (inl pu)) {args:LV} {v:Value} (hm:m96 pu n args=some v) (_:∀ x∈args,closed2 x=true):args.length≤6∧BN tt call 0 Sj (Fr.made 6 args) (Ao tabs) (Fin tt 0 [.tmp 2] v):=by
 subst hcall
 unfold m96 at hm
 replace hm:=Ad hm;obtain⟨a0,args_0,rfl,hm⟩:=hm
 replace hm:=AC hm;obtain⟨rfl,hm⟩:=hm
 replace hm:=Ai hm;obtain⟨x0,rfl,hm⟩:=hm
 unfold Adk at hm
 refine⟨by simp,?_⟩
 refine .same (F':=(fr 6 [(0,zI x0)])) (H':=(hp 0 [])) (by kernel_rfl) (by kernel_rfl) ?_
 refine .then (.rK (.ghs (fr 6 [(0,zI x0)]) (hp 0 []) (.k0 [] [] [0]) ?_))
 refine .then (.rK (.ghs (fr 6 [(2,(zB (nt (Bd x0 x0))))]) (hp 0 []) (.k0 [] [] [2]) ?_))
 refine .ret ?_
 exact Bp (zB (nt (Bd x0 x0))) hm

def Adl (pu:Af) (n:Nat) (x0 x1 x2 x3 x4 x5 x6:Int):OV:=
 (some (.agg ⟨[.int .i64 x4,.int .i64 x5,.int .i64 x6,(.int .i64 (Aj .i64 (Int.sub (Aj .i64 (Int.sub (Aj .i64 (Int.sub (Aj .i64 (Int.add (Aj .i64 (Int.add (Aj .i64 (Int.add x0 x1)) x2)) x3)) x4)) x5)) x6)))]⟩))
def m97 (pu:Af) (n:Nat) (args:LV):OV:=
 (ll args none fun a0 args=>(ll args none fun a1 args=>(ll args none fun a2 args=>(ll args none fun a3 args=>(ll args (oo (Bt a0) none fun l0=>(ll l0 none fun v0 l0=>(ll l0 none fun v1 l0=>(ll l0 none fun v2 l0=>(ll l0 none fun v3 l0=>(ll l0 (oo (Bi .i64 v0) none fun x0=>(oo (Bi .i64 v1) none fun x1=>(oo (Bi .i64 v2) none fun x2=>(oo (Bi .i64 v3) none fun x3=>(oo (Bi .i64 a1) none fun x4=>(oo (Bi .i64 a2) none fun x5=>(oo (Bi .i64 a3) none fun x6=>(Adl pu n x0 x1 x2 x3 x4 x5 x6)))))))) fun _ _=>none)))))) fun _ _=>none)))))
theorem r97 {call:A8} (pu:Af) (n:Nat) (hcall:call=Bb tabs isP pu (inl pu)) {args:LV} {v:Value} (hm:m97 pu n args=some v) (_:∀ x∈args,closed2 x=true):args.length≤30∧BN tt call 0 Sk (Fr.made 30 args) (Ao tabs) (Fin tt 0 [.cell 8 67] v):=by
 subst hcall
 unfold m97 at hm
 replace hm:=Ad hm;obtain⟨a0,args_0,rfl,hm⟩:=hm
 replace hm:=Ad hm;obtain⟨a1,args_1,rfl,hm⟩:=hm
 replace hm:=Ad hm;obtain⟨a2,args_2,rfl,hm⟩:=hm
 replace hm:=Ad hm;obtain⟨a3,args_3,rfl,hm⟩:=hm
 replace hm:=AC hm;obtain⟨rfl,hm⟩:=hm
 replace hm:=BG hm;obtain⟨l0,rfl,hm⟩:=hm
 replace hm:=Ad hm;obtain⟨v0,l1546888_0,rfl,hm⟩:=hm
 replace hm:=Ad hm;obtain⟨v1,l1546888_1,rfl,hm⟩:=hm
 replace hm:=Ad hm;obtain⟨v2,l1546888_2,rfl,hm⟩:=hm
 replace hm:=Ad hm;obtain⟨v3,l1546888_3,rfl,hm⟩:=hm
 replace hm:=AC hm;obtain⟨rfl,hm⟩:=hm
 replace hm:=Ai hm;obtain⟨x0,rfl,hm⟩:=hm
 replace hm:=Ai hm;obtain⟨x1,rfl,hm⟩:=hm
 replace hm:=Ai hm;obtain⟨x2,rfl,hm⟩:=hm
 replace hm:=Ai hm;obtain⟨x3,rfl,hm⟩:=hm
 replace hm:=Ai hm;obtain⟨x4,rfl,hm⟩:=hm
 replace hm:=Ai hm;obtain⟨x5,rfl,hm⟩:=hm
 replace hm:=Ai hm;obtain⟨x6,rfl,hm⟩:=hm
 unfold Adl at hm
 refine⟨by simp,?_⟩
 refine .same (F':=(fr 30 [(0,(.agg ⟨[zI x0,zI x1,zI x2,zI x3]⟩)),(1,zI x4),(2,zI x5),(3,zI x6)])) (H':=(hp 0 [])) (by kernel_rfl) (by kernel_rfl) ?_
 refine .then (.rK (.ghs (fr 30 [(1,zI x4),(2,zI x5),(3,zI x6),(4,(pt 0 0)),(8,pt 1 0)]) (hp 2 [(oC [zI x0,zI x1,zI x2,zI x3]),(oC [(zI (0:Int)),(zI (0:Int)),(zI (0:Int)),(zI (0:Int))])]) (.k0 [] [.tmp 4 false,.tmp 8 false] [1,2,3,4,8]) ?_))
 refine .then (.rK (.ghs (fr 30 [(8,(pt 0 0))]) (hp 1 [(oC [zI x4,zI x5,zI x6,(zI (Aj .i64 (Int.sub (Aj .i64 (Int.sub (Aj .i64 (Int.sub (Aj .i64 (Int.add (Aj .i64 (Int.add (Aj .i64 (Int.add x0 x1)) x2)) x3)) x4)) x5)) x6)))])]) (.k0 [] [.tmp 8 false] [8]) ?_))
 refine .ret ?_
 exact Bp (.agg ⟨[zI x4,zI x5,zI x6,(zI (Aj .i64 (Int.sub (Aj .i64 (Int.sub (Aj .i64 (Int.sub (Aj .i64 (Int.add (Aj .i64 (Int.add (Aj .i64 (Int.add x0 x1)) x2)) x3)) x4)) x5)) x6)))]⟩) hm

def KS (pu:Af) (n:Nat) (s15:Sl):OV:=
 (some (.tuple ⟨[Sl.v 1 s15]⟩))
def MF (pu:Af) (n:Nat) (args:LV):OV:=
 (ll args none fun a0 args=>(ll args (oo (Bj 1 a0) none fun s17=>(KS pu n s17)) fun _ _=>none))
theorem tL (pu:Af) (n:Nat) (s15:Sl) {v:Value} (hm:KS pu n s15=some v):BN tt (Bb tabs isP pu (inl pu)) 0 UU (fr 4 [(0,Sl.v 1 s15)]) (hp 0 []) (FJ tt 0 0 [.tmp 2] v):=by
 unfold KS at hm
 refine .then (.rK (.ghs (fr 4 [(0,Sl.v 1 s15)]) (hp 0 []) (.k0 [] [] [0]) ?_))
 refine .then (.rK (.ghs (fr 4 [(2,Sl.v 1 s15)]) (hp 0 []) (.k0 [] [] [2]) ?_))
 refine .ghs (fr 4 [(2,Sl.v 1 s15)]) (hp 0 []) (.k0 [] [] [2]) ?_
 refine .ret ?_
 exact Eo (Sl.v 1 s15) [] (by kernel_rfl) hm (Nat.le_of_ble_eq_true rfl) DL
theorem tN {call:A8} (pu:Af) (n:Nat) (hcall:call=Bb tabs isP pu (inl pu)) {args:LV} {os:List AJ} {z:Value} (ha:args.length=1) (hk:os.length=0) (hpl:∀ o∈os,plainO o) (hm:MF pu n (args++os.map Ef)=some z):args.length≤4∧BN tt call (tabs.length+0) UU (Fr.made 4 args) (BK tabs os) (FJ tt tabs.length 0 [.tmp 2] z):=by
 subst hcall
 have hq:=Bq ha;clear ha;obtain⟨a0,args,rfl,ha⟩:=hq
 obtain rfl:=len_nil ha
 obtain rfl:=len_nil hk
 replace hm:MF pu n [a0]=some z:=hm
 unfold MF at hm
 replace hm:(oo (Bj 1 a0) none fun s17=>(KS pu n s17))=some z:=hm
 replace hm:=Al hm;obtain⟨s17,rfl,hm⟩:=hm
 refine⟨by simp,?_⟩
 exact .same (F':=(fr 4 [(0,Sl.v 1 s17)])) (H':=(hp 0 [])) (by kernel_rfl) (by kernel_rfl) (tL pu n s17 hm)
def Jd (pu:Af) (n:Nat) (e0:List EO) (k1:Nat):OV:=
 (bb (Au F4 e0) (some (.tuple ⟨[(.int .i64 (-1:Int)),(Ef (.map e0 k1))]⟩)) none)
def MG (pu:Af) (n:Nat) (ih0:Int→List EO→Nat→Int→Int→Int→Int→OV) (z0:Int) (e0:List EO) (k1:Nat) (z1 z2 z3 z4:Int):OV:=
 (bb (Au F4 e0) (bb (AY z0 (5:Int)) (bb (Au F4 e0) (oo (pu 10510 [(.map (some 0)),(.agg ⟨[.int .i64 z1,.int .i64 z2,.int .i64 z3,.int .i64 z4]⟩),.int .i64 z0,(Ef (.map e0 k1))]) none fun v0=>(oo (CQ v0) none fun l0=>(ll l0 none fun v1 l0=>(ll l0 none fun v2 l0=>(ll l0 (oo (Bf v1) none fun b0=>(oo (Fj v2) none fun y0=>(bb (Au F4 (Akd.es y0)) (bb (Au F4 (Akd.es y0)) (bb b0 (some (.tuple ⟨[.int .i64 z0,(Ef (.map (Akd.es y0) (Akd.clock y0)))]⟩)) (ih0 (Aj .i64 (Int.add z0 (1:Int))) (Akd.es y0) (Akd.clock y0) z1 z2 z3 z4)) none) none))) fun _ _=>none))))) none) (Jd pu n e0 k1)) none)
def MH (pu:Af) (n w:Nat):Int→List EO→Nat→Int→Int→Int→Int→OV:=
 Nat.rec (motive:=fun _=>Int→List EO→Nat→Int→Int→Int→Int→OV) (fun _ _ _ _ _ _ _=>none) (fun _ ih0=>MG pu n ih0) w
def KT (pu:Af) (n:Nat) (z0 z1 z2 z3:Int) (e0:List EO) (k1:Nat):OV:=
 (bb (Au F4 e0) (MH pu n n (0:Int) e0 k1 z0 z1 z2 z3) none)
def MR (pu:Af) (n:Nat) (args:LV):OV:=
 (ll args none fun a0 args=>(ll args none fun a1 args=>(ll args none fun o0 args=>(ll args (bb (O5 a0 0) (oo (Bt a1) none fun l0=>(ll l0 none fun v0 l0=>(ll l0 none fun v1 l0=>(ll l0 none fun v2 l0=>(ll l0 none fun v3 l0=>(ll l0 (oo (Bi .i64 v0) none fun x0=>(oo (Bi .i64 v1) none fun x1=>(oo (Bi .i64 v2) none fun x2=>(oo (Bi .i64 v3) none fun x3=>(oo (Fj o0) none fun y0=>(KT pu n x0 x1 x2 x3 (Akd.es y0) (Akd.clock y0))))))) fun _ _=>none)))))) none) fun _ _=>none))))
theorem WJ (pu:Af) (n:Nat) (e0:List EO) (k1:Nat) {v:Value} (hm:Jd pu n e0 k1=some v):BN tt (Bb tabs isP pu (inl pu)) 1 UV (fr 15 []) (hp 1 [(.map e0 k1)]) (FJ tt 0 1 [.tmp 4] v):=by
 unfold Jd at hm
 refine .then (.rK ?_)
 replace hm:=Ae hm;obtain⟨h0,hm⟩:=hm
 refine .ghs (fr 15 [(4,(zI (-1:Int)))]) (hp 1 [(.map e0 k1)]) (.k [0] [false] [] [4] ⟨BB h0,trivial⟩) ?_
 refine .ghs (fr 15 [(4,(zI (-1:Int)))]) (hp 1 [(.map e0 k1)]) (.k [0] [false] [] [4] ⟨BB h0,trivial⟩) ?_
 refine .ret ?_
 exact Eo (zI (-1:Int)) [(.map e0 k1)] (by kernel_rfl) hm (Nat.le_of_ble_eq_true rfl) (Dr (PP _ _) DL)
theorem tO (pu:Af) (n:Nat) (z0 z1 z2 z3:Int) (e0:List EO) (k1:Nat) {v:Value} (hm:KT pu n z0 z1 z2 z3 e0 k1=some v):BN tt (Bb tabs isP pu (inl pu)) 1 K9 (fr 15 [(0,(.map (some 0))),(1,(.agg ⟨[zI z0,zI z1,zI z2,zI z3]⟩))]) (hp 1 [(.map e0 k1)]) (FJ tt 0 1 [.tmp 4] v):=by
 unfold KT at hm
 refine .then (.rK ?_)
 replace hm:=Ae hm;obtain⟨h0,hm⟩:=hm
 refine .ghs (fr 15 [(0,(.map (some 0))),(3,pt 1 0)]) (hp 2 [(.map e0 k1),(oC [zI z0,zI z1,zI z2,zI z3])]) (.k [0] [false] [.tmp 3 false] [0,3] ⟨BB h0,trivial⟩) ?_
 refine .join (v:=v) (fun y:List EO×Nat=>((fr 15 []),(hp 1 [(.map y.1 y.2)]))) (fun y=>Jd pu n y.1 y.2) ?_ ?_
 ·rintro⟨e1,k2⟩ hm
  exact WJ pu n e1 k2 hm
 ·refine .then (.rK (.ghs (fr 15 [(0,(.map (some 0))),(3,pt 1 0),(6,(zI (0:Int)))]) (hp 2 [(.map e0 k1),(oC [zI z0,zI z1,zI z2,zI z3])]) (.k [0] [false] [.tmp 3 false] [0,3,6] ⟨BB h0,trivial⟩) ?_))
  refine .block (.loopM (v:=v) (fun y:Int×List EO×Nat×Int×Int×Int×Int=>((fr 15 [(0,(.map (some 0))),(3,pt 1 0),(6,(zI y.1))]),(hp 2 [(.map y.2.1 y.2.2.1),(oC [(zI y.2.2.2.1),(zI y.2.2.2.2.1),(zI y.2.2.2.2.2.1),(zI y.2.2.2.2.2.2)])]))) (fun w y=>MH pu n w y.1 y.2.1 y.2.2.1 y.2.2.2.1 y.2.2.2.2.1 y.2.2.2.2.2.1 y.2.2.2.2.2.2) n ⟨((0:Int),e0,k1,z0,z1,z2,z3),hm,(.k [0] [false] [.tmp 3 false] [0,3,6] ⟨BB h0,trivial⟩)⟩ (fun _=>rfl) ?_)
  rintro w0 ⟨z4,e2,k3,z5,z6,z7,z8⟩ hm
  replace hm:MG pu n (MH pu n w0) z4 e2 k3 z5 z6 z7 z8=some v:=hm
  unfold MG at hm
  refine .then (.rK ?_)
  replace hm:=Ae hm;obtain⟨h1,hm⟩:=hm
  refine .ghs (fr 15 [(0,(.map (some 0))),(3,pt 1 0),(6,zI z4),(7,(zB (AY z4 (5:Int))))]) (hp 2 [(.map e2 k3),(oC [zI z5,zI z6,zI z7,zI z8])]) (.k [0] [false] [.tmp 3 false] [0,3,6,7] ⟨BB h1,trivial⟩) ?_
  refine .then ?_
  replace hm:=Ag hm;rcases hm with⟨h2,hm⟩ | ⟨h2,hm⟩
  ·refine Cs (AY z4 (5:Int)) h2 ?_
   refine .skip (.ghs (fr 15 [(0,(.map (some 0))),(3,pt 1 0),(6,zI z4)]) (hp 2 [(.map e2 k3),(oC [zI z5,zI z6,zI z7,zI z8])]) (.k [0] [false] [.tmp 3 false] [0,3,6] ⟨BB h1,trivial⟩) ?_)
   refine .then (.block (.then (.rK (.ghs (fr 15 [(0,(.map (some 0))),(3,pt 1 0),(5,zI z4),(6,zI z4)]) (hp 2 [(.map e2 k3),(oC [zI z5,zI z6,zI z7,zI z8])]) (.k [0] [false] [.tmp 3 false] [0,3,5,6] ⟨BB h1,trivial⟩) ?_))))
   refine .then ?_
   replace hm:=Ae hm;obtain⟨h3,hm⟩:=hm
   replace hm:=Ab hm;obtain⟨v0,h4,hm⟩:=hm
   replace hm:=Ch hm;obtain⟨l0,rfl,hm⟩:=hm
   replace hm:=Ad hm;obtain⟨v1,l1536409_0,rfl,hm⟩:=hm
   replace hm:=Ad hm;obtain⟨v2,l1536409_1,rfl,hm⟩:=hm
   replace hm:=AC hm;obtain⟨rfl,hm⟩:=hm
   replace hm:=Be hm;obtain⟨b0,rfl,hm⟩:=hm
   replace hm:=Ab hm;obtain⟨y0,h5,hm⟩:=hm
   replace hm:=Ae hm;obtain⟨h6,hm⟩:=hm
   refine .reg (eC 3 (Fp tabs [[none],[none,none,none,none],[none]] 3 [.tmp 0 false] [false] (pu 10510) [(.map (some 0)),(.agg ⟨[zI z5,zI z6,zI z7,zI z8]⟩),zI z4] (hp 2 [(.map e2 k3),(oC [zI z5,zI z6,zI z7,zI z8])])) (FM (as:=[(.map (some 0)),(.agg ⟨[zI z5,zI z6,zI z7,zI z8]⟩),zI z4]) (H1:=(hp 2 [(.map e2 k3),(oC [zI z5,zI z6,zI z7,zI z8])])) (BO (Eb Dn) (BO (Jc (DT Dn (DT Dn (DT Dn (DT Dn Jb))))) (BO (Eb Dn) FX))) (FL (H2:=(hp 2 [(.map (Akd.es y0) (Akd.clock y0)),(oC [zI z5,zI z6,zI z7,zI z8])])) (v:=(zB b0)) (v':=(zB b0)) [some 0] [(false,some 0)] [(.map e2 k3)] [(.map (some 0)),(.agg ⟨[zI z5,zI z6,zI z7,zI z8]⟩),zI z4] [v2] [(.map (Akd.es y0) (Akd.clock y0))] [some 0,none] [(false,(.map (Akd.es y0) (Akd.clock y0)))] [(.map (Akd.es y0) (Akd.clock y0))] (by kernel_rfl) (C8 (Hy h3) BI) (Eq.trans (by kernel_rfl) h4) (C8 (FK h5) BI) (C8 (Hz h6) BI))) (eE)) ?_
   replace hm:=Ae hm;obtain⟨h7,hm⟩:=hm
   refine .ghs (fr 15 [(0,(.map (some 0))),(3,pt 1 0),(5,zI z4),(6,zI z4),(12,zB b0)]) (hp 2 [(.map (Akd.es y0) (Akd.clock y0)),(oC [zI z5,zI z6,zI z7,zI z8])]) (.k [0] [false] [.tmp 3 false] [0,3,5,6,12] ⟨BB h7,trivial⟩) ?_
   replace hm:=Ag hm;rcases hm with⟨h8,hm⟩ | ⟨h8,hm⟩
   ·refine .ifT b0 (by kernel_rfl) h8 ?_
    refine .then (.rK (.ghs (fr 15 [(4,zI z4)]) (hp 1 [(.map (Akd.es y0) (Akd.clock y0))]) (.k [0] [false] [] [4] ⟨BB h7,trivial⟩) ?_))
    refine .ghs (fr 15 [(4,zI z4)]) (hp 1 [(.map (Akd.es y0) (Akd.clock y0))]) (.k [0] [false] [] [4] ⟨BB h7,trivial⟩) ?_
    refine .ret ?_
    exact Eo (zI z4) [(.map (Akd.es y0) (Akd.clock y0))] (by kernel_rfl) hm (Nat.le_of_ble_eq_true rfl) (Dr (PP _ _) DL)
   ·refine .ifF b0 (by kernel_rfl) h8 ?_
    refine .skip (.ghs (fr 15 [(0,(.map (some 0))),(3,pt 1 0),(6,zI z4)]) (hp 2 [(.map (Akd.es y0) (Akd.clock y0)),(oC [zI z5,zI z6,zI z7,zI z8])]) (.k [0] [false] [.tmp 3 false] [0,3,6] ⟨BB h7,trivial⟩) ?_)
    refine .rK ?_
    exact⟨((Aj .i64 (Int.add z4 (1:Int))),(Akd.es y0),(Akd.clock y0),z5,z6,z7,z8),hm,(.k [0] [false] [.tmp 3 false] [0,3,6] ⟨BB h7,trivial⟩)⟩
  ·refine CY (AY z4 (5:Int)) h2 ?_
   refine .exit ?_
   exact⟨(e2,k3),hm,(.k [0] [false] [] [] ⟨BB h1,trivial⟩)⟩
theorem tQ {call:A8} (pu:Af) (n:Nat) (hcall:call=Bb tabs isP pu (inl pu)) {args:LV} {os:List AJ} {z:Value} (ha:args.length=2) (hk:os.length=1) (hpl:∀ o∈os,plainO o) (hm:MR pu n (args++os.map Ef)=some z):args.length≤15∧BN tt call (tabs.length+1) K9 (Fr.made 15 args) (BK tabs os) (FJ tt tabs.length 1 [.tmp 4] z):=by
 subst hcall
 have hq:=Bq ha;clear ha;obtain⟨a0,args,rfl,ha⟩:=hq
 have hq:=Bq ha;clear ha;obtain⟨a1,args,rfl,ha⟩:=hq
 obtain rfl:=len_nil ha
 have hq:=Bq hk;clear hk;obtain⟨b0,os,rfl,hk⟩:=hq
 have hp0:plainO b0:=hpl b0 (by simp)
 obtain rfl:=len_nil hk
 replace hm:MR pu n [a0,a1,Ef b0]=some z:=hm
 unfold MR at hm
 replace hm:(bb (O5 a0 0) (oo (Bt a1) none fun l0=>(ll l0 none fun v0 l0=>(ll l0 none fun v1 l0=>(ll l0 none fun v2 l0=>(ll l0 none fun v3 l0=>(ll l0 (oo (Bi .i64 v0) none fun x0=>(oo (Bi .i64 v1) none fun x1=>(oo (Bi .i64 v2) none fun x2=>(oo (Bi .i64 v3) none fun x3=>(oo (Fj (Ef b0)) none fun y0=>(KT pu n x0 x1 x2 x3 (Akd.es y0) (Akd.clock y0))))))) fun _ _=>none)))))) none)=some z:=hm
 replace hm:=Ae hm;obtain⟨h0,hm⟩:=hm
 obtain rfl:=KJ h0
 replace hm:=BG hm;obtain⟨l0,rfl,hm⟩:=hm
 replace hm:=Ad hm;obtain⟨v0,l1536424_0,rfl,hm⟩:=hm
 replace hm:=Ad hm;obtain⟨v1,l1536424_1,rfl,hm⟩:=hm
 replace hm:=Ad hm;obtain⟨v2,l1536424_2,rfl,hm⟩:=hm
 replace hm:=Ad hm;obtain⟨v3,l1536424_3,rfl,hm⟩:=hm
 replace hm:=AC hm;obtain⟨rfl,hm⟩:=hm
 replace hm:=Ai hm;obtain⟨x0,rfl,hm⟩:=hm
 replace hm:=Ai hm;obtain⟨x1,rfl,hm⟩:=hm
 replace hm:=Ai hm;obtain⟨x2,rfl,hm⟩:=hm
 replace hm:=Ai hm;obtain⟨x3,rfl,hm⟩:=hm
 replace hm:=Ab hm;obtain⟨y0,h1,hm⟩:=hm
 obtain rfl:=HY hp0 h1
 refine⟨by simp,?_⟩
 exact .same (F':=(fr 15 [(0,(.map (some 0))),(1,(.agg ⟨[zI x0,zI x1,zI x2,zI x3]⟩))])) (H':=(hp 1 [(.map (Akd.es y0) (Akd.clock y0))])) (by kernel_rfl) (by kernel_rfl) (tO pu n x0 x1 x2 x3 (Akd.es y0) (Akd.clock y0) hm)
def Je (pu:Af) (n:Nat) (z0:Int) (b0:Bool) (e0:List EO) (k1:Nat) (z1 z2 z3 z4:Int):OV:=
 (bb b0 (bb (Au F4 e0) (some (.tuple ⟨[(.bool false),(Ef (.map e0 k1))]⟩)) none) (bb (Au F4 e0) (oo (GD (.agg ⟨[.int .i64 z1,.int .i64 z2,.int .i64 z3,.int .i64 z4,.int .i64 z0]⟩) e0 0) none fun r0=>(oo (Bf (sP r0 (.bool false))) none fun b1=>(bb (isS r0) (some (.tuple ⟨[(.bool b1),(Ef (.map e0 k1))]⟩)) (bb (Au F4 e0) (oo (pu 10740 [(.map (some 0)),(.agg ⟨[.int .i64 z1,.int .i64 z2,.int .i64 z3,.int .i64 z4]⟩),.int .i64 z0,(Ef (.map e0 k1))]) none fun v0=>(oo (CQ v0) none fun l0=>(ll l0 none fun v1 l0=>(ll l0 none fun v2 l0=>(ll l0 (oo (Bf v1) none fun b2=>(oo (Fj v2) none fun y0=>(bb (Au F4 (Akd.es y0)) (bb (Au F4 (Akd.es y0)) (oo (GD (.agg ⟨[.int .i64 z1,.int .i64 z2,.int .i64 z3,.int .i64 z4,.int .i64 z0]⟩) (Akd.es y0) 0) none fun r1=>(bb (Au F4 (QB (.agg ⟨[.int .i64 z1,.int .i64 z2,.int .i64 z3,.int .i64 z4,.int .i64 z0]⟩) (.bool b2) (Akd.clock y0) (Akd.es y0) r1)) (some (.tuple ⟨[(.bool b2),(Ef (.map (QB (.agg ⟨[.int .i64 z1,.int .i64 z2,.int .i64 z3,.int .i64 z4,.int .i64 z0]⟩) (.bool b2) (Akd.clock y0) (Akd.es y0) r1) (RS (Akd.clock y0) r1)))]⟩)) none)) none) none))) fun _ _=>none))))) none)))) none))
def KU (pu:Af) (n:Nat) (z0 z1 z2 z3 z4:Int) (e0:List EO) (k1:Nat):OV:=
 (bb (Au F4 e0) (oo (pu 72 [(.agg ⟨[.int .i64 z0,.int .i64 z1,.int .i64 z2,.int .i64 z3]⟩)]) none fun v0=>(oo (Bi .i64 v0) none fun x0=>(bb (nt (AY (1:Int) x0)) (some (.tuple ⟨[(.bool true),(Ef (.map e0 k1))]⟩)) (bb (Bd z4 (0:Int)) (Je pu n z4 true e0 k1 z0 z1 z2 z3) (oo (pu 72 [(.agg ⟨[.int .i64 z0,.int .i64 z1,.int .i64 z2,.int .i64 z3]⟩)]) none fun v1=>(oo (Bi .i64 v1) none fun x1=>(oo (pu 73 [.int .i64 z4]) none fun v2=>(oo (Bi .i64 v2) none fun x2=>(Je pu n z4 (AY x2 x1) e0 k1 z0 z1 z2 z3))))))))) none)
def MU (pu:Af) (n:Nat) (args:LV):OV:=
 (ll args none fun a0 args=>(ll args none fun a1 args=>(ll args none fun a2 args=>(ll args none fun o0 args=>(ll args (bb (O5 a0 0) (oo (Bt a1) none fun l0=>(ll l0 none fun v0 l0=>(ll l0 none fun v1 l0=>(ll l0 none fun v2 l0=>(ll l0 none fun v3 l0=>(ll l0 (oo (Bi .i64 v0) none fun x0=>(oo (Bi .i64 v1) none fun x1=>(oo (Bi .i64 v2) none fun x2=>(oo (Bi .i64 v3) none fun x3=>(oo (Bi .i64 a2) none fun x4=>(oo (Fj o0) none fun y0=>(KU pu n x0 x1 x2 x3 x4 (Akd.es y0) (Akd.clock y0)))))))) fun _ _=>none)))))) none) fun _ _=>none)))))
theorem tT (pu:Af) (n:Nat) (z0 z1 z2 z3 z4:Int) (e0:List EO) (k1:Nat) {v:Value} (hm:KU pu n z0 z1 z2 z3 z4 e0 k1=some v):BN tt (Bb tabs isP pu (inl pu)) 1 LJ (fr 44 [(0,(.map (some 0))),(1,(.agg ⟨[zI z0,zI z1,zI z2,zI z3]⟩)),(2,zI z4)]) (hp 1 [(.map e0 k1)]) (FJ tt 0 1 [.tmp 6] v):=by
 unfold KU at hm
 refine .then (.rK ?_)
 replace hm:=Ae hm;obtain⟨h0,hm⟩:=hm
 refine .ghs (fr 44 [(0,(.map (some 0))),(2,zI z4),(4,pt 1 0)]) (hp 2 [(.map e0 k1),(oC [zI z0,zI z1,zI z2,zI z3])]) (.k [0] [false] [.tmp 4 false] [0,2,4] ⟨BB h0,trivial⟩) ?_
 refine .then (.block (.then ?_))
 replace hm:=Hw hm;obtain⟨x0,h1,hm⟩:=hm
 refine .reg (eC 1 ((oo (pu 72 [(.agg ⟨[zI z0,zI z1,zI z2,zI z3]⟩)]) none fun v=>some (v,(hp 2 [(.map e0 k1),(oC [zI z0,zI z1,zI z2,zI z3])])))) (AB h1) (eE)) ?_
 refine .ghs (fr 44 [(0,(.map (some 0))),(2,zI z4),(4,pt 1 0),(10,(zB (nt (AY (1:Int) x0))))]) (hp 2 [(.map e0 k1),(oC [zI z0,zI z1,zI z2,zI z3])]) (.k [0] [false] [.tmp 4 false] [0,2,4,10] ⟨BB h0,trivial⟩) ?_
 replace hm:=Ag hm;rcases hm with⟨h2,hm⟩ | ⟨h2,hm⟩
 ·refine Cs (nt (AY (1:Int) x0)) h2 ?_
  refine .then (.rK (.ghs (fr 44 [(6,zB true)]) (hp 1 [(.map e0 k1)]) (.k [0] [false] [] [6] ⟨BB h0,trivial⟩) ?_))
  refine .ghs (fr 44 [(6,zB true)]) (hp 1 [(.map e0 k1)]) (.k [0] [false] [] [6] ⟨BB h0,trivial⟩) ?_
  refine .ret ?_
  exact Eo (zB true) [(.map e0 k1)] (by kernel_rfl) hm (Nat.le_of_ble_eq_true rfl) (Dr (PP _ _) DL)
 ·refine CY (nt (AY (1:Int) x0)) h2 ?_
  refine .join (v:=v) (fun y:Int×Bool×List EO×Nat×Int×Int×Int×Int=>((fr 44 [(0,(.map (some 0))),(2,(zI y.1)),(4,pt 1 0),(14,(zB y.2.1))]),(hp 2 [(.map y.2.2.1 y.2.2.2.1),(oC [(zI y.2.2.2.2.1),(zI y.2.2.2.2.2.1),(zI y.2.2.2.2.2.2.1),(zI y.2.2.2.2.2.2.2)])]))) (fun y=>Je pu n y.1 y.2.1 y.2.2.1 y.2.2.2.1 y.2.2.2.2.1 y.2.2.2.2.2.1 y.2.2.2.2.2.2.1 y.2.2.2.2.2.2.2) ?_ ?_
  ·rintro⟨z5,b0,e1,k2,z6,z7,z8,z9⟩ hm
   unfold Je at hm
   replace hm:=Ag hm;rcases hm with⟨h3,hm⟩ | ⟨h3,hm⟩
   ·refine .ifT b0 (by kernel_rfl) h3 ?_
    refine .then (.rK ?_)
    replace hm:=Ae hm;obtain⟨h4,hm⟩:=hm
    refine .ghs (fr 44 [(6,zB false)]) (hp 1 [(.map e1 k2)]) (.k [0] [false] [] [6] ⟨BB h4,trivial⟩) ?_
    refine .ghs (fr 44 [(6,zB false)]) (hp 1 [(.map e1 k2)]) (.k [0] [false] [] [6] ⟨BB h4,trivial⟩) ?_
    refine .ret ?_
    exact Eo (zB false) [(.map e1 k2)] (by kernel_rfl) hm (Nat.le_of_ble_eq_true rfl) (Dr (PP _ _) DL)
   ·refine .ifF b0 (by kernel_rfl) h3 ?_
    refine .skip ?_
    replace hm:=Ae hm;obtain⟨h5,hm⟩:=hm
    refine .ghs (fr 44 [(0,(.map (some 0))),(2,zI z5),(4,pt 1 0)]) (hp 2 [(.map e1 k2),(oC [zI z6,zI z7,zI z8,zI z9])]) (.k [0] [false] [.tmp 4 false] [0,2,4] ⟨BB h5,trivial⟩) ?_
    refine .then (.then ?_)
    replace hm:=Ab hm;obtain⟨r0,h6,hm⟩:=hm
    replace hm:=Ab hm;obtain⟨b1,h7,hm⟩:=hm
    refine .reg (eC 4 (keep (hp 2 [(.map e1 k2),(oC [zI z6,zI z7,zI z8,zI z9])]) (oo (GD (.agg ⟨[zI z6,zI z7,zI z8,zI z9,zI z5]⟩) e1 0) none fun r=>oo r (okV true (zB false) false) fun p=>pp p fun _ v=>okV true v true)) (VL h6 (BV h7)) (eE)) ?_
    refine .ghs (fr 44 [(0,(.map (some 0))),(2,zI z5),(4,pt 1 0),(7,zB b1),(8,(zB (isS r0)))]) (hp 2 [(.map e1 k2),(oC [zI z6,zI z7,zI z8,zI z9])]) (.k [0] [false] [.tmp 4 false] [0,2,4,7,8] ⟨BB h5,trivial⟩) ?_
    refine .then (.rK (.ghs (fr 44 [(0,(.map (some 0))),(2,zI z5),(4,pt 1 0),(7,zB b1),(32,(zB (isS r0)))]) (hp 2 [(.map e1 k2),(oC [zI z6,zI z7,zI z8,zI z9])]) (.k [0] [false] [.tmp 4 false] [0,2,4,7,32] ⟨BB h5,trivial⟩) ?_))
    replace hm:=Ag hm;rcases hm with⟨h8,hm⟩ | ⟨h8,hm⟩
    ·refine Cs (isS r0) h8 ?_
     refine .then (.rK (.ghs (fr 44 [(6,zB b1)]) (hp 1 [(.map e1 k2)]) (.k [0] [false] [] [6] ⟨BB h5,trivial⟩) ?_))
     refine .ghs (fr 44 [(6,zB b1)]) (hp 1 [(.map e1 k2)]) (.k [0] [false] [] [6] ⟨BB h5,trivial⟩) ?_
     refine .ret ?_
     exact Eo (zB b1) [(.map e1 k2)] (by kernel_rfl) hm (Nat.le_of_ble_eq_true rfl) (Dr (PP _ _) DL)
    ·refine CY (isS r0) h8 ?_
     refine .skip (.ghs (fr 44 [(0,(.map (some 0))),(2,zI z5),(4,pt 1 0)]) (hp 2 [(.map e1 k2),(oC [zI z6,zI z7,zI z8,zI z9])]) (.k [0] [false] [.tmp 4 false] [0,2,4] ⟨BB h5,trivial⟩) ?_)
     refine .then ?_
     replace hm:=Ae hm;obtain⟨h9,hm⟩:=hm
     replace hm:=Ab hm;obtain⟨v0,h10,hm⟩:=hm
     replace hm:=Ch hm;obtain⟨l0,rfl,hm⟩:=hm
     replace hm:=Ad hm;obtain⟨v1,l1536228_0,rfl,hm⟩:=hm
     replace hm:=Ad hm;obtain⟨v2,l1536228_1,rfl,hm⟩:=hm
     replace hm:=AC hm;obtain⟨rfl,hm⟩:=hm
     replace hm:=Be hm;obtain⟨b2,rfl,hm⟩:=hm
     replace hm:=Ab hm;obtain⟨y0,h11,hm⟩:=hm
     replace hm:=Ae hm;obtain⟨h12,hm⟩:=hm
     refine .reg (eC 3 (Fp tabs [[none],[none,none,none,none],[none]] 3 [.tmp 0 false] [false] (pu 10740) [(.map (some 0)),(.agg ⟨[zI z6,zI z7,zI z8,zI z9]⟩),zI z5] (hp 2 [(.map e1 k2),(oC [zI z6,zI z7,zI z8,zI z9])])) (FM (as:=[(.map (some 0)),(.agg ⟨[zI z6,zI z7,zI z8,zI z9]⟩),zI z5]) (H1:=(hp 2 [(.map e1 k2),(oC [zI z6,zI z7,zI z8,zI z9])])) (BO (Eb Dn) (BO (Jc (DT Dn (DT Dn (DT Dn (DT Dn Jb))))) (BO (Eb Dn) FX))) (FL (H2:=(hp 2 [(.map (Akd.es y0) (Akd.clock y0)),(oC [zI z6,zI z7,zI z8,zI z9])])) (v:=(zB b2)) (v':=(zB b2)) [some 0] [(false,some 0)] [(.map e1 k2)] [(.map (some 0)),(.agg ⟨[zI z6,zI z7,zI z8,zI z9]⟩),zI z5] [v2] [(.map (Akd.es y0) (Akd.clock y0))] [some 0,none] [(false,(.map (Akd.es y0) (Akd.clock y0)))] [(.map (Akd.es y0) (Akd.clock y0))] (by kernel_rfl) (C8 (Hy h9) BI) (Eq.trans (by kernel_rfl) h10) (C8 (FK h11) BI) (C8 (Hz h12) BI))) (eE)) ?_
     replace hm:=Ae hm;obtain⟨h13,hm⟩:=hm
     refine .ghs (fr 44 [(0,(.map (some 0))),(2,zI z5),(4,pt 1 0),(9,zB b2)]) (hp 2 [(.map (Akd.es y0) (Akd.clock y0)),(oC [zI z6,zI z7,zI z8,zI z9])]) (.k [0] [false] [.tmp 4 false] [0,2,4,9] ⟨BB h13,trivial⟩) ?_
     refine .then ?_
     replace hm:=Ab hm;obtain⟨r1,h14,hm⟩:=hm
     refine .reg (eC 5 (done (oo (GD (.agg ⟨[zI z6,zI z7,zI z8,zI z9,zI z5]⟩) (Akd.es y0) 0) none fun r=>oo r (some (Aa.set (hp 2 [(.map (Akd.es y0) (Akd.clock y0)),(oC [zI z6,zI z7,zI z8,zI z9])]) 0 (.map (Br (Akd.es y0) [⟨(.agg ⟨[zI z6,zI z7,zI z8,zI z9,zI z5]⟩),zB b2,(Akd.clock y0)⟩]) ((Akd.clock y0)+1)))) fun p=>pp p fun j _=>some (Aa.set (hp 2 [(.map (Akd.es y0) (Akd.clock y0)),(oC [zI z6,zI z7,zI z8,zI z9])]) 0 (.map (SS (fun e=>⟨(.agg ⟨[zI z6,zI z7,zI z8,zI z9,zI z5]⟩),zB b2,e.born⟩) j (Akd.es y0)) (Akd.clock y0)))) undef) (sQ (H2:=(hp 2 [(.map (QB (.agg ⟨[zI z6,zI z7,zI z8,zI z9,zI z5]⟩) (zB b2) (Akd.clock y0) (Akd.es y0) r1) (RS (Akd.clock y0) r1)),(oC [zI z6,zI z7,zI z8,zI z9])])) h14) (eE)) ?_
     replace hm:=Ae hm;obtain⟨h15,hm⟩:=hm
     refine .ghs (fr 44 [(9,zB b2)]) (hp 1 [(.map (QB (.agg ⟨[zI z6,zI z7,zI z8,zI z9,zI z5]⟩) (zB b2) (Akd.clock y0) (Akd.es y0) r1) (RS (Akd.clock y0) r1))]) (.k [0] [false] [] [9] ⟨BB h15,trivial⟩) ?_
     refine .then (.rK (.ghs (fr 44 [(6,zB b2)]) (hp 1 [(.map (QB (.agg ⟨[zI z6,zI z7,zI z8,zI z9,zI z5]⟩) (zB b2) (Akd.clock y0) (Akd.es y0) r1) (RS (Akd.clock y0) r1))]) (.k [0] [false] [] [6] ⟨BB h15,trivial⟩) ?_))
     refine .ghs (fr 44 [(6,zB b2)]) (hp 1 [(.map (QB (.agg ⟨[zI z6,zI z7,zI z8,zI z9,zI z5]⟩) (zB b2) (Akd.clock y0) (Akd.es y0) r1) (RS (Akd.clock y0) r1))]) (.k [0] [false] [] [6] ⟨BB h15,trivial⟩) ?_
     refine .ret ?_
     exact Eo (zB b2) [(.map (QB (.agg ⟨[zI z6,zI z7,zI z8,zI z9,zI z5]⟩) (zB b2) (Akd.clock y0) (Akd.es y0) r1) (RS (Akd.clock y0) r1))] (by kernel_rfl) hm (Nat.le_of_ble_eq_true rfl) (Dr (PP _ _) DL)
  ·replace hm:=Ag hm;rcases hm with⟨h16,hm⟩ | ⟨h16,hm⟩
   ·refine .reg (eC 1 (some ((zB (Bd z4 (0:Int))),(hp 2 [(.map e0 k1),(oC [zI z0,zI z1,zI z2,zI z3])]))) (show _=some ((zB true),_) from (by rw[show (Bd z4 (0:Int))=true from h16])) (eE)) ?_
    exact⟨(z4,true,e0,k1,z0,z1,z2,z3),hm,(.k [0] [false] [.tmp 4 false] [0,2,4,14] ⟨BB h0,trivial⟩)⟩
   ·replace hm:=Hw hm;obtain⟨x1,h17,hm⟩:=hm
    replace hm:=Hw hm;obtain⟨x2,h18,hm⟩:=hm
    refine .reg (eC 1 (some ((zB (Bd z4 (0:Int))),(hp 2 [(.map e0 k1),(oC [zI z0,zI z1,zI z2,zI z3])]))) (show _=some ((zB false),_) from (by rw[show (Bd z4 (0:Int))=false from h16])) (eC 2 ((oo (pu 72 [(.agg ⟨[zI z0,zI z1,zI z2,zI z3]⟩)]) none fun v=>some (v,(hp 2 [(.map e0 k1),(oC [zI z0,zI z1,zI z2,zI z3])])))) (AB h17) (eC 1 ((oo (pu 73 [zI z4]) none fun v=>some (v,(hp 2 [(.map e0 k1),(oC [zI z0,zI z1,zI z2,zI z3])])))) (AB h18) (eE)))) ?_
    exact⟨(z4,(AY x2 x1),e0,k1,z0,z1,z2,z3),hm,(.k [0] [false] [.tmp 4 false] [0,2,4,14] ⟨BB h0,trivial⟩)⟩
theorem tV {call:A8} (pu:Af) (n:Nat) (hcall:call=Bb tabs isP pu (inl pu)) {args:LV} {os:List AJ} {z:Value} (ha:args.length=3) (hk:os.length=1) (hpl:∀ o∈os,plainO o) (hm:MU pu n (args++os.map Ef)=some z):args.length≤44∧BN tt call (tabs.length+1) LJ (Fr.made 44 args) (BK tabs os) (FJ tt tabs.length 1 [.tmp 6] z):=by
 subst hcall
 have hq:=Bq ha;clear ha;obtain⟨a0,args,rfl,ha⟩:=hq
 have hq:=Bq ha;clear ha;obtain⟨a1,args,rfl,ha⟩:=hq
 have hq:=Bq ha;clear ha;obtain⟨a2,args,rfl,ha⟩:=hq
 obtain rfl:=len_nil ha
 have hq:=Bq hk;clear hk;obtain⟨b0,os,rfl,hk⟩:=hq
 have hp0:plainO b0:=hpl b0 (by simp)
 obtain rfl:=len_nil hk
 replace hm:MU pu n [a0,a1,a2,Ef b0]=some z:=hm
 unfold MU at hm
 replace hm:(bb (O5 a0 0) (oo (Bt a1) none fun l0=>(ll l0 none fun v0 l0=>(ll l0 none fun v1 l0=>(ll l0 none fun v2 l0=>(ll l0 none fun v3 l0=>(ll l0 (oo (Bi .i64 v0) none fun x0=>(oo (Bi .i64 v1) none fun x1=>(oo (Bi .i64 v2) none fun x2=>(oo (Bi .i64 v3) none fun x3=>(oo (Bi .i64 a2) none fun x4=>(oo (Fj (Ef b0)) none fun y0=>(KU pu n x0 x1 x2 x3 x4 (Akd.es y0) (Akd.clock y0)))))))) fun _ _=>none)))))) none)=some z:=hm
 replace hm:=Ae hm;obtain⟨h0,hm⟩:=hm
 obtain rfl:=KJ h0
 replace hm:=BG hm;obtain⟨l0,rfl,hm⟩:=hm
 replace hm:=Ad hm;obtain⟨v0,l1536265_0,rfl,hm⟩:=hm
 replace hm:=Ad hm;obtain⟨v1,l1536265_1,rfl,hm⟩:=hm
 replace hm:=Ad hm;obtain⟨v2,l1536265_2,rfl,hm⟩:=hm
 replace hm:=Ad hm;obtain⟨v3,l1536265_3,rfl,hm⟩:=hm
 replace hm:=AC hm;obtain⟨rfl,hm⟩:=hm
 replace hm:=Ai hm;obtain⟨x0,rfl,hm⟩:=hm
 replace hm:=Ai hm;obtain⟨x1,rfl,hm⟩:=hm
 replace hm:=Ai hm;obtain⟨x2,rfl,hm⟩:=hm
 replace hm:=Ai hm;obtain⟨x3,rfl,hm⟩:=hm
 replace hm:=Ai hm;obtain⟨x4,rfl,hm⟩:=hm
 replace hm:=Ab hm;obtain⟨y0,h1,hm⟩:=hm
 obtain rfl:=HY hp0 h1
 refine⟨by simp,?_⟩
 exact .same (F':=(fr 44 [(0,(.map (some 0))),(1,(.agg ⟨[zI x0,zI x1,zI x2,zI x3]⟩)),(2,zI x4)])) (H':=(hp 1 [(.map (Akd.es y0) (Akd.clock y0))])) (by kernel_rfl) (by kernel_rfl) (tT pu n x0 x1 x2 x3 x4 (Akd.es y0) (Akd.clock y0) hm)
end
end Go.TpAM
