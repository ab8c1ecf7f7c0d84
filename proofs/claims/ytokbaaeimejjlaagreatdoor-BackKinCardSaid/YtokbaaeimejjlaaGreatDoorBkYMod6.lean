/- Made from wip. -/
import Derived.Test.YtokbaaeimejjlaaGreatDoorBkYMod0x

set_option maxRecDepth 100000
set_option maxHeartbeats 20000000
set_option linter.unusedVariables false
namespace Go.BkYM
open Go.Sp Go.BkY
noncomputable section

def Ags (pu:Af) (n:Nat) (x0 x1 x2 x3 x4:Int):OV:=
 (bb (Bd x2 (1:Int)) (some (.tuple ⟨[(.int .i64 (Aj .i64 (Int.sub (Aj .i64 (Int.sub x0 (1:Int))) x4))),.int .i64 x3]⟩)) (bb (Bd x2 (2:Int)) (some (.tuple ⟨[(.int .i64 (Aj .i64 (Int.sub (Aj .i64 (Int.sub x0 (1:Int))) x3))),(.int .i64 (Aj .i64 (Int.sub (Aj .i64 (Int.sub x1 (1:Int))) x4)))]⟩)) (bb (Bd x2 (3:Int)) (some (.tuple ⟨[.int .i64 x4,(.int .i64 (Aj .i64 (Int.sub (Aj .i64 (Int.sub x1 (1:Int))) x3)))]⟩)) (bb (Bd x2 (4:Int)) (some (.tuple ⟨[.int .i64 x3,(.int .i64 (Aj .i64 (Int.sub (Aj .i64 (Int.sub x1 (1:Int))) x4)))]⟩)) (bb (Bd x2 (5:Int)) (some (.tuple ⟨[(.int .i64 (Aj .i64 (Int.sub (Aj .i64 (Int.sub x0 (1:Int))) x3))),.int .i64 x4]⟩)) (bb (Bd x2 (6:Int)) (some (.tuple ⟨[.int .i64 x4,.int .i64 x3]⟩)) (bb (Bd x2 (7:Int)) (some (.tuple ⟨[(.int .i64 (Aj .i64 (Int.sub (Aj .i64 (Int.sub x0 (1:Int))) x4))),(.int .i64 (Aj .i64 (Int.sub (Aj .i64 (Int.sub x1 (1:Int))) x3)))]⟩)) (some (.tuple ⟨[.int .i64 x3,.int .i64 x4]⟩)))))))))
def m93 (pu:Af) (n:Nat) (args:LV):OV:=
 (ll args none fun a0 args=>(ll args none fun a1 args=>(ll args none fun a2 args=>(ll args none fun a3 args=>(ll args none fun a4 args=>(ll args (oo (Bi .i64 a0) none fun x0=>(oo (Bi .i64 a1) none fun x1=>(oo (Bi .i64 a2) none fun x2=>(oo (Bi .i64 a3) none fun x3=>(oo (Bi .i64 a4) none fun x4=>(Ags pu n x0 x1 x2 x3 x4)))))) fun _ _=>none))))))
theorem r93 {call:A8} (pu:Af) (n:Nat) (hcall:call = Bb tabs isP pu (inl pu)) {args:LV} {v:Value} (hm:m93 pu n args = some v) (_:∀ x ∈ args,closed2 x = true):args.length≤67∧BN tt call 1 Sq (Fr.made 67 args) (Ao tabs) (Fin tt 1 [.tmp 10,.tmp 11] v):=by
 subst hcall
 unfold m93 at hm
 replace hm:=Ad hm;obtain ⟨a0,args_0,rfl,hm⟩:=hm
 replace hm:=Ad hm;obtain ⟨a1,args_1,rfl,hm⟩:=hm
 replace hm:=Ad hm;obtain ⟨a2,args_2,rfl,hm⟩:=hm
 replace hm:=Ad hm;obtain ⟨a3,args_3,rfl,hm⟩:=hm
 replace hm:=Ad hm;obtain ⟨a4,args_4,rfl,hm⟩:=hm
 replace hm:=AC hm;obtain ⟨rfl,hm⟩:=hm
 replace hm:=Ai hm;obtain ⟨x0,rfl,hm⟩:=hm
 replace hm:=Ai hm;obtain ⟨x1,rfl,hm⟩:=hm
 replace hm:=Ai hm;obtain ⟨x2,rfl,hm⟩:=hm
 replace hm:=Ai hm;obtain ⟨x3,rfl,hm⟩:=hm
 replace hm:=Ai hm;obtain ⟨x4,rfl,hm⟩:=hm
 unfold Ags at hm
 refine ⟨by simp,?_⟩
 refine .same (F':=(fr 67 [(0,zI x0),(1,zI x1),(2,zI x2),(3,zI x3),(4,zI x4)])) (H':=Ap) (by kernel_rfl) (by kernel_rfl) ?_
 refine .then (.rK (.ghs (fr 67 [(0,zI x0),(1,zI x1),(2,zI x2),(3,zI x3),(4,zI x4)]) Ap (.k0 [false] [] [0,1,2,3,4]) ?_))
 refine .then (.then (.rK (.ghs (fr 67 [(0,zI x0),(1,zI x1),(3,zI x3),(4,zI x4),(12,zI x2)]) Ap (.k0 [false] [] [0,1,3,4,12]) ?_)))
 refine .block (.then (.rK (.ghs (fr 67 [(0,zI x0),(1,zI x1),(3,zI x3),(4,zI x4),(12,zI x2),(13,(zB (Bd x2 (1:Int))))]) Ap (.k0 [false] [] [0,1,3,4,12,13]) ?_)))
 replace hm:=Ag hm;rcases hm with ⟨h0,hm⟩ | ⟨h0,hm⟩
 ·refine Bp (Bd x2 (1 : Int)) h0 ?_
  refine .then (.rK (.ghs (fr 67 [(10,(zI (Aj .i64 (Int.sub (Aj .i64 (Int.sub x0 (1:Int))) x4)))),(11,zI x3)]) Ap (.k0 [false] [] [10,11]) ?_))
  refine .ret ?_
  exact Ay (.tuple ⟨[(zI (Aj .i64 (Int.sub (Aj .i64 (Int.sub x0 (1:Int))) x4))),zI x3]⟩) hm
 ·refine Bq (Bd x2 (1 : Int)) h0 ?_
  refine .then (.rK (.ghs (fr 67 [(0,zI x0),(1,zI x1),(3,zI x3),(4,zI x4),(12,zI x2),(20,(zB (Bd x2 (2:Int))))]) Ap (.k0 [false] [] [0,1,3,4,12,20]) ?_))
  replace hm:=Ag hm;rcases hm with ⟨h1,hm⟩ | ⟨h1,hm⟩
  ·refine Bp (Bd x2 (2 : Int)) h1 ?_
   refine .then (.rK (.ghs (fr 67 [(10,(zI (Aj .i64 (Int.sub (Aj .i64 (Int.sub x0 (1:Int))) x3)))),(11,(zI (Aj .i64 (Int.sub (Aj .i64 (Int.sub x1 (1:Int))) x4))))]) Ap (.k0 [false] [] [10,11]) ?_))
   refine .ret ?_
   exact Ay (.tuple ⟨[(zI (Aj .i64 (Int.sub (Aj .i64 (Int.sub x0 (1:Int))) x3))),(zI (Aj .i64 (Int.sub (Aj .i64 (Int.sub x1 (1:Int))) x4)))]⟩) hm
  ·refine Bq (Bd x2 (2 : Int)) h1 ?_
   refine .then (.rK (.ghs (fr 67 [(0,zI x0),(1,zI x1),(3,zI x3),(4,zI x4),(12,zI x2),(30,(zB (Bd x2 (3:Int))))]) Ap (.k0 [false] [] [0,1,3,4,12,30]) ?_))
   replace hm:=Ag hm;rcases hm with ⟨h2,hm⟩ | ⟨h2,hm⟩
   ·refine Bp (Bd x2 (3 : Int)) h2 ?_
    refine .then (.rK (.ghs (fr 67 [(10,zI x4),(11,(zI (Aj .i64 (Int.sub (Aj .i64 (Int.sub x1 (1:Int))) x3))))]) Ap (.k0 [false] [] [10,11]) ?_))
    refine .ret ?_
    exact Ay (.tuple ⟨[zI x4,(zI (Aj .i64 (Int.sub (Aj .i64 (Int.sub x1 (1:Int))) x3)))]⟩) hm
   ·refine Bq (Bd x2 (3 : Int)) h2 ?_
    refine .then (.rK (.ghs (fr 67 [(0,zI x0),(1,zI x1),(3,zI x3),(4,zI x4),(12,zI x2),(37,(zB (Bd x2 (4:Int))))]) Ap (.k0 [false] [] [0,1,3,4,12,37]) ?_))
    replace hm:=Ag hm;rcases hm with ⟨h3,hm⟩ | ⟨h3,hm⟩
    ·refine Bp (Bd x2 (4 : Int)) h3 ?_
     refine .then (.rK (.ghs (fr 67 [(10,zI x3),(11,(zI (Aj .i64 (Int.sub (Aj .i64 (Int.sub x1 (1:Int))) x4))))]) Ap (.k0 [false] [] [10,11]) ?_))
     refine .ret ?_
     exact Ay (.tuple ⟨[zI x3,(zI (Aj .i64 (Int.sub (Aj .i64 (Int.sub x1 (1:Int))) x4)))]⟩) hm
    ·refine Bq (Bd x2 (4 : Int)) h3 ?_
     refine .then (.rK (.ghs (fr 67 [(0,zI x0),(1,zI x1),(3,zI x3),(4,zI x4),(12,zI x2),(44,(zB (Bd x2 (5:Int))))]) Ap (.k0 [false] [] [0,1,3,4,12,44]) ?_))
     replace hm:=Ag hm;rcases hm with ⟨h4,hm⟩ | ⟨h4,hm⟩
     ·refine Bp (Bd x2 (5 : Int)) h4 ?_
      refine .then (.rK (.ghs (fr 67 [(10,(zI (Aj .i64 (Int.sub (Aj .i64 (Int.sub x0 (1:Int))) x3)))),(11,zI x4)]) Ap (.k0 [false] [] [10,11]) ?_))
      refine .ret ?_
      exact Ay (.tuple ⟨[(zI (Aj .i64 (Int.sub (Aj .i64 (Int.sub x0 (1:Int))) x3))),zI x4]⟩) hm
     ·refine Bq (Bd x2 (5 : Int)) h4 ?_
      refine .then (.rK (.ghs (fr 67 [(0,zI x0),(1,zI x1),(3,zI x3),(4,zI x4),(12,zI x2),(51,(zB (Bd x2 (6:Int))))]) Ap (.k0 [false] [] [0,1,3,4,12,51]) ?_))
      replace hm:=Ag hm;rcases hm with ⟨h5,hm⟩ | ⟨h5,hm⟩
      ·refine Bp (Bd x2 (6 : Int)) h5 ?_
       refine .then (.rK (.ghs (fr 67 [(10,zI x4),(11,zI x3)]) Ap (.k0 [false] [] [10,11]) ?_))
       refine .ret ?_
       exact Ay (.tuple ⟨[zI x4,zI x3]⟩) hm
      ·refine Bq (Bd x2 (6 : Int)) h5 ?_
       refine .then (.rK (.ghs (fr 67 [(0,zI x0),(1,zI x1),(3,zI x3),(4,zI x4),(55,(zB (Bd x2 (7:Int))))]) Ap (.k0 [false] [] [0,1,3,4,55]) ?_))
       replace hm:=Ag hm;rcases hm with ⟨h6,hm⟩ | ⟨h6,hm⟩
       ·refine Bp (Bd x2 (7 : Int)) h6 ?_
        refine .then (.rK (.ghs (fr 67 [(10,(zI (Aj .i64 (Int.sub (Aj .i64 (Int.sub x0 (1:Int))) x4)))),(11,(zI (Aj .i64 (Int.sub (Aj .i64 (Int.sub x1 (1:Int))) x3))))]) Ap (.k0 [false] [] [10,11]) ?_))
        refine .ret ?_
        exact Ay (.tuple ⟨[(zI (Aj .i64 (Int.sub (Aj .i64 (Int.sub x0 (1:Int))) x4))),(zI (Aj .i64 (Int.sub (Aj .i64 (Int.sub x1 (1:Int))) x3)))]⟩) hm
       ·refine Bq (Bd x2 (7 : Int)) h6 ?_
        refine .skip (.ghs (fr 67 [(3,zI x3),(4,zI x4)]) Ap (.k0 [false] [] [3,4]) ?_)
        refine .then (.rK (.ghs (fr 67 [(10,zI x3),(11,zI x4)]) Ap (.k0 [false] [] [10,11]) ?_))
        refine .ret ?_
        exact Ay (.tuple ⟨[zI x3,zI x4]⟩) hm

def Agt (pu:Af) (n:Nat) (x0:Int):OV:=
 (oo (pu 111 [.int .u64 x0]) none fun v0=>(oo (Bi .i64 v0) none fun x1=>(some (.int .i64 x1))))
def m95 (pu:Af) (n:Nat) (args:LV):OV:=
 (ll args none fun a0 args=>(ll args (oo (Bi .u64 a0) none fun x0=>(Agt pu n x0)) fun _ _=>none))
theorem r95 {call:A8} (pu:Af) (n:Nat) (hcall:call = Bb tabs isP pu (inl pu)) {args:LV} {v:Value} (hm:m95 pu n args = some v) (_:∀ x ∈ args,closed2 x = true):args.length≤8∧BN tt call 1 XO (Fr.made 8 args) (Ao tabs) (Fin tt 1 [.tmp 2] v):=by
 subst hcall
 unfold m95 at hm
 replace hm:=Ad hm;obtain ⟨a0,args_0,rfl,hm⟩:=hm
 replace hm:=AC hm;obtain ⟨rfl,hm⟩:=hm
 replace hm:=Ai hm;obtain ⟨x0,rfl,hm⟩:=hm
 unfold Agt at hm
 refine ⟨by simp,?_⟩
 refine .same (F':=(fr 8 [(0,(zU x0))])) (H':=Ap) (by kernel_rfl) (by kernel_rfl) ?_
 refine .then (.rK (.ghs (fr 8 [(0,(zU x0))]) Ap (.k0 [false] [] [0]) ?_))
 refine .then (.condF (by kernel_rfl) ?_)
 refine .skip (.ghs (fr 8 [(0,(zU x0))]) Ap (.k0 [false] [] [0]) ?_)
 refine .then ?_
 replace hm:=oI hm;obtain ⟨x1,h0,hm⟩:=hm
 refine .reg (eC 1 ((oo (pu 111 [(zU x0)]) none fun v=>some (v,Ap))) (AB h0) (eE)) ?_
 refine .ghs (fr 8 [(2,zI x1)]) Ap (.k0 [false] [] [2]) ?_
 refine .ret ?_
 exact Ay (zI x1) hm

def nM (pu:Af) (n:Nat) (x0:Int):OV:=
 (some (.bool (nt (Bd x0 x0))))
def eX (pu:Af) (n:Nat) (args:LV):OV:=
 (ll args none fun a0 args=>(ll args (oo (Bi .i64 a0) none fun x0=>(nM pu n x0)) fun _ _=>none))
theorem Ajk {call:A8} (pu:Af) (n:Nat) (hcall:call = Bb tabs isP pu (inl pu)) {args:LV} {v:Value} (hm:eX pu n args = some v) (_:∀ x ∈ args,closed2 x = true):args.length≤6∧BN tt call 1 Sr (Fr.made 6 args) (Ao tabs) (Fin tt 1 [.tmp 2] v):=by
 subst hcall
 unfold eX at hm
 replace hm:=Ad hm;obtain ⟨a0,args_0,rfl,hm⟩:=hm
 replace hm:=AC hm;obtain ⟨rfl,hm⟩:=hm
 replace hm:=Ai hm;obtain ⟨x0,rfl,hm⟩:=hm
 unfold nM at hm
 refine ⟨by simp,?_⟩
 refine .same (F':=(fr 6 [(0,zI x0)])) (H':=Ap) (by kernel_rfl) (by kernel_rfl) ?_
 refine .then (.rK (.ghs (fr 6 [(0,zI x0)]) Ap (.k0 [false] [] [0]) ?_))
 refine .then (.rK (.ghs (fr 6 [(2,(zB (nt (Bd x0 x0))))]) Ap (.k0 [false] [] [2]) ?_))
 refine .ret ?_
 exact Ay (zB (nt (Bd x0 x0))) hm
def OX (pu:Af) (n:Nat) (z0 z1:Int):OV:=
 (oo (EA (Aj .u8 z0)) none fun k1=>(oo (lL[k1]?) none fun c0=>(some (.int .i64 (Aj .i64 (Int.add z1 (Aj .i64 (Int.ofNat (UInt8.toNat c0)))))))))
def OY (pu:Af) (n:Nat) (z0 z1:Int):OV:=
 (bb (nt (AY z0 (256:Int))) (OX pu n (G6 .u32 z0 8) (Aj .i64 (Int.add z1 (8:Int)))) (OX pu n z0 z1))
def nN (pu:Af) (n:Nat) (x0:Int):OV:=
 (bb (nt (AY x0 (65536:Int))) (OY pu n (G6 .u32 x0 16) (16:Int)) (OY pu n x0 (0:Int)))
def lM (pu:Af) (n:Nat) (args:LV):OV:=
 (ll args none fun a0 args=>(ll args (oo (Bi .u32 a0) none fun x0=>(nN pu n x0)) fun _ _=>none))
theorem Aa3 (pu:Af) (n:Nat) (z0 z1:Int) {v:Value} (hm:OX pu n z0 z1 = some v):BN tt (Bb tabs isP pu (inl pu)) 1 XP (fr 19 [(0,.int .u32 z0),(2,zI z1)]) Ap (Fin tt 1 [.tmp 2] v):=by
 unfold OX at hm
 refine .then ?_
 replace hm:=Ab hm;obtain ⟨k1,h0,hm⟩:=hm
 replace hm:=Ab hm;obtain ⟨c0,h1,hm⟩:=hm
 refine .reg (eC 2 (some ((zY (Aj .u8 z0)),Ap)) (show _ = some ((zY (Int.ofNat k1)),_) from (by rw [AR h0])) (eD (keep Ap (oo (lL[k1]?) none fun b=>iv .u8 (.ofNat b.toNat))) (nE h1) (eE))) ?_
 refine .ghs (fr 19 [(2,(zI (Aj .i64 (Int.add z1 (Aj .i64 (Int.ofNat (UInt8.toNat c0)))))))]) Ap (.k0 [false] [] [2]) ?_
 refine .ret ?_
 exact Ay (zI (Aj .i64 (Int.add z1 (Aj .i64 (Int.ofNat (UInt8.toNat c0)))))) hm
theorem Aa4 (pu:Af) (n:Nat) (z0 z1:Int) {v:Value} (hm:OY pu n z0 z1 = some v):BN tt (Bb tabs isP pu (inl pu)) 1 XQ (fr 19 [(0,.int .u32 z0),(2,zI z1)]) Ap (Fin tt 1 [.tmp 2] v):=by
 unfold OY at hm
 refine .join (v:=v) (fun y:Int×Int=>((fr 19 [(0,(.int .u32 y.1)),(2,(zI y.2))]),Ap)) (fun y=>OX pu n y.1 y.2) ?_ ?_
 ·rintro ⟨z2, z3⟩ hm
  exact Aa3 pu n z2 z3 hm
 ·refine .then (.rK (.ghs (fr 19 [(0, .int .u32 z0), (2, zI z1), (8, (zB (nt (AY z0 (256 : Int)))))]) Ap (.k0 [false] [] [0, 2, 8]) ?_))
  replace hm:=Ag hm;rcases hm with ⟨h0,hm⟩ | ⟨h0,hm⟩
  ·refine Bp (nt (AY z0 (256 : Int))) h0 ?_
   refine .then (.rK (.ghs (fr 19 [(0,(.int .u32 (G6 .u32 z0 8))),(2,zI z1)]) Ap (.k0 [false] [] [0,2]) ?_))
   refine .rK ?_
   exact ⟨((G6 .u32 z0 8),(Aj .i64 (Int.add z1 (8:Int)))),hm,(.k0 [false] [] [0,2])⟩
  ·refine Bq (nt (AY z0 (256 : Int))) h0 ?_
   refine .skip ?_
   exact ⟨(z0,z1),hm,(.k0 [false] [] [0,2])⟩
theorem Ajl {call:A8} (pu:Af) (n:Nat) (hcall:call = Bb tabs isP pu (inl pu)) {args:LV} {v:Value} (hm:lM pu n args = some v) (_:∀ x ∈ args,closed2 x = true):args.length≤19∧BN tt call 1 M8 (Fr.made 19 args) (Ao tabs) (Fin tt 1 [.tmp 2] v):=by
 subst hcall
 unfold lM at hm
 replace hm:=Ad hm;obtain ⟨a0,args_0,rfl,hm⟩:=hm
 replace hm:=AC hm;obtain ⟨rfl,hm⟩:=hm
 replace hm:=Ai hm;obtain ⟨x0,rfl,hm⟩:=hm
 unfold nN at hm
 refine ⟨by simp,?_⟩
 refine .same (F':=(fr 19 [(0,.int .u32 x0)])) (H':=Ap) (by kernel_rfl) (by kernel_rfl) ?_
 refine .then (.rK (.ghs (fr 19 [(0,.int .u32 x0),(2,(zI (0:Int)))]) Ap (.k0 [false] [] [0,2]) ?_))
 refine .join (v:=v) (fun y:Int×Int=>((fr 19 [(0,(.int .u32 y.1)),(2,(zI y.2))]),Ap)) (fun y=>OY pu n y.1 y.2) ?_ ?_
 ·rintro ⟨z0, z1⟩ hm
  exact Aa4 pu n z0 z1 hm
 ·refine .then (.rK (.ghs (fr 19 [(0, .int .u32 x0), (2, (zI (0 : Int))), (4, (zB (nt (AY x0 (65536 : Int)))))]) Ap (.k0 [false] [] [0, 2, 4]) ?_))
  replace hm:=Ag hm;rcases hm with ⟨h0,hm⟩ | ⟨h0,hm⟩
  ·refine Bp (nt (AY x0 (65536 : Int))) h0 ?_
   refine .then (.rK (.ghs (fr 19 [(0,(.int .u32 (G6 .u32 x0 16)))]) Ap (.k0 [false] [] [0]) ?_))
   refine .rK ?_
   exact ⟨((G6 .u32 x0 16),(16:Int)),hm,(.k0 [false] [] [0,2])⟩
  ·refine Bq (nt (AY x0 (65536 : Int))) h0 ?_
   refine .skip ?_
   exact ⟨(x0,(0:Int)),hm,(.k0 [false] [] [0,2])⟩
def OZ (pu:Af) (n:Nat) (z0 z1:Int):OV:=
 (oo (EA (Aj .u8 z0)) none fun k1=>(oo (lL[k1]?) none fun c0=>(some (.int .i64 (Aj .i64 (Int.add z1 (Aj .i64 (Int.ofNat (UInt8.toNat c0)))))))))
def O0 (pu:Af) (n:Nat) (z0 z1:Int):OV:=
 (bb (nt (AY z0 (256:Int))) (OZ pu n (G6 .u64 z0 8) (Aj .i64 (Int.add z1 (8:Int)))) (OZ pu n z0 z1))
def O1 (pu:Af) (n:Nat) (z0 z1:Int):OV:=
 (bb (nt (AY z0 (65536:Int))) (O0 pu n (G6 .u64 z0 16) (Aj .i64 (Int.add z1 (16:Int)))) (O0 pu n z0 z1))
def nO (pu:Af) (n:Nat) (x0:Int):OV:=
 (bb (nt (AY x0 (4294967296:Int))) (O1 pu n (G6 .u64 x0 32) (32:Int)) (O1 pu n x0 (0:Int)))
def lN (pu:Af) (n:Nat) (args:LV):OV:=
 (ll args none fun a0 args=>(ll args (oo (Bi .u64 a0) none fun x0=>(nO pu n x0)) fun _ _=>none))
theorem Aa5 (pu:Af) (n:Nat) (z0 z1:Int) {v:Value} (hm:OZ pu n z0 z1 = some v):BN tt (Bb tabs isP pu (inl pu)) 1 XR (fr 25 [(0,(zU z0)),(2,zI z1)]) Ap (Fin tt 1 [.tmp 2] v):=by
 unfold OZ at hm
 refine .then ?_
 replace hm:=Ab hm;obtain ⟨k1,h0,hm⟩:=hm
 replace hm:=Ab hm;obtain ⟨c0,h1,hm⟩:=hm
 refine .reg (eC 2 (some ((zY (Aj .u8 z0)),Ap)) (show _ = some ((zY (Int.ofNat k1)),_) from (by rw [AR h0])) (eD (keep Ap (oo (lL[k1]?) none fun b=>iv .u8 (.ofNat b.toNat))) (nE h1) (eE))) ?_
 refine .ghs (fr 25 [(2,(zI (Aj .i64 (Int.add z1 (Aj .i64 (Int.ofNat (UInt8.toNat c0)))))))]) Ap (.k0 [false] [] [2]) ?_
 refine .ret ?_
 exact Ay (zI (Aj .i64 (Int.add z1 (Aj .i64 (Int.ofNat (UInt8.toNat c0)))))) hm
theorem Aa6 (pu:Af) (n:Nat) (z0 z1:Int) {v:Value} (hm:O0 pu n z0 z1 = some v):BN tt (Bb tabs isP pu (inl pu)) 1 XT (fr 25 [(0,(zU z0)),(2,zI z1)]) Ap (Fin tt 1 [.tmp 2] v):=by
 unfold O0 at hm
 refine .join (v:=v) (fun y:Int×Int=>((fr 25 [(0,(zU y.1)),(2,(zI y.2))]),Ap)) (fun y=>OZ pu n y.1 y.2) ?_ ?_
 ·rintro ⟨z2, z3⟩ hm
  exact Aa5 pu n z2 z3 hm
 ·refine .then (.rK (.ghs (fr 25 [(0, (zU z0)), (2, zI z1), (14, (zB (nt (AY z0 (256 : Int)))))]) Ap (.k0 [false] [] [0, 2, 14]) ?_))
  replace hm:=Ag hm;rcases hm with ⟨h0,hm⟩ | ⟨h0,hm⟩
  ·refine Bp (nt (AY z0 (256 : Int))) h0 ?_
   refine .then (.rK (.ghs (fr 25 [(0,(zU (G6 .u64 z0 8))),(2,zI z1)]) Ap (.k0 [false] [] [0,2]) ?_))
   refine .rK ?_
   exact ⟨((G6 .u64 z0 8),(Aj .i64 (Int.add z1 (8:Int)))),hm,(.k0 [false] [] [0,2])⟩
  ·refine Bq (nt (AY z0 (256 : Int))) h0 ?_
   refine .skip ?_
   exact ⟨(z0,z1),hm,(.k0 [false] [] [0,2])⟩
theorem Aa7 (pu:Af) (n:Nat) (z0 z1:Int) {v:Value} (hm:O1 pu n z0 z1 = some v):BN tt (Bb tabs isP pu (inl pu)) 1 XU (fr 25 [(0,(zU z0)),(2,zI z1)]) Ap (Fin tt 1 [.tmp 2] v):=by
 unfold O1 at hm
 refine .join (v:=v) (fun y:Int×Int=>((fr 25 [(0,(zU y.1)),(2,(zI y.2))]),Ap)) (fun y=>O0 pu n y.1 y.2) ?_ ?_
 ·rintro ⟨z2, z3⟩ hm
  exact Aa6 pu n z2 z3 hm
 ·refine .then (.rK (.ghs (fr 25 [(0, (zU z0)), (2, zI z1), (8, (zB (nt (AY z0 (65536 : Int)))))]) Ap (.k0 [false] [] [0, 2, 8]) ?_))
  replace hm:=Ag hm;rcases hm with ⟨h0,hm⟩ | ⟨h0,hm⟩
  ·refine Bp (nt (AY z0 (65536 : Int))) h0 ?_
   refine .then (.rK (.ghs (fr 25 [(0,(zU (G6 .u64 z0 16))),(2,zI z1)]) Ap (.k0 [false] [] [0,2]) ?_))
   refine .rK ?_
   exact ⟨((G6 .u64 z0 16),(Aj .i64 (Int.add z1 (16:Int)))),hm,(.k0 [false] [] [0,2])⟩
  ·refine Bq (nt (AY z0 (65536 : Int))) h0 ?_
   refine .skip ?_
   exact ⟨(z0,z1),hm,(.k0 [false] [] [0,2])⟩
theorem Ajm {call:A8} (pu:Af) (n:Nat) (hcall:call = Bb tabs isP pu (inl pu)) {args:LV} {v:Value} (hm:lN pu n args = some v) (_:∀ x ∈ args,closed2 x = true):args.length≤25∧BN tt call 1 M9 (Fr.made 25 args) (Ao tabs) (Fin tt 1 [.tmp 2] v):=by
 subst hcall
 unfold lN at hm
 replace hm:=Ad hm;obtain ⟨a0,args_0,rfl,hm⟩:=hm
 replace hm:=AC hm;obtain ⟨rfl,hm⟩:=hm
 replace hm:=Ai hm;obtain ⟨x0,rfl,hm⟩:=hm
 unfold nO at hm
 refine ⟨by simp,?_⟩
 refine .same (F':=(fr 25 [(0,(zU x0))])) (H':=Ap) (by kernel_rfl) (by kernel_rfl) ?_
 refine .then (.rK (.ghs (fr 25 [(0,(zU x0)),(2,(zI (0:Int)))]) Ap (.k0 [false] [] [0,2]) ?_))
 refine .join (v:=v) (fun y:Int×Int=>((fr 25 [(0,(zU y.1)),(2,(zI y.2))]),Ap)) (fun y=>O1 pu n y.1 y.2) ?_ ?_
 ·rintro ⟨z0, z1⟩ hm
  exact Aa7 pu n z0 z1 hm
 ·refine .then (.rK (.ghs (fr 25 [(0, (zU x0)), (2, (zI (0 : Int))), (4, (zB (nt (AY x0 (4294967296 : Int)))))]) Ap (.k0 [false] [] [0, 2, 4]) ?_))
  replace hm:=Ag hm;rcases hm with ⟨h0,hm⟩ | ⟨h0,hm⟩
  ·refine Bp (nt (AY x0 (4294967296 : Int))) h0 ?_
   refine .then (.rK (.ghs (fr 25 [(0,(zU (G6 .u64 x0 32)))]) Ap (.k0 [false] [] [0]) ?_))
   refine .rK ?_
   exact ⟨((G6 .u64 x0 32),(32:Int)),hm,(.k0 [false] [] [0,2])⟩
  ·refine Bq (nt (AY x0 (4294967296 : Int))) h0 ?_
   refine .skip ?_
   exact ⟨(x0,(0:Int)),hm,(.k0 [false] [] [0,2])⟩
def Hy (pu:Af) (n:Nat) (jK:Bool):OV:=
 (some (.tuple ⟨[(.bool jK)]⟩))
def Nc (pu:Af) (n:Nat) (z17 z18 z19:Int) (s20 s21 s22:Sl):OV:=
 (bb (AY (30:Int) (Int.ofNat (Sl.n s20))) (Hy pu n true) (bb (AY (60:Int) (Int.ofNat (Sl.n s21))) (Hy pu n true) (Hy pu n (AY (60:Int) (Int.ofNat (Sl.n s22))))))
def LJ (pu:Af) (n:Nat) (args:LV):OV:=
 (ll args none fun a0 args=>(ll args none fun a1 args=>(ll args none fun a2 args=>(ll args (oo (Bt a0) none fun l37=>(ll l37 none fun v39 l37=>(ll l37 none fun v40 l37=>(ll l37 none fun v41 l37=>(ll l37 none fun v42 l37=>(ll l37 (oo (Bi .i64 v39) none fun x43=>(oo (Bi .i64 v40) none fun x45=>(oo (Bi .i64 v41) none fun x47=>(oo (Bj 1 v42) none fun s49=>(oo (Bj 1 a1) none fun s51=>(oo (Bj 1 a2) none fun s53=>(Nc pu n x43 x45 x47 s49 s51 s53))))))) fun _ _=>none)))))) fun _ _=>none))))
theorem eY (pu:Af) (n:Nat) (jK:Bool) {v:Value} (hm:Hy pu n jK = some v):BN tt (Bb tabs isP pu (inl pu)) 1 .ret (fr 21 [(6,zB jK)]) Ap (FJ tt 1 0 [.tmp 6] v):=by
 unfold Hy at hm
 refine .ghs (fr 21 [(6,zB jK)]) Ap (.k0 [false] [] [6]) ?_
 refine .ret ?_
 exact Gi (zB jK) [] (by kernel_rfl) hm (Nat.le_of_ble_eq_true rfl) EJ
theorem VZ (pu:Af) (n:Nat) (z17 z18 z19:Int) (s20 s21 s22:Sl) {v:Value} (hm:Nc pu n z17 z18 z19 s20 s21 s22 = some v):BN tt (Bb tabs isP pu (inl pu)) 1 dB (fr 21 [(0,(.agg ⟨[zI z17,zI z18,zI z19,Sl.v 1 s20]⟩)),(1,Sl.v 1 s21),(2,Sl.v 1 s22)]) Ap (FJ tt 1 0 [.tmp 6] v):=by
 unfold Nc at hm
 refine .then (.rK (.ghs (fr 21 [(1,Sl.v 1 s21),(2,Sl.v 1 s22),(3,pt 1 0)]) (hT 2 [(oC [zI z17,zI z18,zI z19,Sl.v 1 s20])]) (.k0 [false] [.tmp 3 false] [1,2,3]) ?_))
 refine .join (v:=v) (fun y:Bool=>((fr 21 [(6,zB y)]),Ap)) (fun y=>Hy pu n y) ?_ ?_
 ·rintro jK hm
  exact eY pu n jK hm
 ·replace hm := Ag hm; rcases hm with ⟨h35, hm⟩ | ⟨h35, hm⟩
  ·refine .reg (eC 3 (some ((zB (AY (30 : Int) (Int.ofNat (Sl.n s20)))), (hT 2 [(oC [zI z17, zI z18, zI z19, Sl.v 1 s20])]))) (show _ = some ((zB true), _) from (by rw [show (AY (30 : Int) (Int.ofNat (Sl.n s20))) = true from h35])) (eE)) ?_
   exact ⟨true,hm,(.k0 [false] [] [6])⟩
  ·replace hm := Ag hm; rcases hm with ⟨h36, hm⟩ | ⟨h36, hm⟩
   ·refine .reg (eC 3 (some ((zB (AY (30 : Int) (Int.ofNat (Sl.n s20)))), (hT 2 [(oC [zI z17, zI z18, zI z19, Sl.v 1 s20])]))) (show _ = some ((zB false), _) from (by rw [show (AY (30 : Int) (Int.ofNat (Sl.n s20))) = false from h35])) (eC 3 (some ((zB (AY (60 : Int) (Int.ofNat (Sl.n s21)))), (hT 2 [(oC [zI z17, zI z18, zI z19, Sl.v 1 s20])]))) (show _ = some ((zB true), _) from (by rw [show (AY (60 : Int) (Int.ofNat (Sl.n s21))) = true from h36])) (eE))) ?_
    exact ⟨true,hm,(.k0 [false] [] [6])⟩
   ·refine .reg (eC 3 (some ((zB (AY (30 : Int) (Int.ofNat (Sl.n s20)))), (hT 2 [(oC [zI z17, zI z18, zI z19, Sl.v 1 s20])]))) (show _ = some ((zB false), _) from (by rw [show (AY (30 : Int) (Int.ofNat (Sl.n s20))) = false from h35])) (eC 3 (some ((zB (AY (60 : Int) (Int.ofNat (Sl.n s21)))), (hT 2 [(oC [zI z17, zI z18, zI z19, Sl.v 1 s20])]))) (show _ = some ((zB false), _) from (by rw [show (AY (60 : Int) (Int.ofNat (Sl.n s21))) = false from h36])) (eE))) ?_
    exact ⟨(AY (60:Int) (Int.ofNat (Sl.n s22))),hm,(.k0 [false] [] [6])⟩
theorem Aa8 {call:A8} (pu:Af) (n:Nat) (hcall:call = Bb tabs isP pu (inl pu)) {args:LV} {os:List AJ} {z:Value} (ha:args.length = 3) (hk:os.length = 0) (hpl:∀ o ∈ os,plainO o) (hm:LJ pu n (args ++ os.map Ef) = some z):args.length≤21∧BN tt call (tabs.length + 0) dB (Fr.made 21 args) (BK tabs os) (FJ tt tabs.length 0 [.tmp 6] z):=by
 subst hcall
 have hq:=BC ha;clear ha;obtain ⟨a0,args,rfl,ha⟩:=hq
 have hq:=BC ha;clear ha;obtain ⟨a1,args,rfl,ha⟩:=hq
 have hq:=BC ha;clear ha;obtain ⟨a2,args,rfl,ha⟩:=hq
 obtain rfl:=len_nil ha
 obtain rfl:=len_nil hk
 replace hm:LJ pu n [a0,a1,a2] = some z:=hm
 unfold LJ at hm
 replace hm:(oo (Bt a0) none fun l37=>(ll l37 none fun v39 l37=>(ll l37 none fun v40 l37=>(ll l37 none fun v41 l37=>(ll l37 none fun v42 l37=>(ll l37 (oo (Bi .i64 v39) none fun x43=>(oo (Bi .i64 v40) none fun x45=>(oo (Bi .i64 v41) none fun x47=>(oo (Bj 1 v42) none fun s49=>(oo (Bj 1 a1) none fun s51=>(oo (Bj 1 a2) none fun s53=>(Nc pu n x43 x45 x47 s49 s51 s53))))))) fun _ _=>none)))))) = some z:=hm
 replace hm:=BG hm;obtain ⟨l37,rfl,hm⟩:=hm
 replace hm:=Ad hm;obtain ⟨v39,l37_0,rfl,hm⟩:=hm
 replace hm:=Ad hm;obtain ⟨v40,l37_1,rfl,hm⟩:=hm
 replace hm:=Ad hm;obtain ⟨v41,l37_2,rfl,hm⟩:=hm
 replace hm:=Ad hm;obtain ⟨v42,l37_3,rfl,hm⟩:=hm
 replace hm:=AC hm;obtain ⟨rfl,hm⟩:=hm
 replace hm:=Ai hm;obtain ⟨x43,rfl,hm⟩:=hm
 replace hm:=Ai hm;obtain ⟨x45,rfl,hm⟩:=hm
 replace hm:=Ai hm;obtain ⟨x47,rfl,hm⟩:=hm
 replace hm:=Al hm;obtain ⟨s49,rfl,hm⟩:=hm
 replace hm:=Al hm;obtain ⟨s51,rfl,hm⟩:=hm
 replace hm:=Al hm;obtain ⟨s53,rfl,hm⟩:=hm
 refine ⟨by simp,?_⟩
 exact .same (F':=(fr 21 [(0,(.agg ⟨[zI x43,zI x45,zI x47,Sl.v 1 s49]⟩)),(1,Sl.v 1 s51),(2,Sl.v 1 s53)])) (H':=Ap) (by kernel_rfl) (by kernel_rfl) (VZ pu n x43 x45 x47 s49 s51 s53 hm)
def KT (pu:Af) (n n0 c0:Nat) (q0:LV):OV:=
 (bb (Au Ah q0) (bb (an (Nat.ble (0 + n0 * 1) (len q0)) (Au Ah (Aq (n0 * 1) (Am 0 q0)))) (some (.tuple ⟨[(Sl.v 1 (Sl.mk n0 0 (Aq (n0 * 1) (Am 0 q0))))]⟩)) none) none)
def Ja (pu:Af) (n:Nat) (ih0:Sl→Int→Nat→Nat→Int→Int→Int→Int→Sl→LV→OV) (s0:Sl) (z0:Int) (n0 c0:Nat) (z1 z2 z3 z4:Int) (s1:Sl) (q0:LV):OV:=
 (bb (Au Ah q0) (bb (AY z1 (Int.ofNat (Sl.n s0))) (oo (pu 81 [(.agg ⟨[.int .i64 z2,.int .i64 z3,.int .i64 z4,Sl.v 1 s1]⟩),.int .i64 z0,.int .i64 z1]) none fun v0=>(oo (Bi .i64 v0) none fun x0=>(oo (EA x0) none fun k1=>(bb (an (Nat.blt k1 (Sl.n s0)) true) (oo (AL (Sl.cs s0) (k1 * 1)) none fun v1=>(oo (Bi .i64 v1) none fun x1=>(bb (GV 1 8 n0 c0 1 q0) (bb (Au Ah (Br (Am 0 q0) [.int .i64 x1])) (ih0 s0 z0 (n0 + 1) (2 * (n0 + 1) + bb false 1 0) (Aj .i64 (Int.add z1 (1:Int))) z2 z3 z4 s1 (Br (Am 0 q0) [.int .i64 x1])) none) none))) none)))) (KT pu n n0 c0 q0)) none)
def Jb (pu:Af) (n w:Nat):Sl→Int→Nat→Nat→Int→Int→Int→Int→Sl→LV→OV:=
 Nat.rec (motive:=fun _=>Sl→Int→Nat→Nat→Int→Int→Int→Int→Sl→LV→OV) (fun _ _ _ _ _ _ _ _ _ _=>none) (fun _ ih0=>Ja pu n ih0) w
def Nf (pu:Af) (n:Nat) (z0 z1 z2:Int) (s0 s1:Sl) (z3:Int):OV:=
 (Jb pu n n s1 z3 0 0 (0:Int) z0 z1 z2 s0 ([]:LV))
def LK (pu:Af) (n:Nat) (args:LV):OV:=
 (ll args none fun a0 args=>(ll args none fun a1 args=>(ll args none fun a2 args=>(ll args (oo (Bt a0) none fun l0=>(ll l0 none fun v0 l0=>(ll l0 none fun v1 l0=>(ll l0 none fun v2 l0=>(ll l0 none fun v3 l0=>(ll l0 (oo (Bi .i64 v0) none fun x0=>(oo (Bi .i64 v1) none fun x1=>(oo (Bi .i64 v2) none fun x2=>(oo (Bj 1 v3) none fun s0=>(oo (Bj 1 a1) none fun s1=>(oo (Bi .i64 a2) none fun x3=>(Nf pu n x0 x1 x2 s0 s1 x3))))))) fun _ _=>none)))))) fun _ _=>none))))
theorem eZ (pu:Af) (n n0 c0:Nat) (q0:LV) {v:Value} (hm:KT pu n n0 c0 q0 = some v):BN tt (Bb tabs isP pu (inl pu)) 1 VM (fr 26 [(7,sc 1 0 1 n0 c0)]) (hT 2 [oC q0]) (FJ tt 1 0 [.tmp 6] v):=by
 unfold KT at hm
 refine .then (.rK ?_)
 replace hm:=Ae hm;obtain ⟨h0,hm⟩:=hm
 refine .ghs (fr 26 [(6,sc 1 0 1 n0 c0)]) (hT 2 [oC q0]) (.k [1] [false] [.tmp 6 false] [6] ⟨BI h0,trivial⟩) ?_
 replace hm:=Ae hm;obtain ⟨h1,hm⟩:=hm
 refine .ghs (fr 26 [(6,(Sl.v 1 (Sl.mk n0 0 (Aq (n0 * 1) (Am 0 q0)))))]) Ap (.freezeC 1 6 1 (an (Nat.ble (0 + n0 * 1) (len q0)) (Au Ah (Aq (n0 * 1) (Am 0 q0)))) (F1:=(Fr.puts (fr 26 [(6,sc 1 0 1 n0 c0)]) [(6,(Sl.v 1 (Sl.mk n0 0 (Aq (n0 * 1) (Am 0 q0)))))])) (H1:=(hT 2 [.dead])) (by kernel_rfl) (by kernel_rfl) h1 (.k0 [false] [] [6])) ?_
 refine .ret ?_
 exact Gi (Sl.v 1 (Sl.mk n0 0 (Aq (n0 * 1) (Am 0 q0)))) [] (by kernel_rfl) hm (Nat.le_of_ble_eq_true rfl) EJ
theorem Aa9 (pu:Af) (n:Nat) (z0 z1 z2:Int) (s0 s1:Sl) (z3:Int) {v:Value} (hm:Nf pu n z0 z1 z2 s0 s1 z3 = some v):BN tt (Bb tabs isP pu (inl pu)) 1 Ka (fr 26 [(0,(.agg ⟨[zI z0,zI z1,zI z2,Sl.v 1 s0]⟩)),(1,Sl.v 1 s1),(2,zI z3)]) Ap (FJ tt 1 0 [.tmp 6] v):=by
 unfold Nf at hm
 refine .then (.rK (.ghs (fr 26 [(1,Sl.v 1 s1),(2,zI z3),(3,pt 1 0)]) (hT 2 [(oC [zI z0,zI z1,zI z2,Sl.v 1 s0])]) (.k0 [false] [.tmp 3 false] [1,2,3]) ?_))
 refine .then (.rK (.ghs (fr 26 [(1,Sl.v 1 s1),(2,zI z3),(3,pt 1 0),(7,(.slice none 0 0))]) (hT 2 [(oC [zI z0,zI z1,zI z2,Sl.v 1 s0])]) (.k0 [false] [.tmp 3 false] [1,2,3,7]) ?_))
 refine .join (v:=v) (fun y:Nat×Nat×LV=>((fr 26 [(7,(sc 1 0 1 y.1 y.2.1))]),(hT 2 [(oC y.2.2)]))) (fun y=>KT pu n y.1 y.2.1 y.2.2) ?_ ?_
 ·rintro ⟨n0, c0, q0⟩ hm
  exact eZ pu n n0 c0 q0 hm
 ·refine .then (.rK (.ghs (fr 26 [(1, Sl.v 1 s1), (2, zI z3), (3, pt 1 0), (7, (.slice none 0 0)), (8, (zI (0 : Int)))]) (hT 2 [(oC [zI z0, zI z1, zI z2, Sl.v 1 s0])]) (.k0 [false] [.tmp 3 false] [1, 2, 3, 7, 8]) ?_))
  refine .block (.loopM (v:=v) (fun y:Sl×Int×Nat×Nat×Int×Int×Int×Int×Sl×LV=>((fr 26 [(1,(Sl.v 1 y.1)),(2,(zI y.2.1)),(3,pt 1 0),(7,(sc 2 0 1 y.2.2.1 y.2.2.2.1)),(8,(zI y.2.2.2.2.1))]),(hT 3 [(oC [(zI y.2.2.2.2.2.1),(zI y.2.2.2.2.2.2.1),(zI y.2.2.2.2.2.2.2.1),(Sl.v 1 y.2.2.2.2.2.2.2.2.1)]),(oC y.2.2.2.2.2.2.2.2.2)]))) (fun w y=>Jb pu n w y.1 y.2.1 y.2.2.1 y.2.2.2.1 y.2.2.2.2.1 y.2.2.2.2.2.1 y.2.2.2.2.2.2.1 y.2.2.2.2.2.2.2.1 y.2.2.2.2.2.2.2.2.1 y.2.2.2.2.2.2.2.2.2) n ⟨(s1,z3,0,0,(0:Int),z0,z1,z2,s0,([]:LV)),hm,(.thaw 7 1 (by kernel_rfl) (.k0 [false] [.tmp 3 false,.tmp 7 false] [1,2,3,7,8]))⟩ (fun _=>rfl) ?_)
  rintro w0 ⟨s2,z4,n1,c1,z5,z6,z7,z8,s3,q1⟩ hm
  replace hm:Ja pu n (Jb pu n w0) s2 z4 n1 c1 z5 z6 z7 z8 s3 q1 = some v:=hm
  unfold Ja at hm
  refine .then (.then (.rK ?_))
  replace hm:=Ae hm;obtain ⟨h0,hm⟩:=hm
  refine .ghs (fr 26 [(1,Sl.v 1 s2),(2,zI z4),(3,pt 1 0),(7,sc 2 0 1 n1 c1),(8,zI z5),(12,(zB (AY z5 (Int.ofNat (Sl.n s2)))))]) (hT 3 [(oC [zI z6,zI z7,zI z8,Sl.v 1 s3]),oC q1]) (.k [2] [false] [.tmp 3 false,.tmp 7 false] [1,2,3,7,8,12] ⟨BI h0,trivial⟩) ?_
  replace hm:=Ag hm;rcases hm with ⟨h1,hm⟩ | ⟨h1,hm⟩
  ·refine Bp (AY z5 (Int.ofNat (Sl.n s2))) h1 ?_
   refine .skip (.ghs (fr 26 [(1,Sl.v 1 s2),(2,zI z4),(3,pt 1 0),(7,sc 2 0 1 n1 c1),(8,zI z5)]) (hT 3 [(oC [zI z6,zI z7,zI z8,Sl.v 1 s3]),oC q1]) (.k [2] [false] [.tmp 3 false,.tmp 7 false] [1,2,3,7,8] ⟨BI h0,trivial⟩) ?_)
   refine .then (.block ?_)
   replace hm:=oI hm;obtain ⟨x0,h2,hm⟩:=hm
   replace hm:=Ab hm;obtain ⟨k1,h3,hm⟩:=hm
   obtain rfl:=AR h3
   replace hm:=Ae hm;obtain ⟨h4,hm⟩:=hm
   replace hm:=oI hm;obtain ⟨x1,h5,hm⟩:=hm
   replace hm:=Ae hm;obtain ⟨h6,hm⟩:=hm
   refine .reg (eC 5 ((oo (pu 81 [(.agg ⟨[zI z6,zI z7,zI z8,Sl.v 1 s3]⟩),zI z4,zI z5]) none fun v=>some (v,(hT 3 [(oC [zI z6,zI z7,zI z8,Sl.v 1 s3]),oC q1])))) (AB h2) (eD (keep (hT 3 [(oC [zI z6,zI z7,zI z8,Sl.v 1 s3]),oC q1]) (bb (an (Nat.blt k1 (Sl.n s2)) true) (some (Cv (k1 * 1) (Sl.cs s2))) none)) (AX h4) (eD (keep (hT 3 [(oC [zI z6,zI z7,zI z8,Sl.v 1 s3]),oC q1]) (AL (Sl.cs s2) (k1 * 1))) (AZ h5) (eC 1 (Oc 1 8 n1 c1 1 2 q1 [zI x1] [] (hT 4 [(oC [zI z6,zI z7,zI z8,Sl.v 1 s3]),oC q1,(oC [zI x1])])) (I1 h6) (eE))))) ?_
   replace hm:=Ae hm;obtain ⟨h7,hm⟩:=hm
   refine .ghs (fr 26 [(1,Sl.v 1 s2),(2,zI z4),(3,pt 1 0),(7,(sc 2 0 1 (n1 + 1) (d2 (n1 + 1)))),(8,zI z5)]) (hT 3 [(oC [zI z6,zI z7,zI z8,Sl.v 1 s3]),(oC (Br (Am 0 q1) [zI x1]))]) (.k [4] [false] [.tmp 3 false,.tmp 7 false] [1,2,3,7,8] ⟨BI h7,trivial⟩) ?_
   refine .rK ?_
   exact ⟨(s2,z4,(n1 + 1),(d2 (n1 + 1)),(Aj .i64 (Int.add z5 (1:Int))),z6,z7,z8,s3,(Br (Am 0 q1) [zI x1])),hm,(.k [2] [false] [.tmp 3 false,.tmp 7 false] [1,2,3,7,8] ⟨BI h7,trivial⟩)⟩
  ·refine Bq (AY z5 (Int.ofNat (Sl.n s2))) h1 ?_
   refine .exit ?_
   exact ⟨(n1,c1,q1),hm,(.k [2] [false] [.tmp 7 false] [7] ⟨BI h0,trivial⟩)⟩
theorem Aba {call:A8} (pu:Af) (n:Nat) (hcall:call = Bb tabs isP pu (inl pu)) {args:LV} {os:List AJ} {z:Value} (ha:args.length = 3) (hk:os.length = 0) (hpl:∀ o ∈ os,plainO o) (hm:LK pu n (args ++ os.map Ef) = some z):args.length≤26∧BN tt call (tabs.length + 0) Ka (Fr.made 26 args) (BK tabs os) (FJ tt tabs.length 0 [.tmp 6] z):=by
 subst hcall
 have hq:=BC ha;clear ha;obtain ⟨a0,args,rfl,ha⟩:=hq
 have hq:=BC ha;clear ha;obtain ⟨a1,args,rfl,ha⟩:=hq
 have hq:=BC ha;clear ha;obtain ⟨a2,args,rfl,ha⟩:=hq
 obtain rfl:=len_nil ha
 obtain rfl:=len_nil hk
 replace hm:LK pu n [a0,a1,a2] = some z:=hm
 unfold LK at hm
 replace hm:(oo (Bt a0) none fun l0=>(ll l0 none fun v0 l0=>(ll l0 none fun v1 l0=>(ll l0 none fun v2 l0=>(ll l0 none fun v3 l0=>(ll l0 (oo (Bi .i64 v0) none fun x0=>(oo (Bi .i64 v1) none fun x1=>(oo (Bi .i64 v2) none fun x2=>(oo (Bj 1 v3) none fun s0=>(oo (Bj 1 a1) none fun s1=>(oo (Bi .i64 a2) none fun x3=>(Nf pu n x0 x1 x2 s0 s1 x3))))))) fun _ _=>none)))))) = some z:=hm
 replace hm:=BG hm;obtain ⟨l0,rfl,hm⟩:=hm
 replace hm:=Ad hm;obtain ⟨v0,l684_0,rfl,hm⟩:=hm
 replace hm:=Ad hm;obtain ⟨v1,l684_1,rfl,hm⟩:=hm
 replace hm:=Ad hm;obtain ⟨v2,l684_2,rfl,hm⟩:=hm
 replace hm:=Ad hm;obtain ⟨v3,l684_3,rfl,hm⟩:=hm
 replace hm:=AC hm;obtain ⟨rfl,hm⟩:=hm
 replace hm:=Ai hm;obtain ⟨x0,rfl,hm⟩:=hm
 replace hm:=Ai hm;obtain ⟨x1,rfl,hm⟩:=hm
 replace hm:=Ai hm;obtain ⟨x2,rfl,hm⟩:=hm
 replace hm:=Al hm;obtain ⟨s0,rfl,hm⟩:=hm
 replace hm:=Al hm;obtain ⟨s1,rfl,hm⟩:=hm
 replace hm:=Ai hm;obtain ⟨x3,rfl,hm⟩:=hm
 refine ⟨by simp,?_⟩
 exact .same (F':=(fr 26 [(0,(.agg ⟨[zI x0,zI x1,zI x2,Sl.v 1 s0]⟩)),(1,Sl.v 1 s1),(2,zI x3)])) (H':=Ap) (by kernel_rfl) (by kernel_rfl) (Aa9 pu n x0 x1 x2 s0 s1 x3 hm)
def KU (pu:Af) (n n0 c0:Nat) (q0:LV) (q1:LV):OV:=
 (bb (Au Ah q0) (bb (Au Ah q1) (bb (an (Nat.ble (0 + n0 * 1) (len q1)) (Au Ah (Aq (n0 * 1) (Am 0 q1)))) (some (.tuple ⟨[(Sl.v 1 (Sl.mk n0 0 (Aq (n0 * 1) (Am 0 q1)))),(.agg ⟨q0⟩)]⟩)) none) none) none)
def O3 (pu:Af) (n:Nat) (ih0:Nat→Nat→Int→Nat→Nat→Int→LV→Int→Int→Int→Sl→LV→OV) (n0 c0:Nat) (z0:Int) (n1 c1:Nat) (z1:Int) (q0:LV) (z2 z3 z4:Int) (s0:Sl) (q1:LV):OV:=
 (bb (Au Ah q0) (bb (Au Ah q1) (bb (AY z1 (Int.ofNat n0)) (oo (pu 81 [(.agg ⟨[.int .i64 z2,.int .i64 z3,.int .i64 z4,Sl.v 1 s0]⟩),.int .i64 z0,.int .i64 z1]) none fun v0=>(oo (Bi .i64 v0) none fun x0=>(oo (EA x0) none fun k1=>(bb (an (Nat.blt k1 n0) true) (oo (AL q0 (0 + k1 * 1)) none fun v1=>(oo (Bi .i64 v1) none fun x1=>(bb (GV 1 8 n1 c1 1 q1) (bb (Au Ah (Br (Am 0 q1) [.int .i64 x1])) (ih0 n0 c0 z0 (n1 + 1) (2 * (n1 + 1) + bb false 1 0) (Aj .i64 (Int.add z1 (1:Int))) q0 z2 z3 z4 s0 (Br (Am 0 q1) [.int .i64 x1])) none) none))) none)))) (KU pu n n1 c1 q0 q1)) none) none)
def O4 (pu:Af) (n w:Nat):Nat→Nat→Int→Nat→Nat→Int→LV→Int→Int→Int→Sl→LV→OV:=
 Nat.rec (motive:=fun _=>Nat→Nat→Int→Nat→Nat→Int→LV→Int→Int→Int→Sl→LV→OV) (fun _ _ _ _ _ _ _ _ _ _ _ _=>none) (fun _ ih0=>O3 pu n ih0) w
def Ng (pu:Af) (n:Nat) (z0 z1 z2:Int) (s0:Sl) (n0 c0:Nat) (z3 z4 z5 z6 z7:Int):OV:=
 (O4 pu n n n0 c0 z3 0 0 (0:Int) ([.int .i64 z4,.int .i64 z5,.int .i64 z6,.int .i64 z7]:LV) z0 z1 z2 s0 ([]:LV))
def O5 (pu:Af) (n:Nat) (args:LV):OV:=
 (ll args none fun a0 args=>(ll args none fun a1 args=>(ll args none fun a2 args=>(ll args none fun o0 args=>(ll args (oo (Bt a0) none fun l0=>(ll l0 none fun v0 l0=>(ll l0 none fun v1 l0=>(ll l0 none fun v2 l0=>(ll l0 none fun v3 l0=>(ll l0 (oo (Bi .i64 v0) none fun x0=>(oo (Bi .i64 v1) none fun x1=>(oo (Bi .i64 v2) none fun x2=>(oo (Bj 1 v3) none fun s0=>(oo (KP 1 0 1 a1) none fun y0=>(oo (Bi .i64 a2) none fun x3=>(oo (Bt o0) none fun l1=>(ll l1 none fun v4 l1=>(ll l1 none fun v5 l1=>(ll l1 none fun v6 l1=>(ll l1 none fun v7 l1=>(ll l1 (oo (Bi .i64 v4) none fun x4=>(oo (Bi .i64 v5) none fun x5=>(oo (Bi .i64 v6) none fun x6=>(oo (Bi .i64 v7) none fun x7=>(Ng pu n x0 x1 x2 s0 (NC.n y0) (NC.c y0) x3 x4 x5 x6 x7))))) fun _ _=>none)))))))))))) fun _ _=>none)))))) fun _ _=>none)))))
theorem fA (pu:Af) (n n0 c0:Nat) (q0:LV) (q1:LV) {v:Value} (hm:KU pu n n0 c0 q0 q1 = some v):BN tt (Bb tabs isP pu (inl pu)) 2 VM (fr 26 [(7,sc 2 0 1 n0 c0)]) (hT 3 [oC q0,oC q1]) (FJ tt 1 1 [.tmp 6] v):=by
 unfold KU at hm
 refine .then (.rK ?_)
 replace hm:=Ae hm;obtain ⟨h0,hm⟩:=hm
 replace hm:=Ae hm;obtain ⟨h1,hm⟩:=hm
 refine .ghs (fr 26 [(6,sc 2 0 1 n0 c0)]) (hT 3 [oC q0,oC q1]) (.k [1,2] [false,false] [.tmp 6 false] [6] ⟨BI h0,BI h1,trivial⟩) ?_
 replace hm:=Ae hm;obtain ⟨h2,hm⟩:=hm
 refine .ghs (fr 26 [(6,(Sl.v 1 (Sl.mk n0 0 (Aq (n0 * 1) (Am 0 q1)))))]) (hT 2 [oC q0]) (.freezeC 2 6 1 (an (Nat.ble (0 + n0 * 1) (len q1)) (Au Ah (Aq (n0 * 1) (Am 0 q1)))) (F1:=(Fr.puts (fr 26 [(6,sc 2 0 1 n0 c0)]) [(6,(Sl.v 1 (Sl.mk n0 0 (Aq (n0 * 1) (Am 0 q1)))))])) (H1:=(hT 3 [oC q0,.dead])) (by kernel_rfl) (by kernel_rfl) h2 (.k [1] [false,false] [] [6] ⟨BI h0,trivial⟩)) ?_
 refine .ret ?_
 exact Gi (Sl.v 1 (Sl.mk n0 0 (Aq (n0 * 1) (Am 0 q1)))) [oC q0] (by kernel_rfl) hm (Nat.le_of_ble_eq_true rfl) (Fa (VT _) EJ)
theorem Abb (pu:Af) (n:Nat) (z0 z1 z2:Int) (s0:Sl) (n0 c0:Nat) (z3 z4 z5 z6 z7:Int) {v:Value} (hm:Ng pu n z0 z1 z2 s0 n0 c0 z3 z4 z5 z6 z7 = some v):BN tt (Bb tabs isP pu (inl pu)) 2 Ka (fr 26 [(0,(.agg ⟨[zI z0,zI z1,zI z2,Sl.v 1 s0]⟩)),(1,sc 1 0 1 n0 c0),(2,zI z3)]) (hT 2 [(oC [zI z4,zI z5,zI z6,zI z7])]) (FJ tt 1 1 [.tmp 6] v):=by
 unfold Ng at hm
 refine .then (.rK (.ghs (fr 26 [(1,sc 1 0 1 n0 c0),(2,zI z3),(3,(pt 2 0))]) (hT 3 [(oC [zI z4,zI z5,zI z6,zI z7]),(oC [zI z0,zI z1,zI z2,Sl.v 1 s0])]) (.k0 [false,false] [.tmp 3 false] [1,2,3]) ?_))
 refine .then (.rK (.ghs (fr 26 [(1,sc 1 0 1 n0 c0),(2,zI z3),(3,(pt 2 0)),(7,(.slice none 0 0))]) (hT 3 [(oC [zI z4,zI z5,zI z6,zI z7]),(oC [zI z0,zI z1,zI z2,Sl.v 1 s0])]) (.k0 [false,false] [.tmp 3 false] [1,2,3,7]) ?_))
 refine .join (v:=v) (fun y:Nat×Nat×LV×LV=>((fr 26 [(7,(sc 2 0 1 y.1 y.2.1))]),(hT 3 [(oC y.2.2.1),(oC y.2.2.2)]))) (fun y=>KU pu n y.1 y.2.1 y.2.2.1 y.2.2.2) ?_ ?_
 ·rintro ⟨n1, c1, q0, q1⟩ hm
  exact fA pu n n1 c1 q0 q1 hm
 ·refine .then (.rK (.ghs (fr 26 [(1, sc 1 0 1 n0 c0), (2, zI z3), (3, (pt 2 0)), (7, (.slice none 0 0)), (8, (zI (0 : Int)))]) (hT 3 [(oC [zI z4, zI z5, zI z6, zI z7]), (oC [zI z0, zI z1, zI z2, Sl.v 1 s0])]) (.k0 [false, false] [.tmp 3 false] [1, 2, 3, 7, 8]) ?_))
  refine .block (.loopM (v:=v) (fun y:Nat×Nat×Int×Nat×Nat×Int×LV×Int×Int×Int×Sl×LV=>((fr 26 [(1,(sc 1 0 1 y.1 y.2.1)),(2,(zI y.2.2.1)),(3,(pt 2 0)),(7,(sc 3 0 1 y.2.2.2.1 y.2.2.2.2.1)),(8,(zI y.2.2.2.2.2.1))]),(hT 4 [(oC y.2.2.2.2.2.2.1),(oC [(zI y.2.2.2.2.2.2.2.1),(zI y.2.2.2.2.2.2.2.2.1),(zI y.2.2.2.2.2.2.2.2.2.1),(Sl.v 1 y.2.2.2.2.2.2.2.2.2.2.1)]),(oC y.2.2.2.2.2.2.2.2.2.2.2)]))) (fun w y=>O4 pu n w y.1 y.2.1 y.2.2.1 y.2.2.2.1 y.2.2.2.2.1 y.2.2.2.2.2.1 y.2.2.2.2.2.2.1 y.2.2.2.2.2.2.2.1 y.2.2.2.2.2.2.2.2.1 y.2.2.2.2.2.2.2.2.2.1 y.2.2.2.2.2.2.2.2.2.2.1 y.2.2.2.2.2.2.2.2.2.2.2) n ⟨(n0,c0,z3,0,0,(0:Int),([zI z4,zI z5,zI z6,zI z7]:LV),z0,z1,z2,s0,([]:LV)),hm,(.thaw 7 1 (by kernel_rfl) (.k0 [false,false] [.tmp 3 false,.tmp 7 false] [1,2,3,7,8]))⟩ (fun _=>rfl) ?_)
  rintro w0 ⟨n2,c2,z8,n3,c3,z9,q2,z10,z11,z12,s1,q3⟩ hm
  replace hm:O3 pu n (O4 pu n w0) n2 c2 z8 n3 c3 z9 q2 z10 z11 z12 s1 q3 = some v:=hm
  unfold O3 at hm
  refine .then (.then (.rK ?_))
  replace hm:=Ae hm;obtain ⟨h0,hm⟩:=hm
  replace hm:=Ae hm;obtain ⟨h1,hm⟩:=hm
  refine .ghs (fr 26 [(1,sc 1 0 1 n2 c2),(2,zI z8),(3,(pt 2 0)),(7,sc 3 0 1 n3 c3),(8,zI z9),(12,(zB (AY z9 (Int.ofNat n2))))]) (hT 4 [oC q2,(oC [zI z10,zI z11,zI z12,Sl.v 1 s1]),oC q3]) (.k [1,3] [false,false] [.tmp 3 false,.tmp 7 false] [1,2,3,7,8,12] ⟨BI h0,BI h1,trivial⟩) ?_
  replace hm:=Ag hm;rcases hm with ⟨h2,hm⟩ | ⟨h2,hm⟩
  ·refine Bp (AY z9 (Int.ofNat n2)) h2 ?_
   refine .skip (.ghs (fr 26 [(1,sc 1 0 1 n2 c2),(2,zI z8),(3,(pt 2 0)),(7,sc 3 0 1 n3 c3),(8,zI z9)]) (hT 4 [oC q2,(oC [zI z10,zI z11,zI z12,Sl.v 1 s1]),oC q3]) (.k [1,3] [false,false] [.tmp 3 false,.tmp 7 false] [1,2,3,7,8] ⟨BI h0,BI h1,trivial⟩) ?_)
   refine .then (.block ?_)
   replace hm:=oI hm;obtain ⟨x0,h3,hm⟩:=hm
   replace hm:=Ab hm;obtain ⟨k1,h4,hm⟩:=hm
   obtain rfl:=AR h4
   replace hm:=Ae hm;obtain ⟨h5,hm⟩:=hm
   replace hm:=oI hm;obtain ⟨x1,h6,hm⟩:=hm
   replace hm:=Ae hm;obtain ⟨h7,hm⟩:=hm
   refine .reg (eC 5 ((oo (pu 81 [(.agg ⟨[zI z10,zI z11,zI z12,Sl.v 1 s1]⟩),zI z8,zI z9]) none fun v=>some (v,(hT 4 [oC q2,(oC [zI z10,zI z11,zI z12,Sl.v 1 s1]),oC q3])))) (AB h3) (eD (keep (hT 4 [oC q2,(oC [zI z10,zI z11,zI z12,Sl.v 1 s1]),oC q3]) (bb (an (Nat.blt k1 n2) true) (some (.pointer (some ⟨1,(0 + k1 * 1),none⟩))) none)) (AX h5) (eD (keep (hT 4 [oC q2,(oC [zI z10,zI z11,zI z12,Sl.v 1 s1]),oC q3]) (AL q2 (0 + k1 * 1))) (AZ h6) (eC 1 (Oc 1 8 n3 c3 1 3 q3 [zI x1] [] (hT 5 [oC q2,(oC [zI z10,zI z11,zI z12,Sl.v 1 s1]),oC q3,(oC [zI x1])])) (I1 h7) (eE))))) ?_
   replace hm:=Ae hm;obtain ⟨h8,hm⟩:=hm
   refine .ghs (fr 26 [(1,sc 1 0 1 n2 c2),(2,zI z8),(3,(pt 2 0)),(7,(sc 3 0 1 (n3 + 1) (d2 (n3 + 1)))),(8,zI z9)]) (hT 4 [oC q2,(oC [zI z10,zI z11,zI z12,Sl.v 1 s1]),(oC (Br (Am 0 q3) [zI x1]))]) (.k [1,5] [false,false] [.tmp 3 false,.tmp 7 false] [1,2,3,7,8] ⟨BI h0,BI h8,trivial⟩) ?_
   refine .rK ?_
   exact ⟨(n2,c2,z8,(n3 + 1),(d2 (n3 + 1)),(Aj .i64 (Int.add z9 (1:Int))),q2,z10,z11,z12,s1,(Br (Am 0 q3) [zI x1])),hm,(.k [1,3] [false,false] [.tmp 3 false,.tmp 7 false] [1,2,3,7,8] ⟨BI h0,BI h8,trivial⟩)⟩
  ·refine Bq (AY z9 (Int.ofNat n2)) h2 ?_
   refine .exit ?_
   exact ⟨(n3,c3,q2,q3),hm,(.k [1,3] [false,false] [.tmp 7 false] [7] ⟨BI h0,BI h1,trivial⟩)⟩
theorem Abc {call:A8} (pu:Af) (n:Nat) (hcall:call = Bb tabs isP pu (inl pu)) {args:LV} {os:List AJ} {z:Value} (ha:args.length = 3) (hk:os.length = 1) (hpl:∀ o ∈ os,plainO o) (hm:O5 pu n (args ++ os.map Ef) = some z):args.length≤26∧BN tt call (tabs.length + 1) Ka (Fr.made 26 args) (BK tabs os) (FJ tt tabs.length 1 [.tmp 6] z):=by
 subst hcall
 have hq:=BC ha;clear ha;obtain ⟨a0,args,rfl,ha⟩:=hq
 have hq:=BC ha;clear ha;obtain ⟨a1,args,rfl,ha⟩:=hq
 have hq:=BC ha;clear ha;obtain ⟨a2,args,rfl,ha⟩:=hq
 obtain rfl:=len_nil ha
 have hq:=BC hk;clear hk;obtain ⟨b0,os,rfl,hk⟩:=hq
 have hp0:plainO b0:=hpl b0 (by simp)
 obtain rfl:=len_nil hk
 replace hm:O5 pu n [a0,a1,a2,Ef b0] = some z:=hm
 unfold O5 at hm
 replace hm:(oo (Bt a0) none fun l0=>(ll l0 none fun v0 l0=>(ll l0 none fun v1 l0=>(ll l0 none fun v2 l0=>(ll l0 none fun v3 l0=>(ll l0 (oo (Bi .i64 v0) none fun x0=>(oo (Bi .i64 v1) none fun x1=>(oo (Bi .i64 v2) none fun x2=>(oo (Bj 1 v3) none fun s0=>(oo (KP 1 0 1 a1) none fun y0=>(oo (Bi .i64 a2) none fun x3=>(oo (Bt (Ef b0)) none fun l1=>(ll l1 none fun v4 l1=>(ll l1 none fun v5 l1=>(ll l1 none fun v6 l1=>(ll l1 none fun v7 l1=>(ll l1 (oo (Bi .i64 v4) none fun x4=>(oo (Bi .i64 v5) none fun x5=>(oo (Bi .i64 v6) none fun x6=>(oo (Bi .i64 v7) none fun x7=>(Ng pu n x0 x1 x2 s0 (NC.n y0) (NC.c y0) x3 x4 x5 x6 x7))))) fun _ _=>none)))))))))))) fun _ _=>none)))))) = some z:=hm
 replace hm:=BG hm;obtain ⟨l0,rfl,hm⟩:=hm
 replace hm:=Ad hm;obtain ⟨v0,l4208_0,rfl,hm⟩:=hm
 replace hm:=Ad hm;obtain ⟨v1,l4208_1,rfl,hm⟩:=hm
 replace hm:=Ad hm;obtain ⟨v2,l4208_2,rfl,hm⟩:=hm
 replace hm:=Ad hm;obtain ⟨v3,l4208_3,rfl,hm⟩:=hm
 replace hm:=AC hm;obtain ⟨rfl,hm⟩:=hm
 replace hm:=Ai hm;obtain ⟨x0,rfl,hm⟩:=hm
 replace hm:=Ai hm;obtain ⟨x1,rfl,hm⟩:=hm
 replace hm:=Ai hm;obtain ⟨x2,rfl,hm⟩:=hm
 replace hm:=Al hm;obtain ⟨s0,rfl,hm⟩:=hm
 replace hm:=Ab hm;obtain ⟨y0,h0,hm⟩:=hm
 obtain rfl:=F5 h0
 replace hm:=Ai hm;obtain ⟨x3,rfl,hm⟩:=hm
 replace hm:=Ab hm;obtain ⟨l1,h1,hm⟩:=hm
 obtain rfl:=I7 hp0 h1
 replace hm:=Ad hm;obtain ⟨v4,l4226_0,rfl,hm⟩:=hm
 replace hm:=Ad hm;obtain ⟨v5,l4226_1,rfl,hm⟩:=hm
 replace hm:=Ad hm;obtain ⟨v6,l4226_2,rfl,hm⟩:=hm
 replace hm:=Ad hm;obtain ⟨v7,l4226_3,rfl,hm⟩:=hm
 replace hm:=AC hm;obtain ⟨rfl,hm⟩:=hm
 replace hm:=Ai hm;obtain ⟨x4,rfl,hm⟩:=hm
 replace hm:=Ai hm;obtain ⟨x5,rfl,hm⟩:=hm
 replace hm:=Ai hm;obtain ⟨x6,rfl,hm⟩:=hm
 replace hm:=Ai hm;obtain ⟨x7,rfl,hm⟩:=hm
 refine ⟨by simp,?_⟩
 exact .same (F':=(fr 26 [(0,(.agg ⟨[zI x0,zI x1,zI x2,Sl.v 1 s0]⟩)),(1,(sc 1 0 1 (NC.n y0) (NC.c y0))),(2,zI x3)])) (H':=(hT 2 [(oC [zI x4,zI x5,zI x6,zI x7])])) (by kernel_rfl) (by kernel_rfl) (Abb pu n x0 x1 x2 s0 (NC.n y0) (NC.c y0) x3 x4 x5 x6 x7 hm)

def Nh (pu:Af) (n n0 c0:Nat) (q0:LV):OV:=
 (bb (Au Ah q0) (oo (pu 95 [(.int .u64 (Aj .u64 (Int.ofNat n0)))]) none fun v0=>(oo (Bi .i64 v0) none fun x0=>(bb (Dp (Nat.ble 2 c0) (MQ q0)) (bb (Au Ah q0) (oo (pu 10940 [(.slice (some ⟨1,0,some 1⟩) n0 c0),(.int .i64 (0:Int)),(.int .i64 (Int.ofNat n0)),.int .i64 x0,(.func (.func 70) ⟨[]⟩ ⟨[]⟩),(.agg ⟨q0⟩)]) none fun v1=>(oo (CQ v1) none fun l0=>(ll l0 none fun v2 l0=>(ll l0 none fun v3 l0=>(ll l0 (bb (MC v2) (oo (Bt v3) none fun q1=>(bb (Au Ah q1) (bb (Au Ah q1) (some (.tuple ⟨[(.tuple ⟨[]⟩),(.agg ⟨q1⟩)]⟩)) none) none)) none) fun _ _=>none))))) none) none))) none)
def LM (pu:Af) (n:Nat) (args:LV):OV:=
 (ll args none fun a0 args=>(ll args none fun a1 args=>(ll args none fun o0 args=>(ll args (oo (KP 1 0 1 a0) none fun y0=>(oo (Om 70 0 a1) none fun l0=>(ll l0 (oo (Bt o0) none fun q0=>(Nh pu n (NC.n y0) (NC.c y0) q0)) fun _ _=>none))) fun _ _=>none))))
theorem V3 (pu:Af) (n n0 c0:Nat) (q0:LV) {v:Value} (hm:Nh pu n n0 c0 q0 = some v):BN tt (Bb tabs isP pu (inl pu)) 2 TN (fr 14 [(0,sc 1 0 1 n0 c0),(1,(.func (.func 70) ⟨[]⟩ ⟨[]⟩))]) (hT 2 [oC q0]) (FJ tt 1 1 [] v):=by
 unfold Nh at hm
 refine .then (.rK ?_)
 replace hm:=Ae hm;obtain ⟨h0,hm⟩:=hm
 refine .ghs (fr 14 [(0,sc 1 0 1 n0 c0),(1,(.func (.func 70) ⟨[]⟩ ⟨[]⟩)),(4,(zI (Int.ofNat n0)))]) (hT 2 [oC q0]) (.k [1] [false,false] [] [0,1,4] ⟨BI h0,trivial⟩) ?_
 replace hm:=oI hm;obtain ⟨x0,h1,hm⟩:=hm
 replace hm:=Ae hm;obtain ⟨h2,hm⟩:=hm
 replace hm:=Ae hm;obtain ⟨h3,hm⟩:=hm
 replace hm:=Ab hm;obtain ⟨v0,h4,hm⟩:=hm
 replace hm:=Ch hm;obtain ⟨l0,rfl,hm⟩:=hm
 replace hm:=Ad hm;obtain ⟨v1,l7262_0,rfl,hm⟩:=hm
 replace hm:=Ad hm;obtain ⟨v2,l7262_1,rfl,hm⟩:=hm
 replace hm:=AC hm;obtain ⟨rfl,hm⟩:=hm
 replace hm:=Ae hm;obtain ⟨h5,hm⟩:=hm
 obtain rfl:=Oo h5
 replace hm:=BG hm;obtain ⟨q1,rfl,hm⟩:=hm
 replace hm:=Ae hm;obtain ⟨h6,hm⟩:=hm
 refine .reg (eC 4 ((oo (pu 95 [(zU (Aj .u64 (Int.ofNat n0)))]) none fun v=>some (v,(hT 2 [oC q0])))) (AB h1) (eC 1 (EK tabs [[none],[none],[none],[none],[none]] 5 [.tmp 0 false] [false] (pu 10940) [sc 1 0 1 n0 c0,(zI (0:Int)),(zI (Int.ofNat n0)),zI x0,(.func (.func 70) ⟨[]⟩ ⟨[]⟩)] (hT 2 [oC q0])) (EL (as:=[sc 1 0 1 n0 c0,(zI (0:Int)),(zI (Int.ofNat n0)),zI x0,(.func (.func 70) ⟨[]⟩ ⟨[]⟩)]) (H1:=(hT 2 [oC q0])) (BS (Dm Dk) (BS (Dm Dk) (BS (Dm Dk) (BS (Dm Dk) (BS (Dm Dk) Gj))))) (EI (H2:=(hT 2 [oC q1])) (v:=(.tuple ⟨[]⟩)) (v':=(.tuple ⟨[]⟩)) [some 0,some 1] [(false,some 1)] [oC q0] [sc 1 0 1 n0 c0,(zI (0:Int)),(zI (Int.ofNat n0)),zI x0,(.func (.func 70) ⟨[]⟩ ⟨[]⟩)] [(.agg ⟨q1⟩)] [oC q1] [some 0,some 1] [(false,oC q1)] [oC q1] (trE (by kernel_rfl) (XX h2 rfl)) (En (Nb (anc:=[]) h3) BX) (Eq.trans (by kernel_rfl) h4) (En rfl BX) (En (KO h6) BX))) (eE))) ?_
 replace hm:=Ae hm;obtain ⟨h7,hm⟩:=hm
 refine .ghs (fr 14 []) (hT 2 [oC q1]) (.k [1] [false,false] [] [] ⟨BI h7,trivial⟩) ?_
 exact TU (.tuple ⟨[]⟩) [oC q1] (by kernel_rfl) hm (Nat.le_of_ble_eq_true rfl) (Fa (VT _) EJ)
theorem Abd {call:A8} (pu:Af) (n:Nat) (hcall:call = Bb tabs isP pu (inl pu)) {args:LV} {os:List AJ} {z:Value} (ha:args.length = 2) (hk:os.length = 1) (hpl:∀ o ∈ os,plainO o) (hm:LM pu n (args ++ os.map Ef) = some z):args.length≤14∧BN tt call (tabs.length + 1) TN (Fr.made 14 args) (BK tabs os) (FJ tt tabs.length 1 [] z):=by
 subst hcall
 have hq:=BC ha;clear ha;obtain ⟨a0,args,rfl,ha⟩:=hq
 have hq:=BC ha;clear ha;obtain ⟨a1,args,rfl,ha⟩:=hq
 obtain rfl:=len_nil ha
 have hq:=BC hk;clear hk;obtain ⟨b0,os,rfl,hk⟩:=hq
 have hp0:plainO b0:=hpl b0 (by simp)
 obtain rfl:=len_nil hk
 replace hm:LM pu n [a0,a1,Ef b0] = some z:=hm
 unfold LM at hm
 replace hm:(oo (KP 1 0 1 a0) none fun y0=>(oo (Om 70 0 a1) none fun l0=>(ll l0 (oo (Bt (Ef b0)) none fun q0=>(Nh pu n (NC.n y0) (NC.c y0) q0)) fun _ _=>none))) = some z:=hm
 replace hm:=Ab hm;obtain ⟨y0,h0,hm⟩:=hm
 obtain rfl:=F5 h0
 replace hm:=Ab hm;obtain ⟨l0,h1,hm⟩:=hm
 obtain rfl:=Hu h1
 replace hm:=AC hm;obtain ⟨rfl,hm⟩:=hm
 replace hm:=Ab hm;obtain ⟨q0,h2,hm⟩:=hm
 obtain rfl:=I7 hp0 h2
 refine ⟨by simp,?_⟩
 exact .same (F':=(fr 14 [(0,(sc 1 0 1 (NC.n y0) (NC.c y0))),(1,(.func (.func 70) ⟨[]⟩ ⟨[]⟩))])) (H':=(hT 2 [oC q0])) (by kernel_rfl) (by kernel_rfl) (V3 pu n (NC.n y0) (NC.c y0) q0 hm)
end
end Go.BkYM
