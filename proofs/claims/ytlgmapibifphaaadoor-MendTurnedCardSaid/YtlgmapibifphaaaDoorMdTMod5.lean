/- Made from wip. -/
import Derived.Test.YtlgmapibifphaaaDoorMdTMod0x

set_option maxRecDepth 100000
set_option maxHeartbeats 20000000
set_option linter.unusedVariables false
namespace Go.MdTM
open Go.Sp Go.MdT
noncomputable section
def SB (pu:Af) (n n0 c0:Nat) (q0:LV):OV:=
 (bb (Au Ah q0) (bb (an (Nat.ble (0+n0*1) (len q0)) (Au Ah (Aq (n0*1) (Am 0 q0)))) (some (Sl.v 1 (Sl.mk n0 0 (Aq (n0*1) (Am 0 q0))))) none) none)
def UO (pu:Af) (n:Nat) (ih0:Int→Nat→Nat→LV→OV) (z0:Int) (n0 c0:Nat) (q0:LV):OV:=
 (bb (Au Ah q0) (bb (nt (Bd z0 (0:Int))) (oo (pu 67 [.int .u16 z0]) none fun v0=>(oo (Bi .i64 v0) none fun x0=>(bb (GV 1 8 n0 c0 1 q0) (bb (Au Ah (Br (Am 0 q0) [.int .i64 x0])) (ih0 (Np .u16 z0 (Aj .u16 (Int.sub z0 (1:Int)))) (n0+1) (2*(n0+1)+bb false 1 0) (Br (Am 0 q0) [.int .i64 x0])) none) none))) (SB pu n n0 c0 q0)) none)
def UQ (pu:Af) (n w:Nat):Int→Nat→Nat→LV→OV:=
 Nat.rec (motive:=fun _=>Int→Nat→Nat→LV→OV) (fun _ _ _ _=>none) (fun _ ih0=>UO pu n ih0) w
def tH (pu:Af) (n:Nat) (x0:Int):OV:=
 (UQ pu n n x0 0 0 ([]:LV))
def xK (pu:Af) (n:Nat) (args:LV):OV:=
 (ll args none fun a0 args=>(ll args (oo (Bi .u16 a0) none fun x0=>(tH pu n x0)) fun _ _=>none))
theorem tJ (pu:Af) (n n0 c0:Nat) (q0:LV) {v:Value} (hm:SB pu n n0 c0 q0=some v):BN tt (Bb tabs Gy pu (inl pu)) 1 UH (fr 16 [(3,sc 1 0 1 n0 c0)]) (hT 2 [oC q0]) (Fin tt 1 [.tmp 2] v):=by
 unfold SB at hm
 refine .then (.rK ?_)
 replace hm:=Ae hm;obtain⟨h0,hm⟩:=hm
 refine .ghs (fr 16 [(2,sc 1 0 1 n0 c0)]) (hT 2 [oC q0]) (.k [1] [false] [.tmp 2 false] [2] ⟨Dy h0,trivial⟩) ?_
 replace hm:=Ae hm;obtain⟨h1,hm⟩:=hm
 refine .ghs (Fr.puts (fr 16 [(2,sc 1 0 1 n0 c0)]) [(2,(Sl.v 1 (Sl.mk n0 0 (Aq (n0*1) (Am 0 q0)))))]) (hT 2 [.dead]) (.freezeC 1 2 1 (an (Nat.ble (0+n0*1) (len q0)) (Au Ah (Aq (n0*1) (Am 0 q0)))) (F1:=(Fr.puts (fr 16 [(2,sc 1 0 1 n0 c0)]) [(2,(Sl.v 1 (Sl.mk n0 0 (Aq (n0*1) (Am 0 q0)))))])) (H1:=(hT 2 [.dead])) (by kernel_rfl) (by kernel_rfl) h1 (E9.id _ _)) ?_
 refine .ret ?_
 exact Fb (Sl.v 1 (Sl.mk n0 0 (Aq (n0*1) (Am 0 q0)))) hm
theorem r62 {call:A8} (pu:Af) (n:Nat) (hcall:call=Bb tabs Gy pu (inl pu)) {args:LV} {v:Value} (hm:xK pu n args=some v) (_:∀ x∈args,closed2 x=true):args.length≤16∧BN tt call 1 Pe (Fr.made 16 args) (Ao tabs) (Fin tt 1 [.tmp 2] v):=by
 subst hcall
 unfold xK at hm
 replace hm:=Ad hm;obtain⟨a0,args_0,rfl,hm⟩:=hm
 replace hm:=AC hm;obtain⟨rfl,hm⟩:=hm
 replace hm:=Ai hm;obtain⟨x0,rfl,hm⟩:=hm
 unfold tH at hm
 refine⟨by simp,?_⟩
 refine .same (F':=(fr 16 [(0,.int .u16 x0)])) (H':=Eb) (by kernel_rfl) (by kernel_rfl) ?_
 refine .then (.rK (.ghs (fr 16 [(0,.int .u16 x0)]) Eb (.k0 [false] [] [0]) ?_))
 refine .then (.rK (.ghs (fr 16 [(0,.int .u16 x0),(3,(.slice none 0 0))]) Eb (.k0 [false] [] [0,3]) ?_))
 refine .join (v:=v) (fun y:Nat×Nat×LV=>((fr 16 [(3,(sc 1 0 1 y.1 y.2.1))]),(hT 2 [(oC y.2.2)]))) (fun y=>SB pu n y.1 y.2.1 y.2.2) ?_ ?_
 ·rintro⟨n0,c0,q0⟩ hm
  exact tJ pu n n0 c0 q0 hm
 ·refine .block (.loopM (v:=v) (fun y:Int×Nat×Nat×LV=>((fr 16 [(0,(.int .u16 y.1)),(3,(sc 1 0 1 y.2.1 y.2.2.1))]),(hT 2 [(oC y.2.2.2)]))) (fun w y=>UQ pu n w y.1 y.2.1 y.2.2.1 y.2.2.2) n ⟨(x0,0,0,([]:LV)),hm,(.thaw 3 1 (by kernel_rfl) (.k0 [false] [.tmp 3 false] [0,3]))⟩ (fun _=>rfl) ?_)
  rintro w0 ⟨z0,n1,c1,q1⟩ hm
  replace hm:UO pu n (UQ pu n w0) z0 n1 c1 q1=some v:=hm
  unfold UO at hm
  refine .then (.then (.rK ?_))
  replace hm:=Ae hm;obtain⟨h0,hm⟩:=hm
  refine .ghs (fr 16 [(0,.int .u16 z0),(3,sc 1 0 1 n1 c1),(5,(zB (nt (Bd z0 (0:Int)))))]) (hT 2 [oC q1]) (.k [1] [false] [.tmp 3 false] [0,3,5] ⟨Dy h0,trivial⟩) ?_
  replace hm:=Ag hm;rcases hm with⟨h1,hm⟩ | ⟨h1,hm⟩
  ·refine FX (nt (Bd z0 (0:Int))) h1 ?_
   refine .skip (.ghs (fr 16 [(0,.int .u16 z0),(3,sc 1 0 1 n1 c1)]) (hT 2 [oC q1]) (.k [1] [false] [.tmp 3 false] [0,3] ⟨Dy h0,trivial⟩) ?_)
   refine .then (.block ?_)
   replace hm:=Gt hm;obtain⟨x1,h2,hm⟩:=hm
   replace hm:=Ae hm;obtain⟨h3,hm⟩:=hm
   refine .reg (eC 2 ((oo (pu 67 [.int .u16 z0]) none fun v=>some (v,(hT 2 [oC q1])))) (AB h2) (eC 1 (Oc 1 8 n1 c1 1 1 q1 [zI x1] [] (hT 3 [oC q1,(oC [zI x1])])) (I1 h3) (eE))) ?_
   replace hm:=Ae hm;obtain⟨h4,hm⟩:=hm
   refine .ghs (fr 16 [(0,.int .u16 z0),(3,(sc 1 0 1 (n1+1) (d2 (n1+1))))]) (hT 2 [(oC (Br (Am 0 q1) [zI x1]))]) (.k [3] [false] [.tmp 3 false] [0,3] ⟨Dy h4,trivial⟩) ?_
   refine .rK ?_
   exact⟨((Np .u16 z0 (Aj .u16 (Int.sub z0 (1:Int)))),(n1+1),(d2 (n1+1)),(Br (Am 0 q1) [zI x1])),hm,(.k [1] [false] [.tmp 3 false] [0,3] ⟨Dy h4,trivial⟩)⟩
  ·refine FY (nt (Bd z0 (0:Int))) h1 ?_
   refine .exit ?_
   exact⟨(n1,c1,q1),hm,(.k [1] [false] [.tmp 3 false] [3] ⟨Dy h0,trivial⟩)⟩

def WK (pu:Af) (n:Nat) (x0:Int):OV:=
 (oo (EA (G6 .u16 x0 8)) none fun k1=>(oo (WC[k1]?) none fun c0=>(oo (EA (Np .u16 x0 (255:Int))) none fun k2=>(oo (WC[k2]?) none fun c1=>(some (.int .i64 (Aj .i64 (Aj .u8 (Int.add (Int.ofNat (UInt8.toNat c0)) (Int.ofNat (UInt8.toNat c1)))))))))))
def m64 (pu:Af) (n:Nat) (args:LV):OV:=
 (ll args none fun a0 args=>(ll args (oo (Bi .u16 a0) none fun x0=>(WK pu n x0)) fun _ _=>none))
theorem r64 {call:A8} (pu:Af) (n:Nat) (hcall:call=Bb tabs Gy pu (inl pu)) {args:LV} {v:Value} (hm:m64 pu n args=some v) (_:∀ x∈args,closed2 x=true):args.length≤11∧BN tt call 1 Sn (Fr.made 11 args) (Ao tabs) (Fin tt 1 [.tmp 2] v):=by
 subst hcall
 unfold m64 at hm
 replace hm:=Ad hm;obtain⟨a0,args_0,rfl,hm⟩:=hm
 replace hm:=AC hm;obtain⟨rfl,hm⟩:=hm
 replace hm:=Ai hm;obtain⟨x0,rfl,hm⟩:=hm
 unfold WK at hm
 refine⟨by simp,?_⟩
 refine .same (F':=(fr 11 [(0,.int .u16 x0)])) (H':=Eb) (by kernel_rfl) (by kernel_rfl) ?_
 refine .then (.rK (.ghs (fr 11 [(0,.int .u16 x0)]) Eb (.k0 [false] [] [0]) ?_))
 refine .then ?_
 replace hm:=Ab hm;obtain⟨k1,h0,hm⟩:=hm
 replace hm:=Ab hm;obtain⟨c0,h1,hm⟩:=hm
 replace hm:=Ab hm;obtain⟨k2,h2,hm⟩:=hm
 replace hm:=Ab hm;obtain⟨c1,h3,hm⟩:=hm
 refine .reg (eC 1 (some ((.int .u16 (G6 .u16 x0 8)),Eb)) (show _=some ((.int .u16 (Int.ofNat k1)),_) from (by rw[AR h0])) (eD (keep Eb (oo (WC[k1]?) none fun b=>iv .u8 (.ofNat b.toNat))) (nE h1) (eC 1 (some ((.int .u16 (Np .u16 x0 (255:Int))),Eb)) (show _=some ((.int .u16 (Int.ofNat k2)),_) from (by rw[AR h2])) (eD (keep Eb (oo (WC[k2]?) none fun b=>iv .u8 (.ofNat b.toNat))) (nE h3) (eE))))) ?_
 refine .ghs (fr 11 [(2,(zI (Aj .i64 (Aj .u8 (Int.add (Int.ofNat (UInt8.toNat c0)) (Int.ofNat (UInt8.toNat c1)))))))]) Eb (.k0 [false] [] [2]) ?_
 refine .ret ?_
 exact Fb (zI (Aj .i64 (Aj .u8 (Int.add (Int.ofNat (UInt8.toNat c0)) (Int.ofNat (UInt8.toNat c1)))))) hm

def WL (pu:Af) (n:Nat) (x0:Int):OV:=
 (bb (Bd x0 (0:Int)) (some (.int .i64 (16:Int))) (oo (EA (G6 .u32 (Aj .u32 (Int.mul (Aj .u32 (Np .u16 x0 (Aj .u16 (Int.sub (.ofNat 0) x0)))) (125613361:Int))) 27)) none fun k1=>(bb (Nat.blt k1 32) (oo (AL Pg (0+k1*1)) none fun v0=>(oo (Bi .u8 v0) none fun x1=>(some (.int .i64 (Aj .i64 x1))))) none)))
def xL (pu:Af) (n:Nat) (args:LV):OV:=
 (ll args none fun a0 args=>(ll args (oo (Bi .u16 a0) none fun x0=>(WL pu n x0)) fun _ _=>none))
theorem r67 {call:A8} (pu:Af) (n:Nat) (hcall:call=Bb tabs Gy pu (inl pu)) {args:LV} {v:Value} (hm:xL pu n args=some v) (_:∀ x∈args,closed2 x=true):args.length≤15∧BN tt call 1 Sq (Fr.made 15 args) (Ao tabs) (Fin tt 1 [.tmp 2] v):=by
 subst hcall
 unfold xL at hm
 replace hm:=Ad hm;obtain⟨a0,args_0,rfl,hm⟩:=hm
 replace hm:=AC hm;obtain⟨rfl,hm⟩:=hm
 replace hm:=Ai hm;obtain⟨x0,rfl,hm⟩:=hm
 unfold WL at hm
 refine⟨by simp,?_⟩
 refine .same (F':=(fr 15 [(0,.int .u16 x0)])) (H':=Eb) (by kernel_rfl) (by kernel_rfl) ?_
 refine .then (.rK (.ghs (fr 15 [(0,.int .u16 x0)]) Eb (.k0 [false] [] [0]) ?_))
 refine .then (.then (.rK (.ghs (fr 15 [(0,.int .u16 x0),(4,(zB (Bd x0 (0:Int))))]) Eb (.k0 [false] [] [0,4]) ?_)))
 replace hm:=Ag hm;rcases hm with⟨h0,hm⟩ | ⟨h0,hm⟩
 ·refine FX (Bd x0 (0:Int)) h0 ?_
  refine .then (.rK (.ghs (fr 15 [(2,(zI (16:Int)))]) Eb (.k0 [false] [] [2]) ?_))
  refine .ret ?_
  exact Fb (zI (16:Int)) hm
 ·refine FY (Bd x0 (0:Int)) h0 ?_
  refine .skip (.ghs (fr 15 [(0,.int .u16 x0)]) Eb (.k0 [false] [] [0]) ?_)
  refine .then ?_
  replace hm:=Ab hm;obtain⟨k1,h1,hm⟩:=hm
  replace hm:=Ae hm;obtain⟨h2,hm⟩:=hm
  replace hm:=Gt hm;obtain⟨x1,h3,hm⟩:=hm
  refine .reg (eC 6 (some ((.int .u32 (G6 .u32 (Aj .u32 (Int.mul (Aj .u32 (Np .u16 x0 (Aj .u16 (Int.sub (.ofNat 0) x0)))) (125613361:Int))) 27)),Eb)) (show _=some ((.int .u32 (Int.ofNat k1)),_) from (by rw[AR h1])) (eD (keep Eb (bb (Nat.blt k1 32) (some (.pointer (some ⟨0,(0+k1*1),none⟩))) none)) (AX h2) (eD (keep Eb (AL Pg (0+k1*1))) (AZ h3) (eE)))) ?_
  refine .ghs (fr 15 [(2,(zI (Aj .i64 x1)))]) Eb (.k0 [false] [] [2]) ?_
  refine .ret ?_
  exact Fb (zI (Aj .i64 x1)) hm
def QC (pu:Af) (n:Nat) (q0:LV):OV:=
 (bb (Nat.ble (0+5) (len q0)) (oo (AL q0 0) none fun v0=>(oo (Bi .i64 v0) none fun x0=>(oo (AL q0 (0+1)) none fun v1=>(oo (Bi .i64 v1) none fun x1=>(oo (AL q0 ((0+1)+1)) none fun v2=>(oo (Bi .i64 v2) none fun x2=>(oo (AL q0 (((0+1)+1)+1)) none fun v3=>(oo (Bi .i64 v3) none fun x3=>(oo (AL q0 ((((0+1)+1)+1)+1)) none fun v4=>(oo (Bi .i64 v4) none fun x4=>(some (.bool (bq true (an (Bd x0 (0:Int)) (an (Bd x1 (0:Int)) (an (Bd x2 (0:Int)) (an (Bd x3 (0:Int)) (an (Bd x4 (0:Int)) true)))))))))))))))))) none)
def OP (pu:Af) (n:Nat) (ih0:Int→Int→Int→Int→Sl→Sl→LV→OV) (z0 z1 z2 z3:Int) (s0 s1:Sl) (q0:LV):OV:=
 (bb (Au Ah q0) (ih0 z0 z1 (Aj .i64 (Int.add z2 (1:Int))) z3 s0 s1 q0) none)
def QD (pu:Af) (n:Nat) (ih0:Int→Int→Int→Int→Sl→Sl→LV→OV) (z0 z1 z2 z3:Int) (s0 s1:Sl) (q0:LV):OV:=
 (bb (Au Ah q0) (bb (AY z2 z1) (oo (pu 53 [.int .u16 z0,.int .i64 z2]) none fun v0=>(oo (Bf v0) none fun b0=>(bb b0 (oo (EA z2) none fun k1=>(bb (an (Nat.blt k1 (Sl.n s0)) true) (oo (AL (Sl.cs s0) (k1*1)) none fun v1=>(oo (Bi .i64 v1) none fun x0=>(oo (EA x0) none fun k2=>(bb (Nat.blt k2 5) (oo (AL q0 (0+k2*1)) none fun v2=>(oo (Bi .i64 v2) none fun x1=>(bb (Nat.blt k2 5) (bb (an (Nat.ble ((0+k2*1)+1) (len q0)) true) (bb (Au Ah (BM ([(.int .i64 (Aj .i64 (Int.add x1 (1:Int))))]:LV) (0+k2*1) q0)) (bb (an (Nat.blt k1 (Sl.n s1)) true) (oo (AL (Sl.cs s1) (k1*1)) none fun v3=>(oo (Bi .i64 v3) none fun x2=>(oo (EA x2) none fun k3=>(bb (Nat.blt k3 5) (oo (AL (BM ([(.int .i64 (Aj .i64 (Int.add x1 (1:Int))))]:LV) (0+k2*1) q0) (0+k3*1)) none fun v4=>(oo (Bi .i64 v4) none fun x3=>(bb (Nat.blt k3 5) (bb (an (Nat.ble ((0+k3*1)+1) (len (BM ([(.int .i64 (Aj .i64 (Int.add x1 (1:Int))))]:LV) (0+k2*1) q0))) true) (bb (Au Ah (BM ([(.int .i64 (Aj .i64 (Int.sub x3 (1:Int))))]:LV) (0+k3*1) (BM ([(.int .i64 (Aj .i64 (Int.add x1 (1:Int))))]:LV) (0+k2*1) q0))) (OP pu n ih0 z0 z1 (Int.ofNat k1) z3 s0 s1 (BM ([(.int .i64 (Aj .i64 (Int.sub x3 (1:Int))))]:LV) (0+k3*1) (BM ([(.int .i64 (Aj .i64 (Int.add x1 (1:Int))))]:LV) (0+k2*1) q0))) none) none) none))) none)))) none) none) none) none))) none)))) none)) (OP pu n ih0 z0 z1 z2 z3 s0 s1 q0)))) (QC pu n q0)) none)
def MM (pu:Af) (n w:Nat):Int→Int→Int→Int→Sl→Sl→LV→OV:=
 Nat.rec (motive:=fun _=>Int→Int→Int→Int→Sl→Sl→LV→OV) (fun _ _ _ _ _ _ _=>none) (fun _ ih0=>QD pu n ih0) w
def tK (pu:Af) (n:Nat) (x0:Int) (s0 s1:Sl) (x1:Int):OV:=
 (MM pu n n x1 (Int.ofNat (Sl.n s0)) (0:Int) x0 s0 s1 ([(.int .i64 (0:Int)),(.int .i64 (0:Int)),(.int .i64 (0:Int)),(.int .i64 (0:Int)),(.int .i64 (0:Int))]:LV))
def xM (pu:Af) (n:Nat) (args:LV):OV:=
 (ll args none fun a0 args=>(ll args none fun a1 args=>(ll args (oo (Bt a0) none fun l0=>(ll l0 none fun v0 l0=>(ll l0 none fun v1 l0=>(ll l0 none fun v2 l0=>(ll l0 (oo (Bi .i64 v0) none fun x0=>(oo (Bj 1 v1) none fun s0=>(oo (Bj 1 v2) none fun s1=>(oo (Bi .u16 a1) none fun x1=>(tK pu n x0 s0 s1 x1))))) fun _ _=>none))))) fun _ _=>none)))
theorem tL (pu:Af) (n:Nat) (q0:LV) {v:Value} (hm:QC pu n q0=some v):BN tt (Bb tabs Gy pu (inl pu)) 1 UI (fr 38 [(5,pt 1 0)]) (hT 2 [oC q0]) (Fin tt 1 [.tmp 4] v):=by
 unfold QC at hm
 refine .then ?_
 replace hm:=Ae hm;obtain⟨h0,hm⟩:=hm
 replace hm:=Gt hm;obtain⟨x0,h1,hm⟩:=hm
 replace hm:=Gt hm;obtain⟨x1,h2,hm⟩:=hm
 replace hm:=Gt hm;obtain⟨x2,h3,hm⟩:=hm
 replace hm:=Gt hm;obtain⟨x3,h4,hm⟩:=hm
 replace hm:=Gt hm;obtain⟨x4,h5,hm⟩:=hm
 refine .reg (eD (keep (hT 2 [oC q0]) (bb (Nat.ble (0+5) (len q0)) (some (.agg ⟨Aq 5 (Am 0 q0)⟩)) none)) (Pd h0 (Ca h1 (Ca h2 (Ca h3 (Ca h4 (Ca h5 rfl)))))) (eE)) ?_
 refine .ghs (fr 38 [(4,(zB (bq true (an (Bd x0 (0:Int)) (an (Bd x1 (0:Int)) (an (Bd x2 (0:Int)) (an (Bd x3 (0:Int)) (an (Bd x4 (0:Int)) true))))))))]) Eb (.k0 [false] [] [4]) ?_
 refine .ret ?_
 exact Fb (zB (bq true (an (Bd x0 (0:Int)) (an (Bd x1 (0:Int)) (an (Bd x2 (0:Int)) (an (Bd x3 (0:Int)) (an (Bd x4 (0:Int)) true))))))) hm
theorem r71 {call:A8} (pu:Af) (n:Nat) (hcall:call=Bb tabs Gy pu (inl pu)) {args:LV} {v:Value} (hm:xM pu n args=some v) (_:∀ x∈args,closed2 x=true):args.length≤38∧BN tt call 1 Pf (Fr.made 38 args) (Ao tabs) (Fin tt 1 [.tmp 4] v):=by
 subst hcall
 unfold xM at hm
 replace hm:=Ad hm;obtain⟨a0,args_0,rfl,hm⟩:=hm
 replace hm:=Ad hm;obtain⟨a1,args_1,rfl,hm⟩:=hm
 replace hm:=AC hm;obtain⟨rfl,hm⟩:=hm
 replace hm:=BG hm;obtain⟨l0,rfl,hm⟩:=hm
 replace hm:=Ad hm;obtain⟨v0,l14923_0,rfl,hm⟩:=hm
 replace hm:=Ad hm;obtain⟨v1,l14923_1,rfl,hm⟩:=hm
 replace hm:=Ad hm;obtain⟨v2,l14923_2,rfl,hm⟩:=hm
 replace hm:=AC hm;obtain⟨rfl,hm⟩:=hm
 replace hm:=Ai hm;obtain⟨x0,rfl,hm⟩:=hm
 replace hm:=Al hm;obtain⟨s0,rfl,hm⟩:=hm
 replace hm:=Al hm;obtain⟨s1,rfl,hm⟩:=hm
 replace hm:=Ai hm;obtain⟨x1,rfl,hm⟩:=hm
 unfold tK at hm
 refine⟨by simp,?_⟩
 refine .same (F':=(fr 38 [(0,(.agg ⟨[zI x0,Sl.v 1 s0,Sl.v 1 s1]⟩)),(1,.int .u16 x1)])) (H':=Eb) (by kernel_rfl) (by kernel_rfl) ?_
 refine .then (.rK (.ghs (fr 38 [(1,.int .u16 x1),(2,pt 1 0)]) (hT 2 [(oC [zI x0,Sl.v 1 s0,Sl.v 1 s1])]) (.k0 [false] [.tmp 2 false] [1,2]) ?_))
 refine .then (.rK (.ghs (fr 38 [(1,.int .u16 x1),(2,pt 1 0),(5,(pt 2 0))]) (hT 3 [(oC [zI x0,Sl.v 1 s0,Sl.v 1 s1]),(oC [(zI (0:Int)),(zI (0:Int)),(zI (0:Int)),(zI (0:Int)),(zI (0:Int))])]) (.k0 [false] [.tmp 2 false,.tmp 5 false] [1,2,5]) ?_))
 refine .join (v:=v) (fun y:LV=>((fr 38 [(5,pt 1 0)]),(hT 2 [oC y]))) (fun y=>QC pu n y) ?_ ?_
 ·rintro q0 hm
  exact tL pu n q0 hm
 ·refine .then (.rK (.ghs (fr 38 [(1,.int .u16 x1),(2,pt 1 0),(5,(pt 2 0)),(9,(zI (Int.ofNat (Sl.n s0)))),(10,(zI (0:Int)))]) (hT 3 [(oC [zI x0,Sl.v 1 s0,Sl.v 1 s1]),(oC [(zI (0:Int)),(zI (0:Int)),(zI (0:Int)),(zI (0:Int)),(zI (0:Int))])]) (.k0 [false] [.tmp 2 false,.tmp 5 false] [1,2,5,9,10]) ?_))
  refine .block (.loopM (v:=v) (fun y:Int×Int×Int×Int×Sl×Sl×LV=>((fr 38 [(1,(.int .u16 y.1)),(2,pt 1 0),(5,(pt 2 0)),(9,(zI y.2.1)),(10,(zI y.2.2.1))]),(hT 3 [(oC [(zI y.2.2.2.1),(Sl.v 1 y.2.2.2.2.1),(Sl.v 1 y.2.2.2.2.2.1)]),(oC y.2.2.2.2.2.2)]))) (fun w y=>MM pu n w y.1 y.2.1 y.2.2.1 y.2.2.2.1 y.2.2.2.2.1 y.2.2.2.2.2.1 y.2.2.2.2.2.2) n ⟨(x1,(Int.ofNat (Sl.n s0)),(0:Int),x0,s0,s1,([(zI (0:Int)),(zI (0:Int)),(zI (0:Int)),(zI (0:Int)),(zI (0:Int))]:LV)),hm,(.k0 [false] [.tmp 2 false,.tmp 5 false] [1,2,5,9,10])⟩ (fun _=>rfl) ?_)
  rintro w0 ⟨z0,z1,z2,z3,s2,s3,q1⟩ hm
  replace hm:QD pu n (MM pu n w0) z0 z1 z2 z3 s2 s3 q1=some v:=hm
  unfold QD at hm
  refine .then (.rK ?_)
  replace hm:=Ae hm;obtain⟨h0,hm⟩:=hm
  refine .ghs (fr 38 [(1,.int .u16 z0),(2,pt 1 0),(5,(pt 2 0)),(9,zI z1),(10,zI z2),(11,(zB (AY z2 z1)))]) (hT 3 [(oC [zI z3,Sl.v 1 s2,Sl.v 1 s3]),oC q1]) (.k [2] [false] [.tmp 2 false,.tmp 5 false] [1,2,5,9,10,11] ⟨Dy h0,trivial⟩) ?_
  refine .then ?_
  replace hm:=Ag hm;rcases hm with⟨h1,hm⟩ | ⟨h1,hm⟩
  ·refine FX (AY z2 z1) h1 ?_
   refine .skip (.ghs (fr 38 [(1,.int .u16 z0),(2,pt 1 0),(5,(pt 2 0)),(9,zI z1),(10,zI z2)]) (hT 3 [(oC [zI z3,Sl.v 1 s2,Sl.v 1 s3]),oC q1]) (.k [2] [false] [.tmp 2 false,.tmp 5 false] [1,2,5,9,10] ⟨Dy h0,trivial⟩) ?_)
   refine .join (v:=v) (fun y:Int×Int×Int×Int×Sl×Sl×LV=>((fr 38 [(1,(.int .u16 y.1)),(2,pt 1 0),(5,(pt 2 0)),(9,(zI y.2.1)),(10,(zI y.2.2.1))]),(hT 3 [(oC [(zI y.2.2.2.1),(Sl.v 1 y.2.2.2.2.1),(Sl.v 1 y.2.2.2.2.2.1)]),(oC y.2.2.2.2.2.2)]))) (fun y=>OP pu n (MM pu n w0) y.1 y.2.1 y.2.2.1 y.2.2.2.1 y.2.2.2.2.1 y.2.2.2.2.2.1 y.2.2.2.2.2.2) ?_ ?_
   ·rintro⟨z4,z5,z6,z7,s4,s5,q2⟩ hm
    unfold OP at hm
    refine .rK ?_
    replace hm:=Ae hm;obtain⟨h2,hm⟩:=hm
    exact⟨(z4,z5,(Aj .i64 (Int.add z6 (1:Int))),z7,s4,s5,q2),hm,(.k [2] [false] [.tmp 2 false,.tmp 5 false] [1,2,5,9,10] ⟨Dy h2,trivial⟩)⟩
   ·refine .block (.then (.rK (.ghs (fr 38 [(1,.int .u16 z0),(2,pt 1 0),(5,(pt 2 0)),(6,zI z2),(9,zI z1),(10,zI z2)]) (hT 3 [(oC [zI z3,Sl.v 1 s2,Sl.v 1 s3]),oC q1]) (.k [2] [false] [.tmp 2 false,.tmp 5 false] [1,2,5,6,9,10] ⟨Dy h0,trivial⟩) ?_)))
    refine .then ?_
    replace hm:=kR hm;obtain⟨b0,h3,hm⟩:=hm
    refine .reg (eC 2 ((oo (pu 53 [.int .u16 z0,zI z2]) none fun v=>some (v,(hT 3 [(oC [zI z3,Sl.v 1 s2,Sl.v 1 s3]),oC q1])))) (AB h3) (eE)) ?_
    refine .ghs (fr 38 [(1,.int .u16 z0),(2,pt 1 0),(5,(pt 2 0)),(6,zI z2),(9,zI z1),(10,zI z2),(15,zB b0)]) (hT 3 [(oC [zI z3,Sl.v 1 s2,Sl.v 1 s3]),oC q1]) (.k [2] [false] [.tmp 2 false,.tmp 5 false] [1,2,5,6,9,10,15] ⟨Dy h0,trivial⟩) ?_
    replace hm:=Ag hm;rcases hm with⟨h4,hm⟩ | ⟨h4,hm⟩
    ·refine .ifT b0 (by kernel_rfl) h4 ?_
     refine .then ?_
     replace hm:=Ab hm;obtain⟨k1,h5,hm⟩:=hm
     obtain rfl:=AR h5
     replace hm:=Ae hm;obtain⟨h6,hm⟩:=hm
     replace hm:=Gt hm;obtain⟨x2,h7,hm⟩:=hm
     replace hm:=Ab hm;obtain⟨k2,h8,hm⟩:=hm
     obtain rfl:=AR h8
     replace hm:=Ae hm;obtain⟨h9,hm⟩:=hm
     replace hm:=Gt hm;obtain⟨x3,h10,hm⟩:=hm
     replace hm:=Ae hm;obtain⟨h11,hm⟩:=hm
     replace hm:=Ae hm;obtain⟨h12,hm⟩:=hm
     refine .reg (eN 6 (Fr.puts (fr 38 [(1,.int .u16 z0),(2,pt 1 0),(5,(pt 2 0)),(6,(zI (Int.ofNat k1))),(9,zI z1),(10,(zI (Int.ofNat k1))),(15,zB b0)]) [(16,pt 1 1),(17,Sl.v 1 s2),(18,(zI (Int.ofNat k1))),(19,(Cv (k1*1) (Sl.cs s2))),(20,(zI (Int.ofNat k2))),(21,(.pointer (some ⟨2,(0+k2*1),none⟩)))]) (hT 3 [(oC [zI z3,Sl.v 1 s2,Sl.v 1 s3]),oC q1]) (eC 3 (keep (hT 3 [(oC [zI z3,Sl.v 1 s2,Sl.v 1 s3]),oC q1]) (bb (an (Nat.blt k1 (Sl.n s2)) true) (some (Cv (k1*1) (Sl.cs s2))) none)) (AX h6) (eD (keep (hT 3 [(oC [zI z3,Sl.v 1 s2,Sl.v 1 s3]),oC q1]) (AL (Sl.cs s2) (k1*1))) (AZ h7) (eD (keep (hT 3 [(oC [zI z3,Sl.v 1 s2,Sl.v 1 s3]),oC q1]) (bb (Nat.blt k2 5) (some (.pointer (some ⟨2,(0+k2*1),none⟩))) none)) (AX h9) (by kernel_rfl)))) (eD (keep (hT 3 [(oC [zI z3,Sl.v 1 s2,Sl.v 1 s3]),oC q1]) (AL q1 (0+k2*1))) (AZ h10) (eC 1 (keep (hT 3 [(oC [zI z3,Sl.v 1 s2,Sl.v 1 s3]),oC q1]) (bb (Nat.blt k2 5) (some (.pointer (some ⟨2,(0+k2*1),none⟩))) none)) (AX h11) (eD (done (bb (an (Nat.ble ((0+k2*1)+1) (len q1)) true) (some (hT 3 [(oC [zI z3,Sl.v 1 s2,Sl.v 1 s3]),(oC (BM ([(zI (Aj .i64 (Int.add x3 (1:Int))))]:LV) (0+k2*1) q1))])) none) undef) (Js h12) (eE))))) ?_
     replace hm:=Ae hm;obtain⟨h13,hm⟩:=hm
     refine .ghs (fr 38 [(1,.int .u16 z0),(2,pt 1 0),(5,(pt 2 0)),(6,(zI (Int.ofNat k1))),(9,zI z1),(10,(zI (Int.ofNat k1)))]) (hT 3 [(oC [zI z3,Sl.v 1 s2,Sl.v 1 s3]),(oC (BM ([(zI (Aj .i64 (Int.add x3 (1:Int))))]:LV) (0+k2*1) q1))]) (.k [2] [false] [.tmp 2 false,.tmp 5 false] [1,2,5,6,9,10] ⟨Dy h13,trivial⟩) ?_
     replace hm:=Ae hm;obtain⟨h14,hm⟩:=hm
     replace hm:=Gt hm;obtain⟨x4,h15,hm⟩:=hm
     replace hm:=Ab hm;obtain⟨k3,h16,hm⟩:=hm
     obtain rfl:=AR h16
     replace hm:=Ae hm;obtain⟨h17,hm⟩:=hm
     replace hm:=Gt hm;obtain⟨x5,h18,hm⟩:=hm
     replace hm:=Ae hm;obtain⟨h19,hm⟩:=hm
     replace hm:=Ae hm;obtain⟨h20,hm⟩:=hm
     refine .reg (eN 6 (Fr.puts (fr 38 [(1,.int .u16 z0),(2,pt 1 0),(5,(pt 2 0)),(6,(zI (Int.ofNat k1))),(9,zI z1),(10,(zI (Int.ofNat k1)))]) [(25,pt 1 2),(26,Sl.v 1 s3),(27,(zI (Int.ofNat k1))),(28,(Cv (k1*1) (Sl.cs s3))),(29,(zI (Int.ofNat k3))),(30,(.pointer (some ⟨2,(0+k3*1),none⟩)))]) (hT 3 [(oC [zI z3,Sl.v 1 s2,Sl.v 1 s3]),(oC (BM ([(zI (Aj .i64 (Int.add x3 (1:Int))))]:LV) (0+k2*1) q1))]) (eC 3 (keep (hT 3 [(oC [zI z3,Sl.v 1 s2,Sl.v 1 s3]),(oC (BM ([(zI (Aj .i64 (Int.add x3 (1:Int))))]:LV) (0+k2*1) q1))]) (bb (an (Nat.blt k1 (Sl.n s3)) true) (some (Cv (k1*1) (Sl.cs s3))) none)) (AX h14) (eD (keep (hT 3 [(oC [zI z3,Sl.v 1 s2,Sl.v 1 s3]),(oC (BM ([(zI (Aj .i64 (Int.add x3 (1:Int))))]:LV) (0+k2*1) q1))]) (AL (Sl.cs s3) (k1*1))) (AZ h15) (eD (keep (hT 3 [(oC [zI z3,Sl.v 1 s2,Sl.v 1 s3]),(oC (BM ([(zI (Aj .i64 (Int.add x3 (1:Int))))]:LV) (0+k2*1) q1))]) (bb (Nat.blt k3 5) (some (.pointer (some ⟨2,(0+k3*1),none⟩))) none)) (AX h17) (by kernel_rfl)))) (eD (keep (hT 3 [(oC [zI z3,Sl.v 1 s2,Sl.v 1 s3]),(oC (BM ([(zI (Aj .i64 (Int.add x3 (1:Int))))]:LV) (0+k2*1) q1))]) (AL (BM ([(zI (Aj .i64 (Int.add x3 (1:Int))))]:LV) (0+k2*1) q1) (0+k3*1))) (AZ h18) (eC 1 (keep (hT 3 [(oC [zI z3,Sl.v 1 s2,Sl.v 1 s3]),(oC (BM ([(zI (Aj .i64 (Int.add x3 (1:Int))))]:LV) (0+k2*1) q1))]) (bb (Nat.blt k3 5) (some (.pointer (some ⟨2,(0+k3*1),none⟩))) none)) (AX h19) (eD (done (bb (an (Nat.ble ((0+k3*1)+1) (len (BM ([(zI (Aj .i64 (Int.add x3 (1:Int))))]:LV) (0+k2*1) q1))) true) (some (hT 3 [(oC [zI z3,Sl.v 1 s2,Sl.v 1 s3]),(oC (BM ([(zI (Aj .i64 (Int.sub x5 (1:Int))))]:LV) (0+k3*1) (BM ([(zI (Aj .i64 (Int.add x3 (1:Int))))]:LV) (0+k2*1) q1)))])) none) undef) (Js h20) (eE))))) ?_
     replace hm:=Ae hm;obtain⟨h21,hm⟩:=hm
     exact⟨(z0,z1,(Int.ofNat k1),z3,s2,s3,(BM ([(zI (Aj .i64 (Int.sub x5 (1:Int))))]:LV) (0+k3*1) (BM ([(zI (Aj .i64 (Int.add x3 (1:Int))))]:LV) (0+k2*1) q1))),hm,(.k [2] [false] [.tmp 2 false,.tmp 5 false] [1,2,5,9,10] ⟨Dy h21,trivial⟩)⟩
    ·refine .ifF b0 (by kernel_rfl) h4 ?_
     refine .skip ?_
     exact⟨(z0,z1,z2,z3,s2,s3,q1),hm,(.k [2] [false] [.tmp 2 false,.tmp 5 false] [1,2,5,9,10] ⟨Dy h0,trivial⟩)⟩
  ·refine FY (AY z2 z1) h1 ?_
   refine .exit ?_
   exact⟨q1,hm,(.k [2] [false] [.tmp 5 false] [5] ⟨Dy h0,trivial⟩)⟩

def WM (pu:Af) (n:Nat) (s0:Sl):OV:=
 (bb (Dp (nt (Nat.beq (Sl.fl s0) 2)) (Nat.beq (Sl.n s0) 0)) (some (Sl.v 1 (KY 1 s0))) none)
def xN (pu:Af) (n:Nat) (args:LV):OV:=
 (ll args none fun a0 args=>(ll args (oo (Bj 1 a0) none fun s0=>(WM pu n s0)) fun _ _=>none))
theorem r72 {call:A8} (pu:Af) (n:Nat) (hcall:call=Bb tabs Gy pu (inl pu)) {args:LV} {v:Value} (hm:xN pu n args=some v) (_:∀ x∈args,closed2 x=true):args.length≤9∧BN tt call 1 Sr (Fr.made 9 args) (Ao tabs) (Fin tt 1 [.tmp 2] v):=by
 subst hcall
 unfold xN at hm
 replace hm:=Ad hm;obtain⟨a0,args_0,rfl,hm⟩:=hm
 replace hm:=AC hm;obtain⟨rfl,hm⟩:=hm
 replace hm:=Al hm;obtain⟨s0,rfl,hm⟩:=hm
 unfold WM at hm
 refine⟨by simp,?_⟩
 refine .same (F':=(fr 9 [(0,Sl.v 1 s0)])) (H':=Eb) (by kernel_rfl) (by kernel_rfl) ?_
 refine .then (.rK (.ghs (fr 9 [(0,Sl.v 1 s0)]) Eb (.k0 [false] [] [0]) ?_))
 refine .then ?_
 replace hm:=Ae hm;obtain⟨h0,hm⟩:=hm
 refine .reg (eC 5 (Ut Eb xC 1 s0) (Wh h0) (eE)) ?_
 refine .ghs (fr 9 [(2,(Sl.v 1 (KY 1 s0)))]) Eb (.k0 [false] [] [2]) ?_
 refine .ret ?_
 exact Fb (Sl.v 1 (KY 1 s0)) hm

def Ji (pu:Af) (n:Nat) (z0:Int) (s0 s1:Sl):OV:=
 (oo (pu 47 [(.agg ⟨[.int .i64 z0,Sl.v 1 s0,Sl.v 1 s1]⟩)]) none fun v0=>(oo (Bi .i64 v0) none fun x0=>(bb (nt (Bd x0 (0:Int))) (some (.tuple ⟨[(.tuple ⟨[(.int .i64 (0:Int)),.int .i64 x0]⟩)]⟩)) (oo (pu 44 [(.agg ⟨[.int .i64 z0,Sl.v 1 s0,Sl.v 1 s1]⟩)]) none fun v1=>(oo (Bi .i64 v1) none fun x1=>(some (.tuple ⟨[(.tuple ⟨[.int .i64 x1,(.int .i64 (0:Int))]⟩)]⟩)))))))
def JN (pu:Af) (n:Nat) (args:LV):OV:=
 (ll args none fun a0 args=>(ll args (oo (Bt a0) none fun l0=>(ll l0 none fun v0 l0=>(ll l0 none fun v1 l0=>(ll l0 none fun v2 l0=>(ll l0 (oo (Bi .i64 v0) none fun x0=>(oo (Bj 1 v1) none fun s0=>(oo (Bj 1 v2) none fun s1=>(Ji pu n x0 s0 s1)))) fun _ _=>none))))) fun _ _=>none))
theorem gG (pu:Af) (n:Nat) (z0:Int) (s0 s1:Sl) {v:Value} (hm:Ji pu n z0 s0 s1=some v):BN tt (Bb tabs Gy pu (inl pu)) 1 LU (fr 12 [(0,(.agg ⟨[zI z0,Sl.v 1 s0,Sl.v 1 s1]⟩))]) Eb (FJ tt 1 0 [.tmp 2,.tmp 3] v):=by
 unfold Ji at hm
 refine .then (.rK (.ghs (fr 12 [(1,pt 1 0)]) (hT 2 [(oC [zI z0,Sl.v 1 s0,Sl.v 1 s1])]) (.k0 [false] [.tmp 1 false] [1]) ?_))
 refine .then (.then ?_)
 replace hm:=Gt hm;obtain⟨x0,h0,hm⟩:=hm
 refine .reg (eC 1 ((oo (pu 47 [(.agg ⟨[zI z0,Sl.v 1 s0,Sl.v 1 s1]⟩)]) none fun v=>some (v,(hT 2 [(oC [zI z0,Sl.v 1 s0,Sl.v 1 s1])])))) (AB h0) (eE)) ?_
 refine .ghs (fr 12 [(1,pt 1 0),(4,zI x0)]) (hT 2 [(oC [zI z0,Sl.v 1 s0,Sl.v 1 s1])]) (.k0 [false] [.tmp 1 false] [1,4]) ?_
 refine .then (.rK (.ghs (fr 12 [(1,pt 1 0),(4,zI x0),(8,(zB (nt (Bd x0 (0:Int)))))]) (hT 2 [(oC [zI z0,Sl.v 1 s0,Sl.v 1 s1])]) (.k0 [false] [.tmp 1 false] [1,4,8]) ?_))
 replace hm:=Ag hm;rcases hm with⟨h1,hm⟩ | ⟨h1,hm⟩
 ·refine FX (nt (Bd x0 (0:Int))) h1 ?_
  refine .then (.rK (.ghs (fr 12 [(2,(zI (0:Int))),(3,zI x0)]) Eb (.k0 [false] [] [2,3]) ?_))
  refine .ghs (fr 12 [(2,(zI (0:Int))),(3,zI x0)]) Eb (.k0 [false] [] [2,3]) ?_
  refine .ret ?_
  exact Gi (.tuple ⟨[(zI (0:Int)),zI x0]⟩) [] (by kernel_rfl) hm (Nat.le_of_ble_eq_true rfl) EJ
 ·refine FY (nt (Bd x0 (0:Int))) h1 ?_
  refine .skip (.ghs (fr 12 [(1,pt 1 0)]) (hT 2 [(oC [zI z0,Sl.v 1 s0,Sl.v 1 s1])]) (.k0 [false] [.tmp 1 false] [1]) ?_)
  refine .then ?_
  replace hm:=Gt hm;obtain⟨x1,h2,hm⟩:=hm
  refine .reg (eC 1 ((oo (pu 44 [(.agg ⟨[zI z0,Sl.v 1 s0,Sl.v 1 s1]⟩)]) none fun v=>some (v,(hT 2 [(oC [zI z0,Sl.v 1 s0,Sl.v 1 s1])])))) (AB h2) (eE)) ?_
  refine .ghs (fr 12 [(2,zI x1),(3,(zI (0:Int)))]) Eb (.k0 [false] [] [2,3]) ?_
  refine .ghs (fr 12 [(2,zI x1),(3,(zI (0:Int)))]) Eb (.k0 [false] [] [2,3]) ?_
  refine .ret ?_
  exact Gi (.tuple ⟨[zI x1,(zI (0:Int))]⟩) [] (by kernel_rfl) hm (Nat.le_of_ble_eq_true rfl) EJ
theorem gI {call:A8} (pu:Af) (n:Nat) (hcall:call=Bb tabs Gy pu (inl pu)) {args:LV} {os:List AJ} {z:Value} (ha:args.length=1) (hk:os.length=0) (hpl:∀ o∈os,plainO o) (hm:JN pu n (args++os.map Ef)=some z):args.length≤12∧BN tt call (tabs.length+0) LU (Fr.made 12 args) (BK tabs os) (FJ tt tabs.length 0 [.tmp 2,.tmp 3] z):=by
 subst hcall
 have hq:=BC ha;clear ha;obtain⟨a0,args,rfl,ha⟩:=hq
 obtain rfl:=len_nil ha
 obtain rfl:=len_nil hk
 replace hm:JN pu n [a0]=some z:=hm
 unfold JN at hm
 replace hm:(oo (Bt a0) none fun l0=>(ll l0 none fun v0 l0=>(ll l0 none fun v1 l0=>(ll l0 none fun v2 l0=>(ll l0 (oo (Bi .i64 v0) none fun x0=>(oo (Bj 1 v1) none fun s0=>(oo (Bj 1 v2) none fun s1=>(Ji pu n x0 s0 s1)))) fun _ _=>none)))))=some z:=hm
 replace hm:=BG hm;obtain⟨l0,rfl,hm⟩:=hm
 replace hm:=Ad hm;obtain⟨v0,l4435_0,rfl,hm⟩:=hm
 replace hm:=Ad hm;obtain⟨v1,l4435_1,rfl,hm⟩:=hm
 replace hm:=Ad hm;obtain⟨v2,l4435_2,rfl,hm⟩:=hm
 replace hm:=AC hm;obtain⟨rfl,hm⟩:=hm
 replace hm:=Ai hm;obtain⟨x0,rfl,hm⟩:=hm
 replace hm:=Al hm;obtain⟨s0,rfl,hm⟩:=hm
 replace hm:=Al hm;obtain⟨s1,rfl,hm⟩:=hm
 refine⟨by simp,?_⟩
 exact .same (F':=(fr 12 [(0,(.agg ⟨[zI x0,Sl.v 1 s0,Sl.v 1 s1]⟩))])) (H':=Eb) (by kernel_rfl) (by kernel_rfl) (gG pu n x0 s0 s1 hm)

def LM (pu:Af) (n:Nat) (z0:Int) (s0 s1:Sl):OV:=
 (oo (GD (.int .u16 (0:Int)) ([]:List EO) 0) none fun r0=>(bb (Au F4 (Gr (.int .u16 (0:Int)) (.int .i64 (0:Int)) 0 ([]:List EO) r0)) (some (.tuple ⟨[(.pointer (some ⟨1,0,none⟩)),(.agg ⟨[.int .i64 z0,Sl.v 1 s0,Sl.v 1 s1,(.map (some 2))]⟩),(Ef (.map (Gr (.int .u16 (0:Int)) (.int .i64 (0:Int)) 0 ([]:List EO) r0) (Ja 0 r0)))]⟩)) none))
def MR (pu:Af) (n:Nat) (args:LV):OV:=
 (ll args none fun a0 args=>(ll args (oo (Bt a0) none fun l0=>(ll l0 none fun v0 l0=>(ll l0 none fun v1 l0=>(ll l0 none fun v2 l0=>(ll l0 (oo (Bi .i64 v0) none fun x0=>(oo (Bj 1 v1) none fun s0=>(oo (Bj 1 v2) none fun s1=>(LM pu n x0 s0 s1)))) fun _ _=>none))))) fun _ _=>none))
theorem gK (pu:Af) (n:Nat) (z0:Int) (s0 s1:Sl) {v:Value} (hm:LM pu n z0 s0 s1=some v):BN tt (Bb tabs Gy pu (inl pu)) 1 PM (fr 8 [(0,(.agg ⟨[zI z0,Sl.v 1 s0,Sl.v 1 s1]⟩))]) Eb (FJ tt 1 0 [.tmp 2] v):=by
 unfold LM at hm
 refine .then (.rK (.ghs (fr 8 [(1,pt 1 0)]) (hT 2 [(oC [zI z0,Sl.v 1 s0,Sl.v 1 s1])]) (.k0 [false] [.tmp 1 false] [1]) ?_))
 refine .then ?_
 replace hm:=Ab hm;obtain⟨r0,h0,hm⟩:=hm
 refine .reg (eC 2 (done (oo (GD (.int .u16 (0:Int)) ([]:List EO) 0) none fun r=>oo r (some (Aa.set (hT 3 [(oC [zI z0,Sl.v 1 s0,Sl.v 1 s1]),(.map ([]:List EO) 0)]) 2 (.map (Br ([]:List EO) [⟨(.int .u16 (0:Int)),(zI (0:Int)),0⟩]) (0+1)))) fun p=>pp p fun j _=>some (Aa.set (hT 3 [(oC [zI z0,Sl.v 1 s0,Sl.v 1 s1]),(.map ([]:List EO) 0)]) 2 (.map (SS (fun e=>⟨(.int .u16 (0:Int)),(zI (0:Int)),e.born⟩) j ([]:List EO)) 0))) undef) (Us (H2:=(hT 3 [(oC [zI z0,Sl.v 1 s0,Sl.v 1 s1]),(.map (Gr (.int .u16 (0:Int)) (zI (0:Int)) 0 ([]:List EO) r0) (Ja 0 r0))])) h0) (eE)) ?_
 replace hm:=Ae hm;obtain⟨h1,hm⟩:=hm
 refine .ghs (fr 8 [(2,pt 1 0)]) (hT 3 [(oC [zI z0,Sl.v 1 s0,Sl.v 1 s1,(.map (some 2))]),(.map (Gr (.int .u16 (0:Int)) (zI (0:Int)) 0 ([]:List EO) r0) (Ja 0 r0))]) (.k [2] [false] [.tmp 2 true,.cell 1 3 false] [2] ⟨Dy h1,trivial⟩) ?_
 refine .ghs (fr 8 [(2,pt 1 0)]) (hT 3 [(oC [zI z0,Sl.v 1 s0,Sl.v 1 s1,(.map (some 2))]),(.map (Gr (.int .u16 (0:Int)) (zI (0:Int)) 0 ([]:List EO) r0) (Ja 0 r0))]) (.k [2] [false] [.tmp 2 true,.cell 1 3 false] [2] ⟨Dy h1,trivial⟩) ?_
 refine .ret ?_
 exact Gi (pt 1 0) [(oC [zI z0,Sl.v 1 s0,Sl.v 1 s1,(.map (some 2))]),(.map (Gr (.int .u16 (0:Int)) (zI (0:Int)) 0 ([]:List EO) r0) (Ja 0 r0))] (by kernel_rfl) hm (Nat.le_of_ble_eq_true rfl) (Fa (VT _) (Fa (SH _ _) EJ))
theorem gL {call:A8} (pu:Af) (n:Nat) (hcall:call=Bb tabs Gy pu (inl pu)) {args:LV} {os:List AJ} {z:Value} (ha:args.length=1) (hk:os.length=0) (hpl:∀ o∈os,plainO o) (hm:MR pu n (args++os.map Ef)=some z):args.length≤8∧BN tt call (tabs.length+0) PM (Fr.made 8 args) (BK tabs os) (FJ tt tabs.length 0 [.tmp 2] z):=by
 subst hcall
 have hq:=BC ha;clear ha;obtain⟨a0,args,rfl,ha⟩:=hq
 obtain rfl:=len_nil ha
 obtain rfl:=len_nil hk
 replace hm:MR pu n [a0]=some z:=hm
 unfold MR at hm
 replace hm:(oo (Bt a0) none fun l0=>(ll l0 none fun v0 l0=>(ll l0 none fun v1 l0=>(ll l0 none fun v2 l0=>(ll l0 (oo (Bi .i64 v0) none fun x0=>(oo (Bj 1 v1) none fun s0=>(oo (Bj 1 v2) none fun s1=>(LM pu n x0 s0 s1)))) fun _ _=>none)))))=some z:=hm
 replace hm:=BG hm;obtain⟨l0,rfl,hm⟩:=hm
 replace hm:=Ad hm;obtain⟨v0,l8661_0,rfl,hm⟩:=hm
 replace hm:=Ad hm;obtain⟨v1,l8661_1,rfl,hm⟩:=hm
 replace hm:=Ad hm;obtain⟨v2,l8661_2,rfl,hm⟩:=hm
 replace hm:=AC hm;obtain⟨rfl,hm⟩:=hm
 replace hm:=Ai hm;obtain⟨x0,rfl,hm⟩:=hm
 replace hm:=Al hm;obtain⟨s0,rfl,hm⟩:=hm
 replace hm:=Al hm;obtain⟨s1,rfl,hm⟩:=hm
 refine⟨by simp,?_⟩
 exact .same (F':=(fr 8 [(0,(.agg ⟨[zI x0,Sl.v 1 s0,Sl.v 1 s1]⟩))])) (H':=Eb) (by kernel_rfl) (by kernel_rfl) (gK pu n x0 s0 s1 hm)
def G5 (pu:Af) (n:Nat) (z0 z1 z2:Int) (s0 s1:Sl) (e0:List EO) (k1:Nat):OV:=
 (oo (GD (.int .u16 z0) e0 0) none fun r0=>(bb (Au F4 (Gr (.int .u16 z0) (.int .i64 z1) k1 e0 r0)) (some (.tuple ⟨[.int .i64 z1,(.agg ⟨[.int .i64 z2,Sl.v 1 s0,Sl.v 1 s1,(.map (some 2))]⟩),(Ef (.map (Gr (.int .u16 z0) (.int .i64 z1) k1 e0 r0) (Ja k1 r0)))]⟩)) none))
def HY (pu:Af) (n:Nat) (z0 z1 z2:Int) (s0 s1:Sl) (e0:List EO) (k1:Nat):OV:=
 (oo (pu 71 [(.agg ⟨[.int .i64 z2,Sl.v 1 s0,Sl.v 1 s1]⟩),.int .u16 z0]) none fun v0=>(oo (Bf v0) none fun b0=>(bb (Au F4 e0) (bb b0 (G5 pu n z0 (Aj .i64 (Int.add z1 (1:Int))) z2 s0 s1 e0 k1) (G5 pu n z0 z1 z2 s0 s1 e0 k1)) none)))
def Jb (pu:Af) (n:Nat) (ih0:Int→Int→Sl→Int→Int→Int→Sl→Sl→List EO→Nat→OV) (z0 z1:Int) (s0:Sl) (z2 z3 z4:Int) (s1 s2:Sl) (e0:List EO) (k1:Nat):OV:=
 (bb (Au F4 e0) (bb (AY z3 z2) (oo (EA z3) none fun k2=>(bb (an (Nat.blt k2 (Sl.n s0)) true) (oo (AL (Sl.cs s0) (k2*1)) none fun v0=>(oo (Bi .i64 v0) none fun x0=>(oo (EA x0) none fun k3=>(bb (Au F4 e0) (oo (pu 10660 [(.pointer (some ⟨1,0,none⟩)),(.int .u16 (QV .u16 z0 (QW .u16 (1:Int) k3))),(.agg ⟨[.int .i64 z4,Sl.v 1 s1,Sl.v 1 s2,(.map (some 2))]⟩),(Ef (.map e0 k1))]) none fun v1=>(oo (CQ v1) none fun l0=>(ll l0 none fun v2 l0=>(ll l0 none fun v3 l0=>(ll l0 none fun v4 l0=>(ll l0 (oo (Bi .i64 v2) none fun x1=>(oo (Bt v3) none fun l1=>(ll l1 none fun v5 l1=>(ll l1 none fun v6 l1=>(ll l1 none fun v7 l1=>(ll l1 none fun v8 l1=>(ll l1 (oo (Bi .i64 v5) none fun x2=>(oo (Bj 1 v6) none fun s3=>(oo (Bj 1 v7) none fun s4=>(bb (FC v8 2) (oo (Fj v4) none fun y0=>(bb (Au F4 (Akd.es y0)) (bb (Au F4 (Akd.es y0)) (ih0 z0 (bb (AY z1 x1) x1 z1) s0 z2 (Aj .i64 (Int.add (Int.ofNat k2) (1:Int))) x2 s3 s4 (Akd.es y0) (Akd.clock y0)) none) none)) none)))) fun _ _=>none))))))) fun _ _=>none)))))) none)))) none)) (HY pu n z0 z1 z4 s1 s2 e0 k1)) none)
def Jc (pu:Af) (n w:Nat):Int→Int→Sl→Int→Int→Int→Sl→Sl→List EO→Nat→OV:=
 Nat.rec (motive:=fun _=>Int→Int→Sl→Int→Int→Int→Sl→Sl→List EO→Nat→OV) (fun _ _ _ _ _ _ _ _ _ _=>none) (fun _ ih0=>Jb pu n ih0) w
def Hz (pu:Af) (n:Nat) (z0 z1:Int) (s0 s1:Sl) (e0:List EO) (k1:Nat):OV:=
 (bb (Au F4 e0) (oo (GD (.int .u16 z0) e0 0) none fun r0=>(oo (Bi .i64 (Wd r0 (.int .i64 (0:Int)))) none fun x0=>(bb (isS r0) (some (.tuple ⟨[.int .i64 x0,(.agg ⟨[.int .i64 z1,Sl.v 1 s0,Sl.v 1 s1,(.map (some 2))]⟩),(Ef (.map e0 k1))]⟩)) (oo (pu 62 [.int .u16 z0]) none fun v0=>(oo (Bj 1 v0) none fun s2=>(Jc pu n n z0 (0:Int) s2 (Int.ofNat (Sl.n s2)) (0:Int) z1 s0 s1 e0 k1)))))) none)
def Iy (pu:Af) (n:Nat) (args:LV):OV:=
 (ll args none fun a0 args=>(ll args none fun a1 args=>(ll args none fun o0 args=>(ll args none fun o1 args=>(ll args (bb (MK a0 1 0) (oo (Bi .u16 a1) none fun x0=>(oo (Bt o0) none fun l0=>(ll l0 none fun v0 l0=>(ll l0 none fun v1 l0=>(ll l0 none fun v2 l0=>(ll l0 none fun v3 l0=>(ll l0 (oo (Bi .i64 v0) none fun x1=>(oo (Bj 1 v1) none fun s0=>(oo (Bj 1 v2) none fun s1=>(bb (FC v3 2) (oo (Fj o1) none fun y0=>(Hz pu n x0 x1 s0 s1 (Akd.es y0) (Akd.clock y0))) none)))) fun _ _=>none))))))) none) fun _ _=>none)))))
theorem UR (pu:Af) (n:Nat) (z0 z1 z2:Int) (s0 s1:Sl) (e0:List EO) (k1:Nat) {v:Value} (hm:G5 pu n z0 z1 z2 s0 s1 e0 k1=some v):BN tt (Bb tabs Gy pu (inl pu)) 3 UJ (fr 52 [(0,pt 1 0),(1,.int .u16 z0),(7,zI z1)]) (hT 3 [(oC [zI z2,Sl.v 1 s0,Sl.v 1 s1,(.map (some 2))]),(.map e0 k1)]) (FJ tt 1 2 [.tmp 4] v):=by
 unfold G5 at hm
 refine .then ?_
 replace hm:=Ab hm;obtain⟨r0,h0,hm⟩:=hm
 refine .reg (eC 6 (done (oo (GD (.int .u16 z0) e0 0) none fun r=>oo r (some (Aa.set (hT 3 [(oC [zI z2,Sl.v 1 s0,Sl.v 1 s1,(.map (some 2))]),(.map e0 k1)]) 2 (.map (Br e0 [⟨.int .u16 z0,zI z1,k1⟩]) (k1+1)))) fun p=>pp p fun j _=>some (Aa.set (hT 3 [(oC [zI z2,Sl.v 1 s0,Sl.v 1 s1,(.map (some 2))]),(.map e0 k1)]) 2 (.map (SS (fun e=>⟨.int .u16 z0,zI z1,e.born⟩) j e0) k1))) undef) (Us (H2:=(hT 3 [(oC [zI z2,Sl.v 1 s0,Sl.v 1 s1,(.map (some 2))]),(.map (Gr (.int .u16 z0) (zI z1) k1 e0 r0) (Ja k1 r0))])) h0) (eE)) ?_
 replace hm:=Ae hm;obtain⟨h1,hm⟩:=hm
 refine .ghs (fr 52 [(7,zI z1)]) (hT 3 [(oC [zI z2,Sl.v 1 s0,Sl.v 1 s1,(.map (some 2))]),(.map (Gr (.int .u16 z0) (zI z1) k1 e0 r0) (Ja k1 r0))]) (.k [2] [false,true,false] [] [7] ⟨Dy h1,trivial⟩) ?_
 refine .then (.rK (.ghs (fr 52 [(4,zI z1)]) (hT 3 [(oC [zI z2,Sl.v 1 s0,Sl.v 1 s1,(.map (some 2))]),(.map (Gr (.int .u16 z0) (zI z1) k1 e0 r0) (Ja k1 r0))]) (.k [2] [false,true,false] [] [4] ⟨Dy h1,trivial⟩) ?_))
 refine .ghs (fr 52 [(4,zI z1)]) (hT 3 [(oC [zI z2,Sl.v 1 s0,Sl.v 1 s1,(.map (some 2))]),(.map (Gr (.int .u16 z0) (zI z1) k1 e0 r0) (Ja k1 r0))]) (.k [2] [false,true,false] [] [4] ⟨Dy h1,trivial⟩) ?_
 refine .ret ?_
 exact Gi (zI z1) [(oC [zI z2,Sl.v 1 s0,Sl.v 1 s1,(.map (some 2))]),(.map (Gr (.int .u16 z0) (zI z1) k1 e0 r0) (Ja k1 r0))] (by kernel_rfl) hm (Nat.le_of_ble_eq_true rfl) (Fa (VT _) (Fa (SH _ _) EJ))
theorem UT (pu:Af) (n:Nat) (z0 z1 z2:Int) (s0 s1:Sl) (e0:List EO) (k1:Nat) {v:Value} (hm:HY pu n z0 z1 z2 s0 s1 e0 k1=some v):BN tt (Bb tabs Gy pu (inl pu)) 3 UK (fr 52 [(0,pt 1 0),(1,.int .u16 z0),(7,zI z1)]) (hT 3 [(oC [zI z2,Sl.v 1 s0,Sl.v 1 s1,(.map (some 2))]),(.map e0 k1)]) (FJ tt 1 2 [.tmp 4] v):=by
 unfold HY at hm
 refine .join (v:=v) (fun y:Int×Int×Int×Sl×Sl×List EO×Nat=>((fr 52 [(0,pt 1 0),(1,(.int .u16 y.1)),(7,(zI y.2.1))]),(hT 3 [(oC [(zI y.2.2.1),(Sl.v 1 y.2.2.2.1),(Sl.v 1 y.2.2.2.2.1),(.map (some 2))]),(.map y.2.2.2.2.2.1 y.2.2.2.2.2.2)]))) (fun y=>G5 pu n y.1 y.2.1 y.2.2.1 y.2.2.2.1 y.2.2.2.2.1 y.2.2.2.2.2.1 y.2.2.2.2.2.2) ?_ ?_
 ·rintro⟨z3,z4,z5,s2,s3,e1,k2⟩ hm
  exact UR pu n z3 z4 z5 s2 s3 e1 k2 hm
 ·refine .then ?_
  replace hm:=kR hm;obtain⟨b0,h0,hm⟩:=hm
  refine .reg (eC 5 ((oo (pu 71 [(.agg ⟨[zI z2,Sl.v 1 s0,Sl.v 1 s1]⟩),.int .u16 z0]) none fun v=>some (v,(hT 3 [(oC [zI z2,Sl.v 1 s0,Sl.v 1 s1,(.map (some 2))]),(.map e0 k1)])))) (AB h0) (eE)) ?_
  replace hm:=Ae hm;obtain⟨h1,hm⟩:=hm
  refine .ghs (fr 52 [(0,pt 1 0),(1,.int .u16 z0),(7,zI z1),(42,zB b0)]) (hT 3 [(oC [zI z2,Sl.v 1 s0,Sl.v 1 s1,(.map (some 2))]),(.map e0 k1)]) (.k [2] [false,true,false] [] [0,1,7,42] ⟨Dy h1,trivial⟩) ?_
  replace hm:=Ag hm;rcases hm with⟨h2,hm⟩ | ⟨h2,hm⟩
  ·refine .ifT b0 (by kernel_rfl) h2 ?_
   refine .rK ?_
   exact⟨(z0,(Aj .i64 (Int.add z1 (1:Int))),z2,s0,s1,e0,k1),hm,(.k [2] [false,true,false] [] [0,1,7] ⟨Dy h1,trivial⟩)⟩
  ·refine .ifF b0 (by kernel_rfl) h2 ?_
   refine .skip ?_
   exact⟨(z0,z1,z2,s0,s1,e0,k1),hm,(.k [2] [false,true,false] [] [0,1,7] ⟨Dy h1,trivial⟩)⟩
theorem gM (pu:Af) (n:Nat) (z0 z1:Int) (s0 s1:Sl) (e0:List EO) (k1:Nat) {v:Value} (hm:Hz pu n z0 z1 s0 s1 e0 k1=some v):BN tt (Bb tabs Gy pu (inl pu)) 3 LW (fr 52 [(0,pt 1 0),(1,.int .u16 z0)]) (hT 3 [(oC [zI z1,Sl.v 1 s0,Sl.v 1 s1,(.map (some 2))]),(.map e0 k1)]) (FJ tt 1 2 [.tmp 4] v):=by
 unfold Hz at hm
 refine .then (.rK ?_)
 replace hm:=Ae hm;obtain⟨h0,hm⟩:=hm
 refine .ghs (fr 52 [(0,pt 1 0),(1,.int .u16 z0)]) (hT 3 [(oC [zI z1,Sl.v 1 s0,Sl.v 1 s1,(.map (some 2))]),(.map e0 k1)]) (.k [2] [false,true,false] [] [0,1] ⟨Dy h0,trivial⟩) ?_
 refine .then (.then ?_)
 replace hm:=Ab hm;obtain⟨r0,h1,hm⟩:=hm
 replace hm:=Ab hm;obtain⟨x0,h2,hm⟩:=hm
 refine .reg (eC 5 (keep (hT 3 [(oC [zI z1,Sl.v 1 s0,Sl.v 1 s1,(.map (some 2))]),(.map e0 k1)]) (oo (GD (.int .u16 z0) e0 0) none fun r=>oo r (okV true (zI (0:Int)) false) fun p=>pp p fun _ v=>okV true v true)) (Ur h1 (Eh h2)) (eE)) ?_
 refine .ghs (fr 52 [(0,pt 1 0),(1,.int .u16 z0),(5,zI x0),(6,(zB (isS r0)))]) (hT 3 [(oC [zI z1,Sl.v 1 s0,Sl.v 1 s1,(.map (some 2))]),(.map e0 k1)]) (.k [2] [false,true,false] [] [0,1,5,6] ⟨Dy h0,trivial⟩) ?_
 refine .then (.rK (.ghs (fr 52 [(0,pt 1 0),(1,.int .u16 z0),(5,zI x0),(19,(zB (isS r0)))]) (hT 3 [(oC [zI z1,Sl.v 1 s0,Sl.v 1 s1,(.map (some 2))]),(.map e0 k1)]) (.k [2] [false,true,false] [] [0,1,5,19] ⟨Dy h0,trivial⟩) ?_))
 replace hm:=Ag hm;rcases hm with⟨h3,hm⟩ | ⟨h3,hm⟩
 ·refine FX (isS r0) h3 ?_
  refine .then (.rK (.ghs (fr 52 [(4,zI x0)]) (hT 3 [(oC [zI z1,Sl.v 1 s0,Sl.v 1 s1,(.map (some 2))]),(.map e0 k1)]) (.k [2] [false,true,false] [] [4] ⟨Dy h0,trivial⟩) ?_))
  refine .ghs (fr 52 [(4,zI x0)]) (hT 3 [(oC [zI z1,Sl.v 1 s0,Sl.v 1 s1,(.map (some 2))]),(.map e0 k1)]) (.k [2] [false,true,false] [] [4] ⟨Dy h0,trivial⟩) ?_
  refine .ret ?_
  exact Gi (zI x0) [(oC [zI z1,Sl.v 1 s0,Sl.v 1 s1,(.map (some 2))]),(.map e0 k1)] (by kernel_rfl) hm (Nat.le_of_ble_eq_true rfl) (Fa (VT _) (Fa (SH _ _) EJ))
 ·refine FY (isS r0) h3 ?_
  refine .skip (.ghs (fr 52 [(0,pt 1 0),(1,.int .u16 z0)]) (hT 3 [(oC [zI z1,Sl.v 1 s0,Sl.v 1 s1,(.map (some 2))]),(.map e0 k1)]) (.k [2] [false,true,false] [] [0,1] ⟨Dy h0,trivial⟩) ?_)
  refine .then (.rK (.ghs (fr 52 [(0,pt 1 0),(1,.int .u16 z0),(7,(zI (0:Int)))]) (hT 3 [(oC [zI z1,Sl.v 1 s0,Sl.v 1 s1,(.map (some 2))]),(.map e0 k1)]) (.k [2] [false,true,false] [] [0,1,7] ⟨Dy h0,trivial⟩) ?_))
  refine .join (v:=v) (fun y:Int×Int×Int×Sl×Sl×List EO×Nat=>((fr 52 [(0,pt 1 0),(1,(.int .u16 y.1)),(7,(zI y.2.1))]),(hT 3 [(oC [(zI y.2.2.1),(Sl.v 1 y.2.2.2.1),(Sl.v 1 y.2.2.2.2.1),(.map (some 2))]),(.map y.2.2.2.2.2.1 y.2.2.2.2.2.2)]))) (fun y=>HY pu n y.1 y.2.1 y.2.2.1 y.2.2.2.1 y.2.2.2.2.1 y.2.2.2.2.2.1 y.2.2.2.2.2.2) ?_ ?_
  ·rintro⟨z2,z3,z4,s2,s3,e1,k2⟩ hm
   exact UT pu n z2 z3 z4 s2 s3 e1 k2 hm
  ·refine .then ?_
   replace hm:=sH hm;obtain⟨s4,h4,hm⟩:=hm
   refine .reg (eC 1 ((oo (pu 62 [.int .u16 z0]) none fun v=>some (v,(hT 3 [(oC [zI z1,Sl.v 1 s0,Sl.v 1 s1,(.map (some 2))]),(.map e0 k1)])))) (AB h4) (eE)) ?_
   refine .ghs (fr 52 [(0,pt 1 0),(1,.int .u16 z0),(7,(zI (0:Int))),(22,Sl.v 1 s4),(23,(zI (Int.ofNat (Sl.n s4)))),(24,(zI (0:Int)))]) (hT 3 [(oC [zI z1,Sl.v 1 s0,Sl.v 1 s1,(.map (some 2))]),(.map e0 k1)]) (.k [2] [false,true,false] [] [0,1,7,22,23,24] ⟨Dy h0,trivial⟩) ?_
   refine .block (.loopM (v:=v) (fun y:Int×Int×Sl×Int×Int×Int×Sl×Sl×List EO×Nat=>((fr 52 [(0,pt 1 0),(1,(.int .u16 y.1)),(7,(zI y.2.1)),(22,(Sl.v 1 y.2.2.1)),(23,(zI y.2.2.2.1)),(24,(zI y.2.2.2.2.1))]),(hT 3 [(oC [(zI y.2.2.2.2.2.1),(Sl.v 1 y.2.2.2.2.2.2.1),(Sl.v 1 y.2.2.2.2.2.2.2.1),(.map (some 2))]),(.map y.2.2.2.2.2.2.2.2.1 y.2.2.2.2.2.2.2.2.2)]))) (fun w y=>Jc pu n w y.1 y.2.1 y.2.2.1 y.2.2.2.1 y.2.2.2.2.1 y.2.2.2.2.2.1 y.2.2.2.2.2.2.1 y.2.2.2.2.2.2.2.1 y.2.2.2.2.2.2.2.2.1 y.2.2.2.2.2.2.2.2.2) n ⟨(z0,(0:Int),s4,(Int.ofNat (Sl.n s4)),(0:Int),z1,s0,s1,e0,k1),hm,(.k [2] [false,true,false] [] [0,1,7,22,23,24] ⟨Dy h0,trivial⟩)⟩ (fun _=>rfl) ?_)
   rintro w0 ⟨z5,z6,s5,z7,z8,z9,s6,s7,e2,k3⟩ hm
   replace hm:Jb pu n (Jc pu n w0) z5 z6 s5 z7 z8 z9 s6 s7 e2 k3=some v:=hm
   unfold Jb at hm
   refine .then (.rK ?_)
   replace hm:=Ae hm;obtain⟨h5,hm⟩:=hm
   refine .ghs (fr 52 [(0,pt 1 0),(1,.int .u16 z5),(7,zI z6),(22,Sl.v 1 s5),(23,zI z7),(24,zI z8),(25,(zB (AY z8 z7)))]) (hT 3 [(oC [zI z9,Sl.v 1 s6,Sl.v 1 s7,(.map (some 2))]),(.map e2 k3)]) (.k [2] [false,true,false] [] [0,1,7,22,23,24,25] ⟨Dy h5,trivial⟩) ?_
   refine .then ?_
   replace hm:=Ag hm;rcases hm with⟨h6,hm⟩ | ⟨h6,hm⟩
   ·refine FX (AY z8 z7) h6 ?_
    refine .skip (.ghs (fr 52 [(0,pt 1 0),(1,.int .u16 z5),(7,zI z6),(22,Sl.v 1 s5),(23,zI z7),(24,zI z8)]) (hT 3 [(oC [zI z9,Sl.v 1 s6,Sl.v 1 s7,(.map (some 2))]),(.map e2 k3)]) (.k [2] [false,true,false] [] [0,1,7,22,23,24] ⟨Dy h5,trivial⟩) ?_)
    refine .then (.block (.then ?_))
    replace hm:=Ab hm;obtain⟨k4,h7,hm⟩:=hm
    obtain rfl:=AR h7
    replace hm:=Ae hm;obtain⟨h8,hm⟩:=hm
    replace hm:=Gt hm;obtain⟨x1,h9,hm⟩:=hm
    refine .reg (eD (keep (hT 3 [(oC [zI z9,Sl.v 1 s6,Sl.v 1 s7,(.map (some 2))]),(.map e2 k3)]) (bb (an (Nat.blt k4 (Sl.n s5)) true) (some (Cv (k4*1) (Sl.cs s5))) none)) (AX h8) (eD (keep (hT 3 [(oC [zI z9,Sl.v 1 s6,Sl.v 1 s7,(.map (some 2))]),(.map e2 k3)]) (AL (Sl.cs s5) (k4*1))) (AZ h9) (eE))) ?_
    refine .ghs (fr 52 [(0,pt 1 0),(1,.int .u16 z5),(7,zI z6),(9,zI x1),(22,Sl.v 1 s5),(23,zI z7),(24,(zI (Int.ofNat k4)))]) (hT 3 [(oC [zI z9,Sl.v 1 s6,Sl.v 1 s7,(.map (some 2))]),(.map e2 k3)]) (.k [2] [false,true,false] [] [0,1,7,9,22,23,24] ⟨Dy h5,trivial⟩) ?_
    replace hm:=Ab hm;obtain⟨k5,h10,hm⟩:=hm
    obtain rfl:=AR h10
    replace hm:=Ae hm;obtain⟨h11,hm⟩:=hm
    replace hm:=Ab hm;obtain⟨v0,h12,hm⟩:=hm
    replace hm:=Ch hm;obtain⟨l0,rfl,hm⟩:=hm
    replace hm:=Ad hm;obtain⟨v1,l9058_0,rfl,hm⟩:=hm
    replace hm:=Ad hm;obtain⟨v2,l9058_1,rfl,hm⟩:=hm
    replace hm:=Ad hm;obtain⟨v3,l9058_2,rfl,hm⟩:=hm
    replace hm:=AC hm;obtain⟨rfl,hm⟩:=hm
    replace hm:=Ai hm;obtain⟨x2,rfl,hm⟩:=hm
    replace hm:=BG hm;obtain⟨l1,rfl,hm⟩:=hm
    replace hm:=Ad hm;obtain⟨v4,l9065_0,rfl,hm⟩:=hm
    replace hm:=Ad hm;obtain⟨v5,l9065_1,rfl,hm⟩:=hm
    replace hm:=Ad hm;obtain⟨v6,l9065_2,rfl,hm⟩:=hm
    replace hm:=Ad hm;obtain⟨v7,l9065_3,rfl,hm⟩:=hm
    replace hm:=AC hm;obtain⟨rfl,hm⟩:=hm
    replace hm:=Ai hm;obtain⟨x3,rfl,hm⟩:=hm
    replace hm:=Al hm;obtain⟨s8,rfl,hm⟩:=hm
    replace hm:=Al hm;obtain⟨s9,rfl,hm⟩:=hm
    replace hm:=Ae hm;obtain⟨h13,hm⟩:=hm
    obtain rfl:=Ey h13
    replace hm:=Ab hm;obtain⟨y0,h14,hm⟩:=hm
    replace hm:=Ae hm;obtain⟨h15,hm⟩:=hm
    refine .reg (eC 6 (EK tabs [[none],[none]] 2 [.tmp 0 true,.cell 1 3 false] [true,false] (pu 10660) [pt 1 0,(.int .u16 (QV .u16 z5 (QW .u16 (1:Int) k5)))] (hT 3 [(oC [zI z9,Sl.v 1 s6,Sl.v 1 s7,(.map (some 2))]),(.map e2 k3)])) (EL (as:=[pt 1 0,(.int .u16 (QV .u16 z5 (QW .u16 (1:Int) k5)))]) (H1:=(hT 3 [(oC [zI z9,Sl.v 1 s6,Sl.v 1 s7,(.map (some 2))]),(.map e2 k3)])) (BS (Dm Dk) (BS (Dm Dk) Gj)) (EI (H2:=(hT 3 [(oC [zI x3,Sl.v 1 s8,Sl.v 1 s9,(.map (some 2))]),(.map (Akd.es y0) (Akd.clock y0))])) (v:=(zI x2)) (v':=(zI x2)) [some 0,some 1,some 2] [(true,some 1),(false,some 2)] [(oC [zI z9,Sl.v 1 s6,Sl.v 1 s7,(.map (some 2))]),(.map e2 k3)] [pt 1 0,(.int .u16 (QV .u16 z5 (QW .u16 (1:Int) k5)))] [(.agg ⟨[zI x3,Sl.v 1 s8,Sl.v 1 s9,(.map (some 2))]⟩),v3] [(oC [zI x3,Sl.v 1 s8,Sl.v 1 s9,(.map (some 2))]),(.map (Akd.es y0) (Akd.clock y0))] [some 0,some 1,some 2] [(true,(oC [zI x3,Sl.v 1 s8,Sl.v 1 s9,(.map (some 2))])),(false,(.map (Akd.es y0) (Akd.clock y0)))] [(oC [zI x3,Sl.v 1 s8,Sl.v 1 s9,(.map (some 2))]),(.map (Akd.es y0) (Akd.clock y0))] (by kernel_rfl) (En (by kernel_rfl) (En (Ka h11) BX)) (Eq.trans (by kernel_rfl) h12) (En rfl (En (CK h14) BX)) (En (by kernel_rfl) (En (GZ h15) BX)))) (eE)) ?_
    replace hm:=Ae hm;obtain⟨h16,hm⟩:=hm
    refine .ghs (fr 52 [(0,pt 1 0),(1,.int .u16 z5),(7,(zI (bb (AY z6 x2) x2 z6))),(22,Sl.v 1 s5),(23,zI z7),(24,(zI (Int.ofNat k4)))]) (hT 3 [(oC [zI x3,Sl.v 1 s8,Sl.v 1 s9,(.map (some 2))]),(.map (Akd.es y0) (Akd.clock y0))]) (.k [2] [false,true,false] [] [0,1,7,22,23,24] ⟨Dy h16,trivial⟩) ?_
    refine .rK ?_
    exact⟨(z5,(bb (AY z6 x2) x2 z6),s5,z7,(Aj .i64 (Int.add (Int.ofNat k4) (1:Int))),x3,s8,s9,(Akd.es y0),(Akd.clock y0)),hm,(.k [2] [false,true,false] [] [0,1,7,22,23,24] ⟨Dy h16,trivial⟩)⟩
   ·refine FY (AY z8 z7) h6 ?_
    refine .exit ?_
    exact⟨(z5,z6,z9,s6,s7,e2,k3),hm,(.k [2] [false,true,false] [] [0,1,7] ⟨Dy h5,trivial⟩)⟩
theorem gP {call:A8} (pu:Af) (n:Nat) (hcall:call=Bb tabs Gy pu (inl pu)) {args:LV} {os:List AJ} {z:Value} (ha:args.length=2) (hk:os.length=2) (hpl:∀ o∈os,plainO o) (hm:Iy pu n (args++os.map Ef)=some z):args.length≤52∧BN tt call (tabs.length+2) LW (Fr.made 52 args) (BK tabs os) (FJ tt tabs.length 2 [.tmp 4] z):=by
 subst hcall
 have hq:=BC ha;clear ha;obtain⟨a0,args,rfl,ha⟩:=hq
 have hq:=BC ha;clear ha;obtain⟨a1,args,rfl,ha⟩:=hq
 obtain rfl:=len_nil ha
 have hq:=BC hk;clear hk;obtain⟨b0,os,rfl,hk⟩:=hq
 have hp0:plainO b0:=hpl b0 (by simp)
 have hq:=BC hk;clear hk;obtain⟨b1,os,rfl,hk⟩:=hq
 have hp1:plainO b1:=hpl b1 (by simp)
 obtain rfl:=len_nil hk
 replace hm:Iy pu n [a0,a1,Ef b0,Ef b1]=some z:=hm
 unfold Iy at hm
 replace hm:(bb (MK a0 1 0) (oo (Bi .u16 a1) none fun x0=>(oo (Bt (Ef b0)) none fun l0=>(ll l0 none fun v0 l0=>(ll l0 none fun v1 l0=>(ll l0 none fun v2 l0=>(ll l0 none fun v3 l0=>(ll l0 (oo (Bi .i64 v0) none fun x1=>(oo (Bj 1 v1) none fun s0=>(oo (Bj 1 v2) none fun s1=>(bb (FC v3 2) (oo (Fj (Ef b1)) none fun y0=>(Hz pu n x0 x1 s0 s1 (Akd.es y0) (Akd.clock y0))) none)))) fun _ _=>none))))))) none)=some z:=hm
 replace hm:=Ae hm;obtain⟨h0,hm⟩:=hm
 obtain rfl:=KR h0
 replace hm:=Ai hm;obtain⟨x0,rfl,hm⟩:=hm
 replace hm:=Ab hm;obtain⟨l0,h1,hm⟩:=hm
 obtain rfl:=I7 hp0 h1
 replace hm:=Ad hm;obtain⟨v0,l9085_0,rfl,hm⟩:=hm
 replace hm:=Ad hm;obtain⟨v1,l9085_1,rfl,hm⟩:=hm
 replace hm:=Ad hm;obtain⟨v2,l9085_2,rfl,hm⟩:=hm
 replace hm:=Ad hm;obtain⟨v3,l9085_3,rfl,hm⟩:=hm
 replace hm:=AC hm;obtain⟨rfl,hm⟩:=hm
 replace hm:=Ai hm;obtain⟨x1,rfl,hm⟩:=hm
 replace hm:=Al hm;obtain⟨s0,rfl,hm⟩:=hm
 replace hm:=Al hm;obtain⟨s1,rfl,hm⟩:=hm
 replace hm:=Ae hm;obtain⟨h2,hm⟩:=hm
 obtain rfl:=Ey h2
 replace hm:=Ab hm;obtain⟨y0,h3,hm⟩:=hm
 obtain rfl:=MS hp1 h3
 refine⟨by simp,?_⟩
 exact .same (F':=(fr 52 [(0,pt 1 0),(1,.int .u16 x0)])) (H':=(hT 3 [(oC [zI x1,Sl.v 1 s0,Sl.v 1 s1,(.map (some 2))]),(.map (Akd.es y0) (Akd.clock y0))])) (by kernel_rfl) (by kernel_rfl) (gM pu n x0 x1 s0 s1 (Akd.es y0) (Akd.clock y0) hm)
end
end Go.MdTM
