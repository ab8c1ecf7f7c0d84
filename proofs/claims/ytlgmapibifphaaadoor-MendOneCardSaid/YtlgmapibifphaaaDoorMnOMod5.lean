/- Made from wip. -/
import Derived.Test.YtlgmapibifphaaaDoorMnOMod1x

set_option maxRecDepth 100000
set_option maxHeartbeats 20000000
set_option linter.unusedVariables false
namespace Go.MnOM
open Go.Sp Go.MnO
noncomputable section
def Uw (pu:Af) (n:Nat) (b0:Bool):OV:=
 (some (.bool b0))
def Aa7 (pu:Af) (n:Nat) (x0 x1 x2:Int):OV:=
 (bb (nt (AY x1 x0)) (Uw pu n (nt (AY x2 x1))) (Uw pu n false))
def m52 (pu:Af) (n:Nat) (args:LV):OV:=
 (ll args none fun a0 args=>(ll args none fun a1 args=>(ll args none fun a2 args=>(ll args (oo (Bi .i64 a0) none fun x0=>(oo (Bi .i64 a1) none fun x1=>(oo (Bi .i64 a2) none fun x2=>(Aa7 pu n x0 x1 x2)))) fun _ _=>none))))
theorem Aa8 (pu:Af) (n:Nat) (b0:Bool) {v:Value} (hm:Uw pu n b0=some v):BN tt (Bb tabs HV pu (inl pu)) 1 .ret (fr 15 [(6,zB b0)]) DT (Fin tt 1 [.tmp 6] v):=by
 unfold Uw at hm
 refine .ret ?_
 exact Fp (zB b0) hm
theorem r52 {call:A8} (pu:Af) (n:Nat) (hcall:call=Bb tabs HV pu (inl pu)) {args:LV} {v:Value} (hm:m52 pu n args=some v) (_:∀ x∈args,closed2 x=true):args.length≤15∧BN tt call 1 Wu (Fr.made 15 args) (Ao tabs) (Fin tt 1 [.tmp 6] v):=by
 subst hcall
 unfold m52 at hm
 replace hm:=Ad hm;obtain⟨a0,args_0,rfl,hm⟩:=hm
 replace hm:=Ad hm;obtain⟨a1,args_1,rfl,hm⟩:=hm
 replace hm:=Ad hm;obtain⟨a2,args_2,rfl,hm⟩:=hm
 replace hm:=AC hm;obtain⟨rfl,hm⟩:=hm
 replace hm:=Ai hm;obtain⟨x0,rfl,hm⟩:=hm
 replace hm:=Ai hm;obtain⟨x1,rfl,hm⟩:=hm
 replace hm:=Ai hm;obtain⟨x2,rfl,hm⟩:=hm
 unfold Aa7 at hm
 refine⟨by simp,?_⟩
 refine .same (F':=(fr 15 [(0,zI x0),(1,zI x1),(2,zI x2)])) (H':=DT) (by kernel_rfl) (by kernel_rfl) ?_
 refine .then (.rK (.ghs (fr 15 [(0,zI x0),(1,zI x1),(2,zI x2)]) DT (.k0 [false] [] [0,1,2]) ?_))
 refine .join (v:=v) (fun y:Bool=>((fr 15 [(6,zB y)]),DT)) (fun y=>Uw pu n y) ?_ ?_
 ·rintro b0 hm
  exact Aa8 pu n b0 hm
 ·replace hm:=Ag hm;rcases hm with⟨h0,hm⟩ | ⟨h0,hm⟩
  ·refine .reg (eC 2 (some ((zB (nt (AY x1 x0))),DT)) (show _=some ((zB true),_) from (by rw[show (nt (AY x1 x0))=true from h0])) (eE)) ?_
   exact⟨(nt (AY x2 x1)),hm,(.k0 [false] [] [6])⟩
  ·refine .reg (eC 2 (some ((zB (nt (AY x1 x0))),DT)) (show _=some ((zB false),_) from (by rw[show (nt (AY x1 x0))=false from h0])) (eE)) ?_
   exact⟨false,hm,(.k0 [false] [] [6])⟩

def bQ (pu:Af) (n:Nat) (x0 x1:Int):OV:=
 (oo (EA x1) none fun k1=>(some (.bool (Bd (Np .u16 (G6 .u16 x0 k1) (1:Int)) (1:Int)))))
def m53 (pu:Af) (n:Nat) (args:LV):OV:=
 (ll args none fun a0 args=>(ll args none fun a1 args=>(ll args (oo (Bi .u16 a0) none fun x0=>(oo (Bi .i64 a1) none fun x1=>(bQ pu n x0 x1))) fun _ _=>none)))
theorem r53 {call:A8} (pu:Af) (n:Nat) (hcall:call=Bb tabs HV pu (inl pu)) {args:LV} {v:Value} (hm:m53 pu n args=some v) (_:∀ x∈args,closed2 x=true):args.length≤10∧BN tt call 1 Wv (Fr.made 10 args) (Ao tabs) (Fin tt 1 [.tmp 4] v):=by
 subst hcall
 unfold m53 at hm
 replace hm:=Ad hm;obtain⟨a0,args_0,rfl,hm⟩:=hm
 replace hm:=Ad hm;obtain⟨a1,args_1,rfl,hm⟩:=hm
 replace hm:=AC hm;obtain⟨rfl,hm⟩:=hm
 replace hm:=Ai hm;obtain⟨x0,rfl,hm⟩:=hm
 replace hm:=Ai hm;obtain⟨x1,rfl,hm⟩:=hm
 unfold bQ at hm
 refine⟨by simp,?_⟩
 refine .same (F':=(fr 10 [(0,.int .u16 x0),(1,zI x1)])) (H':=DT) (by kernel_rfl) (by kernel_rfl) ?_
 refine .then (.rK (.ghs (fr 10 [(0,.int .u16 x0),(1,zI x1)]) DT (.k0 [false] [] [0,1]) ?_))
 refine .then ?_
 replace hm:=Ab hm;obtain⟨k1,h0,hm⟩:=hm
 obtain rfl:=AR h0
 refine .rK (.ghs (fr 10 [(4,(zB (Bd (Np .u16 (G6 .u16 x0 k1) (1:Int)) (1:Int))))]) DT (.k0 [false] [] [4]) ?_)
 refine .ret ?_
 exact Fp (zB (Bd (Np .u16 (G6 .u16 x0 k1) (1:Int)) (1:Int))) hm
def OQ (pu:Af) (n:Nat) (z0 z1:Int) (b0:Bool):OV:=
 (bb b0 (some (.int .i64 (2:Int))) (bb (nt (AY z0 z1)) (some (.int .i64 (7:Int))) (some (.int .i64 (0:Int)))))
def Aa9 (pu:Af) (n:Nat) (x0:Int) (s0 s1:Sl) (x1 x2:Int):OV:=
 (bb (AY (bb (AY x2 x1) x2 x1) (0:Int)) (OQ pu n x1 x2 true) (OQ pu n x1 x2 (nt (AY (bb (AY x1 x2) x2 x1) (Int.ofNat (Sl.n s0))))))
def m57 (pu:Af) (n:Nat) (args:LV):OV:=
 (ll args none fun a0 args=>(ll args none fun a1 args=>(ll args none fun a2 args=>(ll args (oo (Bt a0) none fun l0=>(ll l0 none fun v0 l0=>(ll l0 none fun v1 l0=>(ll l0 none fun v2 l0=>(ll l0 (oo (Bi .i64 v0) none fun x0=>(oo (Bj 1 v1) none fun s0=>(oo (Bj 1 v2) none fun s1=>(oo (Bi .i64 a1) none fun x1=>(oo (Bi .i64 a2) none fun x2=>(Aa9 pu n x0 s0 s1 x1 x2)))))) fun _ _=>none))))) fun _ _=>none))))
theorem r57 {call:A8} (pu:Af) (n:Nat) (hcall:call=Bb tabs HV pu (inl pu)) {args:LV} {v:Value} (hm:m57 pu n args=some v) (_:∀ x∈args,closed2 x=true):args.length≤25∧BN tt call 1 Sg (Fr.made 25 args) (Ao tabs) (Fin tt 1 [.tmp 6] v):=by
 subst hcall
 unfold m57 at hm
 replace hm:=Ad hm;obtain⟨a0,args_0,rfl,hm⟩:=hm
 replace hm:=Ad hm;obtain⟨a1,args_1,rfl,hm⟩:=hm
 replace hm:=Ad hm;obtain⟨a2,args_2,rfl,hm⟩:=hm
 replace hm:=AC hm;obtain⟨rfl,hm⟩:=hm
 replace hm:=BG hm;obtain⟨l0,rfl,hm⟩:=hm
 replace hm:=Ad hm;obtain⟨v0,l37667_0,rfl,hm⟩:=hm
 replace hm:=Ad hm;obtain⟨v1,l37667_1,rfl,hm⟩:=hm
 replace hm:=Ad hm;obtain⟨v2,l37667_2,rfl,hm⟩:=hm
 replace hm:=AC hm;obtain⟨rfl,hm⟩:=hm
 replace hm:=Ai hm;obtain⟨x0,rfl,hm⟩:=hm
 replace hm:=Al hm;obtain⟨s0,rfl,hm⟩:=hm
 replace hm:=Al hm;obtain⟨s1,rfl,hm⟩:=hm
 replace hm:=Ai hm;obtain⟨x1,rfl,hm⟩:=hm
 replace hm:=Ai hm;obtain⟨x2,rfl,hm⟩:=hm
 unfold Aa9 at hm
 refine⟨by simp,?_⟩
 refine .same (F':=(fr 25 [(0,(.agg ⟨[zI x0,Sl.v 1 s0,Sl.v 1 s1]⟩)),(1,zI x1),(2,zI x2)])) (H':=DT) (by kernel_rfl) (by kernel_rfl) ?_
 refine .then (.rK (.ghs (fr 25 [(1,zI x1),(2,zI x2),(3,pt 1 0)]) (hT 2 [(oC [zI x0,Sl.v 1 s0,Sl.v 1 s1])]) (.k0 [false] [.tmp 3 false] [1,2,3]) ?_))
 refine .then (.block (.join (v:=v) (fun y:Int×Int×Bool=>((fr 25 [(1,(zI y.1)),(2,(zI y.2.1)),(7,(zB y.2.2))]),DT)) (fun y=>OQ pu n y.1 y.2.1 y.2.2) ?_ ?_))
 ·rintro⟨z0,z1,b0⟩ hm
  unfold OQ at hm
  replace hm:=Ag hm;rcases hm with⟨h0,hm⟩ | ⟨h0,hm⟩
  ·refine .ifT b0 (by kernel_rfl) h0 ?_
   refine .then (.rK (.ghs (fr 25 [(6,(zI (2:Int)))]) DT (.k0 [false] [] [6]) ?_))
   refine .ret ?_
   exact Fp (zI (2:Int)) hm
  ·refine .ifF b0 (by kernel_rfl) h0 ?_
   refine .then (.rK (.ghs (fr 25 [(21,(zB (nt (AY z0 z1))))]) DT (.k0 [false] [] [21]) ?_))
   replace hm:=Ag hm;rcases hm with⟨h1,hm⟩ | ⟨h1,hm⟩
   ·refine FX (nt (AY z0 z1)) h1 ?_
    refine .then (.rK (.ghs (fr 25 [(6,(zI (7:Int)))]) DT (.k0 [false] [] [6]) ?_))
    refine .ret ?_
    exact Fp (zI (7:Int)) hm
   ·refine FY (nt (AY z0 z1)) h1 ?_
    refine .skip (.ghs (fr 25 []) DT (.k0 [false] [] []) ?_)
    refine .then (.rK (.ghs (fr 25 [(6,(zI (0:Int)))]) DT (.k0 [false] [] [6]) ?_))
    refine .ret ?_
    exact Fp (zI (0:Int)) hm
 ·replace hm:=Ag hm;rcases hm with⟨h2,hm⟩ | ⟨h2,hm⟩
  ·refine .reg (eC 3 (some ((zB (AY (bb (AY x2 x1) x2 x1) (0:Int))),(hT 2 [(oC [zI x0,Sl.v 1 s0,Sl.v 1 s1])]))) (show _=some ((zB true),_) from (by rw[show (AY (bb (AY x2 x1) x2 x1) (0:Int))=true from h2])) (eE)) ?_
   exact⟨(x1,x2,true),hm,(.k0 [false] [] [1,2,7])⟩
  ·refine .reg (eC 3 (some ((zB (AY (bb (AY x2 x1) x2 x1) (0:Int))),(hT 2 [(oC [zI x0,Sl.v 1 s0,Sl.v 1 s1])]))) (show _=some ((zB false),_) from (by rw[show (AY (bb (AY x2 x1) x2 x1) (0:Int))=false from h2])) (eE)) ?_
   exact⟨(x1,x2,(nt (AY (bb (AY x1 x2) x2 x1) (Int.ofNat (Sl.n s0))))),hm,(.k0 [false] [] [1,2,7])⟩
def WF (pu:Af) (n n0 c0:Nat) (q0:LV):OV:=
 (bb (Au Ah q0) (bb (an (Nat.ble (0+n0*1) (len q0)) (Au Ah (Aq (n0*1) (Am 0 q0)))) (some (Sl.v 1 (Sl.mk n0 0 (Aq (n0*1) (Am 0 q0))))) none) none)
def Yk (pu:Af) (n:Nat) (ih0:Int→Nat→Nat→LV→OV) (z0:Int) (n0 c0:Nat) (q0:LV):OV:=
 (bb (Au Ah q0) (bb (nt (Bd z0 (0:Int))) (oo (pu 67 [.int .u16 z0]) none fun v0=>(oo (Bi .i64 v0) none fun x0=>(bb (GV 1 8 n0 c0 1 q0) (bb (Au Ah (Br (Am 0 q0) [.int .i64 x0])) (ih0 (Np .u16 z0 (Aj .u16 (Int.sub z0 (1:Int)))) (n0+1) (2*(n0+1)+bb false 1 0) (Br (Am 0 q0) [.int .i64 x0])) none) none))) (WF pu n n0 c0 q0)) none)
def Yl (pu:Af) (n w:Nat):Int→Nat→Nat→LV→OV:=
 Nat.rec (motive:=fun _=>Int→Nat→Nat→LV→OV) (fun _ _ _ _=>none) (fun _ ih0=>Yk pu n ih0) w
def Aba (pu:Af) (n:Nat) (x0:Int):OV:=
 (Yl pu n n x0 0 0 ([]:LV))
def m62 (pu:Af) (n:Nat) (args:LV):OV:=
 (ll args none fun a0 args=>(ll args (oo (Bi .u16 a0) none fun x0=>(Aba pu n x0)) fun _ _=>none))
theorem Abb (pu:Af) (n n0 c0:Nat) (q0:LV) {v:Value} (hm:WF pu n n0 c0 q0=some v):BN tt (Bb tabs HV pu (inl pu)) 1 X6 (fr 16 [(3,sc 1 0 1 n0 c0)]) (hT 2 [oC q0]) (Fin tt 1 [.tmp 2] v):=by
 unfold WF at hm
 refine .then (.rK ?_)
 replace hm:=Ae hm;obtain⟨h0,hm⟩:=hm
 refine .ghs (fr 16 [(2,sc 1 0 1 n0 c0)]) (hT 2 [oC q0]) (.k [1] [false] [.tmp 2 false] [2] ⟨Dy h0,trivial⟩) ?_
 replace hm:=Ae hm;obtain⟨h1,hm⟩:=hm
 refine .ghs (Fr.puts (fr 16 [(2,sc 1 0 1 n0 c0)]) [(2,(Sl.v 1 (Sl.mk n0 0 (Aq (n0*1) (Am 0 q0)))))]) (hT 2 [.dead]) (.freezeC 1 2 1 (an (Nat.ble (0+n0*1) (len q0)) (Au Ah (Aq (n0*1) (Am 0 q0)))) (F1:=(Fr.puts (fr 16 [(2,sc 1 0 1 n0 c0)]) [(2,(Sl.v 1 (Sl.mk n0 0 (Aq (n0*1) (Am 0 q0)))))])) (H1:=(hT 2 [.dead])) (by kernel_rfl) (by kernel_rfl) h1 (E9.id _ _)) ?_
 refine .ret ?_
 exact Fp (Sl.v 1 (Sl.mk n0 0 (Aq (n0*1) (Am 0 q0)))) hm
theorem r62 {call:A8} (pu:Af) (n:Nat) (hcall:call=Bb tabs HV pu (inl pu)) {args:LV} {v:Value} (hm:m62 pu n args=some v) (_:∀ x∈args,closed2 x=true):args.length≤16∧BN tt call 1 Si (Fr.made 16 args) (Ao tabs) (Fin tt 1 [.tmp 2] v):=by
 subst hcall
 unfold m62 at hm
 replace hm:=Ad hm;obtain⟨a0,args_0,rfl,hm⟩:=hm
 replace hm:=AC hm;obtain⟨rfl,hm⟩:=hm
 replace hm:=Ai hm;obtain⟨x0,rfl,hm⟩:=hm
 unfold Aba at hm
 refine⟨by simp,?_⟩
 refine .same (F':=(fr 16 [(0,.int .u16 x0)])) (H':=DT) (by kernel_rfl) (by kernel_rfl) ?_
 refine .then (.rK (.ghs (fr 16 [(0,.int .u16 x0)]) DT (.k0 [false] [] [0]) ?_))
 refine .then (.rK (.ghs (fr 16 [(0,.int .u16 x0),(3,(.slice none 0 0))]) DT (.k0 [false] [] [0,3]) ?_))
 refine .join (v:=v) (fun y:Nat×Nat×LV=>((fr 16 [(3,(sc 1 0 1 y.1 y.2.1))]),(hT 2 [(oC y.2.2)]))) (fun y=>WF pu n y.1 y.2.1 y.2.2) ?_ ?_
 ·rintro⟨n0,c0,q0⟩ hm
  exact Abb pu n n0 c0 q0 hm
 ·refine .block (.loopM (v:=v) (fun y:Int×Nat×Nat×LV=>((fr 16 [(0,(.int .u16 y.1)),(3,(sc 1 0 1 y.2.1 y.2.2.1))]),(hT 2 [(oC y.2.2.2)]))) (fun w y=>Yl pu n w y.1 y.2.1 y.2.2.1 y.2.2.2) n ⟨(x0,0,0,([]:LV)),hm,(.thaw 3 1 (by kernel_rfl) (.k0 [false] [.tmp 3 false] [0,3]))⟩ (fun _=>rfl) ?_)
  rintro w0 ⟨z0,n1,c1,q1⟩ hm
  replace hm:Yk pu n (Yl pu n w0) z0 n1 c1 q1=some v:=hm
  unfold Yk at hm
  refine .then (.then (.rK ?_))
  replace hm:=Ae hm;obtain⟨h0,hm⟩:=hm
  refine .ghs (fr 16 [(0,.int .u16 z0),(3,sc 1 0 1 n1 c1),(5,(zB (nt (Bd z0 (0:Int)))))]) (hT 2 [oC q1]) (.k [1] [false] [.tmp 3 false] [0,3,5] ⟨Dy h0,trivial⟩) ?_
  replace hm:=Ag hm;rcases hm with⟨h1,hm⟩ | ⟨h1,hm⟩
  ·refine FX (nt (Bd z0 (0:Int))) h1 ?_
   refine .skip (.ghs (fr 16 [(0,.int .u16 z0),(3,sc 1 0 1 n1 c1)]) (hT 2 [oC q1]) (.k [1] [false] [.tmp 3 false] [0,3] ⟨Dy h0,trivial⟩) ?_)
   refine .then (.block ?_)
   replace hm:=Hy hm;obtain⟨x1,h2,hm⟩:=hm
   replace hm:=Ae hm;obtain⟨h3,hm⟩:=hm
   refine .reg (eC 2 ((oo (pu 67 [.int .u16 z0]) none fun v=>some (v,(hT 2 [oC q1])))) (AB h2) (eC 1 (Oc 1 8 n1 c1 1 1 q1 [zI x1] [] (hT 3 [oC q1,(oC [zI x1])])) (I1 h3) (eE))) ?_
   replace hm:=Ae hm;obtain⟨h4,hm⟩:=hm
   refine .ghs (fr 16 [(0,.int .u16 z0),(3,(sc 1 0 1 (n1+1) (d2 (n1+1))))]) (hT 2 [(oC (Br (Am 0 q1) [zI x1]))]) (.k [3] [false] [.tmp 3 false] [0,3] ⟨Dy h4,trivial⟩) ?_
   refine .rK ?_
   exact⟨((Np .u16 z0 (Aj .u16 (Int.sub z0 (1:Int)))),(n1+1),(d2 (n1+1)),(Br (Am 0 q1) [zI x1])),hm,(.k [1] [false] [.tmp 3 false] [0,3] ⟨Dy h4,trivial⟩)⟩
  ·refine FY (nt (Bd z0 (0:Int))) h1 ?_
   refine .exit ?_
   exact⟨(n1,c1,q1),hm,(.k [1] [false] [.tmp 3 false] [3] ⟨Dy h0,trivial⟩)⟩

def bR (pu:Af) (n:Nat) (x0:Int):OV:=
 (oo (EA (G6 .u16 x0 8)) none fun k1=>(oo (ZR[k1]?) none fun c0=>(oo (EA (Np .u16 x0 (255:Int))) none fun k2=>(oo (ZR[k2]?) none fun c1=>(some (.int .i64 (Aj .i64 (Aj .u8 (Int.add (Int.ofNat (UInt8.toNat c0)) (Int.ofNat (UInt8.toNat c1)))))))))))
def m64 (pu:Af) (n:Nat) (args:LV):OV:=
 (ll args none fun a0 args=>(ll args (oo (Bi .u16 a0) none fun x0=>(bR pu n x0)) fun _ _=>none))
theorem r64 {call:A8} (pu:Af) (n:Nat) (hcall:call=Bb tabs HV pu (inl pu)) {args:LV} {v:Value} (hm:m64 pu n args=some v) (_:∀ x∈args,closed2 x=true):args.length≤11∧BN tt call 1 Ww (Fr.made 11 args) (Ao tabs) (Fin tt 1 [.tmp 2] v):=by
 subst hcall
 unfold m64 at hm
 replace hm:=Ad hm;obtain⟨a0,args_0,rfl,hm⟩:=hm
 replace hm:=AC hm;obtain⟨rfl,hm⟩:=hm
 replace hm:=Ai hm;obtain⟨x0,rfl,hm⟩:=hm
 unfold bR at hm
 refine⟨by simp,?_⟩
 refine .same (F':=(fr 11 [(0,.int .u16 x0)])) (H':=DT) (by kernel_rfl) (by kernel_rfl) ?_
 refine .then (.rK (.ghs (fr 11 [(0,.int .u16 x0)]) DT (.k0 [false] [] [0]) ?_))
 refine .then ?_
 replace hm:=Ab hm;obtain⟨k1,h0,hm⟩:=hm
 replace hm:=Ab hm;obtain⟨c0,h1,hm⟩:=hm
 replace hm:=Ab hm;obtain⟨k2,h2,hm⟩:=hm
 replace hm:=Ab hm;obtain⟨c1,h3,hm⟩:=hm
 refine .reg (eC 1 (some ((.int .u16 (G6 .u16 x0 8)),DT)) (show _=some ((.int .u16 (Int.ofNat k1)),_) from (by rw[AR h0])) (eD (keep DT (oo (ZR[k1]?) none fun b=>iv .u8 (.ofNat b.toNat))) (nE h1) (eC 1 (some ((.int .u16 (Np .u16 x0 (255:Int))),DT)) (show _=some ((.int .u16 (Int.ofNat k2)),_) from (by rw[AR h2])) (eD (keep DT (oo (ZR[k2]?) none fun b=>iv .u8 (.ofNat b.toNat))) (nE h3) (eE))))) ?_
 refine .ghs (fr 11 [(2,(zI (Aj .i64 (Aj .u8 (Int.add (Int.ofNat (UInt8.toNat c0)) (Int.ofNat (UInt8.toNat c1)))))))]) DT (.k0 [false] [] [2]) ?_
 refine .ret ?_
 exact Fp (zI (Aj .i64 (Aj .u8 (Int.add (Int.ofNat (UInt8.toNat c0)) (Int.ofNat (UInt8.toNat c1)))))) hm

def bS (pu:Af) (n:Nat) (x0:Int):OV:=
 (bb (Bd x0 (0:Int)) (some (.int .i64 (16:Int))) (oo (EA (G6 .u32 (Aj .u32 (Int.mul (Aj .u32 (Np .u16 x0 (Aj .u16 (Int.sub (.ofNat 0) x0)))) (125613361:Int))) 27)) none fun k1=>(bb (Nat.blt k1 32) (oo (AL Sk (0+k1*1)) none fun v0=>(oo (Bi .u8 v0) none fun x1=>(some (.int .i64 (Aj .i64 x1))))) none)))
def m67 (pu:Af) (n:Nat) (args:LV):OV:=
 (ll args none fun a0 args=>(ll args (oo (Bi .u16 a0) none fun x0=>(bS pu n x0)) fun _ _=>none))
theorem r67 {call:A8} (pu:Af) (n:Nat) (hcall:call=Bb tabs HV pu (inl pu)) {args:LV} {v:Value} (hm:m67 pu n args=some v) (_:∀ x∈args,closed2 x=true):args.length≤15∧BN tt call 1 Wx (Fr.made 15 args) (Ao tabs) (Fin tt 1 [.tmp 2] v):=by
 subst hcall
 unfold m67 at hm
 replace hm:=Ad hm;obtain⟨a0,args_0,rfl,hm⟩:=hm
 replace hm:=AC hm;obtain⟨rfl,hm⟩:=hm
 replace hm:=Ai hm;obtain⟨x0,rfl,hm⟩:=hm
 unfold bS at hm
 refine⟨by simp,?_⟩
 refine .same (F':=(fr 15 [(0,.int .u16 x0)])) (H':=DT) (by kernel_rfl) (by kernel_rfl) ?_
 refine .then (.rK (.ghs (fr 15 [(0,.int .u16 x0)]) DT (.k0 [false] [] [0]) ?_))
 refine .then (.then (.rK (.ghs (fr 15 [(0,.int .u16 x0),(4,(zB (Bd x0 (0:Int))))]) DT (.k0 [false] [] [0,4]) ?_)))
 replace hm:=Ag hm;rcases hm with⟨h0,hm⟩ | ⟨h0,hm⟩
 ·refine FX (Bd x0 (0:Int)) h0 ?_
  refine .then (.rK (.ghs (fr 15 [(2,(zI (16:Int)))]) DT (.k0 [false] [] [2]) ?_))
  refine .ret ?_
  exact Fp (zI (16:Int)) hm
 ·refine FY (Bd x0 (0:Int)) h0 ?_
  refine .skip (.ghs (fr 15 [(0,.int .u16 x0)]) DT (.k0 [false] [] [0]) ?_)
  refine .then ?_
  replace hm:=Ab hm;obtain⟨k1,h1,hm⟩:=hm
  replace hm:=Ae hm;obtain⟨h2,hm⟩:=hm
  replace hm:=Hy hm;obtain⟨x1,h3,hm⟩:=hm
  refine .reg (eC 6 (some ((.int .u32 (G6 .u32 (Aj .u32 (Int.mul (Aj .u32 (Np .u16 x0 (Aj .u16 (Int.sub (.ofNat 0) x0)))) (125613361:Int))) 27)),DT)) (show _=some ((.int .u32 (Int.ofNat k1)),_) from (by rw[AR h1])) (eD (keep DT (bb (Nat.blt k1 32) (some (.pointer (some ⟨0,(0+k1*1),none⟩))) none)) (AX h2) (eD (keep DT (AL Sk (0+k1*1))) (AZ h3) (eE)))) ?_
  refine .ghs (fr 15 [(2,(zI (Aj .i64 x1)))]) DT (.k0 [false] [] [2]) ?_
  refine .ret ?_
  exact Fp (zI (Aj .i64 x1)) hm
def Ux (pu:Af) (n:Nat) (q0:LV):OV:=
 (bb (Nat.ble (0+5) (len q0)) (oo (AL q0 0) none fun v0=>(oo (Bi .i64 v0) none fun x0=>(oo (AL q0 (0+1)) none fun v1=>(oo (Bi .i64 v1) none fun x1=>(oo (AL q0 ((0+1)+1)) none fun v2=>(oo (Bi .i64 v2) none fun x2=>(oo (AL q0 (((0+1)+1)+1)) none fun v3=>(oo (Bi .i64 v3) none fun x3=>(oo (AL q0 ((((0+1)+1)+1)+1)) none fun v4=>(oo (Bi .i64 v4) none fun x4=>(some (.bool (bq true (an (Bd x0 (0:Int)) (an (Bd x1 (0:Int)) (an (Bd x2 (0:Int)) (an (Bd x3 (0:Int)) (an (Bd x4 (0:Int)) true)))))))))))))))))) none)
def QM (pu:Af) (n:Nat) (ih0:Int→Int→Int→Int→Sl→Sl→LV→OV) (z0 z1 z2 z3:Int) (s0 s1:Sl) (q0:LV):OV:=
 (bb (Au Ah q0) (ih0 z0 z1 (Aj .i64 (Int.add z2 (1:Int))) z3 s0 s1 q0) none)
def Uy (pu:Af) (n:Nat) (ih0:Int→Int→Int→Int→Sl→Sl→LV→OV) (z0 z1 z2 z3:Int) (s0 s1:Sl) (q0:LV):OV:=
 (bb (Au Ah q0) (bb (AY z2 z1) (oo (pu 53 [.int .u16 z0,.int .i64 z2]) none fun v0=>(oo (Bf v0) none fun b0=>(bb b0 (oo (EA z2) none fun k1=>(bb (an (Nat.blt k1 (Sl.n s0)) true) (oo (AL (Sl.cs s0) (k1*1)) none fun v1=>(oo (Bi .i64 v1) none fun x0=>(oo (EA x0) none fun k2=>(bb (Nat.blt k2 5) (oo (AL q0 (0+k2*1)) none fun v2=>(oo (Bi .i64 v2) none fun x1=>(bb (Nat.blt k2 5) (bb (an (Nat.ble ((0+k2*1)+1) (len q0)) true) (bb (Au Ah (BM ([(.int .i64 (Aj .i64 (Int.add x1 (1:Int))))]:LV) (0+k2*1) q0)) (bb (an (Nat.blt k1 (Sl.n s1)) true) (oo (AL (Sl.cs s1) (k1*1)) none fun v3=>(oo (Bi .i64 v3) none fun x2=>(oo (EA x2) none fun k3=>(bb (Nat.blt k3 5) (oo (AL (BM ([(.int .i64 (Aj .i64 (Int.add x1 (1:Int))))]:LV) (0+k2*1) q0) (0+k3*1)) none fun v4=>(oo (Bi .i64 v4) none fun x3=>(bb (Nat.blt k3 5) (bb (an (Nat.ble ((0+k3*1)+1) (len (BM ([(.int .i64 (Aj .i64 (Int.add x1 (1:Int))))]:LV) (0+k2*1) q0))) true) (bb (Au Ah (BM ([(.int .i64 (Aj .i64 (Int.sub x3 (1:Int))))]:LV) (0+k3*1) (BM ([(.int .i64 (Aj .i64 (Int.add x1 (1:Int))))]:LV) (0+k2*1) q0))) (QM pu n ih0 z0 z1 (Int.ofNat k1) z3 s0 s1 (BM ([(.int .i64 (Aj .i64 (Int.sub x3 (1:Int))))]:LV) (0+k3*1) (BM ([(.int .i64 (Aj .i64 (Int.add x1 (1:Int))))]:LV) (0+k2*1) q0))) none) none) none))) none)))) none) none) none) none))) none)))) none)) (QM pu n ih0 z0 z1 z2 z3 s0 s1 q0)))) (Ux pu n q0)) none)
def Pp (pu:Af) (n w:Nat):Int→Int→Int→Int→Sl→Sl→LV→OV:=
 Nat.rec (motive:=fun _=>Int→Int→Int→Int→Sl→Sl→LV→OV) (fun _ _ _ _ _ _ _=>none) (fun _ ih0=>Uy pu n ih0) w
def Abc (pu:Af) (n:Nat) (x0:Int) (s0 s1:Sl) (x1:Int):OV:=
 (Pp pu n n x1 (Int.ofNat (Sl.n s0)) (0:Int) x0 s0 s1 ([(.int .i64 (0:Int)),(.int .i64 (0:Int)),(.int .i64 (0:Int)),(.int .i64 (0:Int)),(.int .i64 (0:Int))]:LV))
def m71 (pu:Af) (n:Nat) (args:LV):OV:=
 (ll args none fun a0 args=>(ll args none fun a1 args=>(ll args (oo (Bt a0) none fun l0=>(ll l0 none fun v0 l0=>(ll l0 none fun v1 l0=>(ll l0 none fun v2 l0=>(ll l0 (oo (Bi .i64 v0) none fun x0=>(oo (Bj 1 v1) none fun s0=>(oo (Bj 1 v2) none fun s1=>(oo (Bi .u16 a1) none fun x1=>(Abc pu n x0 s0 s1 x1))))) fun _ _=>none))))) fun _ _=>none)))
theorem Abd (pu:Af) (n:Nat) (q0:LV) {v:Value} (hm:Ux pu n q0=some v):BN tt (Bb tabs HV pu (inl pu)) 1 X7 (fr 38 [(5,pt 1 0)]) (hT 2 [oC q0]) (Fin tt 1 [.tmp 4] v):=by
 unfold Ux at hm
 refine .then ?_
 replace hm:=Ae hm;obtain⟨h0,hm⟩:=hm
 replace hm:=Hy hm;obtain⟨x0,h1,hm⟩:=hm
 replace hm:=Hy hm;obtain⟨x1,h2,hm⟩:=hm
 replace hm:=Hy hm;obtain⟨x2,h3,hm⟩:=hm
 replace hm:=Hy hm;obtain⟨x3,h4,hm⟩:=hm
 replace hm:=Hy hm;obtain⟨x4,h5,hm⟩:=hm
 refine .reg (eD (keep (hT 2 [oC q0]) (bb (Nat.ble (0+5) (len q0)) (some (.agg ⟨Aq 5 (Am 0 q0)⟩)) none)) (Pd h0 (Ca h1 (Ca h2 (Ca h3 (Ca h4 (Ca h5 rfl)))))) (eE)) ?_
 refine .ghs (fr 38 [(4,(zB (bq true (an (Bd x0 (0:Int)) (an (Bd x1 (0:Int)) (an (Bd x2 (0:Int)) (an (Bd x3 (0:Int)) (an (Bd x4 (0:Int)) true))))))))]) DT (.k0 [false] [] [4]) ?_
 refine .ret ?_
 exact Fp (zB (bq true (an (Bd x0 (0:Int)) (an (Bd x1 (0:Int)) (an (Bd x2 (0:Int)) (an (Bd x3 (0:Int)) (an (Bd x4 (0:Int)) true))))))) hm
theorem r71 {call:A8} (pu:Af) (n:Nat) (hcall:call=Bb tabs HV pu (inl pu)) {args:LV} {v:Value} (hm:m71 pu n args=some v) (_:∀ x∈args,closed2 x=true):args.length≤38∧BN tt call 1 Sj (Fr.made 38 args) (Ao tabs) (Fin tt 1 [.tmp 4] v):=by
 subst hcall
 unfold m71 at hm
 replace hm:=Ad hm;obtain⟨a0,args_0,rfl,hm⟩:=hm
 replace hm:=Ad hm;obtain⟨a1,args_1,rfl,hm⟩:=hm
 replace hm:=AC hm;obtain⟨rfl,hm⟩:=hm
 replace hm:=BG hm;obtain⟨l0,rfl,hm⟩:=hm
 replace hm:=Ad hm;obtain⟨v0,l37786_0,rfl,hm⟩:=hm
 replace hm:=Ad hm;obtain⟨v1,l37786_1,rfl,hm⟩:=hm
 replace hm:=Ad hm;obtain⟨v2,l37786_2,rfl,hm⟩:=hm
 replace hm:=AC hm;obtain⟨rfl,hm⟩:=hm
 replace hm:=Ai hm;obtain⟨x0,rfl,hm⟩:=hm
 replace hm:=Al hm;obtain⟨s0,rfl,hm⟩:=hm
 replace hm:=Al hm;obtain⟨s1,rfl,hm⟩:=hm
 replace hm:=Ai hm;obtain⟨x1,rfl,hm⟩:=hm
 unfold Abc at hm
 refine⟨by simp,?_⟩
 refine .same (F':=(fr 38 [(0,(.agg ⟨[zI x0,Sl.v 1 s0,Sl.v 1 s1]⟩)),(1,.int .u16 x1)])) (H':=DT) (by kernel_rfl) (by kernel_rfl) ?_
 refine .then (.rK (.ghs (fr 38 [(1,.int .u16 x1),(2,pt 1 0)]) (hT 2 [(oC [zI x0,Sl.v 1 s0,Sl.v 1 s1])]) (.k0 [false] [.tmp 2 false] [1,2]) ?_))
 refine .then (.rK (.ghs (fr 38 [(1,.int .u16 x1),(2,pt 1 0),(5,(pt 2 0))]) (hT 3 [(oC [zI x0,Sl.v 1 s0,Sl.v 1 s1]),(oC [(zI (0:Int)),(zI (0:Int)),(zI (0:Int)),(zI (0:Int)),(zI (0:Int))])]) (.k0 [false] [.tmp 2 false,.tmp 5 false] [1,2,5]) ?_))
 refine .join (v:=v) (fun y:LV=>((fr 38 [(5,pt 1 0)]),(hT 2 [oC y]))) (fun y=>Ux pu n y) ?_ ?_
 ·rintro q0 hm
  exact Abd pu n q0 hm
 ·refine .then (.rK (.ghs (fr 38 [(1,.int .u16 x1),(2,pt 1 0),(5,(pt 2 0)),(9,(zI (Int.ofNat (Sl.n s0)))),(10,(zI (0:Int)))]) (hT 3 [(oC [zI x0,Sl.v 1 s0,Sl.v 1 s1]),(oC [(zI (0:Int)),(zI (0:Int)),(zI (0:Int)),(zI (0:Int)),(zI (0:Int))])]) (.k0 [false] [.tmp 2 false,.tmp 5 false] [1,2,5,9,10]) ?_))
  refine .block (.loopM (v:=v) (fun y:Int×Int×Int×Int×Sl×Sl×LV=>((fr 38 [(1,(.int .u16 y.1)),(2,pt 1 0),(5,(pt 2 0)),(9,(zI y.2.1)),(10,(zI y.2.2.1))]),(hT 3 [(oC [(zI y.2.2.2.1),(Sl.v 1 y.2.2.2.2.1),(Sl.v 1 y.2.2.2.2.2.1)]),(oC y.2.2.2.2.2.2)]))) (fun w y=>Pp pu n w y.1 y.2.1 y.2.2.1 y.2.2.2.1 y.2.2.2.2.1 y.2.2.2.2.2.1 y.2.2.2.2.2.2) n ⟨(x1,(Int.ofNat (Sl.n s0)),(0:Int),x0,s0,s1,([(zI (0:Int)),(zI (0:Int)),(zI (0:Int)),(zI (0:Int)),(zI (0:Int))]:LV)),hm,(.k0 [false] [.tmp 2 false,.tmp 5 false] [1,2,5,9,10])⟩ (fun _=>rfl) ?_)
  rintro w0 ⟨z0,z1,z2,z3,s2,s3,q1⟩ hm
  replace hm:Uy pu n (Pp pu n w0) z0 z1 z2 z3 s2 s3 q1=some v:=hm
  unfold Uy at hm
  refine .then (.rK ?_)
  replace hm:=Ae hm;obtain⟨h0,hm⟩:=hm
  refine .ghs (fr 38 [(1,.int .u16 z0),(2,pt 1 0),(5,(pt 2 0)),(9,zI z1),(10,zI z2),(11,(zB (AY z2 z1)))]) (hT 3 [(oC [zI z3,Sl.v 1 s2,Sl.v 1 s3]),oC q1]) (.k [2] [false] [.tmp 2 false,.tmp 5 false] [1,2,5,9,10,11] ⟨Dy h0,trivial⟩) ?_
  refine .then ?_
  replace hm:=Ag hm;rcases hm with⟨h1,hm⟩ | ⟨h1,hm⟩
  ·refine FX (AY z2 z1) h1 ?_
   refine .skip (.ghs (fr 38 [(1,.int .u16 z0),(2,pt 1 0),(5,(pt 2 0)),(9,zI z1),(10,zI z2)]) (hT 3 [(oC [zI z3,Sl.v 1 s2,Sl.v 1 s3]),oC q1]) (.k [2] [false] [.tmp 2 false,.tmp 5 false] [1,2,5,9,10] ⟨Dy h0,trivial⟩) ?_)
   refine .join (v:=v) (fun y:Int×Int×Int×Int×Sl×Sl×LV=>((fr 38 [(1,(.int .u16 y.1)),(2,pt 1 0),(5,(pt 2 0)),(9,(zI y.2.1)),(10,(zI y.2.2.1))]),(hT 3 [(oC [(zI y.2.2.2.1),(Sl.v 1 y.2.2.2.2.1),(Sl.v 1 y.2.2.2.2.2.1)]),(oC y.2.2.2.2.2.2)]))) (fun y=>QM pu n (Pp pu n w0) y.1 y.2.1 y.2.2.1 y.2.2.2.1 y.2.2.2.2.1 y.2.2.2.2.2.1 y.2.2.2.2.2.2) ?_ ?_
   ·rintro⟨z4,z5,z6,z7,s4,s5,q2⟩ hm
    unfold QM at hm
    refine .rK ?_
    replace hm:=Ae hm;obtain⟨h2,hm⟩:=hm
    exact⟨(z4,z5,(Aj .i64 (Int.add z6 (1:Int))),z7,s4,s5,q2),hm,(.k [2] [false] [.tmp 2 false,.tmp 5 false] [1,2,5,9,10] ⟨Dy h2,trivial⟩)⟩
   ·refine .block (.then (.rK (.ghs (fr 38 [(1,.int .u16 z0),(2,pt 1 0),(5,(pt 2 0)),(6,zI z2),(9,zI z1),(10,zI z2)]) (hT 3 [(oC [zI z3,Sl.v 1 s2,Sl.v 1 s3]),oC q1]) (.k [2] [false] [.tmp 2 false,.tmp 5 false] [1,2,5,6,9,10] ⟨Dy h0,trivial⟩) ?_)))
    refine .then ?_
    replace hm:=fD hm;obtain⟨b0,h3,hm⟩:=hm
    refine .reg (eC 2 ((oo (pu 53 [.int .u16 z0,zI z2]) none fun v=>some (v,(hT 3 [(oC [zI z3,Sl.v 1 s2,Sl.v 1 s3]),oC q1])))) (AB h3) (eE)) ?_
    refine .ghs (fr 38 [(1,.int .u16 z0),(2,pt 1 0),(5,(pt 2 0)),(6,zI z2),(9,zI z1),(10,zI z2),(15,zB b0)]) (hT 3 [(oC [zI z3,Sl.v 1 s2,Sl.v 1 s3]),oC q1]) (.k [2] [false] [.tmp 2 false,.tmp 5 false] [1,2,5,6,9,10,15] ⟨Dy h0,trivial⟩) ?_
    replace hm:=Ag hm;rcases hm with⟨h4,hm⟩ | ⟨h4,hm⟩
    ·refine .ifT b0 (by kernel_rfl) h4 ?_
     refine .then ?_
     replace hm:=Ab hm;obtain⟨k1,h5,hm⟩:=hm
     obtain rfl:=AR h5
     replace hm:=Ae hm;obtain⟨h6,hm⟩:=hm
     replace hm:=Hy hm;obtain⟨x2,h7,hm⟩:=hm
     replace hm:=Ab hm;obtain⟨k2,h8,hm⟩:=hm
     obtain rfl:=AR h8
     replace hm:=Ae hm;obtain⟨h9,hm⟩:=hm
     replace hm:=Hy hm;obtain⟨x3,h10,hm⟩:=hm
     replace hm:=Ae hm;obtain⟨h11,hm⟩:=hm
     replace hm:=Ae hm;obtain⟨h12,hm⟩:=hm
     refine .reg (eN 6 (Fr.puts (fr 38 [(1,.int .u16 z0),(2,pt 1 0),(5,(pt 2 0)),(6,(zI (Int.ofNat k1))),(9,zI z1),(10,(zI (Int.ofNat k1))),(15,zB b0)]) [(16,pt 1 1),(17,Sl.v 1 s2),(18,(zI (Int.ofNat k1))),(19,(Cv (k1*1) (Sl.cs s2))),(20,(zI (Int.ofNat k2))),(21,(.pointer (some ⟨2,(0+k2*1),none⟩)))]) (hT 3 [(oC [zI z3,Sl.v 1 s2,Sl.v 1 s3]),oC q1]) (eC 3 (keep (hT 3 [(oC [zI z3,Sl.v 1 s2,Sl.v 1 s3]),oC q1]) (bb (an (Nat.blt k1 (Sl.n s2)) true) (some (Cv (k1*1) (Sl.cs s2))) none)) (AX h6) (eD (keep (hT 3 [(oC [zI z3,Sl.v 1 s2,Sl.v 1 s3]),oC q1]) (AL (Sl.cs s2) (k1*1))) (AZ h7) (eD (keep (hT 3 [(oC [zI z3,Sl.v 1 s2,Sl.v 1 s3]),oC q1]) (bb (Nat.blt k2 5) (some (.pointer (some ⟨2,(0+k2*1),none⟩))) none)) (AX h9) (by kernel_rfl)))) (eD (keep (hT 3 [(oC [zI z3,Sl.v 1 s2,Sl.v 1 s3]),oC q1]) (AL q1 (0+k2*1))) (AZ h10) (eC 1 (keep (hT 3 [(oC [zI z3,Sl.v 1 s2,Sl.v 1 s3]),oC q1]) (bb (Nat.blt k2 5) (some (.pointer (some ⟨2,(0+k2*1),none⟩))) none)) (AX h11) (eD (done (bb (an (Nat.ble ((0+k2*1)+1) (len q1)) true) (some (hT 3 [(oC [zI z3,Sl.v 1 s2,Sl.v 1 s3]),(oC (BM ([(zI (Aj .i64 (Int.add x3 (1:Int))))]:LV) (0+k2*1) q1))])) none) undef) (Js h12) (eE))))) ?_
     replace hm:=Ae hm;obtain⟨h13,hm⟩:=hm
     refine .ghs (fr 38 [(1,.int .u16 z0),(2,pt 1 0),(5,(pt 2 0)),(6,(zI (Int.ofNat k1))),(9,zI z1),(10,(zI (Int.ofNat k1)))]) (hT 3 [(oC [zI z3,Sl.v 1 s2,Sl.v 1 s3]),(oC (BM ([(zI (Aj .i64 (Int.add x3 (1:Int))))]:LV) (0+k2*1) q1))]) (.k [2] [false] [.tmp 2 false,.tmp 5 false] [1,2,5,6,9,10] ⟨Dy h13,trivial⟩) ?_
     replace hm:=Ae hm;obtain⟨h14,hm⟩:=hm
     replace hm:=Hy hm;obtain⟨x4,h15,hm⟩:=hm
     replace hm:=Ab hm;obtain⟨k3,h16,hm⟩:=hm
     obtain rfl:=AR h16
     replace hm:=Ae hm;obtain⟨h17,hm⟩:=hm
     replace hm:=Hy hm;obtain⟨x5,h18,hm⟩:=hm
     replace hm:=Ae hm;obtain⟨h19,hm⟩:=hm
     replace hm:=Ae hm;obtain⟨h20,hm⟩:=hm
     refine .reg (eN 6 (Fr.puts (fr 38 [(1,.int .u16 z0),(2,pt 1 0),(5,(pt 2 0)),(6,(zI (Int.ofNat k1))),(9,zI z1),(10,(zI (Int.ofNat k1)))]) [(25,pt 1 2),(26,Sl.v 1 s3),(27,(zI (Int.ofNat k1))),(28,(Cv (k1*1) (Sl.cs s3))),(29,(zI (Int.ofNat k3))),(30,(.pointer (some ⟨2,(0+k3*1),none⟩)))]) (hT 3 [(oC [zI z3,Sl.v 1 s2,Sl.v 1 s3]),(oC (BM ([(zI (Aj .i64 (Int.add x3 (1:Int))))]:LV) (0+k2*1) q1))]) (eC 3 (keep (hT 3 [(oC [zI z3,Sl.v 1 s2,Sl.v 1 s3]),(oC (BM ([(zI (Aj .i64 (Int.add x3 (1:Int))))]:LV) (0+k2*1) q1))]) (bb (an (Nat.blt k1 (Sl.n s3)) true) (some (Cv (k1*1) (Sl.cs s3))) none)) (AX h14) (eD (keep (hT 3 [(oC [zI z3,Sl.v 1 s2,Sl.v 1 s3]),(oC (BM ([(zI (Aj .i64 (Int.add x3 (1:Int))))]:LV) (0+k2*1) q1))]) (AL (Sl.cs s3) (k1*1))) (AZ h15) (eD (keep (hT 3 [(oC [zI z3,Sl.v 1 s2,Sl.v 1 s3]),(oC (BM ([(zI (Aj .i64 (Int.add x3 (1:Int))))]:LV) (0+k2*1) q1))]) (bb (Nat.blt k3 5) (some (.pointer (some ⟨2,(0+k3*1),none⟩))) none)) (AX h17) (by kernel_rfl)))) (eD (keep (hT 3 [(oC [zI z3,Sl.v 1 s2,Sl.v 1 s3]),(oC (BM ([(zI (Aj .i64 (Int.add x3 (1:Int))))]:LV) (0+k2*1) q1))]) (AL (BM ([(zI (Aj .i64 (Int.add x3 (1:Int))))]:LV) (0+k2*1) q1) (0+k3*1))) (AZ h18) (eC 1 (keep (hT 3 [(oC [zI z3,Sl.v 1 s2,Sl.v 1 s3]),(oC (BM ([(zI (Aj .i64 (Int.add x3 (1:Int))))]:LV) (0+k2*1) q1))]) (bb (Nat.blt k3 5) (some (.pointer (some ⟨2,(0+k3*1),none⟩))) none)) (AX h19) (eD (done (bb (an (Nat.ble ((0+k3*1)+1) (len (BM ([(zI (Aj .i64 (Int.add x3 (1:Int))))]:LV) (0+k2*1) q1))) true) (some (hT 3 [(oC [zI z3,Sl.v 1 s2,Sl.v 1 s3]),(oC (BM ([(zI (Aj .i64 (Int.sub x5 (1:Int))))]:LV) (0+k3*1) (BM ([(zI (Aj .i64 (Int.add x3 (1:Int))))]:LV) (0+k2*1) q1)))])) none) undef) (Js h20) (eE))))) ?_
     replace hm:=Ae hm;obtain⟨h21,hm⟩:=hm
     exact⟨(z0,z1,(Int.ofNat k1),z3,s2,s3,(BM ([(zI (Aj .i64 (Int.sub x5 (1:Int))))]:LV) (0+k3*1) (BM ([(zI (Aj .i64 (Int.add x3 (1:Int))))]:LV) (0+k2*1) q1))),hm,(.k [2] [false] [.tmp 2 false,.tmp 5 false] [1,2,5,9,10] ⟨Dy h21,trivial⟩)⟩
    ·refine .ifF b0 (by kernel_rfl) h4 ?_
     refine .skip ?_
     exact⟨(z0,z1,z2,z3,s2,s3,q1),hm,(.k [2] [false] [.tmp 2 false,.tmp 5 false] [1,2,5,9,10] ⟨Dy h0,trivial⟩)⟩
  ·refine FY (AY z2 z1) h1 ?_
   refine .exit ?_
   exact⟨q1,hm,(.k [2] [false] [.tmp 5 false] [5] ⟨Dy h0,trivial⟩)⟩

def bT (pu:Af) (n:Nat) (s0:Sl):OV:=
 (bb (Dp (nt (Nat.beq (Sl.fl s0) 2)) (Nat.beq (Sl.n s0) 0)) (some (Sl.v 1 (KY 1 s0))) none)
def m72 (pu:Af) (n:Nat) (args:LV):OV:=
 (ll args none fun a0 args=>(ll args (oo (Bj 1 a0) none fun s0=>(bT pu n s0)) fun _ _=>none))
theorem r72 {call:A8} (pu:Af) (n:Nat) (hcall:call=Bb tabs HV pu (inl pu)) {args:LV} {v:Value} (hm:m72 pu n args=some v) (_:∀ x∈args,closed2 x=true):args.length≤9∧BN tt call 1 Wy (Fr.made 9 args) (Ao tabs) (Fin tt 1 [.tmp 2] v):=by
 subst hcall
 unfold m72 at hm
 replace hm:=Ad hm;obtain⟨a0,args_0,rfl,hm⟩:=hm
 replace hm:=AC hm;obtain⟨rfl,hm⟩:=hm
 replace hm:=Al hm;obtain⟨s0,rfl,hm⟩:=hm
 unfold bT at hm
 refine⟨by simp,?_⟩
 refine .same (F':=(fr 9 [(0,Sl.v 1 s0)])) (H':=DT) (by kernel_rfl) (by kernel_rfl) ?_
 refine .then (.rK (.ghs (fr 9 [(0,Sl.v 1 s0)]) DT (.k0 [false] [] [0]) ?_))
 refine .then ?_
 replace hm:=Ae hm;obtain⟨h0,hm⟩:=hm
 refine .reg (eC 5 (Ut DT ti3 1 s0) (Wh h0) (eE)) ?_
 refine .ghs (fr 9 [(2,(Sl.v 1 (KY 1 s0)))]) DT (.k0 [false] [] [2]) ?_
 refine .ret ?_
 exact Fp (Sl.v 1 (KY 1 s0)) hm
def KU (pu:Af) (n:Nat) (e0:List EO) (k1:Nat):OV:=
 (bb (Au F4 e0) (some (.tuple ⟨[(.map (some 1)),(Ef (.map e0 k1))]⟩)) none)
def KV (pu:Af) (n:Nat) (ih0:Bool→Nat→Nat→Nat→List EO→Nat→LV→OV) (b0:Bool) (n0 n1 c0:Nat) (e0:List EO) (k1:Nat) (q0:LV):OV:=
 (bb (Nat.ble 1 n1) (bb (Au F4 e0) (bb (Au Ah q0) (ih0 b0 (n0+1*1) (n1 - 1) (2*(c0 / 2 - 1)+bb (Dp false (Nat.beq (c0 % 2) 1)) 1 0) e0 k1 q0) none) none) none)
def KW (pu:Af) (n:Nat) (ih0:Bool→Nat→Nat→Nat→List EO→Nat→LV→OV) (ih1:Bool→Nat→Nat→Nat→Sl→Int→Int→List EO→Nat→LV→OV) (b0:Bool) (n0 n1 c0:Nat) (s0:Sl) (z0 z1:Int) (e0:List EO) (k1:Nat) (q0:LV):OV:=
 (bb (Au F4 e0) (bb (Au Ah q0) (ih1 b0 n0 n1 c0 s0 z0 (Aj .i64 (Int.add z1 (1:Int))) e0 k1 q0) none) none)
def JO (pu:Af) (n:Nat) (ih0:Bool→Nat→Nat→Nat→List EO→Nat→LV→OV) (ih1:Bool→Nat→Nat→Nat→Sl→Int→Int→List EO→Nat→LV→OV) (ih2:Bool→Nat→Nat→Nat→Sl→Int→Int→Int→Int→List EO→Nat→LV→OV) (b0:Bool) (n0 n1 c0:Nat) (s0:Sl) (z0 z1 z2 z3:Int) (e0:List EO) (k1:Nat) (q0:LV):OV:=
 (bb (Au F4 e0) (bb (Au Ah q0) (ih2 b0 n0 n1 c0 s0 z0 (Aj .i64 (Int.add z1 (1:Int))) z2 z3 e0 k1 q0) none) none)
def G9 (pu:Af) (n:Nat) (ih0:Bool→Nat→Nat→Nat→List EO→Nat→LV→OV) (ih1:Bool→Nat→Nat→Nat→Sl→Int→Int→List EO→Nat→LV→OV) (ih2:Bool→Nat→Nat→Nat→Sl→Int→Int→Int→Int→List EO→Nat→LV→OV) (b0:Bool) (n0 n1 c0:Nat) (s0:Sl) (z0 z1 z2 z3:Int) (b3:Bool) (e0:List EO) (k1:Nat) (q0:LV):OV:=
 (bb b3 (bb (Au F4 e0) (bb (Au Ah q0) (oo (pu 24 [Sl.v 1 s0,.int .i64 z0,.int .i64 z1]) none fun v0=>(oo (Bj 1 v0) none fun s1=>(oo (pu 23 [Sl.v 1 s1]) none fun v1=>(oo (Bi .i64 v1) none fun x0=>(oo (GD (.int .i64 x0) e0 0) none fun r0=>(oo (Bi .i64 (Wd r0 (.int .i64 (0:Int)))) none fun x1=>(bb (nt (isS r0)) (oo (pu 23 [Sl.v 1 s1]) none fun v2=>(oo (Bi .i64 v2) none fun x2=>(oo (pu 23 [Sl.v 1 s0]) none fun v3=>(oo (Bi .i64 v3) none fun x3=>(oo (GD (.int .i64 x3) e0 0) none fun r1=>(oo (Bi .i64 (Wd r1 (.int .i64 (0:Int)))) none fun x4=>(oo (GD (.int .i64 x2) e0 0) none fun r2=>(bb (Au F4 (Gr (.int .i64 x2) (.int .i64 (Aj .i64 (Int.add x4 (1:Int)))) k1 e0 r2)) (bb (Ou 1 24 n0 n1 c0 1 q0) (bb (Au Ah (Br (Am n0 q0) [Sl.v 1 s1])) (JO pu n ih0 ih1 ih2 b0 0 (n1+1) (2*(n1+1)+bb false 1 0) s0 z0 z1 z2 z3 (Gr (.int .i64 x2) (.int .i64 (Aj .i64 (Int.add x4 (1:Int)))) k1 e0 r2) (Ja k1 r2) (Br (Am n0 q0) [Sl.v 1 s1])) none) none) none)))))))) (JO pu n ih0 ih1 ih2 b0 n0 n1 c0 s0 z0 z1 z2 z3 e0 k1 q0)))))))) none) none) (bb (Au F4 e0) (bb (Au Ah q0) (KW pu n ih0 ih1 b0 n0 n1 c0 s0 z2 z3 e0 k1 q0) none) none))
def Iz (pu:Af) (n:Nat) (ih0:Bool→Nat→Nat→Nat→List EO→Nat→LV→OV) (ih1:Bool→Nat→Nat→Nat→Sl→Int→Int→List EO→Nat→LV→OV) (ih2:Bool→Nat→Nat→Nat→Sl→Int→Int→Int→Int→List EO→Nat→LV→OV) (b0:Bool) (n0 n1 c0:Nat) (s0:Sl) (z0 z1 z2 z3:Int) (e0:List EO) (k1:Nat) (q0:LV):OV:=
 (bb (AY z1 (Int.ofNat (Sl.n s0))) (bb (nt b0) (bb (Au F4 e0) (bb (Au Ah q0) (G9 pu n ih0 ih1 ih2 b0 n0 n1 c0 s0 z0 z1 z2 z3 true e0 k1 q0) none) none) (bb (Au F4 e0) (bb (Au Ah q0) (G9 pu n ih0 ih1 ih2 b0 n0 n1 c0 s0 z0 z1 z2 z3 (Bd z1 (Aj .i64 (Int.add z0 (1:Int)))) e0 k1 q0) none) none)) (bb (Au F4 e0) (bb (Au Ah q0) (G9 pu n ih0 ih1 ih2 b0 n0 n1 c0 s0 z0 z1 z2 z3 false e0 k1 q0) none) none))
def Ha (pu:Af) (n:Nat) (ih0:Bool→Nat→Nat→Nat→List EO→Nat→LV→OV) (ih1:Bool→Nat→Nat→Nat→Sl→Int→Int→List EO→Nat→LV→OV) (w:Nat):Bool→Nat→Nat→Nat→Sl→Int→Int→Int→Int→List EO→Nat→LV→OV:=
 Nat.rec (motive:=fun _=>Bool→Nat→Nat→Nat→Sl→Int→Int→Int→Int→List EO→Nat→LV→OV) (fun _ _ _ _ _ _ _ _ _ _ _ _=>none) (fun _ ih2=>Iz pu n ih0 ih1 ih2) w
def Jb (pu:Af) (n:Nat) (ih0:Bool→Nat→Nat→Nat→List EO→Nat→LV→OV) (ih1:Bool→Nat→Nat→Nat→Sl→Int→Int→List EO→Nat→LV→OV) (b0:Bool) (n0 n1 c0:Nat) (s0:Sl) (z0 z1:Int) (e0:List EO) (k1:Nat) (q0:LV):OV:=
 (bb (Au F4 e0) (bb (Au Ah q0) (bb (AY z1 z0) (Ha pu n ih0 ih1 n b0 n0 n1 c0 s0 z1 (Aj .i64 (Int.add z1 (1:Int))) z0 z1 e0 k1 q0) (KV pu n ih0 b0 n0 n1 c0 e0 k1 q0)) none) none)
def Gn (pu:Af) (n:Nat) (ih0:Bool→Nat→Nat→Nat→List EO→Nat→LV→OV) (w:Nat):Bool→Nat→Nat→Nat→Sl→Int→Int→List EO→Nat→LV→OV:=
 Nat.rec (motive:=fun _=>Bool→Nat→Nat→Nat→Sl→Int→Int→List EO→Nat→LV→OV) (fun _ _ _ _ _ _ _ _ _ _=>none) (fun _ ih1=>Jb pu n ih0 ih1) w
def Jc (pu:Af) (n:Nat) (ih0:Bool→Nat→Nat→Nat→List EO→Nat→LV→OV) (b0:Bool) (n0 n1 c0:Nat) (e0:List EO) (k1:Nat) (q0:LV):OV:=
 (bb (Au F4 e0) (bb (Au Ah q0) (bb (AY (0:Int) (Int.ofNat n1)) (bb (an (Nat.blt 0 n1) true) (oo (AL q0 (n0+0*1)) none fun v0=>(oo (Bj 1 v0) none fun s0=>(Gn pu n ih0 n b0 n0 n1 c0 s0 (Int.ofNat (Sl.n s0)) (0:Int) e0 k1 q0))) none) (KU pu n e0 k1)) none) none)
def Fb (pu:Af) (n w:Nat):Bool→Nat→Nat→Nat→List EO→Nat→LV→OV:=
 Nat.rec (motive:=fun _=>Bool→Nat→Nat→Nat→List EO→Nat→LV→OV) (fun _ _ _ _ _ _ _=>none) (fun _ ih0=>Jc pu n ih0) w
def LK (pu:Af) (n:Nat) (s35:Sl) (b36:Bool):OV:=
 (oo (pu 23 [Sl.v 1 s35]) none fun v43=>(oo (Bi .i64 v43) none fun x45=>(oo (GD (.int .i64 x45) ([]:List EO) 0) none fun WE=>(bb (Au F4 (Gr (.int .i64 x45) (.int .i64 (0:Int)) 0 ([]:List EO) WE)) (Fb pu n n b36 0 1 2 (Gr (.int .i64 x45) (.int .i64 (0:Int)) 0 ([]:List EO) WE) (Ja 0 WE) ([Sl.v 1 s35]:LV)) none))))
def Pq (pu:Af) (n:Nat) (args:LV):OV:=
 (ll args none fun a0 args=>(ll args none fun a1 args=>(ll args (oo (Bj 1 a0) none fun s0=>(oo (Bf a1) none fun b0=>(LK pu n s0 b0))) fun _ _=>none)))
theorem Ym (pu:Af) (n:Nat) (e0:List EO) (k1:Nat) {v:Value} (hm:KU pu n e0 k1=some v):BN tt (Bb tabs HV pu (inl pu)) 1 X9 (fr 77 [(5,(.map (some 1)))]) (hT 2 [(.map e0 k1)]) (FJ tt 1 0 [.tmp 4] v):=by
 unfold KU at hm
 refine .then (.rK ?_)
 replace hm:=Ae hm;obtain⟨h0,hm⟩:=hm
 refine .ghs (fr 77 [(4,(.map (some 1)))]) (hT 2 [(.map e0 k1)]) (.k [1] [false] [.tmp 4 false] [4] ⟨Dy h0,trivial⟩) ?_
 refine .ghs (fr 77 [(4,(.map (some 1)))]) (hT 2 [(.map e0 k1)]) (.k [1] [false] [.tmp 4 false] [4] ⟨Dy h0,trivial⟩) ?_
 refine .ret ?_
 exact Gi (.map (some 1)) [(.map e0 k1)] (by kernel_rfl) hm (Nat.le_of_ble_eq_true rfl) (Fa (SH _ _) EJ)
theorem rX (pu:Af) (n:Nat) (s35:Sl) (b36:Bool) {v:Value} (hm:LK pu n s35 b36=some v):BN tt (Bb tabs HV pu (inl pu)) 1 O7 (fr 77 [(0,Sl.v 1 s35),(1,zB b36)]) DT (FJ tt 1 0 [.tmp 4] v):=by
 unfold LK at hm
 refine .then (.rK (.ghs (fr 77 [(0,Sl.v 1 s35),(1,zB b36)]) DT (.k0 [false] [] [0,1]) ?_))
 refine .then ?_
 replace hm:=Hy hm;obtain⟨x45,h44,hm⟩:=hm
 replace hm:=Ab hm;obtain⟨WE,h48,hm⟩:=hm
 refine .reg (eC 2 ((oo (pu 23 [Sl.v 1 s35]) none fun v=>some (v,(hT 2 [(.map ([]:List EO) 0)])))) (AB h44) (eD (done (oo (GD (zI x45) ([]:List EO) 0) none fun r=>oo r (some (Aa.set (hT 2 [(.map ([]:List EO) 0)]) 1 (.map (Br ([]:List EO) [⟨zI x45,(zI (0:Int)),0⟩]) (0+1)))) fun p=>pp p fun j _=>some (Aa.set (hT 2 [(.map ([]:List EO) 0)]) 1 (.map (SS (fun e=>⟨zI x45,(zI (0:Int)),e.born⟩) j ([]:List EO)) 0))) undef) (Us (H2:=(hT 2 [(.map (Gr (zI x45) (zI (0:Int)) 0 ([]:List EO) WE) (Ja 0 WE))])) h48) (eE))) ?_
 replace hm:=Ae hm;obtain⟨h49,hm⟩:=hm
 refine .ghs (fr 77 [(0,Sl.v 1 s35),(1,zB b36),(5,(.map (some 1)))]) (hT 2 [(.map (Gr (zI x45) (zI (0:Int)) 0 ([]:List EO) WE) (Ja 0 WE))]) (.k [1] [false] [.tmp 5 false] [0,1,5] ⟨Dy h49,trivial⟩) ?_
 refine .join (v:=v) (fun y:List EO×Nat=>((fr 77 [(5,(.map (some 1)))]),(hT 2 [(.map y.1 y.2)]))) (fun y=>KU pu n y.1 y.2) ?_ ?_
 ·rintro⟨e0,k1⟩ hm
  exact Ym pu n e0 k1 hm
 ·refine .then (.rK (.ghs (fr 77 [(1,zB b36),(5,(.map (some 1))),(6,sc 2 0 1 1 3)]) (hT 3 [(.map (Gr (zI x45) (zI (0:Int)) 0 ([]:List EO) WE) (Ja 0 WE)),(oC [Sl.v 1 s35])]) (.k [1] [false] [.tmp 5 false,.tmp 6 false] [1,5,6] ⟨Dy h49,trivial⟩) ?_))
  refine .block (.loopM (v:=v) (fun y:Bool×Nat×Nat×Nat×List EO×Nat×LV=>((fr 77 [(1,(zB y.1)),(5,(.map (some 1))),(6,(.slice (some ⟨2,y.2.1,some 1⟩) y.2.2.1 y.2.2.2.1))]),(hT 3 [(.map y.2.2.2.2.1 y.2.2.2.2.2.1),(oC y.2.2.2.2.2.2)]))) (fun w y=>Fb pu n w y.1 y.2.1 y.2.2.1 y.2.2.2.1 y.2.2.2.2.1 y.2.2.2.2.2.1 y.2.2.2.2.2.2) n ⟨(b36,0,1,2,(Gr (zI x45) (zI (0:Int)) 0 ([]:List EO) WE),(Ja 0 WE),([Sl.v 1 s35]:LV)),hm,(.weak 6 (sc 2 0 1 1 2) (v:=(sc 2 0 1 1 3)) (by kernel_rfl) (PG.cap 2 0 1 1 1) (.k [1] [false] [.tmp 5 false,.tmp 6 false] [1,5,6] ⟨Dy h49,trivial⟩))⟩ (fun _=>rfl) ?_)
  rintro w0 ⟨b0,n0,n1,c0,e1,k2,q0⟩ hm
  replace hm:Jc pu n (Fb pu n w0) b0 n0 n1 c0 e1 k2 q0=some v:=hm
  unfold Jc at hm
  refine .then (.then (.rK ?_))
  replace hm:=Ae hm;obtain⟨h0,hm⟩:=hm
  replace hm:=Ae hm;obtain⟨h1,hm⟩:=hm
  refine .ghs (fr 77 [(1,zB b0),(5,(.map (some 1))),(6,(.slice (some ⟨2,n0,some 1⟩) n1 c0)),(21,(zB (AY (0:Int) (Int.ofNat n1))))]) (hT 3 [(.map e1 k2),oC q0]) (.k [1,2] [false] [.tmp 5 false,.tmp 6 false] [1,5,6,21] ⟨Dy h0,Dy h1,trivial⟩) ?_
  replace hm:=Ag hm;rcases hm with⟨h2,hm⟩ | ⟨h2,hm⟩
  ·refine FX (AY (0:Int) (Int.ofNat n1)) h2 ?_
   refine .skip (.ghs (fr 77 [(1,zB b0),(5,(.map (some 1))),(6,(.slice (some ⟨2,n0,some 1⟩) n1 c0))]) (hT 3 [(.map e1 k2),oC q0]) (.k [1,2] [false] [.tmp 5 false,.tmp 6 false] [1,5,6] ⟨Dy h0,Dy h1,trivial⟩) ?_)
   refine .join (v:=v) (fun y:Bool×Nat×Nat×Nat×List EO×Nat×LV=>((fr 77 [(1,(zB y.1)),(5,(.map (some 1))),(6,(.slice (some ⟨2,y.2.1,some 1⟩) y.2.2.1 y.2.2.2.1))]),(hT 3 [(.map y.2.2.2.2.1 y.2.2.2.2.2.1),(oC y.2.2.2.2.2.2)]))) (fun y=>KV pu n (Fb pu n w0) y.1 y.2.1 y.2.2.1 y.2.2.2.1 y.2.2.2.2.1 y.2.2.2.2.2.1 y.2.2.2.2.2.2) ?_ ?_
   ·rintro⟨b3,n2,n3,c1,e2,k3,q1⟩ hm
    unfold KV at hm
    replace hm:=Ae hm;obtain⟨h3,hm⟩:=hm
    refine .reg (eC 1 (keep (hT 3 [(.map e2 k3),oC q1]) (oo (bb (Nat.ble 1 n3) (some 1) none) none fun l=>some (sliceAt 2 (n2+l*1) 1 (n3 - l) (c1 / 2 - l) (Dp false (Nat.beq (c1 % 2) 1))))) (show _=some ((.slice (some ⟨2,(n2+1*1),some 1⟩) (n3 - 1) (2*(c1 / 2 - 1)+bb (Dp false (Nat.beq (c1 % 2) 1)) 1 0)),(hT 3 [(.map e2 k3),oC q1])) from (RJ h3).trans (by kernel_rfl)) (eE)) ?_
    replace hm:=Ae hm;obtain⟨h4,hm⟩:=hm
    replace hm:=Ae hm;obtain⟨h5,hm⟩:=hm
    exact⟨(b3,(n2+1*1),(n3 - 1),(2*(c1 / 2 - 1)+bb (Dp false (Nat.beq (c1 % 2) 1)) 1 0),e2,k3,q1),hm,(.k [1,2] [false] [.tmp 5 false,.tmp 6 false] [1,5,6] ⟨Dy h4,Dy h5,trivial⟩)⟩
   ·refine .block (.then ?_)
    replace hm:=Ae hm;obtain⟨h6,hm⟩:=hm
    replace hm:=fC hm;obtain⟨s0,h7,hm⟩:=hm
    refine .reg (eC 1 (keep (hT 3 [(.map e1 k2),oC q0]) (bb (an (Nat.blt 0 n1) true) (some (.pointer (some ⟨2,(n0+0*1),none⟩))) none)) (AX h6) (eD (keep (hT 3 [(.map e1 k2),oC q0]) (AL q0 (n0+0*1))) (AZ h7) (eE))) ?_
    refine .ghs (fr 77 [(1,zB b0),(5,(.map (some 1))),(6,(.slice (some ⟨2,n0,some 1⟩) n1 c0)),(7,Sl.v 1 s0)]) (hT 3 [(.map e1 k2),oC q0]) (.k [1,2] [false] [.tmp 5 false,.tmp 6 false] [1,5,6,7] ⟨Dy h0,Dy h1,trivial⟩) ?_
    refine .then (.rK (.ghs (fr 77 [(1,zB b0),(5,(.map (some 1))),(6,(.slice (some ⟨2,n0,some 1⟩) n1 c0)),(7,Sl.v 1 s0),(28,(zI (Int.ofNat (Sl.n s0)))),(29,(zI (0:Int)))]) (hT 3 [(.map e1 k2),oC q0]) (.k [1,2] [false] [.tmp 5 false,.tmp 6 false] [1,5,6,7,28,29] ⟨Dy h0,Dy h1,trivial⟩) ?_))
    refine .block (.loopM (v:=v) (fun y:Bool×Nat×Nat×Nat×Sl×Int×Int×List EO×Nat×LV=>((fr 77 [(1,(zB y.1)),(5,(.map (some 1))),(6,(.slice (some ⟨2,y.2.1,some 1⟩) y.2.2.1 y.2.2.2.1)),(7,(Sl.v 1 y.2.2.2.2.1)),(28,(zI y.2.2.2.2.2.1)),(29,(zI y.2.2.2.2.2.2.1))]),(hT 3 [(.map y.2.2.2.2.2.2.2.1 y.2.2.2.2.2.2.2.2.1),(oC y.2.2.2.2.2.2.2.2.2)]))) (fun w y=>Gn pu n (Fb pu n w0) w y.1 y.2.1 y.2.2.1 y.2.2.2.1 y.2.2.2.2.1 y.2.2.2.2.2.1 y.2.2.2.2.2.2.1 y.2.2.2.2.2.2.2.1 y.2.2.2.2.2.2.2.2.1 y.2.2.2.2.2.2.2.2.2) n ⟨(b0,n0,n1,c0,s0,(Int.ofNat (Sl.n s0)),(0:Int),e1,k2,q0),hm,(.k [1,2] [false] [.tmp 5 false,.tmp 6 false] [1,5,6,7,28,29] ⟨Dy h0,Dy h1,trivial⟩)⟩ (fun _=>rfl) ?_)
    rintro w1 ⟨b4,n4,n5,c2,s1,z0,z1,e3,k4,q2⟩ hm
    replace hm:Jb pu n (Fb pu n w0) (Gn pu n (Fb pu n w0) w1) b4 n4 n5 c2 s1 z0 z1 e3 k4 q2=some v:=hm
    unfold Jb at hm
    refine .then (.rK ?_)
    replace hm:=Ae hm;obtain⟨h8,hm⟩:=hm
    replace hm:=Ae hm;obtain⟨h9,hm⟩:=hm
    refine .ghs (fr 77 [(1,zB b4),(5,(.map (some 1))),(6,(.slice (some ⟨2,n4,some 1⟩) n5 c2)),(7,Sl.v 1 s1),(28,zI z0),(29,zI z1),(30,(zB (AY z1 z0)))]) (hT 3 [(.map e3 k4),oC q2]) (.k [1,2] [false] [.tmp 5 false,.tmp 6 false] [1,5,6,7,28,29,30] ⟨Dy h8,Dy h9,trivial⟩) ?_
    refine .then ?_
    replace hm:=Ag hm;rcases hm with⟨h10,hm⟩ | ⟨h10,hm⟩
    ·refine FX (AY z1 z0) h10 ?_
     refine .skip (.ghs (fr 77 [(1,zB b4),(5,(.map (some 1))),(6,(.slice (some ⟨2,n4,some 1⟩) n5 c2)),(7,Sl.v 1 s1),(28,zI z0),(29,zI z1)]) (hT 3 [(.map e3 k4),oC q2]) (.k [1,2] [false] [.tmp 5 false,.tmp 6 false] [1,5,6,7,28,29] ⟨Dy h8,Dy h9,trivial⟩) ?_)
     refine .join (v:=v) (fun y:Bool×Nat×Nat×Nat×Sl×Int×Int×List EO×Nat×LV=>((fr 77 [(1,(zB y.1)),(5,(.map (some 1))),(6,(.slice (some ⟨2,y.2.1,some 1⟩) y.2.2.1 y.2.2.2.1)),(7,(Sl.v 1 y.2.2.2.2.1)),(28,(zI y.2.2.2.2.2.1)),(29,(zI y.2.2.2.2.2.2.1))]),(hT 3 [(.map y.2.2.2.2.2.2.2.1 y.2.2.2.2.2.2.2.2.1),(oC y.2.2.2.2.2.2.2.2.2)]))) (fun y=>KW pu n (Fb pu n w0) (Gn pu n (Fb pu n w0) w1) y.1 y.2.1 y.2.2.1 y.2.2.2.1 y.2.2.2.2.1 y.2.2.2.2.2.1 y.2.2.2.2.2.2.1 y.2.2.2.2.2.2.2.1 y.2.2.2.2.2.2.2.2.1 y.2.2.2.2.2.2.2.2.2) ?_ ?_
     ·rintro⟨b6,n6,n7,c3,s2,z2,z3,e4,k5,q3⟩ hm
      unfold KW at hm
      refine .rK ?_
      replace hm:=Ae hm;obtain⟨h11,hm⟩:=hm
      replace hm:=Ae hm;obtain⟨h12,hm⟩:=hm
      exact⟨(b6,n6,n7,c3,s2,z2,(Aj .i64 (Int.add z3 (1:Int))),e4,k5,q3),hm,(.k [1,2] [false] [.tmp 5 false,.tmp 6 false] [1,5,6,7,28,29] ⟨Dy h11,Dy h12,trivial⟩)⟩
     ·refine .block (.then (.rK (.ghs (fr 77 [(1,zB b4),(5,(.map (some 1))),(6,(.slice (some ⟨2,n4,some 1⟩) n5 c2)),(7,Sl.v 1 s1),(8,zI z1),(28,zI z0),(29,zI z1)]) (hT 3 [(.map e3 k4),oC q2]) (.k [1,2] [false] [.tmp 5 false,.tmp 6 false] [1,5,6,7,8,28,29] ⟨Dy h8,Dy h9,trivial⟩) ?_)))
      refine .then (.rK (.ghs (fr 77 [(1,zB b4),(5,(.map (some 1))),(6,(.slice (some ⟨2,n4,some 1⟩) n5 c2)),(7,Sl.v 1 s1),(8,zI z1),(9,(zI (Aj .i64 (Int.add z1 (1:Int))))),(28,zI z0),(29,zI z1)]) (hT 3 [(.map e3 k4),oC q2]) (.k [1,2] [false] [.tmp 5 false,.tmp 6 false] [1,5,6,7,8,9,28,29] ⟨Dy h8,Dy h9,trivial⟩) ?_))
      refine .block (.loopM (v:=v) (fun y:Bool×Nat×Nat×Nat×Sl×Int×Int×Int×Int×List EO×Nat×LV=>((fr 77 [(1,(zB y.1)),(5,(.map (some 1))),(6,(.slice (some ⟨2,y.2.1,some 1⟩) y.2.2.1 y.2.2.2.1)),(7,(Sl.v 1 y.2.2.2.2.1)),(8,(zI y.2.2.2.2.2.1)),(9,(zI y.2.2.2.2.2.2.1)),(28,(zI y.2.2.2.2.2.2.2.1)),(29,(zI y.2.2.2.2.2.2.2.2.1))]),(hT 3 [(.map y.2.2.2.2.2.2.2.2.2.1 y.2.2.2.2.2.2.2.2.2.2.1),(oC y.2.2.2.2.2.2.2.2.2.2.2)]))) (fun w y=>Ha pu n (Fb pu n w0) (Gn pu n (Fb pu n w0) w1) w y.1 y.2.1 y.2.2.1 y.2.2.2.1 y.2.2.2.2.1 y.2.2.2.2.2.1 y.2.2.2.2.2.2.1 y.2.2.2.2.2.2.2.1 y.2.2.2.2.2.2.2.2.1 y.2.2.2.2.2.2.2.2.2.1 y.2.2.2.2.2.2.2.2.2.2.1 y.2.2.2.2.2.2.2.2.2.2.2) n ⟨(b4,n4,n5,c2,s1,z1,(Aj .i64 (Int.add z1 (1:Int))),z0,z1,e3,k4,q2),hm,(.k [1,2] [false] [.tmp 5 false,.tmp 6 false] [1,5,6,7,8,9,28,29] ⟨Dy h8,Dy h9,trivial⟩)⟩ (fun _=>rfl) ?_)
      rintro w2 ⟨b7,n8,n9,c4,s3,z4,z5,z6,z7,e5,k6,q4⟩ hm
      replace hm:Iz pu n (Fb pu n w0) (Gn pu n (Fb pu n w0) w1) (Ha pu n (Fb pu n w0) (Gn pu n (Fb pu n w0) w1) w2) b7 n8 n9 c4 s3 z4 z5 z6 z7 e5 k6 q4=some v:=hm
      unfold Iz at hm
      refine .then (.join (v:=v) (fun y:Bool×Nat×Nat×Nat×Sl×Int×Int×Int×Int×Bool×List EO×Nat×LV=>((fr 77 [(1,(zB y.1)),(5,(.map (some 1))),(6,(.slice (some ⟨2,y.2.1,some 1⟩) y.2.2.1 y.2.2.2.1)),(7,(Sl.v 1 y.2.2.2.2.1)),(8,(zI y.2.2.2.2.2.1)),(9,(zI y.2.2.2.2.2.2.1)),(28,(zI y.2.2.2.2.2.2.2.1)),(29,(zI y.2.2.2.2.2.2.2.2.1)),(47,(zB y.2.2.2.2.2.2.2.2.2.1))]),(hT 3 [(.map y.2.2.2.2.2.2.2.2.2.2.1 y.2.2.2.2.2.2.2.2.2.2.2.1),(oC y.2.2.2.2.2.2.2.2.2.2.2.2)]))) (fun y=>G9 pu n (Fb pu n w0) (Gn pu n (Fb pu n w0) w1) (Ha pu n (Fb pu n w0) (Gn pu n (Fb pu n w0) w1) w2) y.1 y.2.1 y.2.2.1 y.2.2.2.1 y.2.2.2.2.1 y.2.2.2.2.2.1 y.2.2.2.2.2.2.1 y.2.2.2.2.2.2.2.1 y.2.2.2.2.2.2.2.2.1 y.2.2.2.2.2.2.2.2.2.1 y.2.2.2.2.2.2.2.2.2.2.1 y.2.2.2.2.2.2.2.2.2.2.2.1 y.2.2.2.2.2.2.2.2.2.2.2.2) ?_ ?_)
      ·rintro⟨b8,n10,n11,c6,s4,z8,z9,z10,z11,b9,e6,k7,q6⟩ hm
       unfold G9 at hm
       replace hm:=Ag hm;rcases hm with⟨h13,hm⟩ | ⟨h13,hm⟩
       ·refine .ifT b9 (by kernel_rfl) h13 ?_
        refine .skip ?_
        replace hm:=Ae hm;obtain⟨h14,hm⟩:=hm
        replace hm:=Ae hm;obtain⟨h15,hm⟩:=hm
        refine .ghs (fr 77 [(1,zB b8),(5,(.map (some 1))),(6,(.slice (some ⟨2,n10,some 1⟩) n11 c6)),(7,Sl.v 1 s4),(8,zI z8),(9,zI z9),(28,zI z10),(29,zI z11)]) (hT 3 [(.map e6 k7),oC q6]) (.k [1,2] [false] [.tmp 5 false,.tmp 6 false] [1,5,6,7,8,9,28,29] ⟨Dy h14,Dy h15,trivial⟩) ?_
        refine .join (v:=v) (fun y:Bool×Nat×Nat×Nat×Sl×Int×Int×Int×Int×List EO×Nat×LV=>((fr 77 [(1,(zB y.1)),(5,(.map (some 1))),(6,(.slice (some ⟨2,y.2.1,some 1⟩) y.2.2.1 y.2.2.2.1)),(7,(Sl.v 1 y.2.2.2.2.1)),(8,(zI y.2.2.2.2.2.1)),(9,(zI y.2.2.2.2.2.2.1)),(28,(zI y.2.2.2.2.2.2.2.1)),(29,(zI y.2.2.2.2.2.2.2.2.1))]),(hT 3 [(.map y.2.2.2.2.2.2.2.2.2.1 y.2.2.2.2.2.2.2.2.2.2.1),(oC y.2.2.2.2.2.2.2.2.2.2.2)]))) (fun y=>JO pu n (Fb pu n w0) (Gn pu n (Fb pu n w0) w1) (Ha pu n (Fb pu n w0) (Gn pu n (Fb pu n w0) w1) w2) y.1 y.2.1 y.2.2.1 y.2.2.2.1 y.2.2.2.2.1 y.2.2.2.2.2.1 y.2.2.2.2.2.2.1 y.2.2.2.2.2.2.2.1 y.2.2.2.2.2.2.2.2.1 y.2.2.2.2.2.2.2.2.2.1 y.2.2.2.2.2.2.2.2.2.2.1 y.2.2.2.2.2.2.2.2.2.2.2) ?_ ?_
        ·rintro⟨b10,n12,n13,c7,s5,z12,z13,z14,z15,e7,k8,q7⟩ hm
         unfold JO at hm
         refine .rK ?_
         replace hm:=Ae hm;obtain⟨h16,hm⟩:=hm
         replace hm:=Ae hm;obtain⟨h17,hm⟩:=hm
         exact⟨(b10,n12,n13,c7,s5,z12,(Aj .i64 (Int.add z13 (1:Int))),z14,z15,e7,k8,q7),hm,(.k [1,2] [false] [.tmp 5 false,.tmp 6 false] [1,5,6,7,8,9,28,29] ⟨Dy h16,Dy h17,trivial⟩)⟩
        ·refine .block (.then ?_)
         replace hm:=fC hm;obtain⟨s6,h18,hm⟩:=hm
         refine .reg (eC 3 ((oo (pu 24 [Sl.v 1 s4,zI z8,zI z9]) none fun v=>some (v,(hT 3 [(.map e6 k7),oC q6])))) (AB h18) (eE)) ?_
         refine .ghs (fr 77 [(1,zB b8),(5,(.map (some 1))),(6,(.slice (some ⟨2,n10,some 1⟩) n11 c6)),(7,Sl.v 1 s4),(8,zI z8),(9,zI z9),(10,Sl.v 1 s6),(28,zI z10),(29,zI z11)]) (hT 3 [(.map e6 k7),oC q6]) (.k [1,2] [false] [.tmp 5 false,.tmp 6 false] [1,5,6,7,8,9,10,28,29] ⟨Dy h14,Dy h15,trivial⟩) ?_
         refine .then ?_
         replace hm:=Hy hm;obtain⟨x0,h19,hm⟩:=hm
         replace hm:=Ab hm;obtain⟨r0,h20,hm⟩:=hm
         replace hm:=Ab hm;obtain⟨x1,h21,hm⟩:=hm
         refine .reg (eC 2 ((oo (pu 23 [Sl.v 1 s6]) none fun v=>some (v,(hT 3 [(.map e6 k7),oC q6])))) (AB h19) (eD (keep (hT 3 [(.map e6 k7),oC q6]) (oo (GD (zI x0) e6 0) none fun r=>oo r (okV true (zI (0:Int)) false) fun p=>pp p fun _ v=>okV true v true)) (Ur h20 (Eh h21)) (eE))) ?_
         refine .ghs (fr 77 [(1,zB b8),(5,(.map (some 1))),(6,(.slice (some ⟨2,n10,some 1⟩) n11 c6)),(7,Sl.v 1 s4),(8,zI z8),(9,zI z9),(10,Sl.v 1 s6),(12,(zB (isS r0))),(28,zI z10),(29,zI z11)]) (hT 3 [(.map e6 k7),oC q6]) (.k [1,2] [false] [.tmp 5 false,.tmp 6 false] [1,5,6,7,8,9,10,12,28,29] ⟨Dy h14,Dy h15,trivial⟩) ?_
         refine .then (.rK (.ghs (fr 77 [(1,zB b8),(5,(.map (some 1))),(6,(.slice (some ⟨2,n10,some 1⟩) n11 c6)),(7,Sl.v 1 s4),(8,zI z8),(9,zI z9),(10,Sl.v 1 s6),(28,zI z10),(29,zI z11),(62,(zB (nt (isS r0))))]) (hT 3 [(.map e6 k7),oC q6]) (.k [1,2] [false] [.tmp 5 false,.tmp 6 false] [1,5,6,7,8,9,10,28,29,62] ⟨Dy h14,Dy h15,trivial⟩) ?_))
         replace hm:=Ag hm;rcases hm with⟨h22,hm⟩ | ⟨h22,hm⟩
         ·refine FX (nt (isS r0)) h22 ?_
          refine .then ?_
          replace hm:=Hy hm;obtain⟨x2,h23,hm⟩:=hm
          replace hm:=Hy hm;obtain⟨x3,h24,hm⟩:=hm
          replace hm:=Ab hm;obtain⟨r1,h25,hm⟩:=hm
          replace hm:=Ab hm;obtain⟨x4,h26,hm⟩:=hm
          replace hm:=Ab hm;obtain⟨r2,h27,hm⟩:=hm
          refine .reg (eC 2 ((oo (pu 23 [Sl.v 1 s6]) none fun v=>some (v,(hT 3 [(.map e6 k7),oC q6])))) (AB h23) (eC 2 ((oo (pu 23 [Sl.v 1 s4]) none fun v=>some (v,(hT 3 [(.map e6 k7),oC q6])))) (AB h24) (eD (keep (hT 3 [(.map e6 k7),oC q6]) (oo (GD (zI x3) e6 0) none fun r=>oo r (okV false (zI (0:Int)) false) fun p=>pp p fun _ v=>okV false v true)) (MM h25 (Eh h26)) (eC 1 (done (oo (GD (zI x2) e6 0) none fun r=>oo r (some (Aa.set (hT 3 [(.map e6 k7),oC q6]) 1 (.map (Br e6 [⟨zI x2,(zI (Aj .i64 (Int.add x4 (1:Int)))),k7⟩]) (k7+1)))) fun p=>pp p fun j _=>some (Aa.set (hT 3 [(.map e6 k7),oC q6]) 1 (.map (SS (fun e=>⟨zI x2,(zI (Aj .i64 (Int.add x4 (1:Int)))),e.born⟩) j e6) k7))) undef) (Us (H2:=(hT 3 [(.map (Gr (zI x2) (zI (Aj .i64 (Int.add x4 (1:Int)))) k7 e6 r2) (Ja k7 r2)),oC q6])) h27) (eE))))) ?_
          replace hm:=Ae hm;obtain⟨h28,hm⟩:=hm
          refine .ghs (fr 77 [(1,zB b8),(5,(.map (some 1))),(6,(.slice (some ⟨2,n10,some 1⟩) n11 c6)),(7,Sl.v 1 s4),(8,zI z8),(9,zI z9),(10,Sl.v 1 s6),(28,zI z10),(29,zI z11)]) (hT 3 [(.map (Gr (zI x2) (zI (Aj .i64 (Int.add x4 (1:Int)))) k7 e6 r2) (Ja k7 r2)),oC q6]) (.k [1,2] [false] [.tmp 5 false,.tmp 6 false] [1,5,6,7,8,9,10,28,29] ⟨Dy h28,Dy h15,trivial⟩) ?_
          replace hm:=Ae hm;obtain⟨h29,hm⟩:=hm
          refine .reg (eC 3 (T9 1 24 n10 n11 c6 1 2 q6 [Sl.v 1 s6] [] (hT 4 [(.map (Gr (zI x2) (zI (Aj .i64 (Int.add x4 (1:Int)))) k7 e6 r2) (Ja k7 r2)),oC q6,(oC [Sl.v 1 s6])])) (Wj h29) (eE)) ?_
          replace hm:=Ae hm;obtain⟨h30,hm⟩:=hm
          exact⟨(b8,0,(n11+1),(d2 (n11+1)),s4,z8,z9,z10,z11,(Gr (zI x2) (zI (Aj .i64 (Int.add x4 (1:Int)))) k7 e6 r2),(Ja k7 r2),(Br (Am n10 q6) [Sl.v 1 s6])),hm,(.k [1,4] [false] [.tmp 5 false,.tmp 6 false] [1,5,6,7,8,9,28,29] ⟨Dy h28,Dy h30,trivial⟩)⟩
         ·refine FY (nt (isS r0)) h22 ?_
          refine .skip ?_
          exact⟨(b8,n10,n11,c6,s4,z8,z9,z10,z11,e6,k7,q6),hm,(.k [1,2] [false] [.tmp 5 false,.tmp 6 false] [1,5,6,7,8,9,28,29] ⟨Dy h14,Dy h15,trivial⟩)⟩
       ·refine .ifF b9 (by kernel_rfl) h13 ?_
        refine .exit ?_
        replace hm:=Ae hm;obtain⟨h31,hm⟩:=hm
        replace hm:=Ae hm;obtain⟨h32,hm⟩:=hm
        exact⟨(b8,n10,n11,c6,s4,z10,z11,e6,k7,q6),hm,(.k [1,2] [false] [.tmp 5 false,.tmp 6 false] [1,5,6,7,28,29] ⟨Dy h31,Dy h32,trivial⟩)⟩
      ·replace hm:=Ag hm;rcases hm with⟨h33,hm⟩ | ⟨h33,hm⟩
       ·replace hm:=Ag hm;rcases hm with⟨h34,hm⟩ | ⟨h34,hm⟩
        ·refine .reg (eC 3 (some ((zB (AY z5 (Int.ofNat (Sl.n s3)))),(hT 3 [(.map e5 k6),oC q4]))) (show _=some ((zB true),_) from (by rw[show (AY z5 (Int.ofNat (Sl.n s3)))=true from h33])) (eC 2 (some ((zB (nt b7)),(hT 3 [(.map e5 k6),oC q4]))) (show _=some ((zB true),_) from (by rw[show (nt b7)=true from h34])) (eE))) ?_
         replace hm:=Ae hm;obtain⟨h35,hm⟩:=hm
         replace hm:=Ae hm;obtain⟨h36,hm⟩:=hm
         exact⟨(b7,n8,n9,c4,s3,z4,z5,z6,z7,true,e5,k6,q4),hm,(.k [1,2] [false] [.tmp 5 false,.tmp 6 false] [1,5,6,7,8,9,28,29,47] ⟨Dy h35,Dy h36,trivial⟩)⟩
        ·refine .reg (eC 3 (some ((zB (AY z5 (Int.ofNat (Sl.n s3)))),(hT 3 [(.map e5 k6),oC q4]))) (show _=some ((zB true),_) from (by rw[show (AY z5 (Int.ofNat (Sl.n s3)))=true from h33])) (eC 2 (some ((zB (nt b7)),(hT 3 [(.map e5 k6),oC q4]))) (show _=some ((zB false),_) from (by rw[show (nt b7)=false from h34])) (eE))) ?_
         replace hm:=Ae hm;obtain⟨h37,hm⟩:=hm
         replace hm:=Ae hm;obtain⟨h38,hm⟩:=hm
         exact⟨(b7,n8,n9,c4,s3,z4,z5,z6,z7,(Bd z5 (Aj .i64 (Int.add z4 (1:Int)))),e5,k6,q4),hm,(.k [1,2] [false] [.tmp 5 false,.tmp 6 false] [1,5,6,7,8,9,28,29,47] ⟨Dy h37,Dy h38,trivial⟩)⟩
       ·refine .reg (eC 3 (some ((zB (AY z5 (Int.ofNat (Sl.n s3)))),(hT 3 [(.map e5 k6),oC q4]))) (show _=some ((zB false),_) from (by rw[show (AY z5 (Int.ofNat (Sl.n s3)))=false from h33])) (eE)) ?_
        replace hm:=Ae hm;obtain⟨h39,hm⟩:=hm
        replace hm:=Ae hm;obtain⟨h40,hm⟩:=hm
        exact⟨(b7,n8,n9,c4,s3,z4,z5,z6,z7,false,e5,k6,q4),hm,(.k [1,2] [false] [.tmp 5 false,.tmp 6 false] [1,5,6,7,8,9,28,29,47] ⟨Dy h39,Dy h40,trivial⟩)⟩
    ·refine FY (AY z1 z0) h10 ?_
     refine .exit ?_
     exact⟨(b4,n4,n5,c2,e3,k4,q2),hm,(.k [1,2] [false] [.tmp 5 false,.tmp 6 false] [1,5,6] ⟨Dy h8,Dy h9,trivial⟩)⟩
  ·refine FY (AY (0:Int) (Int.ofNat n1)) h2 ?_
   refine .exit ?_
   exact⟨(e1,k2),hm,(.k [1] [false] [.tmp 5 false] [5] ⟨Dy h0,trivial⟩)⟩
theorem rY {call:A8} (pu:Af) (n:Nat) (hcall:call=Bb tabs HV pu (inl pu)) {args:LV} {os:List AJ} {z:Value} (ha:args.length=2) (hk:os.length=0) (hpl:∀ o∈os,plainO o) (hm:Pq pu n (args++os.map Ef)=some z):args.length≤77∧BN tt call (tabs.length+0) O7 (Fr.made 77 args) (BK tabs os) (FJ tt tabs.length 0 [.tmp 4] z):=by
 subst hcall
 have hq:=BC ha;clear ha;obtain⟨a0,args,rfl,ha⟩:=hq
 have hq:=BC ha;clear ha;obtain⟨a1,args,rfl,ha⟩:=hq
 obtain rfl:=len_nil ha
 obtain rfl:=len_nil hk
 replace hm:Pq pu n [a0,a1]=some z:=hm
 unfold Pq at hm
 replace hm:(oo (Bj 1 a0) none fun s0=>(oo (Bf a1) none fun b0=>(LK pu n s0 b0)))=some z:=hm
 replace hm:=Al hm;obtain⟨s0,rfl,hm⟩:=hm
 replace hm:=Be hm;obtain⟨b0,rfl,hm⟩:=hm
 refine⟨by simp,?_⟩
 exact .same (F':=(fr 77 [(0,Sl.v 1 s0),(1,zB b0)])) (H':=DT) (by kernel_rfl) (by kernel_rfl) (rX pu n s0 b0 hm)
end
end Go.MnOM
