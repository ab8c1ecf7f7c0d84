/- Made from wip. -/
import Derived.Test.YtflonlkiajhhjaaTpMMod0x

set_option maxRecDepth 100000
set_option maxHeartbeats 20000000
set_option linter.unusedVariables false
namespace Go.TpMM
open Go.Sp Go.TpM
noncomputable section
def KT (pu:Af) (n:Nat) (b0:Bool) (z0:Int):OV:=
 (some (.tuple ⟨[(.bool b0),.int .i64 z0]⟩))
def Ad6 (pu:Af) (n:Nat) (x0 x1 x2 x3:Int):OV:=
 (oo (pu 31 [(.agg ⟨[.int .i64 x0,.int .i64 x1,.int .i64 x2,.int .i64 x3]⟩)]) none fun v0=>(oo (Bi .i64 v0) none fun x4=>(bb (nt (Bd x4 (0:Int))) (some (.tuple ⟨[(.bool false),.int .i64 x4]⟩)) (oo (pu 32 [(.agg ⟨[.int .i64 x0,.int .i64 x1,.int .i64 x2,.int .i64 x3]⟩),.int .i64 x0]) none fun v1=>(oo (Bf v1) none fun b0=>(bb b0 (oo (pu 32 [(.agg ⟨[.int .i64 x0,.int .i64 x1,.int .i64 x2,.int .i64 x3]⟩),.int .i64 x1]) none fun v2=>(oo (Bf v2) none fun b1=>(bb b1 (oo (pu 33 [(.agg ⟨[.int .i64 x0,.int .i64 x1,.int .i64 x2,.int .i64 x3]⟩),.int .i64 x2]) none fun v3=>(oo (Bf v3) none fun b2=>(bb b2 (oo (pu 33 [(.agg ⟨[.int .i64 x0,.int .i64 x1,.int .i64 x2,.int .i64 x3]⟩),.int .i64 x3]) none fun v4=>(oo (Bf v4) none fun b3=>(KT pu n b3 (0:Int)))) (KT pu n false (0:Int))))) (KT pu n false (0:Int))))) (KT pu n false (0:Int))))))))
def m11 (pu:Af) (n:Nat) (args:LV):OV:=
 (ll args none fun a0 args=>(ll args (oo (Bt a0) none fun l0=>(ll l0 none fun v0 l0=>(ll l0 none fun v1 l0=>(ll l0 none fun v2 l0=>(ll l0 none fun v3 l0=>(ll l0 (oo (Bi .i64 v0) none fun x0=>(oo (Bi .i64 v1) none fun x1=>(oo (Bi .i64 v2) none fun x2=>(oo (Bi .i64 v3) none fun x3=>(Ad6 pu n x0 x1 x2 x3))))) fun _ _=>none)))))) fun _ _=>none))
theorem Ad7 (pu:Af) (n:Nat) (b0:Bool) (z0:Int) {v:Value} (hm:KT pu n b0 z0=some v):BN tt (Bb tabs isP pu (inl pu)) 0 .ret (fr 32 [(2,zB b0),(3,zI z0)]) (hp 0 []) (Fin tt 0 [.tmp 2,.tmp 3] v):=by
 unfold KT at hm
 refine .ret ?_
 exact Ay (.tuple ⟨[zB b0,zI z0]⟩) hm
theorem r11 {call:A8} (pu:Af) (n:Nat) (hcall:call=Bb tabs isP pu (inl pu)) {args:LV} {v:Value} (hm:m11 pu n args=some v) (_:∀ x∈args,closed2 x=true):args.length≤32∧BN tt call 0 Ng (Fr.made 32 args) (Ao tabs) (Fin tt 0 [.tmp 2,.tmp 3] v):=by
 subst hcall
 unfold m11 at hm
 replace hm:=Ad hm;obtain⟨a0,args_0,rfl,hm⟩:=hm
 replace hm:=AC hm;obtain⟨rfl,hm⟩:=hm
 replace hm:=BG hm;obtain⟨l0,rfl,hm⟩:=hm
 replace hm:=Ad hm;obtain⟨v0,l5746_0,rfl,hm⟩:=hm
 replace hm:=Ad hm;obtain⟨v1,l5746_1,rfl,hm⟩:=hm
 replace hm:=Ad hm;obtain⟨v2,l5746_2,rfl,hm⟩:=hm
 replace hm:=Ad hm;obtain⟨v3,l5746_3,rfl,hm⟩:=hm
 replace hm:=AC hm;obtain⟨rfl,hm⟩:=hm
 replace hm:=Ai hm;obtain⟨x0,rfl,hm⟩:=hm
 replace hm:=Ai hm;obtain⟨x1,rfl,hm⟩:=hm
 replace hm:=Ai hm;obtain⟨x2,rfl,hm⟩:=hm
 replace hm:=Ai hm;obtain⟨x3,rfl,hm⟩:=hm
 unfold Ad6 at hm
 refine⟨by simp,?_⟩
 refine .same (F':=(fr 32 [(0,(.agg ⟨[zI x0,zI x1,zI x2,zI x3]⟩))])) (H':=(hp 0 [])) (by kernel_rfl) (by kernel_rfl) ?_
 refine .then (.rK (.ghs (fr 32 [(1,(pt 0 0))]) (hp 1 [(oC [zI x0,zI x1,zI x2,zI x3])]) (.k0 [] [.tmp 1 false] [1]) ?_))
 refine .then (.then ?_)
 replace hm:=Dn hm;obtain⟨x4,h0,hm⟩:=hm
 refine .reg (eC 1 ((oo (pu 31 [(.agg ⟨[zI x0,zI x1,zI x2,zI x3]⟩)]) none fun v=>some (v,(hp 1 [(oC [zI x0,zI x1,zI x2,zI x3])])))) (AB h0) (eE)) ?_
 refine .ghs (fr 32 [(1,(pt 0 0)),(4,zI x4)]) (hp 1 [(oC [zI x0,zI x1,zI x2,zI x3])]) (.k0 [] [.tmp 1 false] [1,4]) ?_
 refine .then (.rK (.ghs (fr 32 [(1,(pt 0 0)),(4,zI x4),(8,(zB (nt (Bd x4 (0:Int)))))]) (hp 1 [(oC [zI x0,zI x1,zI x2,zI x3])]) (.k0 [] [.tmp 1 false] [1,4,8]) ?_))
 replace hm:=Ag hm;rcases hm with⟨h1,hm⟩ | ⟨h1,hm⟩
 ·refine A7 (nt (Bd x4 (0:Int))) h1 ?_
  refine .then (.rK (.ghs (fr 32 [(2,zB false),(3,zI x4)]) (hp 0 []) (.k0 [] [] [2,3]) ?_))
  refine .ret ?_
  exact Ay (.tuple ⟨[zB false,zI x4]⟩) hm
 ·refine Bp (nt (Bd x4 (0:Int))) h1 ?_
  refine .skip (.ghs (fr 32 [(1,(pt 0 0))]) (hp 1 [(oC [zI x0,zI x1,zI x2,zI x3])]) (.k0 [] [.tmp 1 false] [1]) ?_)
  refine .join (v:=v) (fun y:Bool×Int=>((fr 32 [(2,(zB y.1)),(3,(zI y.2))]),(hp 0 []))) (fun y=>KT pu n y.1 y.2) ?_ ?_
  ·rintro⟨b0,z0⟩ hm
   exact Ad7 pu n b0 z0 hm
  ·replace hm:=Jf hm;obtain⟨b1,h2,hm⟩:=hm
   replace hm:=Ag hm;rcases hm with⟨h3,hm⟩ | ⟨h3,hm⟩
   ·replace hm:=Jf hm;obtain⟨b2,h4,hm⟩:=hm
    replace hm:=Ag hm;rcases hm with⟨h5,hm⟩ | ⟨h5,hm⟩
    ·replace hm:=Jf hm;obtain⟨b3,h6,hm⟩:=hm
     replace hm:=Ag hm;rcases hm with⟨h7,hm⟩ | ⟨h7,hm⟩
     ·replace hm:=Jf hm;obtain⟨b6,h8,hm⟩:=hm
      refine .reg (eC 3 ((oo (pu 32 [(.agg ⟨[zI x0,zI x1,zI x2,zI x3]⟩),zI x0]) none fun v=>some (v,(hp 1 [(oC [zI x0,zI x1,zI x2,zI x3])])))) (show _=some ((zB true),_) from (by have hz:(oo (pu 32 [(.agg ⟨[zI x0,zI x1,zI x2,zI x3]⟩),zI x0]) none fun v=>some (v,(hp 1 [(oC [zI x0,zI x1,zI x2,zI x3])])))=some ((zB b1),(hp 1 [(oC [zI x0,zI x1,zI x2,zI x3])])):=(AB h2);rw[h3] at hz;exact hz)) (eC 4 ((oo (pu 32 [(.agg ⟨[zI x0,zI x1,zI x2,zI x3]⟩),zI x1]) none fun v=>some (v,(hp 1 [(oC [zI x0,zI x1,zI x2,zI x3])])))) (show _=some ((zB true),_) from (by have hz:(oo (pu 32 [(.agg ⟨[zI x0,zI x1,zI x2,zI x3]⟩),zI x1]) none fun v=>some (v,(hp 1 [(oC [zI x0,zI x1,zI x2,zI x3])])))=some ((zB b2),(hp 1 [(oC [zI x0,zI x1,zI x2,zI x3])])):=(AB h4);rw[h5] at hz;exact hz)) (eC 5 ((oo (pu 33 [(.agg ⟨[zI x0,zI x1,zI x2,zI x3]⟩),zI x2]) none fun v=>some (v,(hp 1 [(oC [zI x0,zI x1,zI x2,zI x3])])))) (show _=some ((zB true),_) from (by have hz:(oo (pu 33 [(.agg ⟨[zI x0,zI x1,zI x2,zI x3]⟩),zI x2]) none fun v=>some (v,(hp 1 [(oC [zI x0,zI x1,zI x2,zI x3])])))=some ((zB b3),(hp 1 [(oC [zI x0,zI x1,zI x2,zI x3])])):=(AB h6);rw[h7] at hz;exact hz)) (eC 5 ((oo (pu 33 [(.agg ⟨[zI x0,zI x1,zI x2,zI x3]⟩),zI x3]) none fun v=>some (v,(hp 1 [(oC [zI x0,zI x1,zI x2,zI x3])])))) (AB h8) (eE))))) ?_
      exact⟨(b6,(0:Int)),hm,(.k0 [] [] [2,3])⟩
     ·refine .reg (eC 3 ((oo (pu 32 [(.agg ⟨[zI x0,zI x1,zI x2,zI x3]⟩),zI x0]) none fun v=>some (v,(hp 1 [(oC [zI x0,zI x1,zI x2,zI x3])])))) (show _=some ((zB true),_) from (by have hz:(oo (pu 32 [(.agg ⟨[zI x0,zI x1,zI x2,zI x3]⟩),zI x0]) none fun v=>some (v,(hp 1 [(oC [zI x0,zI x1,zI x2,zI x3])])))=some ((zB b1),(hp 1 [(oC [zI x0,zI x1,zI x2,zI x3])])):=(AB h2);rw[h3] at hz;exact hz)) (eC 4 ((oo (pu 32 [(.agg ⟨[zI x0,zI x1,zI x2,zI x3]⟩),zI x1]) none fun v=>some (v,(hp 1 [(oC [zI x0,zI x1,zI x2,zI x3])])))) (show _=some ((zB true),_) from (by have hz:(oo (pu 32 [(.agg ⟨[zI x0,zI x1,zI x2,zI x3]⟩),zI x1]) none fun v=>some (v,(hp 1 [(oC [zI x0,zI x1,zI x2,zI x3])])))=some ((zB b2),(hp 1 [(oC [zI x0,zI x1,zI x2,zI x3])])):=(AB h4);rw[h5] at hz;exact hz)) (eC 5 ((oo (pu 33 [(.agg ⟨[zI x0,zI x1,zI x2,zI x3]⟩),zI x2]) none fun v=>some (v,(hp 1 [(oC [zI x0,zI x1,zI x2,zI x3])])))) (show _=some ((zB false),_) from (by have hz:(oo (pu 33 [(.agg ⟨[zI x0,zI x1,zI x2,zI x3]⟩),zI x2]) none fun v=>some (v,(hp 1 [(oC [zI x0,zI x1,zI x2,zI x3])])))=some ((zB b3),(hp 1 [(oC [zI x0,zI x1,zI x2,zI x3])])):=(AB h6);rw[h7] at hz;exact hz)) (eE)))) ?_
      exact⟨(false,(0:Int)),hm,(.k0 [] [] [2,3])⟩
    ·refine .reg (eC 3 ((oo (pu 32 [(.agg ⟨[zI x0,zI x1,zI x2,zI x3]⟩),zI x0]) none fun v=>some (v,(hp 1 [(oC [zI x0,zI x1,zI x2,zI x3])])))) (show _=some ((zB true),_) from (by have hz:(oo (pu 32 [(.agg ⟨[zI x0,zI x1,zI x2,zI x3]⟩),zI x0]) none fun v=>some (v,(hp 1 [(oC [zI x0,zI x1,zI x2,zI x3])])))=some ((zB b1),(hp 1 [(oC [zI x0,zI x1,zI x2,zI x3])])):=(AB h2);rw[h3] at hz;exact hz)) (eC 4 ((oo (pu 32 [(.agg ⟨[zI x0,zI x1,zI x2,zI x3]⟩),zI x1]) none fun v=>some (v,(hp 1 [(oC [zI x0,zI x1,zI x2,zI x3])])))) (show _=some ((zB false),_) from (by have hz:(oo (pu 32 [(.agg ⟨[zI x0,zI x1,zI x2,zI x3]⟩),zI x1]) none fun v=>some (v,(hp 1 [(oC [zI x0,zI x1,zI x2,zI x3])])))=some ((zB b2),(hp 1 [(oC [zI x0,zI x1,zI x2,zI x3])])):=(AB h4);rw[h5] at hz;exact hz)) (eE))) ?_
     exact⟨(false,(0:Int)),hm,(.k0 [] [] [2,3])⟩
   ·refine .reg (eC 3 ((oo (pu 32 [(.agg ⟨[zI x0,zI x1,zI x2,zI x3]⟩),zI x0]) none fun v=>some (v,(hp 1 [(oC [zI x0,zI x1,zI x2,zI x3])])))) (show _=some ((zB false),_) from (by have hz:(oo (pu 32 [(.agg ⟨[zI x0,zI x1,zI x2,zI x3]⟩),zI x0]) none fun v=>some (v,(hp 1 [(oC [zI x0,zI x1,zI x2,zI x3])])))=some ((zB b1),(hp 1 [(oC [zI x0,zI x1,zI x2,zI x3])])):=(AB h2);rw[h3] at hz;exact hz)) (eE)) ?_
    exact⟨(false,(0:Int)),hm,(.k0 [] [] [2,3])⟩

def Ad8 (pu:Af) (n:Nat) (x0 x1 x2:Int) (s0 s1:Sl) (x3:Int):OV:=
 (oo (pu 19 [(.agg ⟨[.int .i64 x0,.int .i64 x1,.int .i64 x2,Sl.v 1 s0]⟩),(Sl.v 1 (Sl.mk 1 0 (Aq (1*1) (Am 0 ([Sl.v 1 s1]:LV)))))]) none fun v0=>(oo (CQ v0) none fun l0=>(ll l0 none fun v1 l0=>(ll l0 none fun v2 l0=>(ll l0 (bb (isS (Pv v1)) (oo (Pv v1) none fun p0=>(oo (Bi .i64 v2) none fun x4=>(bb (nt (Bd x4 (0:Int))) (some (.tuple ⟨[(Sl.v 1 (Sl.mk 0 2 [])),.int .i64 x4]⟩)) (oo (AL (Db.cs p0) (((Db.off p0)+0)+3)) none fun v3=>(oo (Bj 1 v3) none fun s2=>(oo (pu 36 [Sl.v 1 s2,.int .i64 x3]) none fun v4=>(oo (Bi .i64 v4) none fun x5=>(bb (AY x5 (0:Int)) (some (.tuple ⟨[(Sl.v 1 (Sl.mk 0 2 [])),(.int .i64 (2:Int))]⟩)) (oo (pu 37 [(Cv (Db.off p0) (Db.cs p0)),Sl.v 1 s1,.int .i64 x5]) none fun v5=>(oo (Bj 1 v5) none fun s3=>(some (.tuple ⟨[Sl.v 1 s3,(.int .i64 (0:Int))]⟩)))))))))))) (bb (V9 v1) (oo (Bi .i64 v2) none fun x6=>(bb (nt (Bd x6 (0:Int))) (some (.tuple ⟨[(Sl.v 1 (Sl.mk 0 2 [])),.int .i64 x6]⟩)) none)) none)) fun _ _=>none)))))
def m13 (pu:Af) (n:Nat) (args:LV):OV:=
 (ll args none fun a0 args=>(ll args none fun a1 args=>(ll args none fun a2 args=>(ll args (oo (Bt a0) none fun l0=>(ll l0 none fun v0 l0=>(ll l0 none fun v1 l0=>(ll l0 none fun v2 l0=>(ll l0 none fun v3 l0=>(ll l0 (oo (Bi .i64 v0) none fun x0=>(oo (Bi .i64 v1) none fun x1=>(oo (Bi .i64 v2) none fun x2=>(oo (Bj 1 v3) none fun s0=>(oo (Bj 1 a1) none fun s1=>(oo (Bi .i64 a2) none fun x3=>(Ad8 pu n x0 x1 x2 s0 s1 x3))))))) fun _ _=>none)))))) fun _ _=>none))))
theorem r13 {call:A8} (pu:Af) (n:Nat) (hcall:call=Bb tabs isP pu (inl pu)) {args:LV} {v:Value} (hm:m13 pu n args=some v) (_:∀ x∈args,closed2 x=true):args.length≤34∧BN tt call 0 Nh (Fr.made 34 args) (Ao tabs) (Fin tt 0 [.tmp 6,.tmp 7] v):=by
 subst hcall
 unfold m13 at hm
 replace hm:=Ad hm;obtain⟨a0,args_0,rfl,hm⟩:=hm
 replace hm:=Ad hm;obtain⟨a1,args_1,rfl,hm⟩:=hm
 replace hm:=Ad hm;obtain⟨a2,args_2,rfl,hm⟩:=hm
 replace hm:=AC hm;obtain⟨rfl,hm⟩:=hm
 replace hm:=BG hm;obtain⟨l0,rfl,hm⟩:=hm
 replace hm:=Ad hm;obtain⟨v0,l5885_0,rfl,hm⟩:=hm
 replace hm:=Ad hm;obtain⟨v1,l5885_1,rfl,hm⟩:=hm
 replace hm:=Ad hm;obtain⟨v2,l5885_2,rfl,hm⟩:=hm
 replace hm:=Ad hm;obtain⟨v3,l5885_3,rfl,hm⟩:=hm
 replace hm:=AC hm;obtain⟨rfl,hm⟩:=hm
 replace hm:=Ai hm;obtain⟨x0,rfl,hm⟩:=hm
 replace hm:=Ai hm;obtain⟨x1,rfl,hm⟩:=hm
 replace hm:=Ai hm;obtain⟨x2,rfl,hm⟩:=hm
 replace hm:=Al hm;obtain⟨s0,rfl,hm⟩:=hm
 replace hm:=Al hm;obtain⟨s1,rfl,hm⟩:=hm
 replace hm:=Ai hm;obtain⟨x3,rfl,hm⟩:=hm
 unfold Ad8 at hm
 refine⟨by simp,?_⟩
 refine .same (F':=(fr 34 [(0,(.agg ⟨[zI x0,zI x1,zI x2,Sl.v 1 s0]⟩)),(1,Sl.v 1 s1),(2,zI x3)])) (H':=(hp 0 [])) (by kernel_rfl) (by kernel_rfl) ?_
 refine .then (.rK (.ghs (fr 34 [(1,Sl.v 1 s1),(2,zI x3),(3,(pt 0 0))]) (hp 1 [(oC [zI x0,zI x1,zI x2,Sl.v 1 s0])]) (.k0 [] [.tmp 3 false] [1,2,3]) ?_))
 refine .then ?_
 replace hm:=Ab hm;obtain⟨v4,h0,hm⟩:=hm
 replace hm:=Ch hm;obtain⟨l1,rfl,hm⟩:=hm
 replace hm:=Ad hm;obtain⟨v5,l5916_0,rfl,hm⟩:=hm
 replace hm:=Ad hm;obtain⟨v6,l5916_1,rfl,hm⟩:=hm
 replace hm:=AC hm;obtain⟨rfl,hm⟩:=hm
 replace hm:=Ag hm;rcases hm with⟨h1,hm⟩ | ⟨h1,hm⟩
 ·replace hm:=Ab hm;obtain⟨p0,h2,hm⟩:=hm
  obtain rfl:=F7 h2
  replace hm:=Ai hm;obtain⟨x4,rfl,hm⟩:=hm
  refine .reg (eC 3 (Hr tabs 1 (pu 19) [(.agg ⟨[zI x0,zI x1,zI x2,Sl.v 1 s0]⟩),sc 1 0 1 1 3] (hp 2 [(oC [zI x0,zI x1,zI x2,Sl.v 1 s0]),(oC [Sl.v 1 s1])])) (KI (DZ (CV (z:=1) (v:=(.agg ⟨[zI x0,zI x1,zI x2,Sl.v 1 s0]⟩)) (H:=(hp 2 [(oC [zI x0,zI x1,zI x2,Sl.v 1 s0]),(oC [Sl.v 1 s1])])) (by kernel_rfl) (by kernel_rfl) (by kernel_rfl)) (DZ (show ER 1 (sc 1 0 1 1 3) (hp 2 [(oC [zI x0,zI x1,zI x2,Sl.v 1 s0]),(oC [Sl.v 1 s1])])=some ((Sl.v 1 (Sl.mk 1 0 (Aq (1*1) (Am 0 ([Sl.v 1 s1]:LV))))),(hp 2 [(oC [zI x0,zI x1,zI x2,Sl.v 1 s0]),.dead])) from KH 1 0 1 1 3 ([Sl.v 1 s1]:LV) [] (by kernel_rfl) (by kernel_rfl) (by kernel_rfl)) Jt)) (by kernel_rfl) h0) (eE)) ?_
  refine .ghs (fr 34 [(1,Sl.v 1 s1),(2,zI x3),(8,(Cv (Db.off p0) (Db.cs p0))),(9,zI x4)]) (hp 0 []) (.k0 [] [] [1,2,8,9]) ?_
  refine .then (.then (.rK (.ghs (fr 34 [(1,Sl.v 1 s1),(2,zI x3),(8,(Cv (Db.off p0) (Db.cs p0))),(9,zI x4),(19,(zB (nt (Bd x4 (0:Int)))))]) (hp 0 []) (.k0 [] [] [1,2,8,9,19]) ?_)))
  replace hm:=Ag hm;rcases hm with⟨h3,hm⟩ | ⟨h3,hm⟩
  ·refine A7 (nt (Bd x4 (0:Int))) h3 ?_
   refine .then (.rK (.ghs (fr 34 [(6,(.slice none 0 0)),(7,zI x4)]) (hp 0 []) (.k0 [] [] [6,7]) ?_))
   refine .ghs (Fr.puts (fr 34 [(6,(.slice none 0 0)),(7,zI x4)]) [(6,(Sl.v 1 (Sl.mk 0 2 [])))]) (hp 0 []) (.freeze 0 6 1 (by kernel_rfl) (by kernel_rfl) (E9.id _ _)) ?_
   refine .ret ?_
   exact Ay (.tuple ⟨[(Sl.v 1 (Sl.mk 0 2 [])),zI x4]⟩) hm
  ·refine Bp (nt (Bd x4 (0:Int))) h3 ?_
   refine .skip (.ghs (fr 34 [(1,Sl.v 1 s1),(2,zI x3),(8,(Cv (Db.off p0) (Db.cs p0)))]) (hp 0 []) (.k0 [] [] [1,2,8]) ?_)
   refine .then ?_
   replace hm:=I9 hm;obtain⟨s2,h4,hm⟩:=hm
   replace hm:=Dn hm;obtain⟨x5,h5,hm⟩:=hm
   refine .reg (eC 4 (keep (hp 0 []) (AL (Db.cs p0) (((Db.off p0)+0)+3))) (AZ h4) (eC 1 ((oo (pu 36 [Sl.v 1 s2,zI x3]) none fun v=>some (v,(hp 0 [])))) (AB h5) (eE))) ?_
   refine .ghs (fr 34 [(1,Sl.v 1 s1),(8,(Cv (Db.off p0) (Db.cs p0))),(10,zI x5)]) (hp 0 []) (.k0 [] [] [1,8,10]) ?_
   refine .then (.then (.rK (.ghs (fr 34 [(1,Sl.v 1 s1),(8,(Cv (Db.off p0) (Db.cs p0))),(10,zI x5),(29,(zB (AY x5 (0:Int))))]) (hp 0 []) (.k0 [] [] [1,8,10,29]) ?_)))
   replace hm:=Ag hm;rcases hm with⟨h6,hm⟩ | ⟨h6,hm⟩
   ·refine A7 (AY x5 (0:Int)) h6 ?_
    refine .then (.rK (.ghs (fr 34 [(6,(.slice none 0 0)),(7,(zI (2:Int)))]) (hp 0 []) (.k0 [] [] [6,7]) ?_))
    refine .ghs (Fr.puts (fr 34 [(6,(.slice none 0 0)),(7,(zI (2:Int)))]) [(6,(Sl.v 1 (Sl.mk 0 2 [])))]) (hp 0 []) (.freeze 0 6 1 (by kernel_rfl) (by kernel_rfl) (E9.id _ _)) ?_
    refine .ret ?_
    exact Ay (.tuple ⟨[(Sl.v 1 (Sl.mk 0 2 [])),(zI (2:Int))]⟩) hm
   ·refine Bp (AY x5 (0:Int)) h6 ?_
    refine .skip (.ghs (fr 34 [(1,Sl.v 1 s1),(8,(Cv (Db.off p0) (Db.cs p0))),(10,zI x5)]) (hp 0 []) (.k0 [] [] [1,8,10]) ?_)
    refine .then ?_
    replace hm:=I9 hm;obtain⟨s3,h7,hm⟩:=hm
    refine .reg (eC 3 ((oo (pu 37 [(Cv (Db.off p0) (Db.cs p0)),Sl.v 1 s1,zI x5]) none fun v=>some (v,(hp 0 [])))) (AB h7) (eE)) ?_
    refine .ghs (fr 34 [(6,Sl.v 1 s3),(7,(zI (0:Int)))]) (hp 0 []) (.k0 [] [] [6,7]) ?_
    refine .ret ?_
    exact Ay (.tuple ⟨[Sl.v 1 s3,(zI (0:Int))]⟩) hm
 ·replace hm:=Ae hm;obtain⟨h8,hm⟩:=hm
  obtain rfl:=O9 h8
  replace hm:=Ai hm;obtain⟨x6,rfl,hm⟩:=hm
  refine .reg (eC 3 (Hr tabs 1 (pu 19) [(.agg ⟨[zI x0,zI x1,zI x2,Sl.v 1 s0]⟩),sc 1 0 1 1 3] (hp 2 [(oC [zI x0,zI x1,zI x2,Sl.v 1 s0]),(oC [Sl.v 1 s1])])) (KI (DZ (CV (z:=1) (v:=(.agg ⟨[zI x0,zI x1,zI x2,Sl.v 1 s0]⟩)) (H:=(hp 2 [(oC [zI x0,zI x1,zI x2,Sl.v 1 s0]),(oC [Sl.v 1 s1])])) (by kernel_rfl) (by kernel_rfl) (by kernel_rfl)) (DZ (show ER 1 (sc 1 0 1 1 3) (hp 2 [(oC [zI x0,zI x1,zI x2,Sl.v 1 s0]),(oC [Sl.v 1 s1])])=some ((Sl.v 1 (Sl.mk 1 0 (Aq (1*1) (Am 0 ([Sl.v 1 s1]:LV))))),(hp 2 [(oC [zI x0,zI x1,zI x2,Sl.v 1 s0]),.dead])) from KH 1 0 1 1 3 ([Sl.v 1 s1]:LV) [] (by kernel_rfl) (by kernel_rfl) (by kernel_rfl)) Jt)) (by kernel_rfl) h0) (eE)) ?_
  refine .ghs (fr 34 [(1,Sl.v 1 s1),(2,zI x3),(8,(.pointer none)),(9,zI x6)]) (hp 0 []) (.k0 [] [] [1,2,8,9]) ?_
  refine .then (.then (.rK (.ghs (fr 34 [(1,Sl.v 1 s1),(2,zI x3),(8,(.pointer none)),(9,zI x6),(19,(zB (nt (Bd x6 (0:Int)))))]) (hp 0 []) (.k0 [] [] [1,2,8,9,19]) ?_)))
  replace hm:=Ag hm;rcases hm with⟨h9,hm⟩ | ⟨h9,hm⟩
  ·refine A7 (nt (Bd x6 (0:Int))) h9 ?_
   refine .then (.rK (.ghs (fr 34 [(6,(.slice none 0 0)),(7,zI x6)]) (hp 0 []) (.k0 [] [] [6,7]) ?_))
   refine .ghs (Fr.puts (fr 34 [(6,(.slice none 0 0)),(7,zI x6)]) [(6,(Sl.v 1 (Sl.mk 0 2 [])))]) (hp 0 []) (.freeze 0 6 1 (by kernel_rfl) (by kernel_rfl) (E9.id _ _)) ?_
   refine .ret ?_
   exact Ay (.tuple ⟨[(Sl.v 1 (Sl.mk 0 2 [])),zI x6]⟩) hm
  ·refine Bp (nt (Bd x6 (0:Int))) h9 ?_
   refine .skip (.ghs (fr 34 [(1,Sl.v 1 s1),(2,zI x3),(8,(.pointer none))]) (hp 0 []) (.k0 [] [] [1,2,8]) ?_)
   refine .then ?_
   cases hm
def R6 (pu:Af) (n n0 c0:Nat) (q0:LV):OV:=
 (bb (Au Ah q0) (bb (an (Nat.ble (0+n0*1) (len q0)) (Au Ah (Aq (n0*1) (Am 0 q0)))) (some (Sl.v 1 (Sl.mk n0 0 (Aq (n0*1) (Am 0 q0))))) none) none)
def R7 (pu:Af) (n:Nat) (ih0:Nat→Nat→Sl→Int→Int→Int→Int→Int→Int→LV→OV) (n0 c0:Nat) (s0:Sl) (z0 z1 z2 z3 z4 z5:Int) (q0:LV):OV:=
 (bb (Au Ah q0) (ih0 n0 c0 s0 z0 (Aj .i64 (Int.add z1 (1:Int))) z2 z3 z4 z5 q0) none)
def Wq (pu:Af) (n:Nat) (ih0:Nat→Nat→Sl→Int→Int→Int→Int→Int→Int→LV→OV) (ih1:Nat→Nat→Int→Sl→Int→Int→Int→Int→Int→Int→LV→Int→Int→Bool→OV) (n0 c0:Nat) (z0:Int) (s0:Sl) (z1 z2 z3 z4 z5 z6:Int) (q0:LV) (z7 z8:Int) (b0:Bool):OV:=
 (bb (Au Ah q0) (ih1 n0 c0 (Aj .i64 (Int.add z0 (1:Int))) s0 z1 z2 z3 z4 z5 z6 q0 z7 z8 b0) none)
def Ps (pu:Af) (n:Nat) (ih0:Nat→Nat→Sl→Int→Int→Int→Int→Int→Int→LV→OV) (ih1:Nat→Nat→Int→Sl→Int→Int→Int→Int→Int→Int→LV→Int→Int→Bool→OV) (ih2:Nat→Nat→Int→Int→Sl→Int→Int→Int→Int→Int→Int→LV→Int→Int→Bool→OV) (n0 c0:Nat) (z0 z1:Int) (s0:Sl) (z2 z3:Int) (b0:Bool) (z4 z5 z6 z7:Int) (q0:LV) (z8 z9:Int) (b1:Bool):OV:=
 (bb b0 (bb (Au Ah q0) (oo (EA (Aj .i64 (Int.add (Aj .i64 (Int.mul z0 z5)) z1))) none fun k1=>(bb (an (Nat.blt k1 n0) true) (bb (an (Nat.ble ((0+k1*1)+1) (len q0)) true) (bb (Au Ah (BM ([(.int .i64 (1:Int))]:LV) (0+k1*1) q0)) (ih2 n0 c0 z0 (Aj .i64 (Int.add z1 (1:Int))) s0 z2 z3 z4 z5 z6 z7 (BM ([(.int .i64 (1:Int))]:LV) (0+k1*1) q0) z8 z9 b1) none) none) none)) none) (bb (Au Ah q0) (Wq pu n ih0 ih1 n0 c0 z0 s0 z2 z3 z4 z5 z6 z7 q0 z8 z9 b1) none))
def Ws (pu:Af) (n:Nat) (ih0:Nat→Nat→Sl→Int→Int→Int→Int→Int→Int→LV→OV) (ih1:Nat→Nat→Int→Sl→Int→Int→Int→Int→Int→Int→LV→Int→Int→Bool→OV) (ih2:Nat→Nat→Int→Int→Sl→Int→Int→Int→Int→Int→Int→LV→Int→Int→Bool→OV) (n0 c0:Nat) (z0 z1:Int) (s0:Sl) (z2 z3 z4 z5 z6 z7:Int) (q0:LV) (z8 z9:Int) (b0:Bool):OV:=
 (bb (AY z1 (Aj .i64 (Int.add z9 z7))) (bb (nt (AY z1 (0:Int))) (bb (Au Ah q0) (Ps pu n ih0 ih1 ih2 n0 c0 z0 z1 s0 z2 z3 (AY z1 z5) z4 z5 z6 z7 q0 z8 z9 b0) none) (bb (Au Ah q0) (Ps pu n ih0 ih1 ih2 n0 c0 z0 z1 s0 z2 z3 false z4 z5 z6 z7 q0 z8 z9 b0) none)) (bb (Au Ah q0) (Ps pu n ih0 ih1 ih2 n0 c0 z0 z1 s0 z2 z3 false z4 z5 z6 z7 q0 z8 z9 b0) none))
def R8 (pu:Af) (n:Nat) (ih0:Nat→Nat→Sl→Int→Int→Int→Int→Int→Int→LV→OV) (ih1:Nat→Nat→Int→Sl→Int→Int→Int→Int→Int→Int→LV→Int→Int→Bool→OV) (w:Nat):Nat→Nat→Int→Int→Sl→Int→Int→Int→Int→Int→Int→LV→Int→Int→Bool→OV:=
 Nat.rec (motive:=fun _=>Nat→Nat→Int→Int→Sl→Int→Int→Int→Int→Int→Int→LV→Int→Int→Bool→OV) (fun _ _ _ _ _ _ _ _ _ _ _ _ _ _ _=>none) (fun _ ih2=>Ws pu n ih0 ih1 ih2) w
def Pt (pu:Af) (n:Nat) (ih0:Nat→Nat→Sl→Int→Int→Int→Int→Int→Int→LV→OV) (ih1:Nat→Nat→Int→Sl→Int→Int→Int→Int→Int→Int→LV→Int→Int→Bool→OV) (n0 c0:Nat) (z0:Int) (s0:Sl) (z1 z2:Int) (b0:Bool) (z3 z4 z5 z6:Int) (q0:LV) (z7 z8:Int) (b1:Bool):OV:=
 (bb b0 (bb (Au Ah q0) (R8 pu n ih0 ih1 n n0 c0 z0 z8 s0 z1 z2 z3 z4 z5 z6 q0 z7 z8 b1) none) (bb (Au Ah q0) (R7 pu n ih0 n0 c0 s0 z1 z2 z3 z4 z5 z6 q0) none))
def Wt (pu:Af) (n:Nat) (ih0:Nat→Nat→Sl→Int→Int→Int→Int→Int→Int→LV→OV) (ih1:Nat→Nat→Int→Sl→Int→Int→Int→Int→Int→Int→LV→Int→Int→Bool→OV) (n0 c0:Nat) (z0:Int) (s0:Sl) (z1 z2 z3 z4 z5 z6:Int) (q0:LV) (z7 z8:Int) (b0:Bool):OV:=
 (bb (AY z0 (Aj .i64 (Int.add z7 z5))) (bb (nt (AY z0 (0:Int))) (bb (Au Ah q0) (Pt pu n ih0 ih1 n0 c0 z0 s0 z1 z2 (AY z0 z3) z3 z4 z5 z6 q0 z7 z8 b0) none) (bb (Au Ah q0) (Pt pu n ih0 ih1 n0 c0 z0 s0 z1 z2 false z3 z4 z5 z6 q0 z7 z8 b0) none)) (bb (Au Ah q0) (Pt pu n ih0 ih1 n0 c0 z0 s0 z1 z2 false z3 z4 z5 z6 q0 z7 z8 b0) none))
def G5 (pu:Af) (n:Nat) (ih0:Nat→Nat→Sl→Int→Int→Int→Int→Int→Int→LV→OV) (w:Nat):Nat→Nat→Int→Sl→Int→Int→Int→Int→Int→Int→LV→Int→Int→Bool→OV:=
 Nat.rec (motive:=fun _=>Nat→Nat→Int→Sl→Int→Int→Int→Int→Int→Int→LV→Int→Int→Bool→OV) (fun _ _ _ _ _ _ _ _ _ _ _ _ _ _=>none) (fun _ ih1=>Wt pu n ih0 ih1) w
def Wu (pu:Af) (n:Nat) (ih0:Nat→Nat→Sl→Int→Int→Int→Int→Int→Int→LV→OV) (n0 c0:Nat) (s0:Sl) (z0 z1 z2 z3 z4 z5:Int) (q0:LV):OV:=
 (bb (Au Ah q0) (bb (AY z1 z0) (oo (EA z1) none fun k1=>(bb (an (Nat.blt k1 (Sl.n s0)) true) (bb (Nat.ble ((k1*3)+3) (len (Sl.cs s0))) (oo (AL (Sl.cs s0) (k1*3)) none fun v0=>(oo (Bi .i64 v0) none fun x0=>(oo (AL (Sl.cs s0) ((k1*3)+1)) none fun v1=>(oo (Bi .i64 v1) none fun x1=>(oo (AL (Sl.cs s0) (((k1*3)+1)+1)) none fun v2=>(oo (Bf v2) none fun b0=>(bb b0 (R7 pu n ih0 n0 c0 s0 z0 (Int.ofNat k1) z2 z3 z4 z5 q0) (G5 pu n ih0 n n0 c0 x0 s0 z0 (Int.ofNat k1) z2 z3 z4 z5 q0 x0 x1 b0)))))))) none) none)) (R6 pu n n0 c0 q0)) none)
def Dr (pu:Af) (n w:Nat):Nat→Nat→Sl→Int→Int→Int→Int→Int→Int→LV→OV:=
 Nat.rec (motive:=fun _=>Nat→Nat→Sl→Int→Int→Int→Int→Int→Int→LV→OV) (fun _ _ _ _ _ _ _ _ _ _=>none) (fun _ ih0=>Wu pu n ih0) w
def Ad9 (pu:Af) (n:Nat) (x0 x1 x2 x3:Int) (s0:Sl):OV:=
 (oo (EA (Aj .i64 (Int.mul x0 x1))) none fun k1=>(bb (an (Nat.ble k1 k1) (an (Nat.ble (k1*8) 1099511627776) (an (Nat.ble k1 1099511627776) true))) (bb (Au Ah (AF ([(.int .i64 (0:Int))]:LV) k1)) (Dr pu n n k1 (2*k1+bb true 1 0) s0 (Int.ofNat (Sl.n s0)) (0:Int) x0 x1 x2 x3 (AF ([(.int .i64 (0:Int))]:LV) k1)) none) none))
def m14 (pu:Af) (n:Nat) (args:LV):OV:=
 (ll args none fun a0 args=>(ll args none fun a1 args=>(ll args (oo (Bt a0) none fun l0=>(ll l0 none fun v0 l0=>(ll l0 none fun v1 l0=>(ll l0 none fun v2 l0=>(ll l0 none fun v3 l0=>(ll l0 (oo (Bi .i64 v0) none fun x0=>(oo (Bi .i64 v1) none fun x1=>(oo (Bi .i64 v2) none fun x2=>(oo (Bi .i64 v3) none fun x3=>(oo (Bj 3 a1) none fun s0=>(Ad9 pu n x0 x1 x2 x3 s0)))))) fun _ _=>none)))))) fun _ _=>none)))
theorem Aea (pu:Af) (n n0 c0:Nat) (q0:LV) {v:Value} (hm:R6 pu n n0 c0 q0=some v):BN tt (Bb tabs isP pu (inl pu)) 0 UD (fr 76 [(5,sc 0 0 1 n0 c0)]) (hp 1 [oC q0]) (Fin tt 0 [.tmp 4] v):=by
 unfold R6 at hm
 refine .then (.rK ?_)
 replace hm:=Ae hm;obtain⟨h0,hm⟩:=hm
 refine .ghs (fr 76 [(4,sc 0 0 1 n0 c0)]) (hp 1 [oC q0]) (.k [0] [] [.tmp 4 false] [4] ⟨AO h0,trivial⟩) ?_
 replace hm:=Ae hm;obtain⟨h1,hm⟩:=hm
 refine .ghs (Fr.puts (fr 76 [(4,sc 0 0 1 n0 c0)]) [(4,(Sl.v 1 (Sl.mk n0 0 (Aq (n0*1) (Am 0 q0)))))]) (hp 1 [.dead]) (.freezeC 0 4 1 (an (Nat.ble (0+n0*1) (len q0)) (Au Ah (Aq (n0*1) (Am 0 q0)))) (F1:=(Fr.puts (fr 76 [(4,sc 0 0 1 n0 c0)]) [(4,(Sl.v 1 (Sl.mk n0 0 (Aq (n0*1) (Am 0 q0)))))])) (H1:=(hp 1 [.dead])) (by kernel_rfl) (by kernel_rfl) h1 (E9.id _ _)) ?_
 refine .ret ?_
 exact Ay (Sl.v 1 (Sl.mk n0 0 (Aq (n0*1) (Am 0 q0)))) hm
theorem r14 {call:A8} (pu:Af) (n:Nat) (hcall:call=Bb tabs isP pu (inl pu)) {args:LV} {v:Value} (hm:m14 pu n args=some v) (_:∀ x∈args,closed2 x=true):args.length≤76∧BN tt call 0 Ni (Fr.made 76 args) (Ao tabs) (Fin tt 0 [.tmp 4] v):=by
 subst hcall
 unfold m14 at hm
 replace hm:=Ad hm;obtain⟨a0,args_0,rfl,hm⟩:=hm
 replace hm:=Ad hm;obtain⟨a1,args_1,rfl,hm⟩:=hm
 replace hm:=AC hm;obtain⟨rfl,hm⟩:=hm
 replace hm:=BG hm;obtain⟨l0,rfl,hm⟩:=hm
 replace hm:=Ad hm;obtain⟨v0,l5952_0,rfl,hm⟩:=hm
 replace hm:=Ad hm;obtain⟨v1,l5952_1,rfl,hm⟩:=hm
 replace hm:=Ad hm;obtain⟨v2,l5952_2,rfl,hm⟩:=hm
 replace hm:=Ad hm;obtain⟨v3,l5952_3,rfl,hm⟩:=hm
 replace hm:=AC hm;obtain⟨rfl,hm⟩:=hm
 replace hm:=Ai hm;obtain⟨x0,rfl,hm⟩:=hm
 replace hm:=Ai hm;obtain⟨x1,rfl,hm⟩:=hm
 replace hm:=Ai hm;obtain⟨x2,rfl,hm⟩:=hm
 replace hm:=Ai hm;obtain⟨x3,rfl,hm⟩:=hm
 replace hm:=Al hm;obtain⟨s0,rfl,hm⟩:=hm
 unfold Ad9 at hm
 refine⟨by simp,?_⟩
 refine .same (F':=(fr 76 [(0,(.agg ⟨[zI x0,zI x1,zI x2,zI x3]⟩)),(1,(Sl.v 3 s0))])) (H':=(hp 0 [])) (by kernel_rfl) (by kernel_rfl) ?_
 refine .then (.rK (.ghs (fr 76 [(1,(Sl.v 3 s0)),(2,(pt 0 0))]) (hp 1 [(oC [zI x0,zI x1,zI x2,zI x3])]) (.k0 [] [.tmp 2 false] [1,2]) ?_))
 refine .then ?_
 replace hm:=Ab hm;obtain⟨k1,h0,hm⟩:=hm
 replace hm:=Ae hm;obtain⟨h1,hm⟩:=hm
 refine .reg (eC 4 (some ((zI (Aj .i64 (Int.mul x0 x1))),(hp 1 [(oC [zI x0,zI x1,zI x2,zI x3])]))) (show _=some ((zI (Int.ofNat k1)),_) from (by rw[AR h0])) (eD (bb (an (Nat.ble k1 k1) (an (Nat.ble (k1*8) 1099511627776) (an (Nat.ble k1 1099511627776) true))) (some ((sc 1 0 1 k1 (2*k1+bb true 1 0)),(hp 2 [(oC [zI x0,zI x1,zI x2,zI x3]),(oC (AF ([(zI (0:Int))]:LV) k1))]))) none) (kH h1) (eE))) ?_
 replace hm:=Ae hm;obtain⟨h2,hm⟩:=hm
 refine .ghs (fr 76 [(1,(Sl.v 3 s0)),(2,(pt 0 0)),(5,(sc 1 0 1 k1 (2*k1+bb true 1 0)))]) (hp 2 [(oC [zI x0,zI x1,zI x2,zI x3]),(oC (AF ([(zI (0:Int))]:LV) k1))]) (.k [1] [] [.tmp 2 false,.tmp 5 false] [1,2,5] ⟨AO h2,trivial⟩) ?_
 refine .join (v:=v) (fun y:Nat×Nat×LV=>((fr 76 [(5,(sc 0 0 1 y.1 y.2.1))]),(hp 1 [(oC y.2.2)]))) (fun y=>R6 pu n y.1 y.2.1 y.2.2) ?_ ?_
 ·rintro⟨n0,c0,q0⟩ hm
  exact Aea pu n n0 c0 q0 hm
 ·refine .then (.rK (.ghs (fr 76 [(2,(pt 0 0)),(5,(sc 1 0 1 k1 (2*k1+bb true 1 0))),(16,(Sl.v 3 s0)),(17,(zI (Int.ofNat (Sl.n s0)))),(18,(zI (0:Int)))]) (hp 2 [(oC [zI x0,zI x1,zI x2,zI x3]),(oC (AF ([(zI (0:Int))]:LV) k1))]) (.k [1] [] [.tmp 2 false,.tmp 5 false] [2,5,16,17,18] ⟨AO h2,trivial⟩) ?_))
  refine .block (.loopM (v:=v) (fun y:Nat×Nat×Sl×Int×Int×Int×Int×Int×Int×LV=>((fr 76 [(2,(pt 0 0)),(5,(sc 1 0 1 y.1 y.2.1)),(16,(Sl.v 3 y.2.2.1)),(17,(zI y.2.2.2.1)),(18,(zI y.2.2.2.2.1))]),(hp 2 [(oC [(zI y.2.2.2.2.2.1),(zI y.2.2.2.2.2.2.1),(zI y.2.2.2.2.2.2.2.1),(zI y.2.2.2.2.2.2.2.2.1)]),(oC y.2.2.2.2.2.2.2.2.2)]))) (fun w y=>Dr pu n w y.1 y.2.1 y.2.2.1 y.2.2.2.1 y.2.2.2.2.1 y.2.2.2.2.2.1 y.2.2.2.2.2.2.1 y.2.2.2.2.2.2.2.1 y.2.2.2.2.2.2.2.2.1 y.2.2.2.2.2.2.2.2.2) n ⟨(k1,(2*k1+bb true 1 0),s0,(Int.ofNat (Sl.n s0)),(0:Int),x0,x1,x2,x3,(AF ([(zI (0:Int))]:LV) k1)),hm,(.k [1] [] [.tmp 2 false,.tmp 5 false] [2,5,16,17,18] ⟨AO h2,trivial⟩)⟩ (fun _=>rfl) ?_)
  rintro w0 ⟨n1,c1,s1,z0,z1,z2,z3,z4,z5,q1⟩ hm
  replace hm:Wu pu n (Dr pu n w0) n1 c1 s1 z0 z1 z2 z3 z4 z5 q1=some v:=hm
  unfold Wu at hm
  refine .then (.rK ?_)
  replace hm:=Ae hm;obtain⟨h3,hm⟩:=hm
  refine .ghs (fr 76 [(2,(pt 0 0)),(5,sc 1 0 1 n1 c1),(16,(Sl.v 3 s1)),(17,zI z0),(18,zI z1),(19,(zB (AY z1 z0)))]) (hp 2 [(oC [zI z2,zI z3,zI z4,zI z5]),oC q1]) (.k [1] [] [.tmp 2 false,.tmp 5 false] [2,5,16,17,18,19] ⟨AO h3,trivial⟩) ?_
  refine .then ?_
  replace hm:=Ag hm;rcases hm with⟨h4,hm⟩ | ⟨h4,hm⟩
  ·refine A7 (AY z1 z0) h4 ?_
   refine .skip (.ghs (fr 76 [(2,(pt 0 0)),(5,sc 1 0 1 n1 c1),(16,(Sl.v 3 s1)),(17,zI z0),(18,zI z1)]) (hp 2 [(oC [zI z2,zI z3,zI z4,zI z5]),oC q1]) (.k [1] [] [.tmp 2 false,.tmp 5 false] [2,5,16,17,18] ⟨AO h3,trivial⟩) ?_)
   refine .join (v:=v) (fun y:Nat×Nat×Sl×Int×Int×Int×Int×Int×Int×LV=>((fr 76 [(2,(pt 0 0)),(5,(sc 1 0 1 y.1 y.2.1)),(16,(Sl.v 3 y.2.2.1)),(17,(zI y.2.2.2.1)),(18,(zI y.2.2.2.2.1))]),(hp 2 [(oC [(zI y.2.2.2.2.2.1),(zI y.2.2.2.2.2.2.1),(zI y.2.2.2.2.2.2.2.1),(zI y.2.2.2.2.2.2.2.2.1)]),(oC y.2.2.2.2.2.2.2.2.2)]))) (fun y=>R7 pu n (Dr pu n w0) y.1 y.2.1 y.2.2.1 y.2.2.2.1 y.2.2.2.2.1 y.2.2.2.2.2.1 y.2.2.2.2.2.2.1 y.2.2.2.2.2.2.2.1 y.2.2.2.2.2.2.2.2.1 y.2.2.2.2.2.2.2.2.2) ?_ ?_
   ·rintro⟨n2,c2,s2,z6,z7,z8,z9,z10,z11,q2⟩ hm
    unfold R7 at hm
    refine .rK ?_
    replace hm:=Ae hm;obtain⟨h5,hm⟩:=hm
    exact⟨(n2,c2,s2,z6,(Aj .i64 (Int.add z7 (1:Int))),z8,z9,z10,z11,q2),hm,(.k [1] [] [.tmp 2 false,.tmp 5 false] [2,5,16,17,18] ⟨AO h5,trivial⟩)⟩
   ·refine .block (.then ?_)
    replace hm:=Ab hm;obtain⟨k2,h6,hm⟩:=hm
    obtain rfl:=AR h6
    replace hm:=Ae hm;obtain⟨h7,hm⟩:=hm
    replace hm:=Ae hm;obtain⟨h8,hm⟩:=hm
    replace hm:=Dn hm;obtain⟨x4,h9,hm⟩:=hm
    replace hm:=Dn hm;obtain⟨x5,h10,hm⟩:=hm
    replace hm:=Jf hm;obtain⟨b0,h11,hm⟩:=hm
    refine .reg (eD (keep (hp 2 [(oC [zI z2,zI z3,zI z4,zI z5]),oC q1]) (bb (an (Nat.blt k2 (Sl.n s1)) true) (some (Cv (k2*3) (Sl.cs s1))) none)) (AX h7) (eD (keep (hp 2 [(oC [zI z2,zI z3,zI z4,zI z5]),oC q1]) (bb (Nat.ble ((k2*3)+3) (len (Sl.cs s1))) (some (.agg ⟨Aq 3 (Am (k2*3) (Sl.cs s1))⟩)) none)) (Pd h8 (Ca h9 (Ca h10 (Ca h11 rfl)))) (eE))) ?_
    refine .ghs (fr 76 [(2,(pt 0 0)),(5,sc 1 0 1 n1 c1),(7,(pt 2 0)),(16,(Sl.v 3 s1)),(17,zI z0),(18,(zI (Int.ofNat k2)))]) (hp 3 [(oC [zI z2,zI z3,zI z4,zI z5]),oC q1,(oC [zI x4,zI x5,zB b0])]) (.k [1] [] [.tmp 2 false,.tmp 5 false,.tmp 7 false] [2,5,7,16,17,18] ⟨AO h3,trivial⟩) ?_
    refine .then (.then (.rK (.ghs (fr 76 [(2,(pt 0 0)),(5,sc 1 0 1 n1 c1),(7,(pt 2 0)),(16,(Sl.v 3 s1)),(17,zI z0),(18,(zI (Int.ofNat k2))),(23,zB b0)]) (hp 3 [(oC [zI z2,zI z3,zI z4,zI z5]),oC q1,(oC [zI x4,zI x5,zB b0])]) (.k [1] [] [.tmp 2 false,.tmp 5 false,.tmp 7 false] [2,5,7,16,17,18,23] ⟨AO h3,trivial⟩) ?_)))
    replace hm:=Ag hm;rcases hm with⟨h12,hm⟩ | ⟨h12,hm⟩
    ·refine .ifT b0 (by kernel_rfl) h12 ?_
     refine .exit ?_
     exact⟨(n1,c1,s1,z0,(Int.ofNat k2),z2,z3,z4,z5,q1),hm,(.k [1] [] [.tmp 2 false,.tmp 5 false] [2,5,16,17,18] ⟨AO h3,trivial⟩)⟩
    ·refine .ifF b0 (by kernel_rfl) h12 ?_
     refine .skip (.ghs (fr 76 [(2,(pt 0 0)),(5,sc 1 0 1 n1 c1),(7,(pt 2 0)),(16,(Sl.v 3 s1)),(17,zI z0),(18,(zI (Int.ofNat k2)))]) (hp 3 [(oC [zI z2,zI z3,zI z4,zI z5]),oC q1,(oC [zI x4,zI x5,zB b0])]) (.k [1] [] [.tmp 2 false,.tmp 5 false,.tmp 7 false] [2,5,7,16,17,18] ⟨AO h3,trivial⟩) ?_)
     refine .then (.rK (.ghs (fr 76 [(2,(pt 0 0)),(5,sc 1 0 1 n1 c1),(7,(pt 2 0)),(8,zI x4),(16,(Sl.v 3 s1)),(17,zI z0),(18,(zI (Int.ofNat k2)))]) (hp 3 [(oC [zI z2,zI z3,zI z4,zI z5]),oC q1,(oC [zI x4,zI x5,zB b0])]) (.k [1] [] [.tmp 2 false,.tmp 5 false,.tmp 7 false] [2,5,7,8,16,17,18] ⟨AO h3,trivial⟩) ?_))
     refine .block (.loopM (v:=v) (fun y:Nat×Nat×Int×Sl×Int×Int×Int×Int×Int×Int×LV×Int×Int×Bool=>((fr 76 [(2,(pt 0 0)),(5,(sc 1 0 1 y.1 y.2.1)),(7,(pt 2 0)),(8,(zI y.2.2.1)),(16,(Sl.v 3 y.2.2.2.1)),(17,(zI y.2.2.2.2.1)),(18,(zI y.2.2.2.2.2.1))]),(hp 3 [(oC [(zI y.2.2.2.2.2.2.1),(zI y.2.2.2.2.2.2.2.1),(zI y.2.2.2.2.2.2.2.2.1),(zI y.2.2.2.2.2.2.2.2.2.1)]),(oC y.2.2.2.2.2.2.2.2.2.2.1),(oC [(zI y.2.2.2.2.2.2.2.2.2.2.2.1),(zI y.2.2.2.2.2.2.2.2.2.2.2.2.1),(zB y.2.2.2.2.2.2.2.2.2.2.2.2.2)])]))) (fun w y=>G5 pu n (Dr pu n w0) w y.1 y.2.1 y.2.2.1 y.2.2.2.1 y.2.2.2.2.1 y.2.2.2.2.2.1 y.2.2.2.2.2.2.1 y.2.2.2.2.2.2.2.1 y.2.2.2.2.2.2.2.2.1 y.2.2.2.2.2.2.2.2.2.1 y.2.2.2.2.2.2.2.2.2.2.1 y.2.2.2.2.2.2.2.2.2.2.2.1 y.2.2.2.2.2.2.2.2.2.2.2.2.1 y.2.2.2.2.2.2.2.2.2.2.2.2.2) n ⟨(n1,c1,x4,s1,z0,(Int.ofNat k2),z2,z3,z4,z5,q1,x4,x5,b0),hm,(.k [1] [] [.tmp 2 false,.tmp 5 false,.tmp 7 false] [2,5,7,8,16,17,18] ⟨AO h3,trivial⟩)⟩ (fun _=>rfl) ?_)
     rintro w1 ⟨n3,c3,z12,s3,z13,z14,z15,z16,z17,z18,q3,z19,z20,b1⟩ hm
     replace hm:Wt pu n (Dr pu n w0) (G5 pu n (Dr pu n w0) w1) n3 c3 z12 s3 z13 z14 z15 z16 z17 z18 q3 z19 z20 b1=some v:=hm
     unfold Wt at hm
     refine .then (.join (v:=v) (fun y:Nat×Nat×Int×Sl×Int×Int×Bool×Int×Int×Int×Int×LV×Int×Int×Bool=>((fr 76 [(2,(pt 0 0)),(5,(sc 1 0 1 y.1 y.2.1)),(7,(pt 2 0)),(8,(zI y.2.2.1)),(16,(Sl.v 3 y.2.2.2.1)),(17,(zI y.2.2.2.2.1)),(18,(zI y.2.2.2.2.2.1)),(42,(zB y.2.2.2.2.2.2.1))]),(hp 3 [(oC [(zI y.2.2.2.2.2.2.2.1),(zI y.2.2.2.2.2.2.2.2.1),(zI y.2.2.2.2.2.2.2.2.2.1),(zI y.2.2.2.2.2.2.2.2.2.2.1)]),(oC y.2.2.2.2.2.2.2.2.2.2.2.1),(oC [(zI y.2.2.2.2.2.2.2.2.2.2.2.2.1),(zI y.2.2.2.2.2.2.2.2.2.2.2.2.2.1),(zB y.2.2.2.2.2.2.2.2.2.2.2.2.2.2)])]))) (fun y=>Pt pu n (Dr pu n w0) (G5 pu n (Dr pu n w0) w1) y.1 y.2.1 y.2.2.1 y.2.2.2.1 y.2.2.2.2.1 y.2.2.2.2.2.1 y.2.2.2.2.2.2.1 y.2.2.2.2.2.2.2.1 y.2.2.2.2.2.2.2.2.1 y.2.2.2.2.2.2.2.2.2.1 y.2.2.2.2.2.2.2.2.2.2.1 y.2.2.2.2.2.2.2.2.2.2.2.1 y.2.2.2.2.2.2.2.2.2.2.2.2.1 y.2.2.2.2.2.2.2.2.2.2.2.2.2.1 y.2.2.2.2.2.2.2.2.2.2.2.2.2.2) ?_ ?_)
     ·rintro⟨n4,c6,z21,s4,z22,z23,b2,z24,z25,z26,z27,q4,z28,z29,b3⟩ hm
      unfold Pt at hm
      replace hm:=Ag hm;rcases hm with⟨h13,hm⟩ | ⟨h13,hm⟩
      ·refine .ifT b2 (by kernel_rfl) h13 ?_
       refine .skip ?_
       replace hm:=Ae hm;obtain⟨h14,hm⟩:=hm
       refine .ghs (fr 76 [(2,(pt 0 0)),(5,sc 1 0 1 n4 c6),(7,(pt 2 0)),(8,zI z21),(16,(Sl.v 3 s4)),(17,zI z22),(18,zI z23)]) (hp 3 [(oC [zI z24,zI z25,zI z26,zI z27]),oC q4,(oC [zI z28,zI z29,zB b3])]) (.k [1] [] [.tmp 2 false,.tmp 5 false,.tmp 7 false] [2,5,7,8,16,17,18] ⟨AO h14,trivial⟩) ?_
       refine .join (v:=v) (fun y:Nat×Nat×Int×Sl×Int×Int×Int×Int×Int×Int×LV×Int×Int×Bool=>((fr 76 [(2,(pt 0 0)),(5,(sc 1 0 1 y.1 y.2.1)),(7,(pt 2 0)),(8,(zI y.2.2.1)),(16,(Sl.v 3 y.2.2.2.1)),(17,(zI y.2.2.2.2.1)),(18,(zI y.2.2.2.2.2.1))]),(hp 3 [(oC [(zI y.2.2.2.2.2.2.1),(zI y.2.2.2.2.2.2.2.1),(zI y.2.2.2.2.2.2.2.2.1),(zI y.2.2.2.2.2.2.2.2.2.1)]),(oC y.2.2.2.2.2.2.2.2.2.2.1),(oC [(zI y.2.2.2.2.2.2.2.2.2.2.2.1),(zI y.2.2.2.2.2.2.2.2.2.2.2.2.1),(zB y.2.2.2.2.2.2.2.2.2.2.2.2.2)])]))) (fun y=>Wq pu n (Dr pu n w0) (G5 pu n (Dr pu n w0) w1) y.1 y.2.1 y.2.2.1 y.2.2.2.1 y.2.2.2.2.1 y.2.2.2.2.2.1 y.2.2.2.2.2.2.1 y.2.2.2.2.2.2.2.1 y.2.2.2.2.2.2.2.2.1 y.2.2.2.2.2.2.2.2.2.1 y.2.2.2.2.2.2.2.2.2.2.1 y.2.2.2.2.2.2.2.2.2.2.2.1 y.2.2.2.2.2.2.2.2.2.2.2.2.1 y.2.2.2.2.2.2.2.2.2.2.2.2.2) ?_ ?_
       ·rintro⟨n5,c7,z30,s5,z31,z32,z33,z34,z35,z36,q5,z37,z38,b6⟩ hm
        unfold Wq at hm
        refine .rK ?_
        replace hm:=Ae hm;obtain⟨h15,hm⟩:=hm
        exact⟨(n5,c7,(Aj .i64 (Int.add z30 (1:Int))),s5,z31,z32,z33,z34,z35,z36,q5,z37,z38,b6),hm,(.k [1] [] [.tmp 2 false,.tmp 5 false,.tmp 7 false] [2,5,7,8,16,17,18] ⟨AO h15,trivial⟩)⟩
       ·refine .block (.then (.rK (.ghs (fr 76 [(2,(pt 0 0)),(5,sc 1 0 1 n4 c6),(7,(pt 2 0)),(8,zI z21),(9,zI z29),(16,(Sl.v 3 s4)),(17,zI z22),(18,zI z23)]) (hp 3 [(oC [zI z24,zI z25,zI z26,zI z27]),oC q4,(oC [zI z28,zI z29,zB b3])]) (.k [1] [] [.tmp 2 false,.tmp 5 false,.tmp 7 false] [2,5,7,8,9,16,17,18] ⟨AO h14,trivial⟩) ?_)))
        refine .block (.loopM (v:=v) (fun y:Nat×Nat×Int×Int×Sl×Int×Int×Int×Int×Int×Int×LV×Int×Int×Bool=>((fr 76 [(2,(pt 0 0)),(5,(sc 1 0 1 y.1 y.2.1)),(7,(pt 2 0)),(8,(zI y.2.2.1)),(9,(zI y.2.2.2.1)),(16,(Sl.v 3 y.2.2.2.2.1)),(17,(zI y.2.2.2.2.2.1)),(18,(zI y.2.2.2.2.2.2.1))]),(hp 3 [(oC [(zI y.2.2.2.2.2.2.2.1),(zI y.2.2.2.2.2.2.2.2.1),(zI y.2.2.2.2.2.2.2.2.2.1),(zI y.2.2.2.2.2.2.2.2.2.2.1)]),(oC y.2.2.2.2.2.2.2.2.2.2.2.1),(oC [(zI y.2.2.2.2.2.2.2.2.2.2.2.2.1),(zI y.2.2.2.2.2.2.2.2.2.2.2.2.2.1),(zB y.2.2.2.2.2.2.2.2.2.2.2.2.2.2)])]))) (fun w y=>R8 pu n (Dr pu n w0) (G5 pu n (Dr pu n w0) w1) w y.1 y.2.1 y.2.2.1 y.2.2.2.1 y.2.2.2.2.1 y.2.2.2.2.2.1 y.2.2.2.2.2.2.1 y.2.2.2.2.2.2.2.1 y.2.2.2.2.2.2.2.2.1 y.2.2.2.2.2.2.2.2.2.1 y.2.2.2.2.2.2.2.2.2.2.1 y.2.2.2.2.2.2.2.2.2.2.2.1 y.2.2.2.2.2.2.2.2.2.2.2.2.1 y.2.2.2.2.2.2.2.2.2.2.2.2.2.1 y.2.2.2.2.2.2.2.2.2.2.2.2.2.2) n ⟨(n4,c6,z21,z29,s4,z22,z23,z24,z25,z26,z27,q4,z28,z29,b3),hm,(.k [1] [] [.tmp 2 false,.tmp 5 false,.tmp 7 false] [2,5,7,8,9,16,17,18] ⟨AO h14,trivial⟩)⟩ (fun _=>rfl) ?_)
        rintro w2 ⟨n6,c8,z39,z40,s6,z41,z42,z43,z44,z45,z46,q6,z47,z48,b7⟩ hm
        replace hm:Ws pu n (Dr pu n w0) (G5 pu n (Dr pu n w0) w1) (R8 pu n (Dr pu n w0) (G5 pu n (Dr pu n w0) w1) w2) n6 c8 z39 z40 s6 z41 z42 z43 z44 z45 z46 q6 z47 z48 b7=some v:=hm
        unfold Ws at hm
        refine .then (.join (v:=v) (fun y:Nat×Nat×Int×Int×Sl×Int×Int×Bool×Int×Int×Int×Int×LV×Int×Int×Bool=>((fr 76 [(2,(pt 0 0)),(5,(sc 1 0 1 y.1 y.2.1)),(7,(pt 2 0)),(8,(zI y.2.2.1)),(9,(zI y.2.2.2.1)),(16,(Sl.v 3 y.2.2.2.2.1)),(17,(zI y.2.2.2.2.2.1)),(18,(zI y.2.2.2.2.2.2.1)),(63,(zB y.2.2.2.2.2.2.2.1))]),(hp 3 [(oC [(zI y.2.2.2.2.2.2.2.2.1),(zI y.2.2.2.2.2.2.2.2.2.1),(zI y.2.2.2.2.2.2.2.2.2.2.1),(zI y.2.2.2.2.2.2.2.2.2.2.2.1)]),(oC y.2.2.2.2.2.2.2.2.2.2.2.2.1),(oC [(zI y.2.2.2.2.2.2.2.2.2.2.2.2.2.1),(zI y.2.2.2.2.2.2.2.2.2.2.2.2.2.2.1),(zB y.2.2.2.2.2.2.2.2.2.2.2.2.2.2.2)])]))) (fun y=>Ps pu n (Dr pu n w0) (G5 pu n (Dr pu n w0) w1) (R8 pu n (Dr pu n w0) (G5 pu n (Dr pu n w0) w1) w2) y.1 y.2.1 y.2.2.1 y.2.2.2.1 y.2.2.2.2.1 y.2.2.2.2.2.1 y.2.2.2.2.2.2.1 y.2.2.2.2.2.2.2.1 y.2.2.2.2.2.2.2.2.1 y.2.2.2.2.2.2.2.2.2.1 y.2.2.2.2.2.2.2.2.2.2.1 y.2.2.2.2.2.2.2.2.2.2.2.1 y.2.2.2.2.2.2.2.2.2.2.2.2.1 y.2.2.2.2.2.2.2.2.2.2.2.2.2.1 y.2.2.2.2.2.2.2.2.2.2.2.2.2.2.1 y.2.2.2.2.2.2.2.2.2.2.2.2.2.2.2) ?_ ?_)
        ·rintro⟨n7,c9,z49,z50,s7,z51,z52,b8,z53,z54,z55,z56,q7,z57,z58,b9⟩ hm
         unfold Ps at hm
         replace hm:=Ag hm;rcases hm with⟨h16,hm⟩ | ⟨h16,hm⟩
         ·refine .ifT b8 (by kernel_rfl) h16 ?_
          refine .skip ?_
          replace hm:=Ae hm;obtain⟨h17,hm⟩:=hm
          refine .ghs (fr 76 [(2,(pt 0 0)),(5,sc 1 0 1 n7 c9),(7,(pt 2 0)),(8,zI z49),(9,zI z50),(16,(Sl.v 3 s7)),(17,zI z51),(18,zI z52)]) (hp 3 [(oC [zI z53,zI z54,zI z55,zI z56]),oC q7,(oC [zI z57,zI z58,zB b9])]) (.k [1] [] [.tmp 2 false,.tmp 5 false,.tmp 7 false] [2,5,7,8,9,16,17,18] ⟨AO h17,trivial⟩) ?_
          refine .then (.block ?_)
          replace hm:=Ab hm;obtain⟨k3,h18,hm⟩:=hm
          replace hm:=Ae hm;obtain⟨h19,hm⟩:=hm
          replace hm:=Ae hm;obtain⟨h20,hm⟩:=hm
          refine .reg (eC 6 (some ((zI (Aj .i64 (Int.add (Aj .i64 (Int.mul z49 z54)) z50))),(hp 3 [(oC [zI z53,zI z54,zI z55,zI z56]),oC q7,(oC [zI z57,zI z58,zB b9])]))) (show _=some ((zI (Int.ofNat k3)),_) from (by rw[AR h18])) (eD (keep (hp 3 [(oC [zI z53,zI z54,zI z55,zI z56]),oC q7,(oC [zI z57,zI z58,zB b9])]) (bb (an (Nat.blt k3 n7) true) (some (.pointer (some ⟨1,(0+k3*1),none⟩))) none)) (AX h19) (eD (done (bb (an (Nat.ble ((0+k3*1)+1) (len q7)) true) (some (hp 3 [(oC [zI z53,zI z54,zI z55,zI z56]),(oC (BM ([(zI (1:Int))]:LV) (0+k3*1) q7)),(oC [zI z57,zI z58,zB b9])])) none) undef) (Js h20) (eE)))) ?_
          replace hm:=Ae hm;obtain⟨h21,hm⟩:=hm
          refine .ghs (fr 76 [(2,(pt 0 0)),(5,sc 1 0 1 n7 c9),(7,(pt 2 0)),(8,zI z49),(9,zI z50),(16,(Sl.v 3 s7)),(17,zI z51),(18,zI z52)]) (hp 3 [(oC [zI z53,zI z54,zI z55,zI z56]),(oC (BM ([(zI (1:Int))]:LV) (0+k3*1) q7)),(oC [zI z57,zI z58,zB b9])]) (.k [1] [] [.tmp 2 false,.tmp 5 false,.tmp 7 false] [2,5,7,8,9,16,17,18] ⟨AO h21,trivial⟩) ?_
          refine .rK ?_
          exact⟨(n7,c9,z49,(Aj .i64 (Int.add z50 (1:Int))),s7,z51,z52,z53,z54,z55,z56,(BM ([(zI (1:Int))]:LV) (0+k3*1) q7),z57,z58,b9),hm,(.k [1] [] [.tmp 2 false,.tmp 5 false,.tmp 7 false] [2,5,7,8,9,16,17,18] ⟨AO h21,trivial⟩)⟩
         ·refine .ifF b8 (by kernel_rfl) h16 ?_
          refine .exit ?_
          replace hm:=Ae hm;obtain⟨h22,hm⟩:=hm
          exact⟨(n7,c9,z49,s7,z51,z52,z53,z54,z55,z56,q7,z57,z58,b9),hm,(.k [1] [] [.tmp 2 false,.tmp 5 false,.tmp 7 false] [2,5,7,8,16,17,18] ⟨AO h22,trivial⟩)⟩
        ·replace hm:=Ag hm;rcases hm with⟨h23,hm⟩ | ⟨h23,hm⟩
         ·replace hm:=Ag hm;rcases hm with⟨h24,hm⟩ | ⟨h24,hm⟩
          ·refine .reg (eC 6 (some ((zB (AY z40 (Aj .i64 (Int.add z48 z46)))),(hp 3 [(oC [zI z43,zI z44,zI z45,zI z46]),oC q6,(oC [zI z47,zI z48,zB b7])]))) (show _=some ((zB true),_) from (by rw[show (AY z40 (Aj .i64 (Int.add z48 z46)))=true from h23])) (eC 2 (some ((zB (nt (AY z40 (0:Int)))),(hp 3 [(oC [zI z43,zI z44,zI z45,zI z46]),oC q6,(oC [zI z47,zI z48,zB b7])]))) (show _=some ((zB true),_) from (by rw[show (nt (AY z40 (0:Int)))=true from h24])) (eE))) ?_
           replace hm:=Ae hm;obtain⟨h25,hm⟩:=hm
           exact⟨(n6,c8,z39,z40,s6,z41,z42,(AY z40 z44),z43,z44,z45,z46,q6,z47,z48,b7),hm,(.k [1] [] [.tmp 2 false,.tmp 5 false,.tmp 7 false] [2,5,7,8,9,16,17,18,63] ⟨AO h25,trivial⟩)⟩
          ·refine .reg (eC 6 (some ((zB (AY z40 (Aj .i64 (Int.add z48 z46)))),(hp 3 [(oC [zI z43,zI z44,zI z45,zI z46]),oC q6,(oC [zI z47,zI z48,zB b7])]))) (show _=some ((zB true),_) from (by rw[show (AY z40 (Aj .i64 (Int.add z48 z46)))=true from h23])) (eC 2 (some ((zB (nt (AY z40 (0:Int)))),(hp 3 [(oC [zI z43,zI z44,zI z45,zI z46]),oC q6,(oC [zI z47,zI z48,zB b7])]))) (show _=some ((zB false),_) from (by rw[show (nt (AY z40 (0:Int)))=false from h24])) (eE))) ?_
           replace hm:=Ae hm;obtain⟨h26,hm⟩:=hm
           exact⟨(n6,c8,z39,z40,s6,z41,z42,false,z43,z44,z45,z46,q6,z47,z48,b7),hm,(.k [1] [] [.tmp 2 false,.tmp 5 false,.tmp 7 false] [2,5,7,8,9,16,17,18,63] ⟨AO h26,trivial⟩)⟩
         ·refine .reg (eC 6 (some ((zB (AY z40 (Aj .i64 (Int.add z48 z46)))),(hp 3 [(oC [zI z43,zI z44,zI z45,zI z46]),oC q6,(oC [zI z47,zI z48,zB b7])]))) (show _=some ((zB false),_) from (by rw[show (AY z40 (Aj .i64 (Int.add z48 z46)))=false from h23])) (eE)) ?_
          replace hm:=Ae hm;obtain⟨h27,hm⟩:=hm
          exact⟨(n6,c8,z39,z40,s6,z41,z42,false,z43,z44,z45,z46,q6,z47,z48,b7),hm,(.k [1] [] [.tmp 2 false,.tmp 5 false,.tmp 7 false] [2,5,7,8,9,16,17,18,63] ⟨AO h27,trivial⟩)⟩
      ·refine .ifF b2 (by kernel_rfl) h13 ?_
       refine .exit ?_
       replace hm:=Ae hm;obtain⟨h28,hm⟩:=hm
       exact⟨(n4,c6,s4,z22,z23,z24,z25,z26,z27,q4),hm,(.k [1] [] [.tmp 2 false,.tmp 5 false] [2,5,16,17,18] ⟨AO h28,trivial⟩)⟩
     ·replace hm:=Ag hm;rcases hm with⟨h29,hm⟩ | ⟨h29,hm⟩
      ·replace hm:=Ag hm;rcases hm with⟨h30,hm⟩ | ⟨h30,hm⟩
       ·refine .reg (eC 6 (some ((zB (AY z12 (Aj .i64 (Int.add z19 z17)))),(hp 3 [(oC [zI z15,zI z16,zI z17,zI z18]),oC q3,(oC [zI z19,zI z20,zB b1])]))) (show _=some ((zB true),_) from (by rw[show (AY z12 (Aj .i64 (Int.add z19 z17)))=true from h29])) (eC 2 (some ((zB (nt (AY z12 (0:Int)))),(hp 3 [(oC [zI z15,zI z16,zI z17,zI z18]),oC q3,(oC [zI z19,zI z20,zB b1])]))) (show _=some ((zB true),_) from (by rw[show (nt (AY z12 (0:Int)))=true from h30])) (eE))) ?_
        replace hm:=Ae hm;obtain⟨h31,hm⟩:=hm
        exact⟨(n3,c3,z12,s3,z13,z14,(AY z12 z15),z15,z16,z17,z18,q3,z19,z20,b1),hm,(.k [1] [] [.tmp 2 false,.tmp 5 false,.tmp 7 false] [2,5,7,8,16,17,18,42] ⟨AO h31,trivial⟩)⟩
       ·refine .reg (eC 6 (some ((zB (AY z12 (Aj .i64 (Int.add z19 z17)))),(hp 3 [(oC [zI z15,zI z16,zI z17,zI z18]),oC q3,(oC [zI z19,zI z20,zB b1])]))) (show _=some ((zB true),_) from (by rw[show (AY z12 (Aj .i64 (Int.add z19 z17)))=true from h29])) (eC 2 (some ((zB (nt (AY z12 (0:Int)))),(hp 3 [(oC [zI z15,zI z16,zI z17,zI z18]),oC q3,(oC [zI z19,zI z20,zB b1])]))) (show _=some ((zB false),_) from (by rw[show (nt (AY z12 (0:Int)))=false from h30])) (eE))) ?_
        replace hm:=Ae hm;obtain⟨h32,hm⟩:=hm
        exact⟨(n3,c3,z12,s3,z13,z14,false,z15,z16,z17,z18,q3,z19,z20,b1),hm,(.k [1] [] [.tmp 2 false,.tmp 5 false,.tmp 7 false] [2,5,7,8,16,17,18,42] ⟨AO h32,trivial⟩)⟩
      ·refine .reg (eC 6 (some ((zB (AY z12 (Aj .i64 (Int.add z19 z17)))),(hp 3 [(oC [zI z15,zI z16,zI z17,zI z18]),oC q3,(oC [zI z19,zI z20,zB b1])]))) (show _=some ((zB false),_) from (by rw[show (AY z12 (Aj .i64 (Int.add z19 z17)))=false from h29])) (eE)) ?_
       replace hm:=Ae hm;obtain⟨h33,hm⟩:=hm
       exact⟨(n3,c3,z12,s3,z13,z14,false,z15,z16,z17,z18,q3,z19,z20,b1),hm,(.k [1] [] [.tmp 2 false,.tmp 5 false,.tmp 7 false] [2,5,7,8,16,17,18,42] ⟨AO h33,trivial⟩)⟩
  ·refine Bp (AY z1 z0) h4 ?_
   refine .exit ?_
   exact⟨(n1,c1,q1),hm,(.k [1] [] [.tmp 5 false] [5] ⟨AO h3,trivial⟩)⟩
end
end Go.TpMM
