/- Made from wip. -/
import Derived.Test.YtflonlkiajhhjaaTpMMod0x

set_option maxRecDepth 100000
set_option maxHeartbeats 20000000
set_option linter.unusedVariables false
namespace Go.TpMM
open Go.Sp Go.TpM
noncomputable section

def Aeb (pu:Af) (n:Nat) (x0 x1 x2:Int) (s0 s1:Sl):OV:=
 (oo (pu 19 [(.agg ⟨[.int .i64 x0,.int .i64 x1,.int .i64 x2,Sl.v 1 s0]⟩),(Sl.v 1 (Sl.mk 1 0 (Aq (1*1) (Am 0 ([Sl.v 1 s1]:LV)))))]) none fun v0=>(oo (CQ v0) none fun l0=>(ll l0 none fun v1 l0=>(ll l0 none fun v2 l0=>(ll l0 (bb (isS (Pv v1)) (oo (Pv v1) none fun p0=>(oo (Bi .i64 v2) none fun x3=>(bb (nt (Bd x3 (0:Int))) (some (.tuple ⟨[(Sl.v 1 (Sl.mk 0 2 [])),.int .i64 x3]⟩)) (oo (pu 20 [(Cv (Db.off p0) (Db.cs p0)),Sl.v 1 s1]) none fun v3=>(oo (Bj 1 v3) none fun s2=>(bb (an (Nat.blt 0 (Sl.n s2)) true) (oo (AL (Sl.cs s2) (0*1)) none fun v4=>(oo (Bj 1 v4) none fun s3=>(some (.tuple ⟨[Sl.v 1 s3,(.int .i64 (0:Int))]⟩)))) none)))))) (bb (V9 v1) (oo (Bi .i64 v2) none fun x4=>(bb (nt (Bd x4 (0:Int))) (some (.tuple ⟨[(Sl.v 1 (Sl.mk 0 2 [])),.int .i64 x4]⟩)) (oo (pu 20 [(.pointer none),Sl.v 1 s1]) none fun v5=>(oo (Bj 1 v5) none fun s4=>(bb (an (Nat.blt 0 (Sl.n s4)) true) (oo (AL (Sl.cs s4) (0*1)) none fun v6=>(oo (Bj 1 v6) none fun s5=>(some (.tuple ⟨[Sl.v 1 s5,(.int .i64 (0:Int))]⟩)))) none))))) none)) fun _ _=>none)))))
def m15 (pu:Af) (n:Nat) (args:LV):OV:=
 (ll args none fun a0 args=>(ll args none fun a1 args=>(ll args (oo (Bt a0) none fun l0=>(ll l0 none fun v0 l0=>(ll l0 none fun v1 l0=>(ll l0 none fun v2 l0=>(ll l0 none fun v3 l0=>(ll l0 (oo (Bi .i64 v0) none fun x0=>(oo (Bi .i64 v1) none fun x1=>(oo (Bi .i64 v2) none fun x2=>(oo (Bj 1 v3) none fun s0=>(oo (Bj 1 a1) none fun s1=>(Aeb pu n x0 x1 x2 s0 s1)))))) fun _ _=>none)))))) fun _ _=>none)))
theorem r15 {call:A8} (pu:Af) (n:Nat) (hcall:call=Bb tabs isP pu (inl pu)) {args:LV} {v:Value} (hm:m15 pu n args=some v) (_:∀ x∈args,closed2 x=true):args.length≤23∧BN tt call 0 Oi (Fr.made 23 args) (Ao tabs) (Fin tt 0 [.tmp 4,.tmp 5] v):=by
 subst hcall
 unfold m15 at hm
 replace hm:=Ad hm;obtain⟨a0,args_0,rfl,hm⟩:=hm
 replace hm:=Ad hm;obtain⟨a1,args_1,rfl,hm⟩:=hm
 replace hm:=AC hm;obtain⟨rfl,hm⟩:=hm
 replace hm:=BG hm;obtain⟨l0,rfl,hm⟩:=hm
 replace hm:=Ad hm;obtain⟨v0,l8491_0,rfl,hm⟩:=hm
 replace hm:=Ad hm;obtain⟨v1,l8491_1,rfl,hm⟩:=hm
 replace hm:=Ad hm;obtain⟨v2,l8491_2,rfl,hm⟩:=hm
 replace hm:=Ad hm;obtain⟨v3,l8491_3,rfl,hm⟩:=hm
 replace hm:=AC hm;obtain⟨rfl,hm⟩:=hm
 replace hm:=Ai hm;obtain⟨x0,rfl,hm⟩:=hm
 replace hm:=Ai hm;obtain⟨x1,rfl,hm⟩:=hm
 replace hm:=Ai hm;obtain⟨x2,rfl,hm⟩:=hm
 replace hm:=Al hm;obtain⟨s0,rfl,hm⟩:=hm
 replace hm:=Al hm;obtain⟨s1,rfl,hm⟩:=hm
 unfold Aeb at hm
 refine⟨by simp,?_⟩
 refine .same (F':=(fr 23 [(0,(.agg ⟨[zI x0,zI x1,zI x2,Sl.v 1 s0]⟩)),(1,Sl.v 1 s1)])) (H':=(hp 0 [])) (by kernel_rfl) (by kernel_rfl) ?_
 refine .then (.rK (.ghs (fr 23 [(1,Sl.v 1 s1),(2,(pt 0 0))]) (hp 1 [(oC [zI x0,zI x1,zI x2,Sl.v 1 s0])]) (.k0 [] [.tmp 2 false] [1,2]) ?_))
 refine .then ?_
 replace hm:=Ab hm;obtain⟨v4,h0,hm⟩:=hm
 replace hm:=Ch hm;obtain⟨l1,rfl,hm⟩:=hm
 replace hm:=Ad hm;obtain⟨v5,l8520_0,rfl,hm⟩:=hm
 replace hm:=Ad hm;obtain⟨v6,l8520_1,rfl,hm⟩:=hm
 replace hm:=AC hm;obtain⟨rfl,hm⟩:=hm
 replace hm:=Ag hm;rcases hm with⟨h1,hm⟩ | ⟨h1,hm⟩
 ·replace hm:=Ab hm;obtain⟨p0,h2,hm⟩:=hm
  obtain rfl:=F7 h2
  replace hm:=Ai hm;obtain⟨x3,rfl,hm⟩:=hm
  refine .reg (eC 3 (Hr tabs 1 (pu 19) [(.agg ⟨[zI x0,zI x1,zI x2,Sl.v 1 s0]⟩),sc 1 0 1 1 3] (hp 2 [(oC [zI x0,zI x1,zI x2,Sl.v 1 s0]),(oC [Sl.v 1 s1])])) (KI (DZ (CV (z:=1) (v:=(.agg ⟨[zI x0,zI x1,zI x2,Sl.v 1 s0]⟩)) (H:=(hp 2 [(oC [zI x0,zI x1,zI x2,Sl.v 1 s0]),(oC [Sl.v 1 s1])])) (by kernel_rfl) (by kernel_rfl) (by kernel_rfl)) (DZ (show ER 1 (sc 1 0 1 1 3) (hp 2 [(oC [zI x0,zI x1,zI x2,Sl.v 1 s0]),(oC [Sl.v 1 s1])])=some ((Sl.v 1 (Sl.mk 1 0 (Aq (1*1) (Am 0 ([Sl.v 1 s1]:LV))))),(hp 2 [(oC [zI x0,zI x1,zI x2,Sl.v 1 s0]),.dead])) from KH 1 0 1 1 3 ([Sl.v 1 s1]:LV) [] (by kernel_rfl) (by kernel_rfl) (by kernel_rfl)) Jt)) (by kernel_rfl) h0) (eE)) ?_
  refine .ghs (fr 23 [(1,Sl.v 1 s1),(6,(Cv (Db.off p0) (Db.cs p0))),(7,zI x3)]) (hp 0 []) (.k0 [] [] [1,6,7]) ?_
  refine .then (.then (.rK (.ghs (fr 23 [(1,Sl.v 1 s1),(6,(Cv (Db.off p0) (Db.cs p0))),(7,zI x3),(16,(zB (nt (Bd x3 (0:Int)))))]) (hp 0 []) (.k0 [] [] [1,6,7,16]) ?_)))
  replace hm:=Ag hm;rcases hm with⟨h3,hm⟩ | ⟨h3,hm⟩
  ·refine A7 (nt (Bd x3 (0:Int))) h3 ?_
   refine .then (.rK (.ghs (fr 23 [(4,(.slice none 0 0)),(5,zI x3)]) (hp 0 []) (.k0 [] [] [4,5]) ?_))
   refine .ghs (Fr.puts (fr 23 [(4,(.slice none 0 0)),(5,zI x3)]) [(4,(Sl.v 1 (Sl.mk 0 2 [])))]) (hp 0 []) (.freeze 0 4 1 (by kernel_rfl) (by kernel_rfl) (E9.id _ _)) ?_
   refine .ret ?_
   exact Ay (.tuple ⟨[(Sl.v 1 (Sl.mk 0 2 [])),zI x3]⟩) hm
  ·refine Bp (nt (Bd x3 (0:Int))) h3 ?_
   refine .skip (.ghs (fr 23 [(1,Sl.v 1 s1),(6,(Cv (Db.off p0) (Db.cs p0)))]) (hp 0 []) (.k0 [] [] [1,6]) ?_)
   refine .then ?_
   replace hm:=I9 hm;obtain⟨s2,h4,hm⟩:=hm
   replace hm:=Ae hm;obtain⟨h5,hm⟩:=hm
   replace hm:=I9 hm;obtain⟨s3,h6,hm⟩:=hm
   refine .reg (eC 2 ((oo (pu 20 [(Cv (Db.off p0) (Db.cs p0)),Sl.v 1 s1]) none fun v=>some (v,(hp 0 [])))) (AB h4) (eD (keep (hp 0 []) (bb (an (Nat.blt 0 (Sl.n s2)) true) (some (Cv (0*1) (Sl.cs s2))) none)) (AX h5) (eD (keep (hp 0 []) (AL (Sl.cs s2) (0*1))) (AZ h6) (eE)))) ?_
   refine .ghs (fr 23 [(4,Sl.v 1 s3),(5,(zI (0:Int)))]) (hp 0 []) (.k0 [] [] [4,5]) ?_
   refine .ret ?_
   exact Ay (.tuple ⟨[Sl.v 1 s3,(zI (0:Int))]⟩) hm
 ·replace hm:=Ae hm;obtain⟨h7,hm⟩:=hm
  obtain rfl:=O9 h7
  replace hm:=Ai hm;obtain⟨x4,rfl,hm⟩:=hm
  refine .reg (eC 3 (Hr tabs 1 (pu 19) [(.agg ⟨[zI x0,zI x1,zI x2,Sl.v 1 s0]⟩),sc 1 0 1 1 3] (hp 2 [(oC [zI x0,zI x1,zI x2,Sl.v 1 s0]),(oC [Sl.v 1 s1])])) (KI (DZ (CV (z:=1) (v:=(.agg ⟨[zI x0,zI x1,zI x2,Sl.v 1 s0]⟩)) (H:=(hp 2 [(oC [zI x0,zI x1,zI x2,Sl.v 1 s0]),(oC [Sl.v 1 s1])])) (by kernel_rfl) (by kernel_rfl) (by kernel_rfl)) (DZ (show ER 1 (sc 1 0 1 1 3) (hp 2 [(oC [zI x0,zI x1,zI x2,Sl.v 1 s0]),(oC [Sl.v 1 s1])])=some ((Sl.v 1 (Sl.mk 1 0 (Aq (1*1) (Am 0 ([Sl.v 1 s1]:LV))))),(hp 2 [(oC [zI x0,zI x1,zI x2,Sl.v 1 s0]),.dead])) from KH 1 0 1 1 3 ([Sl.v 1 s1]:LV) [] (by kernel_rfl) (by kernel_rfl) (by kernel_rfl)) Jt)) (by kernel_rfl) h0) (eE)) ?_
  refine .ghs (fr 23 [(1,Sl.v 1 s1),(6,(.pointer none)),(7,zI x4)]) (hp 0 []) (.k0 [] [] [1,6,7]) ?_
  refine .then (.then (.rK (.ghs (fr 23 [(1,Sl.v 1 s1),(6,(.pointer none)),(7,zI x4),(16,(zB (nt (Bd x4 (0:Int)))))]) (hp 0 []) (.k0 [] [] [1,6,7,16]) ?_)))
  replace hm:=Ag hm;rcases hm with⟨h8,hm⟩ | ⟨h8,hm⟩
  ·refine A7 (nt (Bd x4 (0:Int))) h8 ?_
   refine .then (.rK (.ghs (fr 23 [(4,(.slice none 0 0)),(5,zI x4)]) (hp 0 []) (.k0 [] [] [4,5]) ?_))
   refine .ghs (Fr.puts (fr 23 [(4,(.slice none 0 0)),(5,zI x4)]) [(4,(Sl.v 1 (Sl.mk 0 2 [])))]) (hp 0 []) (.freeze 0 4 1 (by kernel_rfl) (by kernel_rfl) (E9.id _ _)) ?_
   refine .ret ?_
   exact Ay (.tuple ⟨[(Sl.v 1 (Sl.mk 0 2 [])),zI x4]⟩) hm
  ·refine Bp (nt (Bd x4 (0:Int))) h8 ?_
   refine .skip (.ghs (fr 23 [(1,Sl.v 1 s1),(6,(.pointer none))]) (hp 0 []) (.k0 [] [] [1,6]) ?_)
   refine .then ?_
   replace hm:=I9 hm;obtain⟨s4,h9,hm⟩:=hm
   replace hm:=Ae hm;obtain⟨h10,hm⟩:=hm
   replace hm:=I9 hm;obtain⟨s5,h11,hm⟩:=hm
   refine .reg (eC 2 ((oo (pu 20 [(.pointer none),Sl.v 1 s1]) none fun v=>some (v,(hp 0 [])))) (AB h9) (eD (keep (hp 0 []) (bb (an (Nat.blt 0 (Sl.n s4)) true) (some (Cv (0*1) (Sl.cs s4))) none)) (AX h10) (eD (keep (hp 0 []) (AL (Sl.cs s4) (0*1))) (AZ h11) (eE)))) ?_
   refine .ghs (fr 23 [(4,Sl.v 1 s5),(5,(zI (0:Int)))]) (hp 0 []) (.k0 [] [] [4,5]) ?_
   refine .ret ?_
   exact Ay (.tuple ⟨[Sl.v 1 s5,(zI (0:Int))]⟩) hm
def R9 (pu:Af) (n:Nat) (z0 z1 z2 z3 z4 z5 z6 z7:Int):OV:=
 (bb (nt (Bd z0 z7)) (some (.int .i64 (21:Int))) (some (.int .i64 (0:Int))))
def MR (pu:Af) (n:Nat) (ih0:Int→Int→Sl→Int→Int→Int→Int→Int→Int→Int→Int→Int→Int→Int→Int→Int→OV) (z0 z1:Int) (s0:Sl) (z2 z3:Int) (b0:Bool) (z4 z5 z6 z7 z8 z9 z10 z11 z12 z13 z14 z15 z16:Int) (b1:Bool):OV:=
 (bb b0 (some (.int .i64 (1:Int))) (bb (nt (AY z1 (Aj .i64 (Int.add (Aj .i64 (Int.mul z15 z5)) z16)))) (some (.int .i64 (7:Int))) (oo (pu 39 [(.agg ⟨[.int .i64 z8,.int .i64 z9,.int .i64 z10,.int .i64 z11,.int .u64 z12,.int .u64 z13,.int .u64 z14]⟩),.int .u64 z0,(.agg ⟨[.int .i64 z15,.int .i64 z16,(.bool b1)]⟩)]) none fun v0=>(oo (CQ v0) none fun l0=>(ll l0 none fun v1 l0=>(ll l0 none fun v2 l0=>(ll l0 (oo (Bi .u64 v1) none fun x0=>(oo (Bf v2) none fun b2=>(bb (nt b2) (some (.int .i64 (13:Int))) (ih0 x0 (Aj .i64 (Int.add (Aj .i64 (Int.mul z15 z5)) z16)) s0 z2 (Aj .i64 (Int.add z3 (1:Int))) z4 z5 z6 z7 z8 z9 z10 z11 z12 z13 z14)))) fun _ _=>none)))))))
def Sa (pu:Af) (n:Nat) (ih0:Int→Int→Sl→Int→Int→Int→Int→Int→Int→Int→Int→Int→Int→Int→Int→Int→OV) (z0 z1 z2 z3:Int) (s0:Sl) (z4 z5:Int) (b0:Bool) (z6 z7 z8 z9 z10 z11 z12 z13 z14 z15 z16 z17 z18:Int) (b1:Bool):OV:=
 (bb b0 (some (.int .i64 (5:Int))) (bb (AY z17 (0:Int)) (MR pu n ih0 z0 z1 s0 z4 z5 true z6 z7 z8 z9 z10 z11 z12 z13 z14 z15 z16 z17 z18 b1) (bb (AY z18 (0:Int)) (MR pu n ih0 z0 z1 s0 z4 z5 true z6 z7 z8 z9 z10 z11 z12 z13 z14 z15 z16 z17 z18 b1) (bb (AY (Aj .i64 (Int.sub z6 z2)) z17) (MR pu n ih0 z0 z1 s0 z4 z5 true z6 z7 z8 z9 z10 z11 z12 z13 z14 z15 z16 z17 z18 b1) (MR pu n ih0 z0 z1 s0 z4 z5 (AY (Aj .i64 (Int.sub z7 z3)) z18) z6 z7 z8 z9 z10 z11 z12 z13 z14 z15 z16 z17 z18 b1)))))
def Wv (pu:Af) (n:Nat) (ih0:Int→Int→Sl→Int→Int→Int→Int→Int→Int→Int→Int→Int→Int→Int→Int→Int→OV) (z0 z1:Int) (s0:Sl) (z2 z3 z4 z5 z6 z7 z8 z9 z10 z11 z12 z13 z14:Int):OV:=
 (bb (AY z3 z2) (oo (EA z3) none fun k1=>(bb (an (Nat.blt k1 (Sl.n s0)) true) (bb (Nat.ble ((k1*3)+3) (len (Sl.cs s0))) (oo (AL (Sl.cs s0) (k1*3)) none fun v0=>(oo (Bi .i64 v0) none fun x0=>(oo (AL (Sl.cs s0) ((k1*3)+1)) none fun v1=>(oo (Bi .i64 v1) none fun x1=>(oo (AL (Sl.cs s0) (((k1*3)+1)+1)) none fun v2=>(oo (Bf v2) none fun b0=>(oo (pu 38 [(.agg ⟨[.int .i64 z4,.int .i64 z5,.int .i64 z6,.int .i64 z7]⟩),(.bool b0)]) none fun v3=>(oo (CQ v3) none fun l0=>(ll l0 none fun v4 l0=>(ll l0 none fun v5 l0=>(ll l0 (oo (Bi .i64 v4) none fun x2=>(oo (Bi .i64 v5) none fun x3=>(bb b0 (Sa pu n ih0 z0 z1 x2 x3 s0 z2 (Int.ofNat k1) (Bd z6 z7) z4 z5 z6 z7 z8 z9 z10 z11 z12 z13 z14 x0 x1 b0) (Sa pu n ih0 z0 z1 x2 x3 s0 z2 (Int.ofNat k1) false z4 z5 z6 z7 z8 z9 z10 z11 z12 z13 z14 x0 x1 b0)))) fun _ _=>none))))))))))) none) none)) (R9 pu n z0 z8 z9 z10 z11 z12 z13 z14))
def PI (pu:Af) (n w:Nat):Int→Int→Sl→Int→Int→Int→Int→Int→Int→Int→Int→Int→Int→Int→Int→Int→OV:=
 Nat.rec (motive:=fun _=>Int→Int→Sl→Int→Int→Int→Int→Int→Int→Int→Int→Int→Int→Int→Int→Int→OV) (fun _ _ _ _ _ _ _ _ _ _ _ _ _ _ _ _=>none) (fun _ ih0=>Wv pu n ih0) w
def Aec (pu:Af) (n:Nat) (x0 x1 x2 x3:Int) (s0:Sl):OV:=
 (oo (pu 27 [(.agg ⟨[.int .i64 x0,.int .i64 x1,.int .i64 x2,.int .i64 x3]⟩)]) none fun v0=>(oo (CQ v0) none fun l0=>(ll l0 none fun v1 l0=>(ll l0 none fun v2 l0=>(ll l0 (oo (Bt v1) none fun l1=>(ll l1 none fun v3 l1=>(ll l1 none fun v4 l1=>(ll l1 none fun v5 l1=>(ll l1 none fun v6 l1=>(ll l1 none fun v7 l1=>(ll l1 none fun v8 l1=>(ll l1 none fun v9 l1=>(ll l1 (oo (Bi .i64 v3) none fun x4=>(oo (Bi .i64 v4) none fun x5=>(oo (Bi .i64 v5) none fun x6=>(oo (Bi .i64 v6) none fun x7=>(oo (Bi .u64 v7) none fun x8=>(oo (Bi .u64 v8) none fun x9=>(oo (Bi .u64 v9) none fun x10=>(oo (Bi .i64 v2) none fun x11=>(bb (nt (Bd x11 (0:Int))) (some (.int .i64 x11)) (PI pu n n (0:Int) (-1:Int) s0 (Int.ofNat (Sl.n s0)) (0:Int) x0 x1 x2 x3 x4 x5 x6 x7 x8 x9 x10)))))))))) fun _ _=>none))))))))) fun _ _=>none)))))
def m16 (pu:Af) (n:Nat) (args:LV):OV:=
 (ll args none fun a0 args=>(ll args none fun a1 args=>(ll args (oo (Bt a0) none fun l0=>(ll l0 none fun v0 l0=>(ll l0 none fun v1 l0=>(ll l0 none fun v2 l0=>(ll l0 none fun v3 l0=>(ll l0 (oo (Bi .i64 v0) none fun x0=>(oo (Bi .i64 v1) none fun x1=>(oo (Bi .i64 v2) none fun x2=>(oo (Bi .i64 v3) none fun x3=>(oo (Bj 3 a1) none fun s0=>(Aec pu n x0 x1 x2 x3 s0)))))) fun _ _=>none)))))) fun _ _=>none)))
theorem Aed (pu:Af) (n:Nat) (z0 z1 z2 z3 z4 z5 z6 z7:Int) {v:Value} (hm:R9 pu n z0 z1 z2 z3 z4 z5 z6 z7=some v):BN tt (Bb tabs isP pu (inl pu)) 0 UE (fr 107 [(5,(pt 0 0)),(7,(zU z0))]) (hp 1 [(oC [zI z1,zI z2,zI z3,zI z4,(zU z5),(zU z6),(zU z7)])]) (Fin tt 0 [.tmp 4] v):=by
 unfold R9 at hm
 refine .then (.then (.rK (.ghs (fr 107 [(106,(zB (nt (Bd z0 z7))))]) (hp 0 []) (.k0 [] [] [106]) ?_)))
 replace hm:=Ag hm;rcases hm with⟨h0,hm⟩ | ⟨h0,hm⟩
 ·refine A7 (nt (Bd z0 z7)) h0 ?_
  refine .then (.rK (.ghs (fr 107 [(4,(zI (21:Int)))]) (hp 0 []) (.k0 [] [] [4]) ?_))
  refine .ret ?_
  exact Ay (zI (21:Int)) hm
 ·refine Bp (nt (Bd z0 z7)) h0 ?_
  refine .skip (.ghs (fr 107 []) (hp 0 []) (.k0 [] [] []) ?_)
  refine .then (.rK (.ghs (fr 107 [(4,(zI (0:Int)))]) (hp 0 []) (.k0 [] [] [4]) ?_))
  refine .ret ?_
  exact Ay (zI (0:Int)) hm
theorem r16 {call:A8} (pu:Af) (n:Nat) (hcall:call=Bb tabs isP pu (inl pu)) {args:LV} {v:Value} (hm:m16 pu n args=some v) (_:∀ x∈args,closed2 x=true):args.length≤107∧BN tt call 0 Ov (Fr.made 107 args) (Ao tabs) (Fin tt 0 [.tmp 4] v):=by
 subst hcall
 unfold m16 at hm
 replace hm:=Ad hm;obtain⟨a0,args_0,rfl,hm⟩:=hm
 replace hm:=Ad hm;obtain⟨a1,args_1,rfl,hm⟩:=hm
 replace hm:=AC hm;obtain⟨rfl,hm⟩:=hm
 replace hm:=BG hm;obtain⟨l0,rfl,hm⟩:=hm
 replace hm:=Ad hm;obtain⟨v0,l8567_0,rfl,hm⟩:=hm
 replace hm:=Ad hm;obtain⟨v1,l8567_1,rfl,hm⟩:=hm
 replace hm:=Ad hm;obtain⟨v2,l8567_2,rfl,hm⟩:=hm
 replace hm:=Ad hm;obtain⟨v3,l8567_3,rfl,hm⟩:=hm
 replace hm:=AC hm;obtain⟨rfl,hm⟩:=hm
 replace hm:=Ai hm;obtain⟨x0,rfl,hm⟩:=hm
 replace hm:=Ai hm;obtain⟨x1,rfl,hm⟩:=hm
 replace hm:=Ai hm;obtain⟨x2,rfl,hm⟩:=hm
 replace hm:=Ai hm;obtain⟨x3,rfl,hm⟩:=hm
 replace hm:=Al hm;obtain⟨s0,rfl,hm⟩:=hm
 unfold Aec at hm
 refine⟨by simp,?_⟩
 refine .same (F':=(fr 107 [(0,(.agg ⟨[zI x0,zI x1,zI x2,zI x3]⟩)),(1,(Sl.v 3 s0))])) (H':=(hp 0 [])) (by kernel_rfl) (by kernel_rfl) ?_
 refine .then (.rK (.ghs (fr 107 [(1,(Sl.v 3 s0)),(2,(pt 0 0))]) (hp 1 [(oC [zI x0,zI x1,zI x2,zI x3])]) (.k0 [] [.tmp 2 false] [1,2]) ?_))
 refine .then ?_
 replace hm:=Ab hm;obtain⟨v4,h0,hm⟩:=hm
 replace hm:=Ch hm;obtain⟨l1,rfl,hm⟩:=hm
 replace hm:=Ad hm;obtain⟨v5,l8616_0,rfl,hm⟩:=hm
 replace hm:=Ad hm;obtain⟨v6,l8616_1,rfl,hm⟩:=hm
 replace hm:=AC hm;obtain⟨rfl,hm⟩:=hm
 replace hm:=BG hm;obtain⟨l2,rfl,hm⟩:=hm
 replace hm:=Ad hm;obtain⟨v7,l8620_0,rfl,hm⟩:=hm
 replace hm:=Ad hm;obtain⟨v8,l8620_1,rfl,hm⟩:=hm
 replace hm:=Ad hm;obtain⟨v9,l8620_2,rfl,hm⟩:=hm
 replace hm:=Ad hm;obtain⟨v10,l8620_3,rfl,hm⟩:=hm
 replace hm:=Ad hm;obtain⟨v11,l8620_4,rfl,hm⟩:=hm
 replace hm:=Ad hm;obtain⟨v12,l8620_5,rfl,hm⟩:=hm
 replace hm:=Ad hm;obtain⟨v13,l8620_6,rfl,hm⟩:=hm
 replace hm:=AC hm;obtain⟨rfl,hm⟩:=hm
 replace hm:=Ai hm;obtain⟨x4,rfl,hm⟩:=hm
 replace hm:=Ai hm;obtain⟨x5,rfl,hm⟩:=hm
 replace hm:=Ai hm;obtain⟨x6,rfl,hm⟩:=hm
 replace hm:=Ai hm;obtain⟨x7,rfl,hm⟩:=hm
 replace hm:=Ai hm;obtain⟨x8,rfl,hm⟩:=hm
 replace hm:=Ai hm;obtain⟨x9,rfl,hm⟩:=hm
 replace hm:=Ai hm;obtain⟨x10,rfl,hm⟩:=hm
 replace hm:=Ai hm;obtain⟨x11,rfl,hm⟩:=hm
 refine .reg (eC 1 ((oo (pu 27 [(.agg ⟨[zI x0,zI x1,zI x2,zI x3]⟩)]) none fun v=>some (v,(hp 1 [(oC [zI x0,zI x1,zI x2,zI x3])])))) (AB h0) (eE)) ?_
 refine .ghs (fr 107 [(1,(Sl.v 3 s0)),(2,(pt 0 0)),(5,pt 1 0),(6,zI x11)]) (hp 2 [(oC [zI x0,zI x1,zI x2,zI x3]),(oC [zI x4,zI x5,zI x6,zI x7,(zU x8),(zU x9),(zU x10)])]) (.k0 [] [.tmp 2 false,.tmp 5 false] [1,2,5,6]) ?_
 refine .then (.then (.rK (.ghs (fr 107 [(1,(Sl.v 3 s0)),(2,(pt 0 0)),(5,pt 1 0),(6,zI x11),(21,(zB (nt (Bd x11 (0:Int)))))]) (hp 2 [(oC [zI x0,zI x1,zI x2,zI x3]),(oC [zI x4,zI x5,zI x6,zI x7,(zU x8),(zU x9),(zU x10)])]) (.k0 [] [.tmp 2 false,.tmp 5 false] [1,2,5,6,21]) ?_)))
 replace hm:=Ag hm;rcases hm with⟨h1,hm⟩ | ⟨h1,hm⟩
 ·refine A7 (nt (Bd x11 (0:Int))) h1 ?_
  refine .then (.rK (.ghs (fr 107 [(4,zI x11)]) (hp 0 []) (.k0 [] [] [4]) ?_))
  refine .ret ?_
  exact Ay (zI x11) hm
 ·refine Bp (nt (Bd x11 (0:Int))) h1 ?_
  refine .skip (.ghs (fr 107 [(1,(Sl.v 3 s0)),(2,(pt 0 0)),(5,pt 1 0)]) (hp 2 [(oC [zI x0,zI x1,zI x2,zI x3]),(oC [zI x4,zI x5,zI x6,zI x7,(zU x8),(zU x9),(zU x10)])]) (.k0 [] [.tmp 2 false,.tmp 5 false] [1,2,5]) ?_)
  refine .then (.rK (.ghs (fr 107 [(1,(Sl.v 3 s0)),(2,(pt 0 0)),(5,pt 1 0),(7,(zU (0:Int)))]) (hp 2 [(oC [zI x0,zI x1,zI x2,zI x3]),(oC [zI x4,zI x5,zI x6,zI x7,(zU x8),(zU x9),(zU x10)])]) (.k0 [] [.tmp 2 false,.tmp 5 false] [1,2,5,7]) ?_))
  refine .then (.rK (.ghs (fr 107 [(1,(Sl.v 3 s0)),(2,(pt 0 0)),(5,pt 1 0),(7,(zU (0:Int))),(8,(zI (-1:Int)))]) (hp 2 [(oC [zI x0,zI x1,zI x2,zI x3]),(oC [zI x4,zI x5,zI x6,zI x7,(zU x8),(zU x9),(zU x10)])]) (.k0 [] [.tmp 2 false,.tmp 5 false] [1,2,5,7,8]) ?_))
  refine .join (v:=v) (fun y:Int×Int×Int×Int×Int×Int×Int×Int=>((fr 107 [(5,(pt 0 0)),(7,(zU y.1))]),(hp 1 [(oC [(zI y.2.1),(zI y.2.2.1),(zI y.2.2.2.1),(zI y.2.2.2.2.1),(zU y.2.2.2.2.2.1),(zU y.2.2.2.2.2.2.1),(zU y.2.2.2.2.2.2.2)])]))) (fun y=>R9 pu n y.1 y.2.1 y.2.2.1 y.2.2.2.1 y.2.2.2.2.1 y.2.2.2.2.2.1 y.2.2.2.2.2.2.1 y.2.2.2.2.2.2.2) ?_ ?_
  ·rintro⟨z0,z1,z2,z3,z4,z5,z6,z7⟩ hm
   exact Aed pu n z0 z1 z2 z3 z4 z5 z6 z7 hm
  ·refine .then (.rK (.ghs (fr 107 [(2,(pt 0 0)),(5,pt 1 0),(7,(zU (0:Int))),(8,(zI (-1:Int))),(23,(Sl.v 3 s0)),(24,(zI (Int.ofNat (Sl.n s0)))),(25,(zI (0:Int)))]) (hp 2 [(oC [zI x0,zI x1,zI x2,zI x3]),(oC [zI x4,zI x5,zI x6,zI x7,(zU x8),(zU x9),(zU x10)])]) (.k0 [] [.tmp 2 false,.tmp 5 false] [2,5,7,8,23,24,25]) ?_))
   refine .block (.loopM (v:=v) (fun y:Int×Int×Sl×Int×Int×Int×Int×Int×Int×Int×Int×Int×Int×Int×Int×Int=>((fr 107 [(2,(pt 0 0)),(5,pt 1 0),(7,(zU y.1)),(8,(zI y.2.1)),(23,(Sl.v 3 y.2.2.1)),(24,(zI y.2.2.2.1)),(25,(zI y.2.2.2.2.1))]),(hp 2 [(oC [(zI y.2.2.2.2.2.1),(zI y.2.2.2.2.2.2.1),(zI y.2.2.2.2.2.2.2.1),(zI y.2.2.2.2.2.2.2.2.1)]),(oC [(zI y.2.2.2.2.2.2.2.2.2.1),(zI y.2.2.2.2.2.2.2.2.2.2.1),(zI y.2.2.2.2.2.2.2.2.2.2.2.1),(zI y.2.2.2.2.2.2.2.2.2.2.2.2.1),(zU y.2.2.2.2.2.2.2.2.2.2.2.2.2.1),(zU y.2.2.2.2.2.2.2.2.2.2.2.2.2.2.1),(zU y.2.2.2.2.2.2.2.2.2.2.2.2.2.2.2)])]))) (fun w y=>PI pu n w y.1 y.2.1 y.2.2.1 y.2.2.2.1 y.2.2.2.2.1 y.2.2.2.2.2.1 y.2.2.2.2.2.2.1 y.2.2.2.2.2.2.2.1 y.2.2.2.2.2.2.2.2.1 y.2.2.2.2.2.2.2.2.2.1 y.2.2.2.2.2.2.2.2.2.2.1 y.2.2.2.2.2.2.2.2.2.2.2.1 y.2.2.2.2.2.2.2.2.2.2.2.2.1 y.2.2.2.2.2.2.2.2.2.2.2.2.2.1 y.2.2.2.2.2.2.2.2.2.2.2.2.2.2.1 y.2.2.2.2.2.2.2.2.2.2.2.2.2.2.2) n ⟨((0:Int),(-1:Int),s0,(Int.ofNat (Sl.n s0)),(0:Int),x0,x1,x2,x3,x4,x5,x6,x7,x8,x9,x10),hm,(.k0 [] [.tmp 2 false,.tmp 5 false] [2,5,7,8,23,24,25])⟩ (fun _=>rfl) ?_)
   rintro w0 ⟨z8,z9,s1,z10,z11,z12,z13,z14,z15,z16,z17,z18,z19,z20,z21,z22⟩ hm
   replace hm:Wv pu n (PI pu n w0) z8 z9 s1 z10 z11 z12 z13 z14 z15 z16 z17 z18 z19 z20 z21 z22=some v:=hm
   unfold Wv at hm
   refine .then (.rK (.ghs (fr 107 [(2,(pt 0 0)),(5,pt 1 0),(7,(zU z8)),(8,zI z9),(23,(Sl.v 3 s1)),(24,zI z10),(25,zI z11),(26,(zB (AY z11 z10)))]) (hp 2 [(oC [zI z12,zI z13,zI z14,zI z15]),(oC [zI z16,zI z17,zI z18,zI z19,(zU z20),(zU z21),(zU z22)])]) (.k0 [] [.tmp 2 false,.tmp 5 false] [2,5,7,8,23,24,25,26]) ?_))
   refine .then ?_
   replace hm:=Ag hm;rcases hm with⟨h2,hm⟩ | ⟨h2,hm⟩
   ·refine A7 (AY z11 z10) h2 ?_
    refine .skip (.ghs (fr 107 [(2,(pt 0 0)),(5,pt 1 0),(7,(zU z8)),(8,zI z9),(23,(Sl.v 3 s1)),(24,zI z10),(25,zI z11)]) (hp 2 [(oC [zI z12,zI z13,zI z14,zI z15]),(oC [zI z16,zI z17,zI z18,zI z19,(zU z20),(zU z21),(zU z22)])]) (.k0 [] [.tmp 2 false,.tmp 5 false] [2,5,7,8,23,24,25]) ?_)
    refine .then (.block (.then ?_))
    replace hm:=Ab hm;obtain⟨k1,h3,hm⟩:=hm
    obtain rfl:=AR h3
    replace hm:=Ae hm;obtain⟨h4,hm⟩:=hm
    replace hm:=Ae hm;obtain⟨h5,hm⟩:=hm
    replace hm:=Dn hm;obtain⟨x12,h6,hm⟩:=hm
    replace hm:=Dn hm;obtain⟨x13,h7,hm⟩:=hm
    replace hm:=Jf hm;obtain⟨b0,h8,hm⟩:=hm
    refine .reg (eD (keep (hp 2 [(oC [zI z12,zI z13,zI z14,zI z15]),(oC [zI z16,zI z17,zI z18,zI z19,(zU z20),(zU z21),(zU z22)])]) (bb (an (Nat.blt k1 (Sl.n s1)) true) (some (Cv (k1*3) (Sl.cs s1))) none)) (AX h4) (eD (keep (hp 2 [(oC [zI z12,zI z13,zI z14,zI z15]),(oC [zI z16,zI z17,zI z18,zI z19,(zU z20),(zU z21),(zU z22)])]) (bb (Nat.ble ((k1*3)+3) (len (Sl.cs s1))) (some (.agg ⟨Aq 3 (Am (k1*3) (Sl.cs s1))⟩)) none)) (Pd h5 (Ca h6 (Ca h7 (Ca h8 rfl)))) (eE))) ?_
    refine .ghs (fr 107 [(2,(pt 0 0)),(5,pt 1 0),(7,(zU z8)),(8,zI z9),(10,(pt 2 0)),(23,(Sl.v 3 s1)),(24,zI z10),(25,(zI (Int.ofNat k1)))]) (hp 3 [(oC [zI z12,zI z13,zI z14,zI z15]),(oC [zI z16,zI z17,zI z18,zI z19,(zU z20),(zU z21),(zU z22)]),(oC [zI x12,zI x13,zB b0])]) (.k0 [] [.tmp 2 false,.tmp 5 false,.tmp 10 false] [2,5,7,8,10,23,24,25]) ?_
    refine .then ?_
    replace hm:=Ab hm;obtain⟨v14,h9,hm⟩:=hm
    replace hm:=Ch hm;obtain⟨l3,rfl,hm⟩:=hm
    replace hm:=Ad hm;obtain⟨v15,l9034_0,rfl,hm⟩:=hm
    replace hm:=Ad hm;obtain⟨v16,l9034_1,rfl,hm⟩:=hm
    replace hm:=AC hm;obtain⟨rfl,hm⟩:=hm
    replace hm:=Ai hm;obtain⟨x14,rfl,hm⟩:=hm
    replace hm:=Ai hm;obtain⟨x15,rfl,hm⟩:=hm
    refine .reg (eC 3 ((oo (pu 38 [(.agg ⟨[zI z12,zI z13,zI z14,zI z15]⟩),zB b0]) none fun v=>some (v,(hp 3 [(oC [zI z12,zI z13,zI z14,zI z15]),(oC [zI z16,zI z17,zI z18,zI z19,(zU z20),(zU z21),(zU z22)]),(oC [zI x12,zI x13,zB b0])])))) (AB h9) (eE)) ?_
    refine .ghs (fr 107 [(2,(pt 0 0)),(5,pt 1 0),(7,(zU z8)),(8,zI z9),(10,(pt 2 0)),(11,zI x14),(12,zI x15),(23,(Sl.v 3 s1)),(24,zI z10),(25,(zI (Int.ofNat k1)))]) (hp 3 [(oC [zI z12,zI z13,zI z14,zI z15]),(oC [zI z16,zI z17,zI z18,zI z19,(zU z20),(zU z21),(zU z22)]),(oC [zI x12,zI x13,zB b0])]) (.k0 [] [.tmp 2 false,.tmp 5 false,.tmp 10 false] [2,5,7,8,10,11,12,23,24,25]) ?_
    refine .then (.block (.join (v:=v) (fun y:Int×Int×Int×Int×Sl×Int×Int×Bool×Int×Int×Int×Int×Int×Int×Int×Int×Int×Int×Int×Int×Int×Bool=>((fr 107 [(2,(pt 0 0)),(5,pt 1 0),(7,(zU y.1)),(8,(zI y.2.1)),(10,(pt 2 0)),(11,(zI y.2.2.1)),(12,(zI y.2.2.2.1)),(23,(Sl.v 3 y.2.2.2.2.1)),(24,(zI y.2.2.2.2.2.1)),(25,(zI y.2.2.2.2.2.2.1)),(36,(zB y.2.2.2.2.2.2.2.1))]),(hp 3 [(oC [(zI y.2.2.2.2.2.2.2.2.1),(zI y.2.2.2.2.2.2.2.2.2.1),(zI y.2.2.2.2.2.2.2.2.2.2.1),(zI y.2.2.2.2.2.2.2.2.2.2.2.1)]),(oC [(zI y.2.2.2.2.2.2.2.2.2.2.2.2.1),(zI y.2.2.2.2.2.2.2.2.2.2.2.2.2.1),(zI y.2.2.2.2.2.2.2.2.2.2.2.2.2.2.1),(zI y.2.2.2.2.2.2.2.2.2.2.2.2.2.2.2.1),(zU y.2.2.2.2.2.2.2.2.2.2.2.2.2.2.2.2.1),(zU y.2.2.2.2.2.2.2.2.2.2.2.2.2.2.2.2.2.1),(zU y.2.2.2.2.2.2.2.2.2.2.2.2.2.2.2.2.2.2.1)]),(oC [(zI y.2.2.2.2.2.2.2.2.2.2.2.2.2.2.2.2.2.2.2.1),(zI y.2.2.2.2.2.2.2.2.2.2.2.2.2.2.2.2.2.2.2.2.1),(zB y.2.2.2.2.2.2.2.2.2.2.2.2.2.2.2.2.2.2.2.2.2)])]))) (fun y=>Sa pu n (PI pu n w0) y.1 y.2.1 y.2.2.1 y.2.2.2.1 y.2.2.2.2.1 y.2.2.2.2.2.1 y.2.2.2.2.2.2.1 y.2.2.2.2.2.2.2.1 y.2.2.2.2.2.2.2.2.1 y.2.2.2.2.2.2.2.2.2.1 y.2.2.2.2.2.2.2.2.2.2.1 y.2.2.2.2.2.2.2.2.2.2.2.1 y.2.2.2.2.2.2.2.2.2.2.2.2.1 y.2.2.2.2.2.2.2.2.2.2.2.2.2.1 y.2.2.2.2.2.2.2.2.2.2.2.2.2.2.1 y.2.2.2.2.2.2.2.2.2.2.2.2.2.2.2.1 y.2.2.2.2.2.2.2.2.2.2.2.2.2.2.2.2.1 y.2.2.2.2.2.2.2.2.2.2.2.2.2.2.2.2.2.1 y.2.2.2.2.2.2.2.2.2.2.2.2.2.2.2.2.2.2.1 y.2.2.2.2.2.2.2.2.2.2.2.2.2.2.2.2.2.2.2.1 y.2.2.2.2.2.2.2.2.2.2.2.2.2.2.2.2.2.2.2.2.1 y.2.2.2.2.2.2.2.2.2.2.2.2.2.2.2.2.2.2.2.2.2) ?_ ?_))
    ·rintro⟨z23,z24,z25,z26,s2,z27,z28,b1,z29,z30,z31,z32,z33,z34,z35,z36,z37,z38,z39,z40,z41,b2⟩ hm
     unfold Sa at hm
     replace hm:=Ag hm;rcases hm with⟨h10,hm⟩ | ⟨h10,hm⟩
     ·refine .ifT b1 (by kernel_rfl) h10 ?_
      refine .then (.rK (.ghs (fr 107 [(4,(zI (5:Int)))]) (hp 0 []) (.k0 [] [] [4]) ?_))
      refine .ret ?_
      exact Ay (zI (5:Int)) hm
     ·refine .ifF b1 (by kernel_rfl) h10 ?_
      refine .join (v:=v) (fun y:Int×Int×Sl×Int×Int×Bool×Int×Int×Int×Int×Int×Int×Int×Int×Int×Int×Int×Int×Int×Bool=>((fr 107 [(2,(pt 0 0)),(5,pt 1 0),(7,(zU y.1)),(8,(zI y.2.1)),(10,(pt 2 0)),(23,(Sl.v 3 y.2.2.1)),(24,(zI y.2.2.2.1)),(25,(zI y.2.2.2.2.1)),(46,(zB y.2.2.2.2.2.1))]),(hp 3 [(oC [(zI y.2.2.2.2.2.2.1),(zI y.2.2.2.2.2.2.2.1),(zI y.2.2.2.2.2.2.2.2.1),(zI y.2.2.2.2.2.2.2.2.2.1)]),(oC [(zI y.2.2.2.2.2.2.2.2.2.2.1),(zI y.2.2.2.2.2.2.2.2.2.2.2.1),(zI y.2.2.2.2.2.2.2.2.2.2.2.2.1),(zI y.2.2.2.2.2.2.2.2.2.2.2.2.2.1),(zU y.2.2.2.2.2.2.2.2.2.2.2.2.2.2.1),(zU y.2.2.2.2.2.2.2.2.2.2.2.2.2.2.2.1),(zU y.2.2.2.2.2.2.2.2.2.2.2.2.2.2.2.2.1)]),(oC [(zI y.2.2.2.2.2.2.2.2.2.2.2.2.2.2.2.2.2.1),(zI y.2.2.2.2.2.2.2.2.2.2.2.2.2.2.2.2.2.2.1),(zB y.2.2.2.2.2.2.2.2.2.2.2.2.2.2.2.2.2.2.2)])]))) (fun y=>MR pu n (PI pu n w0) y.1 y.2.1 y.2.2.1 y.2.2.2.1 y.2.2.2.2.1 y.2.2.2.2.2.1 y.2.2.2.2.2.2.1 y.2.2.2.2.2.2.2.1 y.2.2.2.2.2.2.2.2.1 y.2.2.2.2.2.2.2.2.2.1 y.2.2.2.2.2.2.2.2.2.2.1 y.2.2.2.2.2.2.2.2.2.2.2.1 y.2.2.2.2.2.2.2.2.2.2.2.2.1 y.2.2.2.2.2.2.2.2.2.2.2.2.2.1 y.2.2.2.2.2.2.2.2.2.2.2.2.2.2.1 y.2.2.2.2.2.2.2.2.2.2.2.2.2.2.2.1 y.2.2.2.2.2.2.2.2.2.2.2.2.2.2.2.2.1 y.2.2.2.2.2.2.2.2.2.2.2.2.2.2.2.2.2.1 y.2.2.2.2.2.2.2.2.2.2.2.2.2.2.2.2.2.2.1 y.2.2.2.2.2.2.2.2.2.2.2.2.2.2.2.2.2.2.2) ?_ ?_
      ·rintro⟨z42,z43,s3,z44,z45,b3,z46,z47,z48,z49,z50,z51,z52,z53,z54,z55,z56,z57,z58,b6⟩ hm
       unfold MR at hm
       replace hm:=Ag hm;rcases hm with⟨h11,hm⟩ | ⟨h11,hm⟩
       ·refine .ifT b3 (by kernel_rfl) h11 ?_
        refine .then (.rK (.ghs (fr 107 [(4,(zI (1:Int)))]) (hp 0 []) (.k0 [] [] [4]) ?_))
        refine .ret ?_
        exact Ay (zI (1:Int)) hm
       ·refine .ifF b3 (by kernel_rfl) h11 ?_
        refine .then (.rK (.ghs (fr 107 [(2,(pt 0 0)),(5,pt 1 0),(7,(zU z42)),(10,(pt 2 0)),(23,(Sl.v 3 s3)),(24,zI z44),(25,zI z45),(73,(zB (nt (AY z43 (Aj .i64 (Int.add (Aj .i64 (Int.mul z57 z47)) z58))))))]) (hp 3 [(oC [zI z46,zI z47,zI z48,zI z49]),(oC [zI z50,zI z51,zI z52,zI z53,(zU z54),(zU z55),(zU z56)]),(oC [zI z57,zI z58,zB b6])]) (.k0 [] [.tmp 2 false,.tmp 5 false,.tmp 10 false] [2,5,7,10,23,24,25,73]) ?_))
        replace hm:=Ag hm;rcases hm with⟨h12,hm⟩ | ⟨h12,hm⟩
        ·refine A7 (nt (AY z43 (Aj .i64 (Int.add (Aj .i64 (Int.mul z57 z47)) z58)))) h12 ?_
         refine .then (.rK (.ghs (fr 107 [(4,(zI (7:Int)))]) (hp 0 []) (.k0 [] [] [4]) ?_))
         refine .ret ?_
         exact Ay (zI (7:Int)) hm
        ·refine Bp (nt (AY z43 (Aj .i64 (Int.add (Aj .i64 (Int.mul z57 z47)) z58)))) h12 ?_
         refine .skip (.ghs (fr 107 [(2,(pt 0 0)),(5,pt 1 0),(7,(zU z42)),(10,(pt 2 0)),(23,(Sl.v 3 s3)),(24,zI z44),(25,zI z45)]) (hp 3 [(oC [zI z46,zI z47,zI z48,zI z49]),(oC [zI z50,zI z51,zI z52,zI z53,(zU z54),(zU z55),(zU z56)]),(oC [zI z57,zI z58,zB b6])]) (.k0 [] [.tmp 2 false,.tmp 5 false,.tmp 10 false] [2,5,7,10,23,24,25]) ?_)
         refine .then (.rK (.ghs (fr 107 [(2,(pt 0 0)),(5,pt 1 0),(7,(zU z42)),(8,(zI (Aj .i64 (Int.add (Aj .i64 (Int.mul z57 z47)) z58)))),(10,(pt 2 0)),(23,(Sl.v 3 s3)),(24,zI z44),(25,zI z45)]) (hp 3 [(oC [zI z46,zI z47,zI z48,zI z49]),(oC [zI z50,zI z51,zI z52,zI z53,(zU z54),(zU z55),(zU z56)]),(oC [zI z57,zI z58,zB b6])]) (.k0 [] [.tmp 2 false,.tmp 5 false,.tmp 10 false] [2,5,7,8,10,23,24,25]) ?_))
         refine .then ?_
         replace hm:=Ab hm;obtain⟨v17,h13,hm⟩:=hm
         replace hm:=Ch hm;obtain⟨l4,rfl,hm⟩:=hm
         replace hm:=Ad hm;obtain⟨v18,l9115_0,rfl,hm⟩:=hm
         replace hm:=Ad hm;obtain⟨v19,l9115_1,rfl,hm⟩:=hm
         replace hm:=AC hm;obtain⟨rfl,hm⟩:=hm
         replace hm:=Ai hm;obtain⟨x16,rfl,hm⟩:=hm
         replace hm:=Be hm;obtain⟨b7,rfl,hm⟩:=hm
         refine .reg (eC 3 ((oo (pu 39 [(.agg ⟨[zI z50,zI z51,zI z52,zI z53,(zU z54),(zU z55),(zU z56)]⟩),(zU z42),(.agg ⟨[zI z57,zI z58,zB b6]⟩)]) none fun v=>some (v,(hp 3 [(oC [zI z46,zI z47,zI z48,zI z49]),(oC [zI z50,zI z51,zI z52,zI z53,(zU z54),(zU z55),(zU z56)]),(oC [zI z57,zI z58,zB b6])])))) (AB h13) (eE)) ?_
         refine .ghs (fr 107 [(2,(pt 0 0)),(5,pt 1 0),(8,(zI (Aj .i64 (Int.add (Aj .i64 (Int.mul z57 z47)) z58)))),(13,(zU x16)),(14,zB b7),(23,(Sl.v 3 s3)),(24,zI z44),(25,zI z45)]) (hp 2 [(oC [zI z46,zI z47,zI z48,zI z49]),(oC [zI z50,zI z51,zI z52,zI z53,(zU z54),(zU z55),(zU z56)])]) (.k0 [] [.tmp 2 false,.tmp 5 false] [2,5,8,13,14,23,24,25]) ?_
         refine .then (.then (.rK (.ghs (fr 107 [(2,(pt 0 0)),(5,pt 1 0),(8,(zI (Aj .i64 (Int.add (Aj .i64 (Int.mul z57 z47)) z58)))),(13,(zU x16)),(23,(Sl.v 3 s3)),(24,zI z44),(25,zI z45),(100,(zB (nt b7)))]) (hp 2 [(oC [zI z46,zI z47,zI z48,zI z49]),(oC [zI z50,zI z51,zI z52,zI z53,(zU z54),(zU z55),(zU z56)])]) (.k0 [] [.tmp 2 false,.tmp 5 false] [2,5,8,13,23,24,25,100]) ?_)))
         replace hm:=Ag hm;rcases hm with⟨h14,hm⟩ | ⟨h14,hm⟩
         ·refine A7 (nt b7) h14 ?_
          refine .then (.rK (.ghs (fr 107 [(4,(zI (13:Int)))]) (hp 0 []) (.k0 [] [] [4]) ?_))
          refine .ret ?_
          exact Ay (zI (13:Int)) hm
         ·refine Bp (nt b7) h14 ?_
          refine .skip (.ghs (fr 107 [(2,(pt 0 0)),(5,pt 1 0),(8,(zI (Aj .i64 (Int.add (Aj .i64 (Int.mul z57 z47)) z58)))),(13,(zU x16)),(23,(Sl.v 3 s3)),(24,zI z44),(25,zI z45)]) (hp 2 [(oC [zI z46,zI z47,zI z48,zI z49]),(oC [zI z50,zI z51,zI z52,zI z53,(zU z54),(zU z55),(zU z56)])]) (.k0 [] [.tmp 2 false,.tmp 5 false] [2,5,8,13,23,24,25]) ?_)
          refine .rK (.ghs (fr 107 [(2,(pt 0 0)),(5,pt 1 0),(7,(zU x16)),(8,(zI (Aj .i64 (Int.add (Aj .i64 (Int.mul z57 z47)) z58)))),(23,(Sl.v 3 s3)),(24,zI z44),(25,zI z45)]) (hp 2 [(oC [zI z46,zI z47,zI z48,zI z49]),(oC [zI z50,zI z51,zI z52,zI z53,(zU z54),(zU z55),(zU z56)])]) (.k0 [] [.tmp 2 false,.tmp 5 false] [2,5,7,8,23,24,25]) ?_)
          refine .rK ?_
          exact⟨(x16,(Aj .i64 (Int.add (Aj .i64 (Int.mul z57 z47)) z58)),s3,z44,(Aj .i64 (Int.add z45 (1:Int))),z46,z47,z48,z49,z50,z51,z52,z53,z54,z55,z56),hm,(.k0 [] [.tmp 2 false,.tmp 5 false] [2,5,7,8,23,24,25])⟩
      ·replace hm:=Ag hm;rcases hm with⟨h15,hm⟩ | ⟨h15,hm⟩
       ·refine .reg (eC 2 (some ((zB (AY z40 (0:Int))),(hp 3 [(oC [zI z29,zI z30,zI z31,zI z32]),(oC [zI z33,zI z34,zI z35,zI z36,(zU z37),(zU z38),(zU z39)]),(oC [zI z40,zI z41,zB b2])]))) (show _=some ((zB true),_) from (by rw[show (AY z40 (0:Int))=true from h15])) (eE)) ?_
        exact⟨(z23,z24,s2,z27,z28,true,z29,z30,z31,z32,z33,z34,z35,z36,z37,z38,z39,z40,z41,b2),hm,(.k0 [] [.tmp 2 false,.tmp 5 false,.tmp 10 false] [2,5,7,8,10,23,24,25,46])⟩
       ·replace hm:=Ag hm;rcases hm with⟨h16,hm⟩ | ⟨h16,hm⟩
        ·refine .reg (eC 2 (some ((zB (AY z40 (0:Int))),(hp 3 [(oC [zI z29,zI z30,zI z31,zI z32]),(oC [zI z33,zI z34,zI z35,zI z36,(zU z37),(zU z38),(zU z39)]),(oC [zI z40,zI z41,zB b2])]))) (show _=some ((zB false),_) from (by rw[show (AY z40 (0:Int))=false from h15])) (eC 3 (some ((zB (AY z41 (0:Int))),(hp 3 [(oC [zI z29,zI z30,zI z31,zI z32]),(oC [zI z33,zI z34,zI z35,zI z36,(zU z37),(zU z38),(zU z39)]),(oC [zI z40,zI z41,zB b2])]))) (show _=some ((zB true),_) from (by rw[show (AY z41 (0:Int))=true from h16])) (eE))) ?_
         exact⟨(z23,z24,s2,z27,z28,true,z29,z30,z31,z32,z33,z34,z35,z36,z37,z38,z39,z40,z41,b2),hm,(.k0 [] [.tmp 2 false,.tmp 5 false,.tmp 10 false] [2,5,7,8,10,23,24,25,46])⟩
        ·replace hm:=Ag hm;rcases hm with⟨h17,hm⟩ | ⟨h17,hm⟩
         ·refine .reg (eC 2 (some ((zB (AY z40 (0:Int))),(hp 3 [(oC [zI z29,zI z30,zI z31,zI z32]),(oC [zI z33,zI z34,zI z35,zI z36,(zU z37),(zU z38),(zU z39)]),(oC [zI z40,zI z41,zB b2])]))) (show _=some ((zB false),_) from (by rw[show (AY z40 (0:Int))=false from h15])) (eC 3 (some ((zB (AY z41 (0:Int))),(hp 3 [(oC [zI z29,zI z30,zI z31,zI z32]),(oC [zI z33,zI z34,zI z35,zI z36,(zU z37),(zU z38),(zU z39)]),(oC [zI z40,zI z41,zB b2])]))) (show _=some ((zB false),_) from (by rw[show (AY z41 (0:Int))=false from h16])) (eC 8 (some ((zB (AY (Aj .i64 (Int.sub z29 z25)) z40)),(hp 3 [(oC [zI z29,zI z30,zI z31,zI z32]),(oC [zI z33,zI z34,zI z35,zI z36,(zU z37),(zU z38),(zU z39)]),(oC [zI z40,zI z41,zB b2])]))) (show _=some ((zB true),_) from (by rw[show (AY (Aj .i64 (Int.sub z29 z25)) z40)=true from h17])) (eE)))) ?_
          exact⟨(z23,z24,s2,z27,z28,true,z29,z30,z31,z32,z33,z34,z35,z36,z37,z38,z39,z40,z41,b2),hm,(.k0 [] [.tmp 2 false,.tmp 5 false,.tmp 10 false] [2,5,7,8,10,23,24,25,46])⟩
         ·refine .reg (eC 2 (some ((zB (AY z40 (0:Int))),(hp 3 [(oC [zI z29,zI z30,zI z31,zI z32]),(oC [zI z33,zI z34,zI z35,zI z36,(zU z37),(zU z38),(zU z39)]),(oC [zI z40,zI z41,zB b2])]))) (show _=some ((zB false),_) from (by rw[show (AY z40 (0:Int))=false from h15])) (eC 3 (some ((zB (AY z41 (0:Int))),(hp 3 [(oC [zI z29,zI z30,zI z31,zI z32]),(oC [zI z33,zI z34,zI z35,zI z36,(zU z37),(zU z38),(zU z39)]),(oC [zI z40,zI z41,zB b2])]))) (show _=some ((zB false),_) from (by rw[show (AY z41 (0:Int))=false from h16])) (eC 8 (some ((zB (AY (Aj .i64 (Int.sub z29 z25)) z40)),(hp 3 [(oC [zI z29,zI z30,zI z31,zI z32]),(oC [zI z33,zI z34,zI z35,zI z36,(zU z37),(zU z38),(zU z39)]),(oC [zI z40,zI z41,zB b2])]))) (show _=some ((zB false),_) from (by rw[show (AY (Aj .i64 (Int.sub z29 z25)) z40)=false from h17])) (eE)))) ?_
          exact⟨(z23,z24,s2,z27,z28,(AY (Aj .i64 (Int.sub z30 z26)) z41),z29,z30,z31,z32,z33,z34,z35,z36,z37,z38,z39,z40,z41,b2),hm,(.k0 [] [.tmp 2 false,.tmp 5 false,.tmp 10 false] [2,5,7,8,10,23,24,25,46])⟩
    ·replace hm:=Ag hm;rcases hm with⟨h18,hm⟩ | ⟨h18,hm⟩
     ·refine .reg (eC 1 (some ((zB b0),(hp 3 [(oC [zI z12,zI z13,zI z14,zI z15]),(oC [zI z16,zI z17,zI z18,zI z19,(zU z20),(zU z21),(zU z22)]),(oC [zI x12,zI x13,zB b0])]))) (show _=some ((zB true),_) from (congrArg (fun bz=>some ((zB bz),(hp 3 [(oC [zI z12,zI z13,zI z14,zI z15]),(oC [zI z16,zI z17,zI z18,zI z19,(zU z20),(zU z21),(zU z22)]),(oC [zI x12,zI x13,zB b0])]))) (show b0=true from h18))) (eE)) ?_
      exact⟨(z8,z9,x14,x15,s1,z10,(Int.ofNat k1),(Bd z14 z15),z12,z13,z14,z15,z16,z17,z18,z19,z20,z21,z22,x12,x13,b0),hm,(.k0 [] [.tmp 2 false,.tmp 5 false,.tmp 10 false] [2,5,7,8,10,11,12,23,24,25,36])⟩
     ·refine .reg (eC 1 (some ((zB b0),(hp 3 [(oC [zI z12,zI z13,zI z14,zI z15]),(oC [zI z16,zI z17,zI z18,zI z19,(zU z20),(zU z21),(zU z22)]),(oC [zI x12,zI x13,zB b0])]))) (show _=some ((zB false),_) from (congrArg (fun bz=>some ((zB bz),(hp 3 [(oC [zI z12,zI z13,zI z14,zI z15]),(oC [zI z16,zI z17,zI z18,zI z19,(zU z20),(zU z21),(zU z22)]),(oC [zI x12,zI x13,zB b0])]))) (show b0=false from h18))) (eE)) ?_
      exact⟨(z8,z9,x14,x15,s1,z10,(Int.ofNat k1),false,z12,z13,z14,z15,z16,z17,z18,z19,z20,z21,z22,x12,x13,b0),hm,(.k0 [] [.tmp 2 false,.tmp 5 false,.tmp 10 false] [2,5,7,8,10,11,12,23,24,25,36])⟩
   ·refine Bp (AY z11 z10) h2 ?_
    refine .exit ?_
    exact⟨(z8,z16,z17,z18,z19,z20,z21,z22),hm,(.k0 [] [.tmp 5 false] [5,7])⟩
def Sb (pu:Af) (n:Nat):OV:=
 (some (.bool true))
def Ww (pu:Af) (n:Nat) (ih0:Sl→Sl→Int→Int→OV) (s0 s1:Sl) (z0 z1:Int):OV:=
 (bb (AY z1 z0) (oo (EA z1) none fun k1=>(bb (an (Nat.blt k1 (Sl.n s0)) true) (oo (AL (Sl.cs s0) (k1*1)) none fun v0=>(oo (Bi .i64 v0) none fun x0=>(bb (an (Nat.blt k1 (Sl.n s1)) true) (oo (AL (Sl.cs s1) (k1*1)) none fun v1=>(oo (Bi .i64 v1) none fun x1=>(bb (nt (Bd x0 x1)) (some (.bool false)) (ih0 s0 s1 z0 (Aj .i64 (Int.add (Int.ofNat k1) (1:Int))))))) none))) none)) (Sb pu n))
def Wx (pu:Af) (n w:Nat):Sl→Sl→Int→Int→OV:=
 Nat.rec (motive:=fun _=>Sl→Sl→Int→Int→OV) (fun _ _ _ _=>none) (fun _ ih0=>Ww pu n ih0) w
def Aee (pu:Af) (n:Nat) (s0 s1:Sl):OV:=
 (bb (nt (Bd (Int.ofNat (Sl.n s0)) (Int.ofNat (Sl.n s1)))) (some (.bool false)) (Wx pu n n s0 s1 (Int.ofNat (Sl.n s0)) (0:Int)))
def m17 (pu:Af) (n:Nat) (args:LV):OV:=
 (ll args none fun a0 args=>(ll args none fun a1 args=>(ll args (oo (Bj 1 a0) none fun s0=>(oo (Bj 1 a1) none fun s1=>(Aee pu n s0 s1))) fun _ _=>none)))
theorem Aef (pu:Af) (n:Nat) {v:Value} (hm:Sb pu n=some v):BN tt (Bb tabs isP pu (inl pu)) 0 UF (fr 26 []) (hp 0 []) (Fin tt 0 [.tmp 4] v):=by
 unfold Sb at hm
 refine .then (.rK (.ghs (fr 26 [(4,zB true)]) (hp 0 []) (.k0 [] [] [4]) ?_))
 refine .ret ?_
 exact Ay (zB true) hm
theorem r17 {call:A8} (pu:Af) (n:Nat) (hcall:call=Bb tabs isP pu (inl pu)) {args:LV} {v:Value} (hm:m17 pu n args=some v) (_:∀ x∈args,closed2 x=true):args.length≤26∧BN tt call 0 Ow (Fr.made 26 args) (Ao tabs) (Fin tt 0 [.tmp 4] v):=by
 subst hcall
 unfold m17 at hm
 replace hm:=Ad hm;obtain⟨a0,args_0,rfl,hm⟩:=hm
 replace hm:=Ad hm;obtain⟨a1,args_1,rfl,hm⟩:=hm
 replace hm:=AC hm;obtain⟨rfl,hm⟩:=hm
 replace hm:=Al hm;obtain⟨s0,rfl,hm⟩:=hm
 replace hm:=Al hm;obtain⟨s1,rfl,hm⟩:=hm
 unfold Aee at hm
 refine⟨by simp,?_⟩
 refine .same (F':=(fr 26 [(0,Sl.v 1 s0),(1,Sl.v 1 s1)])) (H':=(hp 0 [])) (by kernel_rfl) (by kernel_rfl) ?_
 refine .then (.rK (.ghs (fr 26 [(0,Sl.v 1 s0),(1,Sl.v 1 s1)]) (hp 0 []) (.k0 [] [] [0,1]) ?_))
 refine .then (.then (.rK (.ghs (fr 26 [(0,Sl.v 1 s0),(1,Sl.v 1 s1),(10,(zB (nt (Bd (Int.ofNat (Sl.n s0)) (Int.ofNat (Sl.n s1))))))]) (hp 0 []) (.k0 [] [] [0,1,10]) ?_)))
 replace hm:=Ag hm;rcases hm with⟨h0,hm⟩ | ⟨h0,hm⟩
 ·refine A7 (nt (Bd (Int.ofNat (Sl.n s0)) (Int.ofNat (Sl.n s1)))) h0 ?_
  refine .then (.rK (.ghs (fr 26 [(4,zB false)]) (hp 0 []) (.k0 [] [] [4]) ?_))
  refine .ret ?_
  exact Ay (zB false) hm
 ·refine Bp (nt (Bd (Int.ofNat (Sl.n s0)) (Int.ofNat (Sl.n s1)))) h0 ?_
  refine .skip (.ghs (fr 26 [(0,Sl.v 1 s0),(1,Sl.v 1 s1)]) (hp 0 []) (.k0 [] [] [0,1]) ?_)
  refine .join (v:=v) (fun y:Unit=>((fr 26 []),(hp 0 []))) (fun y=>Sb pu n) ?_ ?_
  ·rintro _ hm
   exact Aef pu n hm
  ·refine .then (.rK (.ghs (fr 26 [(0,Sl.v 1 s0),(1,Sl.v 1 s1),(12,(zI (Int.ofNat (Sl.n s0)))),(13,(zI (0:Int)))]) (hp 0 []) (.k0 [] [] [0,1,12,13]) ?_))
   refine .block (.loopM (v:=v) (fun y:Sl×Sl×Int×Int=>((fr 26 [(0,(Sl.v 1 y.1)),(1,(Sl.v 1 y.2.1)),(12,(zI y.2.2.1)),(13,(zI y.2.2.2))]),(hp 0 []))) (fun w y=>Wx pu n w y.1 y.2.1 y.2.2.1 y.2.2.2) n ⟨(s0,s1,(Int.ofNat (Sl.n s0)),(0:Int)),hm,(.k0 [] [] [0,1,12,13])⟩ (fun _=>rfl) ?_)
   rintro w0 ⟨s2,s3,z0,z1⟩ hm
   replace hm:Ww pu n (Wx pu n w0) s2 s3 z0 z1=some v:=hm
   unfold Ww at hm
   refine .then (.rK (.ghs (fr 26 [(0,Sl.v 1 s2),(1,Sl.v 1 s3),(12,zI z0),(13,zI z1),(14,(zB (AY z1 z0)))]) (hp 0 []) (.k0 [] [] [0,1,12,13,14]) ?_))
   refine .then ?_
   replace hm:=Ag hm;rcases hm with⟨h1,hm⟩ | ⟨h1,hm⟩
   ·refine A7 (AY z1 z0) h1 ?_
    refine .skip (.ghs (fr 26 [(0,Sl.v 1 s2),(1,Sl.v 1 s3),(12,zI z0),(13,zI z1)]) (hp 0 []) (.k0 [] [] [0,1,12,13]) ?_)
    refine .then (.block (.then (.rK (.ghs (fr 26 [(0,Sl.v 1 s2),(1,Sl.v 1 s3),(5,zI z1),(12,zI z0),(13,zI z1)]) (hp 0 []) (.k0 [] [] [0,1,5,12,13]) ?_))))
    refine .then ?_
    replace hm:=Ab hm;obtain⟨k1,h2,hm⟩:=hm
    obtain rfl:=AR h2
    replace hm:=Ae hm;obtain⟨h3,hm⟩:=hm
    replace hm:=Dn hm;obtain⟨x0,h4,hm⟩:=hm
    replace hm:=Ae hm;obtain⟨h5,hm⟩:=hm
    replace hm:=Dn hm;obtain⟨x1,h6,hm⟩:=hm
    refine .reg (eC 2 (keep (hp 0 []) (bb (an (Nat.blt k1 (Sl.n s2)) true) (some (Cv (k1*1) (Sl.cs s2))) none)) (AX h3) (eD (keep (hp 0 []) (AL (Sl.cs s2) (k1*1))) (AZ h4) (eC 2 (keep (hp 0 []) (bb (an (Nat.blt k1 (Sl.n s3)) true) (some (Cv (k1*1) (Sl.cs s3))) none)) (AX h5) (eD (keep (hp 0 []) (AL (Sl.cs s3) (k1*1))) (AZ h6) (eE))))) ?_
    refine .ghs (fr 26 [(0,Sl.v 1 s2),(1,Sl.v 1 s3),(12,zI z0),(13,(zI (Int.ofNat k1))),(24,(zB (nt (Bd x0 x1))))]) (hp 0 []) (.k0 [] [] [0,1,12,13,24]) ?_
    replace hm:=Ag hm;rcases hm with⟨h7,hm⟩ | ⟨h7,hm⟩
    ·refine A7 (nt (Bd x0 x1)) h7 ?_
     refine .then (.rK (.ghs (fr 26 [(4,zB false)]) (hp 0 []) (.k0 [] [] [4]) ?_))
     refine .ret ?_
     exact Ay (zB false) hm
    ·refine Bp (nt (Bd x0 x1)) h7 ?_
     refine .skip (.ghs (fr 26 [(0,Sl.v 1 s2),(1,Sl.v 1 s3),(12,zI z0),(13,(zI (Int.ofNat k1)))]) (hp 0 []) (.k0 [] [] [0,1,12,13]) ?_)
     refine .rK ?_
     exact⟨(s2,s3,z0,(Aj .i64 (Int.add (Int.ofNat k1) (1:Int)))),hm,(.k0 [] [] [0,1,12,13])⟩
   ·refine Bp (AY z1 z0) h1 ?_
    refine .exit ?_
    exact⟨(),hm,(.k0 [] [] [])⟩

def Aeg (pu:Af) (n:Nat) (x0 x1 x2 x3:Int) (s0:Sl):OV:=
 (oo (pu 16 [(.agg ⟨[.int .i64 x0,.int .i64 x1,.int .i64 x2,.int .i64 x3]⟩),(Sl.v 3 s0)]) none fun v0=>(oo (Bi .i64 v0) none fun x4=>(bb (nt (Bd x4 (0:Int))) (some (.tuple ⟨[(Sl.v 1 (Sl.mk 0 2 [])),(Sl.v 1 (Sl.mk 0 2 [])),.int .i64 x4]⟩)) (oo (pu 40 [(.agg ⟨[.int .i64 x0,.int .i64 x1,.int .i64 x2,.int .i64 x3]⟩),(Sl.v 3 s0)]) none fun v1=>(oo (CQ v1) none fun l0=>(ll l0 none fun v2 l0=>(ll l0 none fun v3 l0=>(ll l0 (oo (Bi .u8 v2) none fun x5=>(oo (Bi .u8 v3) none fun x6=>(oo (pu 41 [.int .u8 x5]) none fun v4=>(oo (Bj 1 v4) none fun s1=>(oo (pu 41 [.int .u8 x6]) none fun v5=>(oo (Bj 1 v5) none fun s2=>(some (.tuple ⟨[Sl.v 1 s1,Sl.v 1 s2,(.int .i64 (0:Int))]⟩)))))))) fun _ _=>none))))))))
def m18 (pu:Af) (n:Nat) (args:LV):OV:=
 (ll args none fun a0 args=>(ll args none fun a1 args=>(ll args (oo (Bt a0) none fun l0=>(ll l0 none fun v0 l0=>(ll l0 none fun v1 l0=>(ll l0 none fun v2 l0=>(ll l0 none fun v3 l0=>(ll l0 (oo (Bi .i64 v0) none fun x0=>(oo (Bi .i64 v1) none fun x1=>(oo (Bi .i64 v2) none fun x2=>(oo (Bi .i64 v3) none fun x3=>(oo (Bj 3 a1) none fun s0=>(Aeg pu n x0 x1 x2 x3 s0)))))) fun _ _=>none)))))) fun _ _=>none)))
theorem r18 {call:A8} (pu:Af) (n:Nat) (hcall:call=Bb tabs isP pu (inl pu)) {args:LV} {v:Value} (hm:m18 pu n args=some v) (_:∀ x∈args,closed2 x=true):args.length≤26∧BN tt call 0 Oy (Fr.made 26 args) (Ao tabs) (Fin tt 0 [.tmp 4,.tmp 5,.tmp 6] v):=by
 subst hcall
 unfold m18 at hm
 replace hm:=Ad hm;obtain⟨a0,args_0,rfl,hm⟩:=hm
 replace hm:=Ad hm;obtain⟨a1,args_1,rfl,hm⟩:=hm
 replace hm:=AC hm;obtain⟨rfl,hm⟩:=hm
 replace hm:=BG hm;obtain⟨l0,rfl,hm⟩:=hm
 replace hm:=Ad hm;obtain⟨v0,l9227_0,rfl,hm⟩:=hm
 replace hm:=Ad hm;obtain⟨v1,l9227_1,rfl,hm⟩:=hm
 replace hm:=Ad hm;obtain⟨v2,l9227_2,rfl,hm⟩:=hm
 replace hm:=Ad hm;obtain⟨v3,l9227_3,rfl,hm⟩:=hm
 replace hm:=AC hm;obtain⟨rfl,hm⟩:=hm
 replace hm:=Ai hm;obtain⟨x0,rfl,hm⟩:=hm
 replace hm:=Ai hm;obtain⟨x1,rfl,hm⟩:=hm
 replace hm:=Ai hm;obtain⟨x2,rfl,hm⟩:=hm
 replace hm:=Ai hm;obtain⟨x3,rfl,hm⟩:=hm
 replace hm:=Al hm;obtain⟨s0,rfl,hm⟩:=hm
 unfold Aeg at hm
 refine⟨by simp,?_⟩
 refine .same (F':=(fr 26 [(0,(.agg ⟨[zI x0,zI x1,zI x2,zI x3]⟩)),(1,(Sl.v 3 s0))])) (H':=(hp 0 [])) (by kernel_rfl) (by kernel_rfl) ?_
 refine .then (.rK (.ghs (fr 26 [(1,(Sl.v 3 s0)),(2,(pt 0 0))]) (hp 1 [(oC [zI x0,zI x1,zI x2,zI x3])]) (.k0 [] [.tmp 2 false] [1,2]) ?_))
 refine .then (.then ?_)
 replace hm:=Dn hm;obtain⟨x4,h0,hm⟩:=hm
 refine .reg (eC 2 ((oo (pu 16 [(.agg ⟨[zI x0,zI x1,zI x2,zI x3]⟩),(Sl.v 3 s0)]) none fun v=>some (v,(hp 1 [(oC [zI x0,zI x1,zI x2,zI x3])])))) (AB h0) (eE)) ?_
 refine .ghs (fr 26 [(1,(Sl.v 3 s0)),(2,(pt 0 0)),(7,zI x4)]) (hp 1 [(oC [zI x0,zI x1,zI x2,zI x3])]) (.k0 [] [.tmp 2 false] [1,2,7]) ?_
 refine .then (.rK (.ghs (fr 26 [(1,(Sl.v 3 s0)),(2,(pt 0 0)),(7,zI x4),(14,(zB (nt (Bd x4 (0:Int)))))]) (hp 1 [(oC [zI x0,zI x1,zI x2,zI x3])]) (.k0 [] [.tmp 2 false] [1,2,7,14]) ?_))
 replace hm:=Ag hm;rcases hm with⟨h1,hm⟩ | ⟨h1,hm⟩
 ·refine A7 (nt (Bd x4 (0:Int))) h1 ?_
  refine .then (.rK (.ghs (fr 26 [(4,(.slice none 0 0)),(5,(.slice none 0 0)),(6,zI x4)]) (hp 0 []) (.k0 [] [] [4,5,6]) ?_))
  refine .ghs (Fr.puts (fr 26 [(4,(.slice none 0 0)),(5,(.slice none 0 0)),(6,zI x4)]) [(4,(Sl.v 1 (Sl.mk 0 2 []))),(5,(Sl.v 1 (Sl.mk 0 2 [])))]) (hp 0 []) (.freeze 0 4 1 (by kernel_rfl) (by kernel_rfl) (.freeze 0 5 1 (by kernel_rfl) (by kernel_rfl) (E9.id _ _))) ?_
  refine .ret ?_
  exact Ay (.tuple ⟨[(Sl.v 1 (Sl.mk 0 2 [])),(Sl.v 1 (Sl.mk 0 2 [])),zI x4]⟩) hm
 ·refine Bp (nt (Bd x4 (0:Int))) h1 ?_
  refine .skip (.ghs (fr 26 [(1,(Sl.v 3 s0)),(2,(pt 0 0))]) (hp 1 [(oC [zI x0,zI x1,zI x2,zI x3])]) (.k0 [] [.tmp 2 false] [1,2]) ?_)
  refine .then ?_
  replace hm:=Ab hm;obtain⟨v4,h2,hm⟩:=hm
  replace hm:=Ch hm;obtain⟨l1,rfl,hm⟩:=hm
  replace hm:=Ad hm;obtain⟨v5,l9264_0,rfl,hm⟩:=hm
  replace hm:=Ad hm;obtain⟨v6,l9264_1,rfl,hm⟩:=hm
  replace hm:=AC hm;obtain⟨rfl,hm⟩:=hm
  replace hm:=Ai hm;obtain⟨x5,rfl,hm⟩:=hm
  replace hm:=Ai hm;obtain⟨x6,rfl,hm⟩:=hm
  refine .reg (eC 2 ((oo (pu 40 [(.agg ⟨[zI x0,zI x1,zI x2,zI x3]⟩),(Sl.v 3 s0)]) none fun v=>some (v,(hp 1 [(oC [zI x0,zI x1,zI x2,zI x3])])))) (AB h2) (eE)) ?_
  refine .ghs (fr 26 [(8,(zY x5)),(9,(zY x6))]) (hp 0 []) (.k0 [] [] [8,9]) ?_
  refine .then ?_
  replace hm:=I9 hm;obtain⟨s1,h3,hm⟩:=hm
  replace hm:=I9 hm;obtain⟨s2,h4,hm⟩:=hm
  refine .reg (eC 1 ((oo (pu 41 [(zY x5)]) none fun v=>some (v,(hp 0 [])))) (AB h3) (eC 1 ((oo (pu 41 [(zY x6)]) none fun v=>some (v,(hp 0 [])))) (AB h4) (eE))) ?_
  refine .ghs (fr 26 [(4,Sl.v 1 s1),(5,Sl.v 1 s2),(6,(zI (0:Int)))]) (hp 0 []) (.k0 [] [] [4,5,6]) ?_
  refine .ret ?_
  exact Ay (.tuple ⟨[Sl.v 1 s1,Sl.v 1 s2,(zI (0:Int))]⟩) hm
end
end Go.TpMM
