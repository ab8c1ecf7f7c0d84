/- Made from wip. -/
import Derived.Test.YtflonlkiajhhjaaGreatDoorTpEMod0x

set_option maxRecDepth 100000
set_option maxHeartbeats 20000000
set_option linter.unusedVariables false
namespace Go.TpEM
open Go.Sp Go.TpE
noncomputable section
def QA (pu:Af) (n:Nat) (b0:Bool):OV:=
 (bb b0 (some (.int .i64 (1:Int))) (some (.int .i64 (0:Int))))
def uR (pu:Af) (n:Nat) (p0:Db) (s0:Sl):OV:=
 (oo (AL (Db.cs p0) (((Db.off p0)+0)+0)) none fun v0=>(oo (Bi .i64 v0) none fun x0=>(oo (AL (Db.cs p0) (((Db.off p0)+0)+1)) none fun v1=>(oo (Bi .i64 v1) none fun x1=>(bb (nt (Bd (Int.ofNat (Sl.n s0)) (Aj .i64 (Int.mul x0 x1)))) (some (.int .i64 (5:Int))) (oo (pu 168 [Sl.v 1 s0]) none fun v2=>(oo (Bi .i64 v2) none fun x2=>(bb (AY x2 (0:Int)) (QA pu n true) (oo (AL (Db.cs p0) (((Db.off p0)+0)+2)) none fun v3=>(oo (Bi .i64 v3) none fun x3=>(oo (pu 46 [Sl.v 1 s0]) none fun v4=>(oo (Bi .i64 v4) none fun x4=>(QA pu n (nt (AY x4 x3)))))))))))))))
def rJ (pu:Af) (n:Nat) (args:LV):OV:=
 (ll args none fun a0 args=>(ll args none fun a1 args=>(ll args (oo (Pv a0) none fun p0=>(oo (Bj 1 a1) none fun s0=>(uR pu n p0 s0))) fun _ _=>none)))
theorem AjH {call:A8} (pu:Af) (n:Nat) (hcall:call=Bb tabs isP pu (inl pu)) {args:LV} {v:Value} (hm:rJ pu n args=some v) (_:∀ x∈args,closed2 x=true):args.length≤34∧BN tt call 2 K7 (Fr.made 34 args) (Ao tabs) (Fin tt 2 [.tmp 4] v):=by
 subst hcall
 unfold rJ at hm
 replace hm:=Ad hm;obtain⟨a0,args_0,rfl,hm⟩:=hm
 replace hm:=Ad hm;obtain⟨a1,args_1,rfl,hm⟩:=hm
 replace hm:=AC hm;obtain⟨rfl,hm⟩:=hm
 replace hm:=Ab hm;obtain⟨p0,h0,hm⟩:=hm
 obtain rfl:=F7 h0
 replace hm:=Al hm;obtain⟨s0,rfl,hm⟩:=hm
 unfold uR at hm
 refine⟨by simp,?_⟩
 refine .same (F':=(fr 34 [(0,(Cv (Db.off p0) (Db.cs p0))),(1,Sl.v 1 s0)])) (H':=(hT 2 [(.cells Ay true false [])])) (by kernel_rfl) (by kernel_rfl) ?_
 refine .then (.rK (.ghs (fr 34 [(0,(Cv (Db.off p0) (Db.cs p0))),(1,Sl.v 1 s0)]) (hT 2 [(.cells Ay true false [])]) (.k0 [false,false] [] [0,1]) ?_))
 refine .then (.block (.then ?_))
 replace hm:=Gs hm;obtain⟨x0,h1,hm⟩:=hm
 replace hm:=Gs hm;obtain⟨x1,h2,hm⟩:=hm
 refine .reg (eC 6 (keep (hT 2 [(.cells Ay true false [])]) (AL (Db.cs p0) (((Db.off p0)+0)+0))) (AZ h1) (eC 4 (keep (hT 2 [(.cells Ay true false [])]) (AL (Db.cs p0) (((Db.off p0)+0)+1))) (AZ h2) (eE))) ?_
 refine .ghs (fr 34 [(0,(Cv (Db.off p0) (Db.cs p0))),(1,Sl.v 1 s0),(5,(zB (nt (Bd (Int.ofNat (Sl.n s0)) (Aj .i64 (Int.mul x0 x1))))))]) (hT 2 [(.cells Ay true false [])]) (.k0 [false,false] [] [0,1,5]) ?_
 replace hm:=Ag hm;rcases hm with⟨h3,hm⟩ | ⟨h3,hm⟩
 ·refine BB (nt (Bd (Int.ofNat (Sl.n s0)) (Aj .i64 (Int.mul x0 x1)))) h3 ?_
  refine .then (.rK (.ghs (fr 34 [(4,(zI (5:Int)))]) (hT 2 [(.cells Ay true false [])]) (.k0 [false,false] [] [4]) ?_))
  refine .ret ?_
  exact AO (zI (5:Int)) hm
 ·refine BI (nt (Bd (Int.ofNat (Sl.n s0)) (Aj .i64 (Int.mul x0 x1)))) h3 ?_
  refine .join (v:=v) (fun y:Bool=>((fr 34 [(20,zB y)]),(hT 2 [(.cells Ay true false [])]))) (fun y=>QA pu n y) ?_ ?_
  ·rintro b0 hm
   unfold QA at hm
   replace hm:=Ag hm;rcases hm with⟨h4,hm⟩ | ⟨h4,hm⟩
   ·refine .ifT b0 (by kernel_rfl) h4 ?_
    refine .then (.rK (.ghs (fr 34 [(4,(zI (1:Int)))]) (hT 2 [(.cells Ay true false [])]) (.k0 [false,false] [] [4]) ?_))
    refine .ret ?_
    exact AO (zI (1:Int)) hm
   ·refine .ifF b0 (by kernel_rfl) h4 ?_
    refine .skip (.ghs (fr 34 []) (hT 2 [(.cells Ay true false [])]) (.k0 [false,false] [] []) ?_)
    refine .then (.rK (.ghs (fr 34 [(4,(zI (0:Int)))]) (hT 2 [(.cells Ay true false [])]) (.k0 [false,false] [] [4]) ?_))
    refine .ret ?_
    exact AO (zI (0:Int)) hm
  ·replace hm:=Gs hm;obtain⟨x2,h5,hm⟩:=hm
   replace hm:=Ag hm;rcases hm with⟨h6,hm⟩ | ⟨h6,hm⟩
   ·refine .reg (eC 1 ((oo (pu 168 [Sl.v 1 s0]) none fun v=>some (v,(hT 2 [(.cells Ay true false [])])))) (AB h5) (eD (some ((zB (AY x2 (0:Int))),(hT 2 [(.cells Ay true false [])]))) (show _=some ((zB true),_) from (by rw[show (AY x2 (0:Int))=true from h6])) (eE))) ?_
    exact⟨true,hm,(.k0 [false,false] [] [20])⟩
   ·replace hm:=Gs hm;obtain⟨x3,h7,hm⟩:=hm
    replace hm:=Gs hm;obtain⟨x4,h8,hm⟩:=hm
    refine .reg (eC 1 ((oo (pu 168 [Sl.v 1 s0]) none fun v=>some (v,(hT 2 [(.cells Ay true false [])])))) (AB h5) (eD (some ((zB (AY x2 (0:Int))),(hT 2 [(.cells Ay true false [])]))) (show _=some ((zB false),_) from (by rw[show (AY x2 (0:Int))=false from h6])) (eC 6 (keep (hT 2 [(.cells Ay true false [])]) (AL (Db.cs p0) (((Db.off p0)+0)+2))) (AZ h7) (eD ((oo (pu 46 [Sl.v 1 s0]) none fun v=>some (v,(hT 2 [(.cells Ay true false [])])))) (AB h8) (eE))))) ?_
    exact⟨(nt (AY x4 x3)),hm,(.k0 [false,false] [] [20])⟩
def QB (pu:Af) (n:Nat):OV:=
 (some (.int .i64 (0:Int)))
def QC (pu:Af) (n:Nat) (ih0:Int→Sl→Int→Int→Int→Sl→OV) (z0 z1:Int) (s0:Sl) (z2 z3:Int) (b0:Bool) (z4:Int) (s1:Sl):OV:=
 (bb b0 (some (.int .i64 (2:Int))) (bb (nt (AY z0 z1)) (some (.int .i64 (7:Int))) (ih0 z1 s0 z2 (Aj .i64 (Int.add z3 (1:Int))) z4 s1)))
def Ue (pu:Af) (n:Nat) (ih0:Int→Sl→Int→Int→Int→Sl→OV) (z0:Int) (s0:Sl) (z1 z2 z3:Int) (s1:Sl):OV:=
 (bb (AY z2 z1) (oo (EA z2) none fun k1=>(bb (an (Nat.blt k1 (Sl.n s0)) true) (oo (AL (Sl.cs s0) (k1*1)) none fun v0=>(oo (Bi .i64 v0) none fun x0=>(bb (AY x0 (0:Int)) (QC pu n ih0 z0 x0 s0 z1 (Int.ofNat k1) true z3 s1) (QC pu n ih0 z0 x0 s0 z1 (Int.ofNat k1) (nt (AY x0 z3)) z3 s1)))) none)) (QB pu n))
def QE (pu:Af) (n w:Nat):Int→Sl→Int→Int→Int→Sl→OV:=
 Nat.rec (motive:=fun _=>Int→Sl→Int→Int→Int→Sl→OV) (fun _ _ _ _ _ _=>none) (fun _ ih0=>Ue pu n ih0) w
def QF (pu:Af) (n:Nat) (b0:Bool) (z0:Int) (s0:Sl):OV:=
 (bb b0 (some (.int .i64 (1:Int))) (bb (AY (6:Int) (Int.ofNat (Sl.n s0))) (some (.int .i64 (3:Int))) (QE pu n n (-1:Int) s0 (Int.ofNat (Sl.n s0)) (0:Int) z0 s0)))
def uS (pu:Af) (n:Nat) (x0:Int) (s0:Sl):OV:=
 (bb (AY x0 (1:Int)) (QF pu n true x0 s0) (QF pu n (AY (21:Int) x0) x0 s0))
def rM (pu:Af) (n:Nat) (args:LV):OV:=
 (ll args none fun a0 args=>(ll args (oo (Bt a0) none fun l0=>(ll l0 none fun v0 l0=>(ll l0 none fun v1 l0=>(ll l0 (oo (Bi .i64 v0) none fun x0=>(oo (Bj 1 v1) none fun s0=>(uS pu n x0 s0))) fun _ _=>none)))) fun _ _=>none))
theorem AbD (pu:Af) (n:Nat) {v:Value} (hm:QB pu n=some v):BN tt (Bb tabs isP pu (inl pu)) 2 UL (fr 42 []) (hT 2 [(.cells Ay true false [])]) (Fin tt 2 [.tmp 2] v):=by
 unfold QB at hm
 refine .then (.rK (.ghs (fr 42 [(2,(zI (0:Int)))]) (hT 2 [(.cells Ay true false [])]) (.k0 [false,false] [] [2]) ?_))
 refine .ret ?_
 exact AO (zI (0:Int)) hm
theorem AjI {call:A8} (pu:Af) (n:Nat) (hcall:call=Bb tabs isP pu (inl pu)) {args:LV} {v:Value} (hm:rM pu n args=some v) (_:∀ x∈args,closed2 x=true):args.length≤42∧BN tt call 2 K8 (Fr.made 42 args) (Ao tabs) (Fin tt 2 [.tmp 2] v):=by
 subst hcall
 unfold rM at hm
 replace hm:=Ad hm;obtain⟨a0,args_0,rfl,hm⟩:=hm
 replace hm:=AC hm;obtain⟨rfl,hm⟩:=hm
 replace hm:=BG hm;obtain⟨l0,rfl,hm⟩:=hm
 replace hm:=Ad hm;obtain⟨v0,l9850_0,rfl,hm⟩:=hm
 replace hm:=Ad hm;obtain⟨v1,l9850_1,rfl,hm⟩:=hm
 replace hm:=AC hm;obtain⟨rfl,hm⟩:=hm
 replace hm:=Ai hm;obtain⟨x0,rfl,hm⟩:=hm
 replace hm:=Al hm;obtain⟨s0,rfl,hm⟩:=hm
 unfold uS at hm
 refine⟨by simp,?_⟩
 refine .same (F':=(fr 42 [(0,(.agg ⟨[zI x0,Sl.v 1 s0]⟩))])) (H':=(hT 2 [(.cells Ay true false [])])) (by kernel_rfl) (by kernel_rfl) ?_
 refine .then (.rK (.ghs (fr 42 [(1,(pt 2 0))]) (hT 3 [(.cells Ay true false []),(oC [zI x0,Sl.v 1 s0])]) (.k0 [false,false] [.tmp 1 false] [1]) ?_))
 refine .then (.block (.join (v:=v) (fun y:Bool×Int×Sl=>((fr 42 [(1,(pt 2 0)),(6,(zB y.1))]),(hT 3 [(.cells Ay true false []),(oC [(zI y.2.1),(Sl.v 1 y.2.2)])]))) (fun y=>QF pu n y.1 y.2.1 y.2.2) ?_ ?_))
 ·rintro⟨b0,z0,s1⟩ hm
  unfold QF at hm
  replace hm:=Ag hm;rcases hm with⟨h0,hm⟩ | ⟨h0,hm⟩
  ·refine .ifT b0 (by kernel_rfl) h0 ?_
   refine .then (.rK (.ghs (fr 42 [(2,(zI (1:Int)))]) (hT 2 [(.cells Ay true false [])]) (.k0 [false,false] [] [2]) ?_))
   refine .ret ?_
   exact AO (zI (1:Int)) hm
  ·refine .ifF b0 (by kernel_rfl) h0 ?_
   refine .then (.rK (.ghs (fr 42 [(1,(pt 2 0)),(15,(zB (AY (6:Int) (Int.ofNat (Sl.n s1)))))]) (hT 3 [(.cells Ay true false []),(oC [zI z0,Sl.v 1 s1])]) (.k0 [false,false] [.tmp 1 false] [1,15]) ?_))
   replace hm:=Ag hm;rcases hm with⟨h1,hm⟩ | ⟨h1,hm⟩
   ·refine BB (AY (6:Int) (Int.ofNat (Sl.n s1))) h1 ?_
    refine .then (.rK (.ghs (fr 42 [(2,(zI (3:Int)))]) (hT 2 [(.cells Ay true false [])]) (.k0 [false,false] [] [2]) ?_))
    refine .ret ?_
    exact AO (zI (3:Int)) hm
   ·refine BI (AY (6:Int) (Int.ofNat (Sl.n s1))) h1 ?_
    refine .skip (.ghs (fr 42 [(1,(pt 2 0))]) (hT 3 [(.cells Ay true false []),(oC [zI z0,Sl.v 1 s1])]) (.k0 [false,false] [.tmp 1 false] [1]) ?_)
    refine .then (.rK (.ghs (fr 42 [(1,(pt 2 0)),(3,(zI (-1:Int)))]) (hT 3 [(.cells Ay true false []),(oC [zI z0,Sl.v 1 s1])]) (.k0 [false,false] [.tmp 1 false] [1,3]) ?_))
    refine .join (v:=v) (fun y:Unit=>((fr 42 []),(hT 2 [(.cells Ay true false [])]))) (fun y=>QB pu n) ?_ ?_
    ·rintro _ hm
     exact AbD pu n hm
    ·refine .then (.rK (.ghs (fr 42 [(1,(pt 2 0)),(3,(zI (-1:Int))),(21,Sl.v 1 s1),(22,(zI (Int.ofNat (Sl.n s1)))),(23,(zI (0:Int)))]) (hT 3 [(.cells Ay true false []),(oC [zI z0,Sl.v 1 s1])]) (.k0 [false,false] [.tmp 1 false] [1,3,21,22,23]) ?_))
     refine .block (.loopM (v:=v) (fun y:Int×Sl×Int×Int×Int×Sl=>((fr 42 [(1,(pt 2 0)),(3,(zI y.1)),(21,(Sl.v 1 y.2.1)),(22,(zI y.2.2.1)),(23,(zI y.2.2.2.1))]),(hT 3 [(.cells Ay true false []),(oC [(zI y.2.2.2.2.1),(Sl.v 1 y.2.2.2.2.2)])]))) (fun w y=>QE pu n w y.1 y.2.1 y.2.2.1 y.2.2.2.1 y.2.2.2.2.1 y.2.2.2.2.2) n ⟨((-1:Int),s1,(Int.ofNat (Sl.n s1)),(0:Int),z0,s1),hm,(.k0 [false,false] [.tmp 1 false] [1,3,21,22,23])⟩ (fun _=>rfl) ?_)
     rintro w0 ⟨z1,s2,z2,z3,z4,s3⟩ hm
     replace hm:Ue pu n (QE pu n w0) z1 s2 z2 z3 z4 s3=some v:=hm
     unfold Ue at hm
     refine .then (.rK (.ghs (fr 42 [(1,(pt 2 0)),(3,zI z1),(21,Sl.v 1 s2),(22,zI z2),(23,zI z3),(24,(zB (AY z3 z2)))]) (hT 3 [(.cells Ay true false []),(oC [zI z4,Sl.v 1 s3])]) (.k0 [false,false] [.tmp 1 false] [1,3,21,22,23,24]) ?_))
     refine .then ?_
     replace hm:=Ag hm;rcases hm with⟨h2,hm⟩ | ⟨h2,hm⟩
     ·refine BB (AY z3 z2) h2 ?_
      refine .skip (.ghs (fr 42 [(1,(pt 2 0)),(3,zI z1),(21,Sl.v 1 s2),(22,zI z2),(23,zI z3)]) (hT 3 [(.cells Ay true false []),(oC [zI z4,Sl.v 1 s3])]) (.k0 [false,false] [.tmp 1 false] [1,3,21,22,23]) ?_)
      refine .then (.block (.then ?_))
      replace hm:=Ab hm;obtain⟨k1,h3,hm⟩:=hm
      obtain rfl:=AR h3
      replace hm:=Ae hm;obtain⟨h4,hm⟩:=hm
      replace hm:=Gs hm;obtain⟨x1,h5,hm⟩:=hm
      refine .reg (eD (keep (hT 3 [(.cells Ay true false []),(oC [zI z4,Sl.v 1 s3])]) (bb (an (Nat.blt k1 (Sl.n s2)) true) (some (Cv (k1*1) (Sl.cs s2))) none)) (AX h4) (eD (keep (hT 3 [(.cells Ay true false []),(oC [zI z4,Sl.v 1 s3])]) (AL (Sl.cs s2) (k1*1))) (AZ h5) (eE))) ?_
      refine .ghs (fr 42 [(1,(pt 2 0)),(3,zI z1),(5,zI x1),(21,Sl.v 1 s2),(22,zI z2),(23,(zI (Int.ofNat k1)))]) (hT 3 [(.cells Ay true false []),(oC [zI z4,Sl.v 1 s3])]) (.k0 [false,false] [.tmp 1 false] [1,3,5,21,22,23]) ?_
      refine .then (.block (.join (v:=v) (fun y:Int×Int×Sl×Int×Int×Bool×Int×Sl=>((fr 42 [(1,(pt 2 0)),(3,(zI y.1)),(5,(zI y.2.1)),(21,(Sl.v 1 y.2.2.1)),(22,(zI y.2.2.2.1)),(23,(zI y.2.2.2.2.1)),(27,(zB y.2.2.2.2.2.1))]),(hT 3 [(.cells Ay true false []),(oC [(zI y.2.2.2.2.2.2.1),(Sl.v 1 y.2.2.2.2.2.2.2)])]))) (fun y=>QC pu n (QE pu n w0) y.1 y.2.1 y.2.2.1 y.2.2.2.1 y.2.2.2.2.1 y.2.2.2.2.2.1 y.2.2.2.2.2.2.1 y.2.2.2.2.2.2.2) ?_ ?_))
      ·rintro⟨z5,z6,s4,z7,z8,b1,z9,s5⟩ hm
       unfold QC at hm
       replace hm:=Ag hm;rcases hm with⟨h6,hm⟩ | ⟨h6,hm⟩
       ·refine .ifT b1 (by kernel_rfl) h6 ?_
        refine .then (.rK (.ghs (fr 42 [(2,(zI (2:Int)))]) (hT 2 [(.cells Ay true false [])]) (.k0 [false,false] [] [2]) ?_))
        refine .ret ?_
        exact AO (zI (2:Int)) hm
       ·refine .ifF b1 (by kernel_rfl) h6 ?_
        refine .then (.rK (.ghs (fr 42 [(1,(pt 2 0)),(5,zI z6),(21,Sl.v 1 s4),(22,zI z7),(23,zI z8),(36,(zB (nt (AY z5 z6))))]) (hT 3 [(.cells Ay true false []),(oC [zI z9,Sl.v 1 s5])]) (.k0 [false,false] [.tmp 1 false] [1,5,21,22,23,36]) ?_))
        replace hm:=Ag hm;rcases hm with⟨h7,hm⟩ | ⟨h7,hm⟩
        ·refine BB (nt (AY z5 z6)) h7 ?_
         refine .then (.rK (.ghs (fr 42 [(2,(zI (7:Int)))]) (hT 2 [(.cells Ay true false [])]) (.k0 [false,false] [] [2]) ?_))
         refine .ret ?_
         exact AO (zI (7:Int)) hm
        ·refine BI (nt (AY z5 z6)) h7 ?_
         refine .skip (.ghs (fr 42 [(1,(pt 2 0)),(5,zI z6),(21,Sl.v 1 s4),(22,zI z7),(23,zI z8)]) (hT 3 [(.cells Ay true false []),(oC [zI z9,Sl.v 1 s5])]) (.k0 [false,false] [.tmp 1 false] [1,5,21,22,23]) ?_)
         refine .rK (.ghs (fr 42 [(1,(pt 2 0)),(3,zI z6),(21,Sl.v 1 s4),(22,zI z7),(23,zI z8)]) (hT 3 [(.cells Ay true false []),(oC [zI z9,Sl.v 1 s5])]) (.k0 [false,false] [.tmp 1 false] [1,3,21,22,23]) ?_)
         refine .rK ?_
         exact⟨(z6,s4,z7,(Aj .i64 (Int.add z8 (1:Int))),z9,s5),hm,(.k0 [false,false] [.tmp 1 false] [1,3,21,22,23])⟩
      ·replace hm:=Ag hm;rcases hm with⟨h8,hm⟩ | ⟨h8,hm⟩
       ·refine .reg (eC 1 (some ((zB (AY x1 (0:Int))),(hT 3 [(.cells Ay true false []),(oC [zI z4,Sl.v 1 s3])]))) (show _=some ((zB true),_) from (by rw[show (AY x1 (0:Int))=true from h8])) (eE)) ?_
        exact⟨(z1,x1,s2,z2,(Int.ofNat k1),true,z4,s3),hm,(.k0 [false,false] [.tmp 1 false] [1,3,5,21,22,23,27])⟩
       ·refine .reg (eC 1 (some ((zB (AY x1 (0:Int))),(hT 3 [(.cells Ay true false []),(oC [zI z4,Sl.v 1 s3])]))) (show _=some ((zB false),_) from (by rw[show (AY x1 (0:Int))=false from h8])) (eE)) ?_
        exact⟨(z1,x1,s2,z2,(Int.ofNat k1),(nt (AY x1 z4)),z4,s3),hm,(.k0 [false,false] [.tmp 1 false] [1,3,5,21,22,23,27])⟩
     ·refine BI (AY z3 z2) h2 ?_
      refine .exit ?_
      exact⟨(),hm,(.k0 [false,false] [] [])⟩
 ·replace hm:=Ag hm;rcases hm with⟨h9,hm⟩ | ⟨h9,hm⟩
  ·refine .reg (eC 2 (some ((zB (AY x0 (1:Int))),(hT 3 [(.cells Ay true false []),(oC [zI x0,Sl.v 1 s0])]))) (show _=some ((zB true),_) from (by rw[show (AY x0 (1:Int))=true from h9])) (eE)) ?_
   exact⟨(true,x0,s0),hm,(.k0 [false,false] [.tmp 1 false] [1,6])⟩
  ·refine .reg (eC 2 (some ((zB (AY x0 (1:Int))),(hT 3 [(.cells Ay true false []),(oC [zI x0,Sl.v 1 s0])]))) (show _=some ((zB false),_) from (by rw[show (AY x0 (1:Int))=false from h9])) (eE)) ?_
   exact⟨((AY (21:Int) x0),x0,s0),hm,(.k0 [false,false] [.tmp 1 false] [1,6])⟩
def QG (pu:Af) (n:Nat) (z0 z1 z2 z3:Int):OV:=
 (some (.agg ⟨[.int .i64 z2,.int .u32 z3]⟩))
def Uf (pu:Af) (n:Nat) (ih0:Sl→Int→Int→Int→Int→Int→Int→OV) (s0:Sl) (z0 z1 z2 z3 z4 z5:Int):OV:=
 (bb (AY z1 z0) (oo (EA z1) none fun k1=>(bb (an (Nat.blt k1 (Sl.n s0)) true) (oo (AL (Sl.cs s0) (k1*1)) none fun v0=>(oo (Bi .i64 v0) none fun x0=>(oo (EA x0) none fun k2=>(ih0 s0 z0 (Aj .i64 (Int.add (Int.ofNat k1) (1:Int))) z2 z3 z4 (jF .u32 z5 (QW .u32 (1:Int) k2)))))) none)) (QG pu n z2 z3 z4 z5))
def Ug (pu:Af) (n w:Nat):Sl→Int→Int→Int→Int→Int→Int→OV:=
 Nat.rec (motive:=fun _=>Sl→Int→Int→Int→Int→Int→Int→OV) (fun _ _ _ _ _ _ _=>none) (fun _ ih0=>Uf pu n ih0) w
def uT (pu:Af) (n:Nat) (x0:Int) (s0:Sl):OV:=
 (Ug pu n n s0 (Int.ofNat (Sl.n s0)) (0:Int) (0:Int) (0:Int) x0 (0:Int))
def rO (pu:Af) (n:Nat) (args:LV):OV:=
 (ll args none fun a0 args=>(ll args none fun a1 args=>(ll args (oo (Bi .i64 a0) none fun x0=>(oo (Bj 1 a1) none fun s0=>(uT pu n x0 s0))) fun _ _=>none)))
theorem AbE (pu:Af) (n:Nat) (z0 z1 z2 z3:Int) {v:Value} (hm:QG pu n z0 z1 z2 z3=some v):BN tt (Bb tabs isP pu (inl pu)) 2 UM (fr 24 [(4,(pt 2 0)),(5,(pt 3 0))]) (hT 4 [(.cells Ay true false []),(oC [zI z0,.int .u32 z1]),(oC [zI z2,.int .u32 z3])]) (Fin tt 2 [.cell 4 99] v):=by
 unfold QG at hm
 refine .then (.rK (.ghs (fr 24 [(4,(pt 2 0))]) (hT 3 [(.cells Ay true false []),(oC [zI z2,.int .u32 z3])]) (.k0 [false,false] [.tmp 4 false] [4]) ?_))
 refine .ret ?_
 exact AO (.agg ⟨[zI z2,.int .u32 z3]⟩) hm
theorem AjJ {call:A8} (pu:Af) (n:Nat) (hcall:call=Bb tabs isP pu (inl pu)) {args:LV} {v:Value} (hm:rO pu n args=some v) (_:∀ x∈args,closed2 x=true):args.length≤24∧BN tt call 2 K9 (Fr.made 24 args) (Ao tabs) (Fin tt 2 [.cell 4 99] v):=by
 subst hcall
 unfold rO at hm
 replace hm:=Ad hm;obtain⟨a0,args_0,rfl,hm⟩:=hm
 replace hm:=Ad hm;obtain⟨a1,args_1,rfl,hm⟩:=hm
 replace hm:=AC hm;obtain⟨rfl,hm⟩:=hm
 replace hm:=Ai hm;obtain⟨x0,rfl,hm⟩:=hm
 replace hm:=Al hm;obtain⟨s0,rfl,hm⟩:=hm
 unfold uT at hm
 refine⟨by simp,?_⟩
 refine .same (F':=(fr 24 [(0,zI x0),(1,Sl.v 1 s0)])) (H':=(hT 2 [(.cells Ay true false [])])) (by kernel_rfl) (by kernel_rfl) ?_
 refine .then (.rK (.ghs (fr 24 [(0,zI x0),(1,Sl.v 1 s0),(4,(pt 2 0))]) (hT 3 [(.cells Ay true false []),(oC [(zI (0:Int)),(.int .u32 (0:Int))])]) (.k0 [false,false] [.tmp 4 false] [0,1,4]) ?_))
 refine .then (.rK (.ghs (fr 24 [(1,Sl.v 1 s0),(4,(pt 2 0)),(5,(pt 3 0))]) (hT 4 [(.cells Ay true false []),(oC [(zI (0:Int)),(.int .u32 (0:Int))]),(oC [zI x0,(.int .u32 (0:Int))])]) (.k0 [false,false] [.tmp 4 false,.tmp 5 false] [1,4,5]) ?_))
 refine .join (v:=v) (fun y:Int×Int×Int×Int=>((fr 24 [(4,(pt 2 0)),(5,(pt 3 0))]),(hT 4 [(.cells Ay true false []),(oC [(zI y.1),(.int .u32 y.2.1)]),(oC [(zI y.2.2.1),(.int .u32 y.2.2.2)])]))) (fun y=>QG pu n y.1 y.2.1 y.2.2.1 y.2.2.2) ?_ ?_
 ·rintro⟨z0,z1,z2,z3⟩ hm
  exact AbE pu n z0 z1 z2 z3 hm
 ·refine .then (.rK (.ghs (fr 24 [(4,(pt 2 0)),(5,(pt 3 0)),(10,Sl.v 1 s0),(11,(zI (Int.ofNat (Sl.n s0)))),(12,(zI (0:Int)))]) (hT 4 [(.cells Ay true false []),(oC [(zI (0:Int)),(.int .u32 (0:Int))]),(oC [zI x0,(.int .u32 (0:Int))])]) (.k0 [false,false] [.tmp 4 false,.tmp 5 false] [4,5,10,11,12]) ?_))
  refine .block (.loopM (v:=v) (fun y:Sl×Int×Int×Int×Int×Int×Int=>((fr 24 [(4,(pt 2 0)),(5,(pt 3 0)),(10,(Sl.v 1 y.1)),(11,(zI y.2.1)),(12,(zI y.2.2.1))]),(hT 4 [(.cells Ay true false []),(oC [(zI y.2.2.2.1),(.int .u32 y.2.2.2.2.1)]),(oC [(zI y.2.2.2.2.2.1),(.int .u32 y.2.2.2.2.2.2)])]))) (fun w y=>Ug pu n w y.1 y.2.1 y.2.2.1 y.2.2.2.1 y.2.2.2.2.1 y.2.2.2.2.2.1 y.2.2.2.2.2.2) n ⟨(s0,(Int.ofNat (Sl.n s0)),(0:Int),(0:Int),(0:Int),x0,(0:Int)),hm,(.k0 [false,false] [.tmp 4 false,.tmp 5 false] [4,5,10,11,12])⟩ (fun _=>rfl) ?_)
  rintro w0 ⟨s1,z4,z5,z6,z7,z8,z9⟩ hm
  replace hm:Uf pu n (Ug pu n w0) s1 z4 z5 z6 z7 z8 z9=some v:=hm
  unfold Uf at hm
  refine .then (.rK (.ghs (fr 24 [(4,(pt 2 0)),(5,(pt 3 0)),(10,Sl.v 1 s1),(11,zI z4),(12,zI z5),(13,(zB (AY z5 z4)))]) (hT 4 [(.cells Ay true false []),(oC [zI z6,.int .u32 z7]),(oC [zI z8,.int .u32 z9])]) (.k0 [false,false] [.tmp 4 false,.tmp 5 false] [4,5,10,11,12,13]) ?_))
  refine .then ?_
  replace hm:=Ag hm;rcases hm with⟨h0,hm⟩ | ⟨h0,hm⟩
  ·refine BB (AY z5 z4) h0 ?_
   refine .skip (.ghs (fr 24 [(4,(pt 2 0)),(5,(pt 3 0)),(10,Sl.v 1 s1),(11,zI z4),(12,zI z5)]) (hT 4 [(.cells Ay true false []),(oC [zI z6,.int .u32 z7]),(oC [zI z8,.int .u32 z9])]) (.k0 [false,false] [.tmp 4 false,.tmp 5 false] [4,5,10,11,12]) ?_)
   refine .then (.block (.then ?_))
   replace hm:=Ab hm;obtain⟨k1,h1,hm⟩:=hm
   obtain rfl:=AR h1
   replace hm:=Ae hm;obtain⟨h2,hm⟩:=hm
   replace hm:=Gs hm;obtain⟨x1,h3,hm⟩:=hm
   refine .reg (eD (keep (hT 4 [(.cells Ay true false []),(oC [zI z6,.int .u32 z7]),(oC [zI z8,.int .u32 z9])]) (bb (an (Nat.blt k1 (Sl.n s1)) true) (some (Cv (k1*1) (Sl.cs s1))) none)) (AX h2) (eD (keep (hT 4 [(.cells Ay true false []),(oC [zI z6,.int .u32 z7]),(oC [zI z8,.int .u32 z9])]) (AL (Sl.cs s1) (k1*1))) (AZ h3) (eE))) ?_
   refine .ghs (fr 24 [(4,(pt 2 0)),(5,(pt 3 0)),(7,zI x1),(10,Sl.v 1 s1),(11,zI z4),(12,(zI (Int.ofNat k1)))]) (hT 4 [(.cells Ay true false []),(oC [zI z6,.int .u32 z7]),(oC [zI z8,.int .u32 z9])]) (.k0 [false,false] [.tmp 4 false,.tmp 5 false] [4,5,7,10,11,12]) ?_
   replace hm:=Ab hm;obtain⟨k2,h4,hm⟩:=hm
   obtain rfl:=AR h4
   refine .rK (.ghs (fr 24 [(4,(pt 2 0)),(5,(pt 3 0)),(10,Sl.v 1 s1),(11,zI z4),(12,(zI (Int.ofNat k1)))]) (hT 4 [(.cells Ay true false []),(oC [zI z6,.int .u32 z7]),(oC [zI z8,(.int .u32 (jF .u32 z9 (QW .u32 (1:Int) k2)))])]) (.k0 [false,false] [.tmp 4 false,.tmp 5 false] [4,5,10,11,12]) ?_)
   refine .rK ?_
   exact⟨(s1,z4,(Aj .i64 (Int.add (Int.ofNat k1) (1:Int))),z6,z7,z8,(jF .u32 z9 (QW .u32 (1:Int) k2))),hm,(.k0 [false,false] [.tmp 4 false,.tmp 5 false] [4,5,10,11,12])⟩
  ·refine BI (AY z5 z4) h0 ?_
   refine .exit ?_
   exact⟨(z6,z7,z8,z9),hm,(.k0 [false,false] [.tmp 4 false,.tmp 5 false] [4,5])⟩
def M9 (pu:Af) (n n0 c0:Nat) (q0:LV):OV:=
 (bb (Au Ah q0) (bb (an (Nat.ble (0+n0*1) (len q0)) (Au Ah (Aq (n0*1) (Am 0 q0)))) (some (Sl.v 1 (Sl.mk n0 0 (Aq (n0*1) (Am 0 q0))))) none) none)
def Ki (pu:Af) (n:Nat) (ih0:Nat→Nat→Int→Int→Int→Int→LV→OV) (n0 c0:Nat) (z0 z1 z2 z3:Int) (q0:LV):OV:=
 (bb (Au Ah q0) (ih0 n0 c0 z0 (Aj .i64 (Int.add z1 (1:Int))) z2 z3 q0) none)
def Je (pu:Af) (n:Nat) (ih0:Nat→Nat→Int→Int→Int→Int→LV→OV) (n0 c0:Nat) (z0 z1 z2 z3:Int) (q0:LV):OV:=
 (bb (Au Ah q0) (bb (AY z1 z0) (oo (pu 169 [(.agg ⟨[.int .i64 z2,.int .u32 z3]⟩),.int .i64 z1]) none fun v0=>(oo (Bf v0) none fun b0=>(bb b0 (bb (GV 1 8 n0 c0 1 q0) (bb (Au Ah (Br (Am 0 q0) [.int .i64 z1])) (Ki pu n ih0 (n0+1) (2*(n0+1)+bb false 1 0) z0 z1 z2 z3 (Br (Am 0 q0) [.int .i64 z1])) none) none) (Ki pu n ih0 n0 c0 z0 z1 z2 z3 q0)))) (M9 pu n n0 c0 q0)) none)
def HY (pu:Af) (n w:Nat):Nat→Nat→Int→Int→Int→Int→LV→OV:=
 Nat.rec (motive:=fun _=>Nat→Nat→Int→Int→Int→Int→LV→OV) (fun _ _ _ _ _ _ _=>none) (fun _ ih0=>Je pu n ih0) w
def uU (pu:Af) (n:Nat) (x0 x1:Int):OV:=
 (HY pu n n 0 0 x0 (0:Int) x0 x1 ([]:LV))
def WF (pu:Af) (n:Nat) (args:LV):OV:=
 (ll args none fun a0 args=>(ll args (oo (Bt a0) none fun l0=>(ll l0 none fun v0 l0=>(ll l0 none fun v1 l0=>(ll l0 (oo (Bi .i64 v0) none fun x0=>(oo (Bi .u32 v1) none fun x1=>(uU pu n x0 x1))) fun _ _=>none)))) fun _ _=>none))
theorem AbF (pu:Af) (n n0 c0:Nat) (q0:LV) {v:Value} (hm:M9 pu n n0 c0 q0=some v):BN tt (Bb tabs isP pu (inl pu)) 2 UN (fr 19 [(3,sc 2 0 1 n0 c0)]) (hT 3 [(.cells Ay true false []),oC q0]) (Fin tt 2 [.tmp 2] v):=by
 unfold M9 at hm
 refine .then (.rK ?_)
 replace hm:=Ae hm;obtain⟨h0,hm⟩:=hm
 refine .ghs (fr 19 [(2,sc 2 0 1 n0 c0)]) (hT 3 [(.cells Ay true false []),oC q0]) (.k [2] [false,false] [.tmp 2 false] [2] ⟨A7 h0,trivial⟩) ?_
 replace hm:=Ae hm;obtain⟨h1,hm⟩:=hm
 refine .ghs (Fr.puts (fr 19 [(2,sc 2 0 1 n0 c0)]) [(2,(Sl.v 1 (Sl.mk n0 0 (Aq (n0*1) (Am 0 q0)))))]) (hT 3 [(.cells Ay true false []),.dead]) (.freezeC 2 2 1 (an (Nat.ble (0+n0*1) (len q0)) (Au Ah (Aq (n0*1) (Am 0 q0)))) (F1:=(Fr.puts (fr 19 [(2,sc 2 0 1 n0 c0)]) [(2,(Sl.v 1 (Sl.mk n0 0 (Aq (n0*1) (Am 0 q0)))))])) (H1:=(hT 3 [(.cells Ay true false []),.dead])) (by kernel_rfl) (by kernel_rfl) h1 (E9.id _ _)) ?_
 refine .ret ?_
 exact AO (Sl.v 1 (Sl.mk n0 0 (Aq (n0*1) (Am 0 q0)))) hm
theorem AjK {call:A8} (pu:Af) (n:Nat) (hcall:call=Bb tabs isP pu (inl pu)) {args:LV} {v:Value} (hm:WF pu n args=some v) (_:∀ x∈args,closed2 x=true):args.length≤19∧BN tt call 2 LJ (Fr.made 19 args) (Ao tabs) (Fin tt 2 [.tmp 2] v):=by
 subst hcall
 unfold WF at hm
 replace hm:=Ad hm;obtain⟨a0,args_0,rfl,hm⟩:=hm
 replace hm:=AC hm;obtain⟨rfl,hm⟩:=hm
 replace hm:=BG hm;obtain⟨l0,rfl,hm⟩:=hm
 replace hm:=Ad hm;obtain⟨v0,l10066_0,rfl,hm⟩:=hm
 replace hm:=Ad hm;obtain⟨v1,l10066_1,rfl,hm⟩:=hm
 replace hm:=AC hm;obtain⟨rfl,hm⟩:=hm
 replace hm:=Ai hm;obtain⟨x0,rfl,hm⟩:=hm
 replace hm:=Ai hm;obtain⟨x1,rfl,hm⟩:=hm
 unfold uU at hm
 refine⟨by simp,?_⟩
 refine .same (F':=(fr 19 [(0,(.agg ⟨[zI x0,.int .u32 x1]⟩))])) (H':=(hT 2 [(.cells Ay true false [])])) (by kernel_rfl) (by kernel_rfl) ?_
 refine .then (.rK (.ghs (fr 19 [(1,(pt 2 0))]) (hT 3 [(.cells Ay true false []),(oC [zI x0,.int .u32 x1])]) (.k0 [false,false] [.tmp 1 false] [1]) ?_))
 refine .then (.rK (.ghs (fr 19 [(1,(pt 2 0)),(3,(.slice none 0 0))]) (hT 3 [(.cells Ay true false []),(oC [zI x0,.int .u32 x1])]) (.k0 [false,false] [.tmp 1 false] [1,3]) ?_))
 refine .join (v:=v) (fun y:Nat×Nat×LV=>((fr 19 [(3,(sc 2 0 1 y.1 y.2.1))]),(hT 3 [(.cells Ay true false []),(oC y.2.2)]))) (fun y=>M9 pu n y.1 y.2.1 y.2.2) ?_ ?_
 ·rintro⟨n0,c0,q0⟩ hm
  exact AbF pu n n0 c0 q0 hm
 ·refine .then (.rK (.ghs (fr 19 [(1,(pt 2 0)),(3,(.slice none 0 0)),(6,zI x0),(7,(zI (0:Int)))]) (hT 3 [(.cells Ay true false []),(oC [zI x0,.int .u32 x1])]) (.k0 [false,false] [.tmp 1 false] [1,3,6,7]) ?_))
  refine .block (.loopM (v:=v) (fun y:Nat×Nat×Int×Int×Int×Int×LV=>((fr 19 [(1,(pt 2 0)),(3,(sc 3 0 1 y.1 y.2.1)),(6,(zI y.2.2.1)),(7,(zI y.2.2.2.1))]),(hT 4 [(.cells Ay true false []),(oC [(zI y.2.2.2.2.1),(.int .u32 y.2.2.2.2.2.1)]),(oC y.2.2.2.2.2.2)]))) (fun w y=>HY pu n w y.1 y.2.1 y.2.2.1 y.2.2.2.1 y.2.2.2.2.1 y.2.2.2.2.2.1 y.2.2.2.2.2.2) n ⟨(0,0,x0,(0:Int),x0,x1,([]:LV)),hm,(.thaw 3 1 (by kernel_rfl) (.k0 [false,false] [.tmp 1 false,.tmp 3 false] [1,3,6,7]))⟩ (fun _=>rfl) ?_)
  rintro w0 ⟨n1,c1,z0,z1,z2,z3,q1⟩ hm
  replace hm:Je pu n (HY pu n w0) n1 c1 z0 z1 z2 z3 q1=some v:=hm
  unfold Je at hm
  refine .then (.rK ?_)
  replace hm:=Ae hm;obtain⟨h0,hm⟩:=hm
  refine .ghs (fr 19 [(1,(pt 2 0)),(3,sc 3 0 1 n1 c1),(6,zI z0),(7,zI z1),(8,(zB (AY z1 z0)))]) (hT 4 [(.cells Ay true false []),(oC [zI z2,.int .u32 z3]),oC q1]) (.k [3] [false,false] [.tmp 1 false,.tmp 3 false] [1,3,6,7,8] ⟨A7 h0,trivial⟩) ?_
  refine .then ?_
  replace hm:=Ag hm;rcases hm with⟨h1,hm⟩ | ⟨h1,hm⟩
  ·refine BB (AY z1 z0) h1 ?_
   refine .skip (.ghs (fr 19 [(1,(pt 2 0)),(3,sc 3 0 1 n1 c1),(6,zI z0),(7,zI z1)]) (hT 4 [(.cells Ay true false []),(oC [zI z2,.int .u32 z3]),oC q1]) (.k [3] [false,false] [.tmp 1 false,.tmp 3 false] [1,3,6,7] ⟨A7 h0,trivial⟩) ?_)
   refine .join (v:=v) (fun y:Nat×Nat×Int×Int×Int×Int×LV=>((fr 19 [(1,(pt 2 0)),(3,(sc 3 0 1 y.1 y.2.1)),(6,(zI y.2.2.1)),(7,(zI y.2.2.2.1))]),(hT 4 [(.cells Ay true false []),(oC [(zI y.2.2.2.2.1),(.int .u32 y.2.2.2.2.2.1)]),(oC y.2.2.2.2.2.2)]))) (fun y=>Ki pu n (HY pu n w0) y.1 y.2.1 y.2.2.1 y.2.2.2.1 y.2.2.2.2.1 y.2.2.2.2.2.1 y.2.2.2.2.2.2) ?_ ?_
   ·rintro⟨n2,c2,z4,z5,z6,z7,q2⟩ hm
    unfold Ki at hm
    refine .rK ?_
    replace hm:=Ae hm;obtain⟨h2,hm⟩:=hm
    exact⟨(n2,c2,z4,(Aj .i64 (Int.add z5 (1:Int))),z6,z7,q2),hm,(.k [3] [false,false] [.tmp 1 false,.tmp 3 false] [1,3,6,7] ⟨A7 h2,trivial⟩)⟩
   ·refine .block (.then (.rK (.ghs (fr 19 [(1,(pt 2 0)),(3,sc 3 0 1 n1 c1),(4,zI z1),(6,zI z0),(7,zI z1)]) (hT 4 [(.cells Ay true false []),(oC [zI z2,.int .u32 z3]),oC q1]) (.k [3] [false,false] [.tmp 1 false,.tmp 3 false] [1,3,4,6,7] ⟨A7 h0,trivial⟩) ?_)))
    refine .then ?_
    replace hm:=Yn hm;obtain⟨b0,h3,hm⟩:=hm
    refine .reg (eC 2 ((oo (pu 169 [(.agg ⟨[zI z2,.int .u32 z3]⟩),zI z1]) none fun v=>some (v,(hT 4 [(.cells Ay true false []),(oC [zI z2,.int .u32 z3]),oC q1])))) (AB h3) (eE)) ?_
    refine .ghs (fr 19 [(1,(pt 2 0)),(3,sc 3 0 1 n1 c1),(4,zI z1),(6,zI z0),(7,zI z1),(12,zB b0)]) (hT 4 [(.cells Ay true false []),(oC [zI z2,.int .u32 z3]),oC q1]) (.k [3] [false,false] [.tmp 1 false,.tmp 3 false] [1,3,4,6,7,12] ⟨A7 h0,trivial⟩) ?_
    replace hm:=Ag hm;rcases hm with⟨h4,hm⟩ | ⟨h4,hm⟩
    ·refine .ifT b0 (by kernel_rfl) h4 ?_
     replace hm:=Ae hm;obtain⟨h5,hm⟩:=hm
     refine .reg (eC 3 (Oc 1 8 n1 c1 1 3 q1 [zI z1] [] (hT 5 [(.cells Ay true false []),(oC [zI z2,.int .u32 z3]),oC q1,(oC [zI z1])])) (I1 h5) (eE)) ?_
     replace hm:=Ae hm;obtain⟨h6,hm⟩:=hm
     exact⟨((n1+1),(d2 (n1+1)),z0,z1,z2,z3,(Br (Am 0 q1) [zI z1])),hm,(.k [5] [false,false] [.tmp 1 false,.tmp 3 false] [1,3,6,7] ⟨A7 h6,trivial⟩)⟩
    ·refine .ifF b0 (by kernel_rfl) h4 ?_
     refine .skip ?_
     exact⟨(n1,c1,z0,z1,z2,z3,q1),hm,(.k [3] [false,false] [.tmp 1 false,.tmp 3 false] [1,3,6,7] ⟨A7 h0,trivial⟩)⟩
  ·refine BI (AY z1 z0) h1 ?_
   refine .exit ?_
   exact⟨(n1,c1,q1),hm,(.k [3] [false,false] [.tmp 3 false] [3] ⟨A7 h0,trivial⟩)⟩
def QJ (pu:Af) (n:Nat) (z0:Int):OV:=
 (some (.int .i64 z0))
def Hy (pu:Af) (n:Nat) (ih0:Int→Nat→List Nat→Nat→List EO→Nat→OV) (z0 z1:Int) (b0:Bool) (k1:Nat) (l0:List Nat) (k2:Nat) (e0:List EO) (k3:Nat):OV:=
 (bb b0 (bb (Au F4 e0) (ih0 z1 k1 l0 k2 e0 k3) none) (bb (Au F4 e0) (ih0 z0 k1 l0 k2 e0 k3) none))
def Nc (pu:Af) (n:Nat) (ih0:Int→Nat→List Nat→Nat→List EO→Nat→OV) (z0:Int) (k1:Nat) (l0:List Nat) (k2:Nat) (e0:List EO) (k3:Nat):OV:=
 (bb (Au (fun e=>Nat.blt (EO.born e) k1) e0) (bb (Nat.ble k1 k2) (xM e0 l0 (bb (Au F4 e0) (QJ pu n z0) none) (fun e1:EO=>(bb (Au F4 e0) (oo (Xb e0 k3 (Br l0 [(EO.born e1)]) k3) none fun v0=>(oo (CQ v0) none fun l1=>(ll l1 none fun v1 l1=>(ll l1 none fun v2 l1=>(ll l1 (oo (Bi .i64 v1) none fun x0=>(oo (Bi .i64 v2) none fun x1=>(bb (AY (1:Int) x1) (bb (Bd z0 (0:Int)) (Hy pu n ih0 z0 x0 true k1 (Br l0 [(EO.born e1)]) k3 e0 k3) (Hy pu n ih0 z0 x0 (AY x0 z0) k1 (Br l0 [(EO.born e1)]) k3 e0 k3)) (Hy pu n ih0 z0 x0 false k1 (Br l0 [(EO.born e1)]) k3 e0 k3)))) fun _ _=>none))))) none))) none) none)
def Gy (pu:Af) (n w:Nat):Int→Nat→List Nat→Nat→List EO→Nat→OV:=
 Nat.rec (motive:=fun _=>Int→Nat→List Nat→Nat→List EO→Nat→OV) (fun _ _ _ _ _ _=>none) (fun _ ih0=>Nc pu n ih0) w
def Wq (pu:Af) (n:Nat) (x0 x1:Int):OV:=
 (oo (pu 11700 [(.agg ⟨[.int .i64 x0,.int .u32 x1]⟩)]) none fun v0=>(oo (CQ v0) none fun l0=>(ll l0 none fun v1 l0=>(ll l0 none fun v2 l0=>(ll l0 (bb (Wz v1 2) (oo (Fj v2) none fun y0=>(bb (Au F4 (Akd.es y0)) (bb (Au F4 (Akd.es y0)) (Gy pu n n (0:Int) (Akd.clock y0) ([]:List Nat) (Akd.clock y0) (Akd.es y0) (Akd.clock y0)) none) none)) none) fun _ _=>none)))))
def WG (pu:Af) (n:Nat) (args:LV):OV:=
 (ll args none fun a0 args=>(ll args (oo (Bt a0) none fun l0=>(ll l0 none fun v0 l0=>(ll l0 none fun v1 l0=>(ll l0 (oo (Bi .i64 v0) none fun x0=>(oo (Bi .u32 v1) none fun x1=>(Wq pu n x0 x1))) fun _ _=>none)))) fun _ _=>none))
theorem AbG (pu:Af) (n:Nat) (z0:Int) {v:Value} (hm:QJ pu n z0=some v):BN tt (Bb tabs isP pu (inl pu)) 2 UO (fr 27 [(3,zI z0)]) (hT 2 [(.cells Ay true false [])]) (Fin tt 2 [.tmp 2] v):=by
 unfold QJ at hm
 refine .then (.rK (.ghs (fr 27 [(2,zI z0)]) (hT 2 [(.cells Ay true false [])]) (.k0 [false,false] [] [2]) ?_))
 refine .ret ?_
 exact AO (zI z0) hm
theorem AjL {call:A8} (pu:Af) (n:Nat) (hcall:call=Bb tabs isP pu (inl pu)) {args:LV} {v:Value} (hm:WG pu n args=some v) (_:∀ x∈args,closed2 x=true):args.length≤27∧BN tt call 2 LK (Fr.made 27 args) (Ao tabs) (Fin tt 2 [.tmp 2] v):=by
 subst hcall
 unfold WG at hm
 replace hm:=Ad hm;obtain⟨a0,args_0,rfl,hm⟩:=hm
 replace hm:=AC hm;obtain⟨rfl,hm⟩:=hm
 replace hm:=BG hm;obtain⟨l0,rfl,hm⟩:=hm
 replace hm:=Ad hm;obtain⟨v0,l10235_0,rfl,hm⟩:=hm
 replace hm:=Ad hm;obtain⟨v1,l10235_1,rfl,hm⟩:=hm
 replace hm:=AC hm;obtain⟨rfl,hm⟩:=hm
 replace hm:=Ai hm;obtain⟨x0,rfl,hm⟩:=hm
 replace hm:=Ai hm;obtain⟨x1,rfl,hm⟩:=hm
 unfold Wq at hm
 refine⟨by simp,?_⟩
 refine .same (F':=(fr 27 [(0,(.agg ⟨[zI x0,.int .u32 x1]⟩))])) (H':=(hT 2 [(.cells Ay true false [])])) (by kernel_rfl) (by kernel_rfl) ?_
 refine .then (.rK (.ghs (fr 27 [(1,(pt 2 0))]) (hT 3 [(.cells Ay true false []),(oC [zI x0,.int .u32 x1])]) (.k0 [false,false] [.tmp 1 false] [1]) ?_))
 refine .then (.rK (.ghs (fr 27 [(1,(pt 2 0)),(3,(zI (0:Int)))]) (hT 3 [(.cells Ay true false []),(oC [zI x0,.int .u32 x1])]) (.k0 [false,false] [.tmp 1 false] [1,3]) ?_))
 refine .join (v:=v) (fun y:Int=>((fr 27 [(3,zI y)]),(hT 2 [(.cells Ay true false [])]))) (fun y=>QJ pu n y) ?_ ?_
 ·rintro z0 hm
  exact AbG pu n z0 hm
 ·refine .then ?_
  replace hm:=Ab hm;obtain⟨v2,h0,hm⟩:=hm
  replace hm:=Ch hm;obtain⟨l1,rfl,hm⟩:=hm
  replace hm:=Ad hm;obtain⟨v3,l11833_0,rfl,hm⟩:=hm
  replace hm:=Ad hm;obtain⟨v4,l11833_1,rfl,hm⟩:=hm
  replace hm:=AC hm;obtain⟨rfl,hm⟩:=hm
  replace hm:=Ae hm;obtain⟨h1,hm⟩:=hm
  obtain rfl:=Pg h1
  replace hm:=Ab hm;obtain⟨y0,h2,hm⟩:=hm
  replace hm:=Ae hm;obtain⟨h3,hm⟩:=hm
  refine .reg (eC 1 (HV tabs [[none,none]] 1 [] [false] (pu 11700) [(.agg ⟨[zI x0,.int .u32 x1]⟩)] (hT 3 [(.cells Ay true false []),(oC [zI x0,.int .u32 x1])])) (Jw (as:=[(.agg ⟨[zI x0,.int .u32 x1]⟩)]) (H1:=(hT 3 [(.cells Ay true false []),(oC [zI x0,.int .u32 x1])])) (Kg (UD (KW WB (KW WB UC))) MG) (Jv (H2:=(hT 4 [(.cells Ay true false []),(oC [zI x0,.int .u32 x1]),(.map (Akd.es y0) (Akd.clock y0))])) (v:=(.map (some 2))) (v':=(.map (some 3))) [some 0,some 1] [] [] [(.agg ⟨[zI x0,.int .u32 x1]⟩)] [v4] [(.map (Akd.es y0) (Akd.clock y0))] [some 0,some 1,none,some 2] [(false,(.map (Akd.es y0) (Akd.clock y0)))] [(.map (Akd.es y0) (Akd.clock y0))] (by kernel_rfl) Fb (Eq.trans (by kernel_rfl) h0) (Pf (Jb h2) Fb) (Pf (WX h3) Fb))) (eE)) ?_
  replace hm:=Ae hm;obtain⟨h4,hm⟩:=hm
  refine .ghs (fr 27 [(3,(zI (0:Int))),(8,(pt 2 0))]) (hT 4 [(.cells Ay true false []),(.iter (some 3) (Akd.clock y0) ([]:List Nat) (Akd.clock y0)),(.map (Akd.es y0) (Akd.clock y0))]) (.k [3] [false,false] [.tmp 8 false,.itm 2 false] [3,8] ⟨A7 h4,trivial⟩) ?_
  refine .block (.loopM (v:=v) (fun y:Int×Nat×List Nat×Nat×List EO×Nat=>((fr 27 [(3,(zI y.1)),(8,(pt 2 0))]),(hT 4 [(.cells Ay true false []),(.iter (some 3) y.2.1 y.2.2.1 y.2.2.2.1),(.map y.2.2.2.2.1 y.2.2.2.2.2)]))) (fun w y=>Gy pu n w y.1 y.2.1 y.2.2.1 y.2.2.2.1 y.2.2.2.2.1 y.2.2.2.2.2) n ⟨((0:Int),(Akd.clock y0),([]:List Nat),(Akd.clock y0),(Akd.es y0),(Akd.clock y0)),hm,(.k [3] [false,false] [.tmp 8 false,.itm 2 false] [3,8] ⟨A7 h4,trivial⟩)⟩ (fun _=>rfl) ?_)
  rintro w0 ⟨z1,k1,l2,k2,e0,k3⟩ hm
  replace hm:Nc pu n (Gy pu n w0) z1 k1 l2 k2 e0 k3=some v:=hm
  unfold Nc at hm
  refine .then ?_
  replace hm:=Ae hm;obtain⟨h5,hm⟩:=hm
  replace hm:=Ae hm;obtain⟨h6,hm⟩:=hm
  refine .nextK (id:=2) (mid:=3) (since:=k1) (st:=k2) (clock:=k3) (seen:=l2) (es:=e0) (d:=some 9) (x:=(tp 8)) (ty:=0) (os:=[EM 10 9 0 4]) (by kernel_rfl) (by kernel_rfl) (by kernel_rfl) (by kernel_rfl) h5 h6 (by kernel_rfl) (fun _=>by kernel_rfl) (fun h7=>?_) (fun e1 h8=>?_)
  ·replace hm:=AeA hm h7
   replace hm:=Ae hm;obtain⟨h9,hm⟩:=hm
   refine .ghs (fr 27 [(3,zI z1),(8,(pt 2 0)),(10,zB false)]) (hT 4 [(.cells Ay true false []),(.iter (some 3) k1 l2 k2),(.map e0 k3)]) (.k [3] [false,false] [.tmp 8 false,.itm 2 false] [3,8,10] ⟨A7 h9,trivial⟩) ?_
   refine .then (.condF (by kernel_rfl) ?_)
   refine .exit ?_
   exact⟨z1,hm,(.k0 [false,false] [] [3])⟩
  ·replace hm:=AeB hm h8
   replace hm:=Ae hm;obtain⟨h10,hm⟩:=hm
   refine .ghs (fr 27 [(3,zI z1),(8,(pt 2 0)),(10,zB true)]) (hT 4 [(.cells Ay true false []),(.iter (some 3) k1 (Br l2 [(EO.born e1)]) k3),(.map e0 k3)]) (.k [3] [false,false] [.tmp 8 false,.itm 2 false] [3,8,10] ⟨A7 h10,trivial⟩) ?_
   refine .then (.condT (by kernel_rfl) ?_)
   refine .skip (.ghs (fr 27 [(3,zI z1),(8,(pt 2 0))]) (hT 4 [(.cells Ay true false []),(.iter (some 3) k1 (Br l2 [(EO.born e1)]) k3),(.map e0 k3)]) (.k [3] [false,false] [.tmp 8 false,.itm 2 false] [3,8] ⟨A7 h10,trivial⟩) ?_)
   refine .block (.then ?_)
   replace hm:=Ab hm;obtain⟨v5,h11,hm⟩:=hm
   replace hm:=Ch hm;obtain⟨l3,rfl,hm⟩:=hm
   replace hm:=Ad hm;obtain⟨v6,l11867_0,rfl,hm⟩:=hm
   replace hm:=Ad hm;obtain⟨v7,l11867_1,rfl,hm⟩:=hm
   replace hm:=AC hm;obtain⟨rfl,hm⟩:=hm
   replace hm:=Ai hm;obtain⟨x2,rfl,hm⟩:=hm
   replace hm:=Ai hm;obtain⟨x3,rfl,hm⟩:=hm
   refine .reg (eD (keep (hT 4 [(.cells Ay true false []),(.iter (some 3) k1 (Br l2 [(EO.born e1)]) k3),(.map e0 k3)]) (Xb e0 k3 (Br l2 [(EO.born e1)]) k3)) (AZ h11) (eE)) ?_
   refine .ghs (fr 27 [(3,zI z1),(4,zI x2),(5,zI x3),(8,(pt 2 0))]) (hT 4 [(.cells Ay true false []),(.iter (some 3) k1 (Br l2 [(EO.born e1)]) k3),(.map e0 k3)]) (.k [3] [false,false] [.tmp 8 false,.itm 2 false] [3,4,5,8] ⟨A7 h10,trivial⟩) ?_
   refine .join (v:=v) (fun y:Int×Int×Bool×Nat×List Nat×Nat×List EO×Nat=>((fr 27 [(3,(zI y.1)),(4,(zI y.2.1)),(8,(pt 2 0)),(24,(zB y.2.2.1))]),(hT 4 [(.cells Ay true false []),(.iter (some 3) y.2.2.2.1 y.2.2.2.2.1 y.2.2.2.2.2.1),(.map y.2.2.2.2.2.2.1 y.2.2.2.2.2.2.2)]))) (fun y=>Hy pu n (Gy pu n w0) y.1 y.2.1 y.2.2.1 y.2.2.2.1 y.2.2.2.2.1 y.2.2.2.2.2.1 y.2.2.2.2.2.2.1 y.2.2.2.2.2.2.2) ?_ ?_
   ·rintro⟨z2,z3,b0,k4,l4,k5,e2,k6⟩ hm
    unfold Hy at hm
    replace hm:=Ag hm;rcases hm with⟨h12,hm⟩ | ⟨h12,hm⟩
    ·refine .ifT b0 (by kernel_rfl) h12 ?_
     refine .rK ?_
     replace hm:=Ae hm;obtain⟨h13,hm⟩:=hm
     exact⟨(z3,k4,l4,k5,e2,k6),hm,(.k [3] [false,false] [.tmp 8 false,.itm 2 false] [3,8] ⟨A7 h13,trivial⟩)⟩
    ·refine .ifF b0 (by kernel_rfl) h12 ?_
     refine .skip ?_
     replace hm:=Ae hm;obtain⟨h14,hm⟩:=hm
     exact⟨(z2,k4,l4,k5,e2,k6),hm,(.k [3] [false,false] [.tmp 8 false,.itm 2 false] [3,8] ⟨A7 h14,trivial⟩)⟩
   ·replace hm:=Ag hm;rcases hm with⟨h15,hm⟩ | ⟨h15,hm⟩
    ·replace hm:=Ag hm;rcases hm with⟨h16,hm⟩ | ⟨h16,hm⟩
     ·refine .reg (eC 1 (some ((zB (AY (1:Int) x3)),(hT 4 [(.cells Ay true false []),(.iter (some 3) k1 (Br l2 [(EO.born e1)]) k3),(.map e0 k3)]))) (show _=some ((zB true),_) from (by rw[show (AY (1:Int) x3)=true from h15])) (eC 2 (some ((zB (Bd z1 (0:Int))),(hT 4 [(.cells Ay true false []),(.iter (some 3) k1 (Br l2 [(EO.born e1)]) k3),(.map e0 k3)]))) (show _=some ((zB true),_) from (by rw[show (Bd z1 (0:Int))=true from h16])) (eE))) ?_
      exact⟨(z1,x2,true,k1,(Br l2 [(EO.born e1)]),k3,e0,k3),hm,(.k [3] [false,false] [.tmp 8 false,.itm 2 false] [3,4,8,24] ⟨A7 h10,trivial⟩)⟩
     ·refine .reg (eC 1 (some ((zB (AY (1:Int) x3)),(hT 4 [(.cells Ay true false []),(.iter (some 3) k1 (Br l2 [(EO.born e1)]) k3),(.map e0 k3)]))) (show _=some ((zB true),_) from (by rw[show (AY (1:Int) x3)=true from h15])) (eC 2 (some ((zB (Bd z1 (0:Int))),(hT 4 [(.cells Ay true false []),(.iter (some 3) k1 (Br l2 [(EO.born e1)]) k3),(.map e0 k3)]))) (show _=some ((zB false),_) from (by rw[show (Bd z1 (0:Int))=false from h16])) (eE))) ?_
      exact⟨(z1,x2,(AY x2 z1),k1,(Br l2 [(EO.born e1)]),k3,e0,k3),hm,(.k [3] [false,false] [.tmp 8 false,.itm 2 false] [3,4,8,24] ⟨A7 h10,trivial⟩)⟩
    ·refine .reg (eC 1 (some ((zB (AY (1:Int) x3)),(hT 4 [(.cells Ay true false []),(.iter (some 3) k1 (Br l2 [(EO.born e1)]) k3),(.map e0 k3)]))) (show _=some ((zB false),_) from (by rw[show (AY (1:Int) x3)=false from h15])) (eE)) ?_
     exact⟨(z1,x2,false,k1,(Br l2 [(EO.born e1)]),k3,e0,k3),hm,(.k [3] [false,false] [.tmp 8 false,.itm 2 false] [3,4,8,24] ⟨A7 h10,trivial⟩)⟩
def KJ (pu:Af) (n:Nat) (b0:Bool):OV:=
 (some (.bool b0))
def Ws (pu:Af) (n:Nat) (x0 x1:Int):OV:=
 (oo (pu 119 [(.agg ⟨[.int .i64 x0,.int .u32 x1]⟩)]) none fun v0=>(oo (Bi .i64 v0) none fun x2=>(bb (Bd x2 (0:Int)) (oo (pu 11700 [(.agg ⟨[.int .i64 x0,.int .u32 x1]⟩)]) none fun v1=>(oo (CQ v1) none fun l0=>(ll l0 none fun v2 l0=>(ll l0 none fun v3 l0=>(ll l0 (bb (Wz v2 2) (oo (Fj v3) none fun y0=>(bb (Au F4 (Akd.es y0)) (KJ pu n (Bd (Int.ofNat (len (Akd.es y0))) (Aj .i64 (Int.sub x0 (1:Int))))) none)) none) fun _ _=>none))))) (KJ pu n false))))
def WH (pu:Af) (n:Nat) (args:LV):OV:=
 (ll args none fun a0 args=>(ll args (oo (Bt a0) none fun l0=>(ll l0 none fun v0 l0=>(ll l0 none fun v1 l0=>(ll l0 (oo (Bi .i64 v0) none fun x0=>(oo (Bi .u32 v1) none fun x1=>(Ws pu n x0 x1))) fun _ _=>none)))) fun _ _=>none))
theorem AbH (pu:Af) (n:Nat) (b0:Bool) {v:Value} (hm:KJ pu n b0=some v):BN tt (Bb tabs isP pu (inl pu)) 2 .ret (fr 15 [(2,zB b0)]) (hT 2 [(.cells Ay true false [])]) (Fin tt 2 [.tmp 2] v):=by
 unfold KJ at hm
 refine .ret ?_
 exact AO (zB b0) hm
theorem AjM {call:A8} (pu:Af) (n:Nat) (hcall:call=Bb tabs isP pu (inl pu)) {args:LV} {v:Value} (hm:WH pu n args=some v) (_:∀ x∈args,closed2 x=true):args.length≤15∧BN tt call 2 PP (Fr.made 15 args) (Ao tabs) (Fin tt 2 [.tmp 2] v):=by
 subst hcall
 unfold WH at hm
 replace hm:=Ad hm;obtain⟨a0,args_0,rfl,hm⟩:=hm
 replace hm:=AC hm;obtain⟨rfl,hm⟩:=hm
 replace hm:=BG hm;obtain⟨l0,rfl,hm⟩:=hm
 replace hm:=Ad hm;obtain⟨v0,l11898_0,rfl,hm⟩:=hm
 replace hm:=Ad hm;obtain⟨v1,l11898_1,rfl,hm⟩:=hm
 replace hm:=AC hm;obtain⟨rfl,hm⟩:=hm
 replace hm:=Ai hm;obtain⟨x0,rfl,hm⟩:=hm
 replace hm:=Ai hm;obtain⟨x1,rfl,hm⟩:=hm
 unfold Ws at hm
 refine⟨by simp,?_⟩
 refine .same (F':=(fr 15 [(0,(.agg ⟨[zI x0,.int .u32 x1]⟩))])) (H':=(hT 2 [(.cells Ay true false [])])) (by kernel_rfl) (by kernel_rfl) ?_
 refine .then (.rK (.ghs (fr 15 [(1,(pt 2 0))]) (hT 3 [(.cells Ay true false []),(oC [zI x0,.int .u32 x1])]) (.k0 [false,false] [.tmp 1 false] [1]) ?_))
 refine .join (v:=v) (fun y:Bool=>((fr 15 [(2,zB y)]),(hT 2 [(.cells Ay true false [])]))) (fun y=>KJ pu n y) ?_ ?_
 ·rintro b0 hm
  exact AbH pu n b0 hm
 ·replace hm:=Gs hm;obtain⟨x2,h0,hm⟩:=hm
  replace hm:=Ag hm;rcases hm with⟨h1,hm⟩ | ⟨h1,hm⟩
  ·replace hm:=Ab hm;obtain⟨v2,h2,hm⟩:=hm
   replace hm:=Ch hm;obtain⟨l1,rfl,hm⟩:=hm
   replace hm:=Ad hm;obtain⟨v3,l12001_0,rfl,hm⟩:=hm
   replace hm:=Ad hm;obtain⟨v4,l12001_1,rfl,hm⟩:=hm
   replace hm:=AC hm;obtain⟨rfl,hm⟩:=hm
   replace hm:=Ae hm;obtain⟨h3,hm⟩:=hm
   obtain rfl:=Pg h3
   replace hm:=Ab hm;obtain⟨y0,h4,hm⟩:=hm
   replace hm:=Ae hm;obtain⟨h5,hm⟩:=hm
   refine .reg (eC 1 ((oo (pu 119 [(.agg ⟨[zI x0,.int .u32 x1]⟩)]) none fun v=>some (v,(hT 3 [(.cells Ay true false []),(oC [zI x0,.int .u32 x1])])))) (AB h0) (eD (some ((zB (Bd x2 (0:Int))),(hT 3 [(.cells Ay true false []),(oC [zI x0,.int .u32 x1])]))) (show _=some ((zB true),_) from (by rw[show (Bd x2 (0:Int))=true from h1])) (eC 5 (HV tabs [[none,none]] 1 [] [false] (pu 11700) [(.agg ⟨[zI x0,.int .u32 x1]⟩)] (hT 3 [(.cells Ay true false []),(oC [zI x0,.int .u32 x1])])) (Jw (as:=[(.agg ⟨[zI x0,.int .u32 x1]⟩)]) (H1:=(hT 3 [(.cells Ay true false []),(oC [zI x0,.int .u32 x1])])) (Kg (UD (KW WB (KW WB UC))) MG) (Jv (H2:=(hT 4 [(.cells Ay true false []),(oC [zI x0,.int .u32 x1]),(.map (Akd.es y0) (Akd.clock y0))])) (v:=(.map (some 2))) (v':=(.map (some 3))) [some 0,some 1] [] [] [(.agg ⟨[zI x0,.int .u32 x1]⟩)] [v4] [(.map (Akd.es y0) (Akd.clock y0))] [some 0,some 1,none,some 2] [(false,(.map (Akd.es y0) (Akd.clock y0)))] [(.map (Akd.es y0) (Akd.clock y0))] (by kernel_rfl) Fb (Eq.trans (by kernel_rfl) h2) (Pf (Jb h4) Fb) (Pf (WX h5) Fb))) (eE)))) ?_
   exact⟨(Bd (Int.ofNat (len (Akd.es y0))) (Aj .i64 (Int.sub x0 (1:Int)))),hm,(.k0 [false,false] [] [2])⟩
  ·refine .reg (eC 1 ((oo (pu 119 [(.agg ⟨[zI x0,.int .u32 x1]⟩)]) none fun v=>some (v,(hT 3 [(.cells Ay true false []),(oC [zI x0,.int .u32 x1])])))) (AB h0) (eD (some ((zB (Bd x2 (0:Int))),(hT 3 [(.cells Ay true false []),(oC [zI x0,.int .u32 x1])]))) (show _=some ((zB false),_) from (by rw[show (Bd x2 (0:Int))=false from h1])) (eE))) ?_
   exact⟨false,hm,(.k0 [false,false] [] [2])⟩
end
end Go.TpEM
