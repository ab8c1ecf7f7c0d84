/- Made from wip. -/
import Derived.Test.YtokbaaeimejjlaaGreatDoorBkYMod0x

set_option maxRecDepth 100000
set_option maxHeartbeats 20000000
set_option linter.unusedVariables false
namespace Go.BkYM
open Go.Sp Go.BkY
noncomputable section
def Ua (pu:Af) (n:Nat) (b0:Bool):OV:=
 (some (.bool b0))
def m4_ (pu:Af) (n:Nat) (x7 x9 x11:Int) (s13 s15:Sl):OV:=
 (oo (pu 10090 [(.agg ⟨[.int .i64 x7,.int .i64 x9,.int .i64 x11,Sl.v 1 s13]⟩),Sl.v 1 s15,(Sl.v 1 (Sl.mk 0 2 []))]) none fun v68=>(oo (CQ v68) none fun l70=>(ll l70 none fun v72 l70=>(ll l70 (oo (Bf v72) none fun b73=>(bb b73 (oo (pu 10 []) none fun v80=>(oo (Bf v80) none fun b82=>(some (.bool b82)))) (oo (pu 18 [(.agg ⟨[.int .i64 x7,.int .i64 x9,.int .i64 x11,Sl.v 1 s13]⟩),Sl.v 1 s15]) none fun v94=>(oo (CQ v94) none fun l96=>(ll l96 none fun v98 l96=>(ll l96 none fun v99 l96=>(ll l96 (oo (Bj 1 v98) none fun s0=>(oo (Bi .i64 v99) none fun x0=>(oo (pu 19 [(.agg ⟨[.int .i64 x7,.int .i64 x9,.int .i64 x11,Sl.v 1 s13]⟩),Sl.v 1 s15]) none fun v0=>(oo (CQ v0) none fun l0=>(ll l0 none fun v1 l0=>(ll l0 none fun v2 l0=>(ll l0 (oo (Bj 1 v1) none fun s1=>(oo (Bi .i64 v2) none fun x1=>(oo (pu 20 [(.agg ⟨[.int .i64 x7,.int .i64 x9,.int .i64 x11,Sl.v 1 s13]⟩),Sl.v 1 s15]) none fun v3=>(oo (CQ v3) none fun l1=>(ll l1 none fun v4 l1=>(ll l1 none fun v5 l1=>(ll l1 (oo (Bj 1 v4) none fun s2=>(oo (Bi .i64 v5) none fun x2=>(oo (pu 21 [(.agg ⟨[.int .i64 x7,.int .i64 x9,.int .i64 x11,Sl.v 1 s13]⟩),Sl.v 1 s15]) none fun v6=>(oo (CQ v6) none fun l2=>(ll l2 none fun v7 l2=>(ll l2 none fun v8 l2=>(ll l2 (oo (Bj 1 v7) none fun s3=>(oo (Bi .i64 v8) none fun x3=>(oo (pu 17 [Sl.v 1 s0,Sl.v 1 s1]) none fun v9=>(oo (Bf v9) none fun b0=>(bb b0 (bb (Bd x0 x1) (oo (pu 22 [Sl.v 1 s2,Sl.v 1 s3]) none fun v10=>(oo (Bf v10) none fun b1=>(bb b1 (bb (Bd x2 x3) (oo (pu 10 []) none fun v11=>(oo (Bf v11) none fun b2=>(Ua pu n b2))) (Ua pu n false)) (Ua pu n false)))) (Ua pu n false)) (Ua pu n false)))))) fun _ _=>none))))))) fun _ _=>none))))))) fun _ _=>none))))))) fun _ _=>none))))))) fun _ _=>none))))
def m4 (pu:Af) (n:Nat) (args:LV):OV:=
 (ll args none fun a0 args=>(ll args none fun a1 args=>(ll args (oo (Bt a0) none fun l1=>(ll l1 none fun v3 l1=>(ll l1 none fun v4 l1=>(ll l1 none fun v5 l1=>(ll l1 none fun v6 l1=>(ll l1 (oo (Bi .i64 v3) none fun x7=>(oo (Bi .i64 v4) none fun x9=>(oo (Bi .i64 v5) none fun x11=>(oo (Bj 1 v6) none fun s13=>(oo (Bj 1 a1) none fun s15=>(m4_ pu n x7 x9 x11 s13 s15)))))) fun _ _=>none)))))) fun _ _=>none)))
theorem Ajj (pu:Af) (n:Nat) (b0:Bool) {v:Value} (hm:Ua pu n b0 = some v):BN tt (Bb tabs isP pu (inl pu)) 1 .ret (fr 64 [(4,zB b0)]) Ap (Fin tt 1 [.tmp 4] v):=by
 unfold Ua at hm
 refine .ret ?_
 exact Ay (zB b0) hm
theorem r4 {call:A8} (pu:Af) (n:Nat) (hcall:call = Bb tabs isP pu (inl pu)) {args:LV} {v:Value} (hm:m4 pu n args = some v) (_:∀ x ∈ args,closed2 x = true):args.length≤64∧BN tt call 1 XJ (Fr.made 64 args) (Ao tabs) (Fin tt 1 [.tmp 4] v):=by
 subst hcall
 unfold m4 at hm
 replace hm:=Ad hm;obtain ⟨a0,args_0,rfl,hm⟩:=hm
 replace hm:=Ad hm;obtain ⟨a1,args_1,rfl,hm⟩:=hm
 replace hm:=AC hm;obtain ⟨rfl,hm⟩:=hm
 replace hm:=BG hm;obtain ⟨l1,rfl,hm⟩:=hm
 replace hm:=Ad hm;obtain ⟨v3,l1_0,rfl,hm⟩:=hm
 replace hm:=Ad hm;obtain ⟨v4,l1_1,rfl,hm⟩:=hm
 replace hm:=Ad hm;obtain ⟨v5,l1_2,rfl,hm⟩:=hm
 replace hm:=Ad hm;obtain ⟨v6,l1_3,rfl,hm⟩:=hm
 replace hm:=AC hm;obtain ⟨rfl,hm⟩:=hm
 replace hm:=Ai hm;obtain ⟨x7,rfl,hm⟩:=hm
 replace hm:=Ai hm;obtain ⟨x9,rfl,hm⟩:=hm
 replace hm:=Ai hm;obtain ⟨x11,rfl,hm⟩:=hm
 replace hm:=Al hm;obtain ⟨s13,rfl,hm⟩:=hm
 replace hm:=Al hm;obtain ⟨s15,rfl,hm⟩:=hm
 unfold m4_ at hm
 refine ⟨by simp,?_⟩
 refine .same (F':=(fr 64 [(0,(.agg ⟨[zI x7,zI x9,zI x11,Sl.v 1 s13]⟩)),(1,Sl.v 1 s15)])) (H':=Ap) (by kernel_rfl) (by kernel_rfl) ?_
 refine .then (.rK (.ghs (fr 64 [(1,Sl.v 1 s15),(2,pt 1 0)]) (hT 2 [(oC [zI x7,zI x9,zI x11,Sl.v 1 s13])]) (.k0 [false] [.tmp 2 false] [1,2]) ?_))
 refine .then (.then ?_)
 replace hm:=Ab hm;obtain ⟨v68,h69,hm⟩:=hm
 replace hm:=Ch hm;obtain ⟨l70,rfl,hm⟩:=hm
 replace hm:=Ad hm;obtain ⟨v72,l70_0,rfl,hm⟩:=hm
 replace hm:=AC hm;obtain ⟨rfl,hm⟩:=hm
 replace hm:=Be hm;obtain ⟨b73,rfl,hm⟩:=hm
 refine .reg (eC 2 (EK tabs [[none,none,none,some 1],[some 1],[some 1]] 3 [] [] (pu 10090) [(.agg ⟨[zI x7,zI x9,zI x11,Sl.v 1 s13]⟩),Sl.v 1 s15,(.slice none 0 0)] (hT 2 [(oC [zI x7,zI x9,zI x11,Sl.v 1 s13])])) (EL (as:=[(.agg ⟨[zI x7,zI x9,zI x11,Sl.v 1 s13]⟩),Sl.v 1 s15,(Sl.v 1 (Sl.mk 0 2 []))]) (H1:=(hT 2 [(oC [zI x7,zI x9,zI x11,Sl.v 1 s13])])) (BS (Ot (Da Dk (Da Dk (Da Dk (Da (KQ (CV (z:=1) (v:=(Sl.v 1 s13)) (H:=(hT 2 [(oC [zI x7,zI x9,zI x11,Sl.v 1 s13])])) (by kernel_rfl) (by kernel_rfl) (by kernel_rfl))) Oq))))) (BS (Dm (KQ (CV (z:=1) (v:=(Sl.v 1 s15)) (H:=(hT 2 [(oC [zI x7,zI x9,zI x11,Sl.v 1 s13])])) (by kernel_rfl) (by kernel_rfl) (by kernel_rfl)))) (BS (Dm (KQ (Ju (z:=1) (H:=(hT 2 [(oC [zI x7,zI x9,zI x11,Sl.v 1 s13])]))))) Gj))) (EI (H2:=(hT 2 [(oC [zI x7,zI x9,zI x11,Sl.v 1 s13])])) (v:=(zB b73)) (v':=(zB b73)) [some 0] [] [] [(.agg ⟨[zI x7,zI x9,zI x11,Sl.v 1 s13]⟩),Sl.v 1 s15,(Sl.v 1 (Sl.mk 0 2 []))] [] [] [some 0,none] [] [] (by kernel_rfl) BX (Eq.trans (by kernel_rfl) h69) BX BX)) (eE)) ?_
 refine .ghs (fr 64 [(1,Sl.v 1 s15),(2,pt 1 0),(16,zB b73)]) (hT 2 [(oC [zI x7,zI x9,zI x11,Sl.v 1 s13])]) (.k0 [false] [.tmp 2 false] [1,2,16]) ?_
 replace hm:=Ag hm;rcases hm with ⟨h75,hm⟩ | ⟨h75,hm⟩
 ·refine .ifT b73 (by kernel_rfl) h75 ?_
  refine .then ?_
  replace hm:=oB hm;obtain ⟨b82,h81,hm⟩:=hm
  refine .reg (eD ((oo (pu 10 []) none fun v=>some (v,(hT 2 [(oC [zI x7,zI x9,zI x11,Sl.v 1 s13])])))) (AB h81) (eE)) ?_
  refine .ghs (fr 64 [(4,zB b82)]) Ap (.k0 [false] [] [4]) ?_
  refine .ret ?_
  exact Ay (zB b82) hm
 ·refine .ifF b73 (by kernel_rfl) h75 ?_
  refine .skip (.ghs (fr 64 [(1,Sl.v 1 s15),(2,pt 1 0)]) (hT 2 [(oC [zI x7,zI x9,zI x11,Sl.v 1 s13])]) (.k0 [false] [.tmp 2 false] [1,2]) ?_)
  refine .then (.rK (.ghs (fr 64 [(1,Sl.v 1 s15),(2,pt 1 0),(5,(pt 2 0))]) (hT 3 [(oC [zI x7,zI x9,zI x11,Sl.v 1 s13]),(oC [zI x7,zI x9,zI x11,Sl.v 1 s13])]) (.k0 [false] [.tmp 2 false,.tmp 5 false] [1,2,5]) ?_))
  refine .then ?_
  replace hm:=Ab hm;obtain ⟨v94,h95,hm⟩:=hm
  replace hm:=Ch hm;obtain ⟨l96,rfl,hm⟩:=hm
  replace hm:=Ad hm;obtain ⟨v98,l96_0,rfl,hm⟩:=hm
  replace hm:=Ad hm;obtain ⟨v99,l96_1,rfl,hm⟩:=hm
  replace hm:=AC hm;obtain ⟨rfl,hm⟩:=hm
  replace hm:=Al hm;obtain ⟨s0,rfl,hm⟩:=hm
  replace hm:=Ai hm;obtain ⟨x0,rfl,hm⟩:=hm
  refine .reg (eC 2 ((oo (pu 18 [(.agg ⟨[zI x7,zI x9,zI x11,Sl.v 1 s13]⟩),Sl.v 1 s15]) none fun v=>some (v,(hT 3 [(oC [zI x7,zI x9,zI x11,Sl.v 1 s13]),(oC [zI x7,zI x9,zI x11,Sl.v 1 s13])])))) (AB h95) (eE)) ?_
  refine .ghs (fr 64 [(1,Sl.v 1 s15),(2,pt 1 0),(5,(pt 2 0)),(6,Sl.v 1 s0),(7,zI x0)]) (hT 3 [(oC [zI x7,zI x9,zI x11,Sl.v 1 s13]),(oC [zI x7,zI x9,zI x11,Sl.v 1 s13])]) (.k0 [false] [.tmp 2 false,.tmp 5 false] [1,2,5,6,7]) ?_
  refine .then ?_
  replace hm:=Ab hm;obtain ⟨v0,h0,hm⟩:=hm
  replace hm:=Ch hm;obtain ⟨l0,rfl,hm⟩:=hm
  replace hm:=Ad hm;obtain ⟨v1,l116_0,rfl,hm⟩:=hm
  replace hm:=Ad hm;obtain ⟨v2,l116_1,rfl,hm⟩:=hm
  replace hm:=AC hm;obtain ⟨rfl,hm⟩:=hm
  replace hm:=Al hm;obtain ⟨s1,rfl,hm⟩:=hm
  replace hm:=Ai hm;obtain ⟨x1,rfl,hm⟩:=hm
  refine .reg (eC 2 ((oo (pu 19 [(.agg ⟨[zI x7,zI x9,zI x11,Sl.v 1 s13]⟩),Sl.v 1 s15]) none fun v=>some (v,(hT 3 [(oC [zI x7,zI x9,zI x11,Sl.v 1 s13]),(oC [zI x7,zI x9,zI x11,Sl.v 1 s13])])))) (AB h0) (eE)) ?_
  refine .ghs (fr 64 [(1,Sl.v 1 s15),(2,pt 1 0),(5,(pt 2 0)),(6,Sl.v 1 s0),(7,zI x0),(8,Sl.v 1 s1),(9,zI x1)]) (hT 3 [(oC [zI x7,zI x9,zI x11,Sl.v 1 s13]),(oC [zI x7,zI x9,zI x11,Sl.v 1 s13])]) (.k0 [false] [.tmp 2 false,.tmp 5 false] [1,2,5,6,7,8,9]) ?_
  refine .then ?_
  replace hm:=Ab hm;obtain ⟨v7,h1,hm⟩:=hm
  replace hm:=Ch hm;obtain ⟨l2,rfl,hm⟩:=hm
  replace hm:=Ad hm;obtain ⟨v8,l136_0,rfl,hm⟩:=hm
  replace hm:=Ad hm;obtain ⟨v9,l136_1,rfl,hm⟩:=hm
  replace hm:=AC hm;obtain ⟨rfl,hm⟩:=hm
  replace hm:=Al hm;obtain ⟨s2,rfl,hm⟩:=hm
  replace hm:=Ai hm;obtain ⟨x2,rfl,hm⟩:=hm
  refine .reg (eC 2 ((oo (pu 20 [(.agg ⟨[zI x7,zI x9,zI x11,Sl.v 1 s13]⟩),Sl.v 1 s15]) none fun v=>some (v,(hT 3 [(oC [zI x7,zI x9,zI x11,Sl.v 1 s13]),(oC [zI x7,zI x9,zI x11,Sl.v 1 s13])])))) (AB h1) (eE)) ?_
  refine .ghs (fr 64 [(1,Sl.v 1 s15),(5,pt 1 0),(6,Sl.v 1 s0),(7,zI x0),(8,Sl.v 1 s1),(9,zI x1),(10,Sl.v 1 s2),(11,zI x2)]) (hT 2 [(oC [zI x7,zI x9,zI x11,Sl.v 1 s13])]) (.k0 [false] [.tmp 5 false] [1,5,6,7,8,9,10,11]) ?_
  refine .then ?_
  replace hm:=Ab hm;obtain ⟨v10,h2,hm⟩:=hm
  replace hm:=Ch hm;obtain ⟨l3,rfl,hm⟩:=hm
  replace hm:=Ad hm;obtain ⟨v11,l156_0,rfl,hm⟩:=hm
  replace hm:=Ad hm;obtain ⟨v12,l156_1,rfl,hm⟩:=hm
  replace hm:=AC hm;obtain ⟨rfl,hm⟩:=hm
  replace hm:=Al hm;obtain ⟨s3,rfl,hm⟩:=hm
  replace hm:=Ai hm;obtain ⟨x3,rfl,hm⟩:=hm
  refine .reg (eC 2 ((oo (pu 21 [(.agg ⟨[zI x7,zI x9,zI x11,Sl.v 1 s13]⟩),Sl.v 1 s15]) none fun v=>some (v,(hT 2 [(oC [zI x7,zI x9,zI x11,Sl.v 1 s13])])))) (AB h2) (eE)) ?_
  refine .ghs (fr 64 [(6,Sl.v 1 s0),(7,zI x0),(8,Sl.v 1 s1),(9,zI x1),(10,Sl.v 1 s2),(11,zI x2),(12,Sl.v 1 s3),(13,zI x3)]) Ap (.k0 [false] [] [6,7,8,9,10,11,12,13]) ?_
  refine .join (v:=v) (fun y:Bool=>((fr 64 [(4,zB y)]),Ap)) (fun y=>Ua pu n y) ?_ ?_
  ·rintro b0 hm
   exact Ajj pu n b0 hm
  ·replace hm := oB hm; obtain ⟨b1, h3, hm⟩ := hm
   replace hm:=Ag hm;rcases hm with ⟨h4,hm⟩ | ⟨h4,hm⟩
   ·replace hm := Ag hm; rcases hm with ⟨h5, hm⟩ | ⟨h5, hm⟩
    ·replace hm := oB hm; obtain ⟨b2, h6, hm⟩ := hm
     replace hm:=Ag hm;rcases hm with ⟨h7,hm⟩ | ⟨h7,hm⟩
     ·replace hm := Ag hm; rcases hm with ⟨h8, hm⟩ | ⟨h8, hm⟩
      ·replace hm := oB hm; obtain ⟨b3, h9, hm⟩ := hm
       refine .reg (eC 2 ((oo (pu 17 [Sl.v 1 s0,Sl.v 1 s1]) none fun v=>some (v,Ap))) (show _ = some ((zB true),_) from (by have hz:(oo (pu 17 [Sl.v 1 s0,Sl.v 1 s1]) none fun v=>some (v,Ap)) = some ((zB b1),Ap):=(AB h3);rw [h4] at hz;exact hz)) (eC 3 (some ((zB (Bd x0 x1)),Ap)) (show _ = some ((zB true),_) from (by rw [show (Bd x0 x1) = true from h5])) (eC 4 ((oo (pu 22 [Sl.v 1 s2,Sl.v 1 s3]) none fun v=>some (v,Ap))) (show _ = some ((zB true),_) from (by have hz:(oo (pu 22 [Sl.v 1 s2,Sl.v 1 s3]) none fun v=>some (v,Ap)) = some ((zB b2),Ap):=(AB h6);rw [h7] at hz;exact hz)) (eC 4 (some ((zB (Bd x2 x3)),Ap)) (show _ = some ((zB true),_) from (by rw [show (Bd x2 x3) = true from h8])) (eC 2 ((oo (pu 10 []) none fun v=>some (v,Ap))) (AB h9) (eE)))))) ?_
       exact ⟨b3,hm,(.k0 [false] [] [4])⟩
      ·refine .reg (eC 2 ((oo (pu 17 [Sl.v 1 s0, Sl.v 1 s1]) none fun v => some (v, Ap))) (show _ = some ((zB true), _) from (by have hz : (oo (pu 17 [Sl.v 1 s0, Sl.v 1 s1]) none fun v => some (v, Ap)) = some ((zB b1), Ap) := (AB h3); rw [h4] at hz; exact hz)) (eC 3 (some ((zB (Bd x0 x1)), Ap)) (show _ = some ((zB true), _) from (by rw [show (Bd x0 x1) = true from h5])) (eC 4 ((oo (pu 22 [Sl.v 1 s2, Sl.v 1 s3]) none fun v => some (v, Ap))) (show _ = some ((zB true), _) from (by have hz : (oo (pu 22 [Sl.v 1 s2, Sl.v 1 s3]) none fun v => some (v, Ap)) = some ((zB b2), Ap) := (AB h6); rw [h7] at hz; exact hz)) (eC 4 (some ((zB (Bd x2 x3)), Ap)) (show _ = some ((zB false), _) from (by rw [show (Bd x2 x3) = false from h8])) (eE))))) ?_
       exact ⟨false,hm,(.k0 [false] [] [4])⟩
     ·refine .reg (eC 2 ((oo (pu 17 [Sl.v 1 s0, Sl.v 1 s1]) none fun v => some (v, Ap))) (show _ = some ((zB true), _) from (by have hz : (oo (pu 17 [Sl.v 1 s0, Sl.v 1 s1]) none fun v => some (v, Ap)) = some ((zB b1), Ap) := (AB h3); rw [h4] at hz; exact hz)) (eC 3 (some ((zB (Bd x0 x1)), Ap)) (show _ = some ((zB true), _) from (by rw [show (Bd x0 x1) = true from h5])) (eC 4 ((oo (pu 22 [Sl.v 1 s2, Sl.v 1 s3]) none fun v => some (v, Ap))) (show _ = some ((zB false), _) from (by have hz : (oo (pu 22 [Sl.v 1 s2, Sl.v 1 s3]) none fun v => some (v, Ap)) = some ((zB b2), Ap) := (AB h6); rw [h7] at hz; exact hz)) (eE)))) ?_
      exact ⟨false,hm,(.k0 [false] [] [4])⟩
    ·refine .reg (eC 2 ((oo (pu 17 [Sl.v 1 s0, Sl.v 1 s1]) none fun v => some (v, Ap))) (show _ = some ((zB true), _) from (by have hz : (oo (pu 17 [Sl.v 1 s0, Sl.v 1 s1]) none fun v => some (v, Ap)) = some ((zB b1), Ap) := (AB h3); rw [h4] at hz; exact hz)) (eC 3 (some ((zB (Bd x0 x1)), Ap)) (show _ = some ((zB false), _) from (by rw [show (Bd x0 x1) = false from h5])) (eE))) ?_
     exact ⟨false,hm,(.k0 [false] [] [4])⟩
   ·refine .reg (eC 2 ((oo (pu 17 [Sl.v 1 s0, Sl.v 1 s1]) none fun v => some (v, Ap))) (show _ = some ((zB false), _) from (by have hz : (oo (pu 17 [Sl.v 1 s0, Sl.v 1 s1]) none fun v => some (v, Ap)) = some ((zB b1), Ap) := (AB h3); rw [h4] at hz; exact hz)) (eE)) ?_
    exact ⟨false,hm,(.k0 [false] [] [4])⟩
def Ub (pu:Af) (n:Nat):OV:=
 (some (.bool true))
def Ou (pu:Af) (n:Nat) (ih0:Sl→Sl→Int→OV) (s0 s1:Sl) (z0:Int):OV:=
 (bb (AY z0 (Int.ofNat (Sl.n s0))) (oo (EA z0) none fun k1=>(bb (an (Nat.blt k1 (Sl.n s0)) true) (oo (AL (Sl.cs s0) (k1 * 1)) none fun v0=>(oo (Bi .i64 v0) none fun x0=>(bb (an (Nat.blt k1 (Sl.n s1)) true) (oo (AL (Sl.cs s1) (k1 * 1)) none fun v1=>(oo (Bi .i64 v1) none fun x1=>(bb (nt (Bd x0 x1)) (some (.bool false)) (ih0 s0 s1 (Aj .i64 (Int.add (Int.ofNat k1) (1:Int))))))) none))) none)) (Ub pu n))
def Ov (pu:Af) (n w:Nat):Sl→Sl→Int→OV:=
 Nat.rec (motive:=fun _=>Sl→Sl→Int→OV) (fun _ _ _=>none) (fun _ ih0=>Ou pu n ih0) w
def Aff (pu:Af) (n:Nat) (s0 s1:Sl):OV:=
 (bb (nt (Bd (Int.ofNat (Sl.n s0)) (Int.ofNat (Sl.n s1)))) (some (.bool false)) (Ov pu n n s0 s1 (0:Int)))
def m17 (pu:Af) (n:Nat) (args:LV):OV:=
 (ll args none fun a0 args=>(ll args none fun a1 args=>(ll args (oo (Bj 1 a0) none fun s0=>(oo (Bj 1 a1) none fun s1=>(Aff pu n s0 s1))) fun _ _=>none)))
theorem Afh (pu:Af) (n:Nat) {v:Value} (hm:Ub pu n = some v):BN tt (Bb tabs isP pu (inl pu)) 1 bI (fr 26 []) Ap (Fin tt 1 [.tmp 4] v):=by
 unfold Ub at hm
 refine .then (.rK (.ghs (fr 26 [(4,zB true)]) Ap (.k0 [false] [] [4]) ?_))
 refine .ret ?_
 exact Ay (zB true) hm
theorem r17 {call:A8} (pu:Af) (n:Nat) (hcall:call = Bb tabs isP pu (inl pu)) {args:LV} {v:Value} (hm:m17 pu n args = some v) (_:∀ x ∈ args,closed2 x = true):args.length≤26∧BN tt call 1 RO (Fr.made 26 args) (Ao tabs) (Fin tt 1 [.tmp 4] v):=by
 subst hcall
 unfold m17 at hm
 replace hm:=Ad hm;obtain ⟨a0,args_0,rfl,hm⟩:=hm
 replace hm:=Ad hm;obtain ⟨a1,args_1,rfl,hm⟩:=hm
 replace hm:=AC hm;obtain ⟨rfl,hm⟩:=hm
 replace hm:=Al hm;obtain ⟨s0,rfl,hm⟩:=hm
 replace hm:=Al hm;obtain ⟨s1,rfl,hm⟩:=hm
 unfold Aff at hm
 refine ⟨by simp,?_⟩
 refine .same (F':=(fr 26 [(0,Sl.v 1 s0),(1,Sl.v 1 s1)])) (H':=Ap) (by kernel_rfl) (by kernel_rfl) ?_
 refine .then (.rK (.ghs (fr 26 [(0,Sl.v 1 s0),(1,Sl.v 1 s1)]) Ap (.k0 [false] [] [0,1]) ?_))
 refine .then (.then (.rK (.ghs (fr 26 [(0,Sl.v 1 s0),(1,Sl.v 1 s1),(10,(zB (nt (Bd (Int.ofNat (Sl.n s0)) (Int.ofNat (Sl.n s1))))))]) Ap (.k0 [false] [] [0,1,10]) ?_)))
 replace hm:=Ag hm;rcases hm with ⟨h0,hm⟩ | ⟨h0,hm⟩
 ·refine Bp (nt (Bd (Int.ofNat (Sl.n s0)) (Int.ofNat (Sl.n s1)))) h0 ?_
  refine .then (.rK (.ghs (fr 26 [(4,zB false)]) Ap (.k0 [false] [] [4]) ?_))
  refine .ret ?_
  exact Ay (zB false) hm
 ·refine Bq (nt (Bd (Int.ofNat (Sl.n s0)) (Int.ofNat (Sl.n s1)))) h0 ?_
  refine .skip (.ghs (fr 26 [(0,Sl.v 1 s0),(1,Sl.v 1 s1)]) Ap (.k0 [false] [] [0,1]) ?_)
  refine .join (v:=v) (fun y:Unit=>((fr 26 []),Ap)) (fun y=>Ub pu n) ?_ ?_
  ·rintro _ hm
   exact Afh pu n hm
  ·refine .then (.rK (.ghs (fr 26 [(0, Sl.v 1 s0), (1, Sl.v 1 s1), (5, (zI (0 : Int)))]) Ap (.k0 [false] [] [0, 1, 5]) ?_))
   refine .block (.loopM (v:=v) (fun y:Sl×Sl×Int=>((fr 26 [(0,(Sl.v 1 y.1)),(1,(Sl.v 1 y.2.1)),(5,(zI y.2.2))]),Ap)) (fun w y=>Ov pu n w y.1 y.2.1 y.2.2) n ⟨(s0,s1,(0:Int)),hm,(.k0 [false] [] [0,1,5])⟩ (fun _=>rfl) ?_)
   rintro w0 ⟨s2,s3,z0⟩ hm
   replace hm:Ou pu n (Ov pu n w0) s2 s3 z0 = some v:=hm
   unfold Ou at hm
   refine .then (.then (.rK (.ghs (fr 26 [(0,Sl.v 1 s2),(1,Sl.v 1 s3),(5,zI z0),(14,(zB (AY z0 (Int.ofNat (Sl.n s2)))))]) Ap (.k0 [false] [] [0,1,5,14]) ?_)))
   replace hm:=Ag hm;rcases hm with ⟨h1,hm⟩ | ⟨h1,hm⟩
   ·refine Bp (AY z0 (Int.ofNat (Sl.n s2))) h1 ?_
    refine .skip (.ghs (fr 26 [(0,Sl.v 1 s2),(1,Sl.v 1 s3),(5,zI z0)]) Ap (.k0 [false] [] [0,1,5]) ?_)
    refine .then (.block (.then ?_))
    replace hm:=Ab hm;obtain ⟨k1,h2,hm⟩:=hm
    obtain rfl:=AR h2
    replace hm:=Ae hm;obtain ⟨h3,hm⟩:=hm
    replace hm:=oI hm;obtain ⟨x0,h4,hm⟩:=hm
    replace hm:=Ae hm;obtain ⟨h5,hm⟩:=hm
    replace hm:=oI hm;obtain ⟨x1,h6,hm⟩:=hm
    refine .reg (eC 2 (keep Ap (bb (an (Nat.blt k1 (Sl.n s2)) true) (some (Cv (k1 * 1) (Sl.cs s2))) none)) (AX h3) (eD (keep Ap (AL (Sl.cs s2) (k1 * 1))) (AZ h4) (eC 2 (keep Ap (bb (an (Nat.blt k1 (Sl.n s3)) true) (some (Cv (k1 * 1) (Sl.cs s3))) none)) (AX h5) (eD (keep Ap (AL (Sl.cs s3) (k1 * 1))) (AZ h6) (eE))))) ?_
    refine .ghs (fr 26 [(0,Sl.v 1 s2),(1,Sl.v 1 s3),(5,(zI (Int.ofNat k1))),(25,(zB (nt (Bd x0 x1))))]) Ap (.k0 [false] [] [0,1,5,25]) ?_
    replace hm:=Ag hm;rcases hm with ⟨h7,hm⟩ | ⟨h7,hm⟩
    ·refine Bp (nt (Bd x0 x1)) h7 ?_
     refine .then (.rK (.ghs (fr 26 [(4,zB false)]) Ap (.k0 [false] [] [4]) ?_))
     refine .ret ?_
     exact Ay (zB false) hm
    ·refine Bq (nt (Bd x0 x1)) h7 ?_
     refine .skip (.ghs (fr 26 [(0,Sl.v 1 s2),(1,Sl.v 1 s3),(5,(zI (Int.ofNat k1)))]) Ap (.k0 [false] [] [0,1,5]) ?_)
     refine .rK ?_
     exact ⟨(s2,s3,(Aj .i64 (Int.add (Int.ofNat k1) (1:Int)))),hm,(.k0 [false] [] [0,1,5])⟩
   ·refine Bq (AY z0 (Int.ofNat (Sl.n s2))) h1 ?_
    refine .exit ?_
    exact ⟨(),hm,(.k0 [false] [] [])⟩

def Zt (pu:Af) (n:Nat) (x0 x1 x2:Int) (s0 s1:Sl):OV:=
 (oo (pu 43 [(.agg ⟨[.int .i64 x0,.int .i64 x1,.int .i64 x2,Sl.v 1 s0]⟩),(Sl.v 1 (Sl.mk 1 0 (Aq (1 * 1) (Am 0 ([Sl.v 1 s1]:LV)))))]) none fun v0=>(oo (CQ v0) none fun l0=>(ll l0 none fun v1 l0=>(ll l0 none fun v2 l0=>(ll l0 (bb (isS (Pv v1)) (oo (Pv v1) none fun p0=>(oo (Bi .i64 v2) none fun x3=>(bb (nt (Bd x3 (0:Int))) (some (.tuple ⟨[(Sl.v 1 (Sl.mk 0 2 [])),.int .i64 x3]⟩)) (oo (pu 52 [(Cv (Db.off p0) (Db.cs p0)),Sl.v 1 s1]) none fun v3=>(oo (Bj 1 v3) none fun s2=>(bb (an (Nat.blt 0 (Sl.n s2)) true) (oo (AL (Sl.cs s2) (0 * 1)) none fun v4=>(oo (Bj 1 v4) none fun s3=>(some (.tuple ⟨[Sl.v 1 s3,(.int .i64 (0:Int))]⟩)))) none)))))) (bb (VU v1) (oo (Bi .i64 v2) none fun x4=>(bb (nt (Bd x4 (0:Int))) (some (.tuple ⟨[(Sl.v 1 (Sl.mk 0 2 [])),.int .i64 x4]⟩)) (oo (pu 52 [(.pointer none),Sl.v 1 s1]) none fun v5=>(oo (Bj 1 v5) none fun s4=>(bb (an (Nat.blt 0 (Sl.n s4)) true) (oo (AL (Sl.cs s4) (0 * 1)) none fun v6=>(oo (Bj 1 v6) none fun s5=>(some (.tuple ⟨[Sl.v 1 s5,(.int .i64 (0:Int))]⟩)))) none))))) none)) fun _ _=>none)))))
def m18 (pu:Af) (n:Nat) (args:LV):OV:=
 (ll args none fun a0 args=>(ll args none fun a1 args=>(ll args (oo (Bt a0) none fun l0=>(ll l0 none fun v0 l0=>(ll l0 none fun v1 l0=>(ll l0 none fun v2 l0=>(ll l0 none fun v3 l0=>(ll l0 (oo (Bi .i64 v0) none fun x0=>(oo (Bi .i64 v1) none fun x1=>(oo (Bi .i64 v2) none fun x2=>(oo (Bj 1 v3) none fun s0=>(oo (Bj 1 a1) none fun s1=>(Zt pu n x0 x1 x2 s0 s1)))))) fun _ _=>none)))))) fun _ _=>none)))
theorem r18 {call:A8} (pu:Af) (n:Nat) (hcall:call = Bb tabs isP pu (inl pu)) {args:LV} {v:Value} (hm:m18 pu n args = some v) (_:∀ x ∈ args,closed2 x = true):args.length≤23∧BN tt call 1 RP (Fr.made 23 args) (Ao tabs) (Fin tt 1 [.tmp 4,.tmp 5] v):=by
 subst hcall
 unfold m18 at hm
 replace hm:=Ad hm;obtain ⟨a0,args_0,rfl,hm⟩:=hm
 replace hm:=Ad hm;obtain ⟨a1,args_1,rfl,hm⟩:=hm
 replace hm:=AC hm;obtain ⟨rfl,hm⟩:=hm
 replace hm:=BG hm;obtain ⟨l0,rfl,hm⟩:=hm
 replace hm:=Ad hm;obtain ⟨v0,l353_0,rfl,hm⟩:=hm
 replace hm:=Ad hm;obtain ⟨v1,l353_1,rfl,hm⟩:=hm
 replace hm:=Ad hm;obtain ⟨v2,l353_2,rfl,hm⟩:=hm
 replace hm:=Ad hm;obtain ⟨v3,l353_3,rfl,hm⟩:=hm
 replace hm:=AC hm;obtain ⟨rfl,hm⟩:=hm
 replace hm:=Ai hm;obtain ⟨x0,rfl,hm⟩:=hm
 replace hm:=Ai hm;obtain ⟨x1,rfl,hm⟩:=hm
 replace hm:=Ai hm;obtain ⟨x2,rfl,hm⟩:=hm
 replace hm:=Al hm;obtain ⟨s0,rfl,hm⟩:=hm
 replace hm:=Al hm;obtain ⟨s1,rfl,hm⟩:=hm
 unfold Zt at hm
 refine ⟨by simp,?_⟩
 refine .same (F':=(fr 23 [(0,(.agg ⟨[zI x0,zI x1,zI x2,Sl.v 1 s0]⟩)),(1,Sl.v 1 s1)])) (H':=Ap) (by kernel_rfl) (by kernel_rfl) ?_
 refine .then (.rK (.ghs (fr 23 [(1,Sl.v 1 s1),(2,pt 1 0)]) (hT 2 [(oC [zI x0,zI x1,zI x2,Sl.v 1 s0])]) (.k0 [false] [.tmp 2 false] [1,2]) ?_))
 refine .then ?_
 replace hm:=Ab hm;obtain ⟨v4,h0,hm⟩:=hm
 replace hm:=Ch hm;obtain ⟨l1,rfl,hm⟩:=hm
 replace hm:=Ad hm;obtain ⟨v5,l382_0,rfl,hm⟩:=hm
 replace hm:=Ad hm;obtain ⟨v6,l382_1,rfl,hm⟩:=hm
 replace hm:=AC hm;obtain ⟨rfl,hm⟩:=hm
 replace hm:=Ag hm;rcases hm with ⟨h1,hm⟩ | ⟨h1,hm⟩
 ·replace hm := Ab hm; obtain ⟨p0, h2, hm⟩ := hm
  obtain rfl:=F7 h2
  replace hm:=Ai hm;obtain ⟨x3,rfl,hm⟩:=hm
  refine .reg (eC 3 (Hr tabs 1 (pu 43) [(.agg ⟨[zI x0,zI x1,zI x2,Sl.v 1 s0]⟩),sc 2 0 1 1 3] (hT 3 [(oC [zI x0,zI x1,zI x2,Sl.v 1 s0]),(oC [Sl.v 1 s1])])) (KI (DZ (CV (z:=1) (v:=(.agg ⟨[zI x0,zI x1,zI x2,Sl.v 1 s0]⟩)) (H:=(hT 3 [(oC [zI x0,zI x1,zI x2,Sl.v 1 s0]),(oC [Sl.v 1 s1])])) (by kernel_rfl) (by kernel_rfl) (by kernel_rfl)) (DZ (show ER 1 (sc 2 0 1 1 3) (hT 3 [(oC [zI x0,zI x1,zI x2,Sl.v 1 s0]),(oC [Sl.v 1 s1])]) = some ((Sl.v 1 (Sl.mk 1 0 (Aq (1 * 1) (Am 0 ([Sl.v 1 s1]:LV))))),(hT 3 [(oC [zI x0,zI x1,zI x2,Sl.v 1 s0]),.dead])) from KH 2 0 1 1 3 ([Sl.v 1 s1]:LV) [] (by kernel_rfl) (by kernel_rfl) (by kernel_rfl)) Jt)) (by kernel_rfl) h0) (eE)) ?_
  refine .ghs (fr 23 [(1,Sl.v 1 s1),(6,(Cv (Db.off p0) (Db.cs p0))),(7,zI x3)]) Ap (.k0 [false] [] [1,6,7]) ?_
  refine .then (.then (.rK (.ghs (fr 23 [(1,Sl.v 1 s1),(6,(Cv (Db.off p0) (Db.cs p0))),(7,zI x3),(16,(zB (nt (Bd x3 (0:Int)))))]) Ap (.k0 [false] [] [1,6,7,16]) ?_)))
  replace hm:=Ag hm;rcases hm with ⟨h3,hm⟩ | ⟨h3,hm⟩
  ·refine Bp (nt (Bd x3 (0 : Int))) h3 ?_
   refine .then (.rK (.ghs (fr 23 [(4,(.slice none 0 0)),(5,zI x3)]) Ap (.k0 [false] [] [4,5]) ?_))
   refine .ghs (Fr.puts (fr 23 [(4,(.slice none 0 0)),(5,zI x3)]) [(4,(Sl.v 1 (Sl.mk 0 2 [])))]) Ap (.freeze 1 4 1 (by kernel_rfl) (by kernel_rfl) (E9.id _ _)) ?_
   refine .ret ?_
   exact Ay (.tuple ⟨[(Sl.v 1 (Sl.mk 0 2 [])),zI x3]⟩) hm
  ·refine Bq (nt (Bd x3 (0 : Int))) h3 ?_
   refine .skip (.ghs (fr 23 [(1,Sl.v 1 s1),(6,(Cv (Db.off p0) (Db.cs p0)))]) Ap (.k0 [false] [] [1,6]) ?_)
   refine .then ?_
   replace hm:=oS hm;obtain ⟨s2,h4,hm⟩:=hm
   replace hm:=Ae hm;obtain ⟨h5,hm⟩:=hm
   replace hm:=oS hm;obtain ⟨s3,h6,hm⟩:=hm
   refine .reg (eC 2 ((oo (pu 52 [(Cv (Db.off p0) (Db.cs p0)),Sl.v 1 s1]) none fun v=>some (v,Ap))) (AB h4) (eD (keep Ap (bb (an (Nat.blt 0 (Sl.n s2)) true) (some (Cv (0 * 1) (Sl.cs s2))) none)) (AX h5) (eD (keep Ap (AL (Sl.cs s2) (0 * 1))) (AZ h6) (eE)))) ?_
   refine .ghs (fr 23 [(4,Sl.v 1 s3),(5,(zI (0:Int)))]) Ap (.k0 [false] [] [4,5]) ?_
   refine .ret ?_
   exact Ay (.tuple ⟨[Sl.v 1 s3,(zI (0:Int))]⟩) hm
 ·replace hm := Ae hm; obtain ⟨h7, hm⟩ := hm
  obtain rfl:=Sz h7
  replace hm:=Ai hm;obtain ⟨x4,rfl,hm⟩:=hm
  refine .reg (eC 3 (Hr tabs 1 (pu 43) [(.agg ⟨[zI x0,zI x1,zI x2,Sl.v 1 s0]⟩),sc 2 0 1 1 3] (hT 3 [(oC [zI x0,zI x1,zI x2,Sl.v 1 s0]),(oC [Sl.v 1 s1])])) (KI (DZ (CV (z:=1) (v:=(.agg ⟨[zI x0,zI x1,zI x2,Sl.v 1 s0]⟩)) (H:=(hT 3 [(oC [zI x0,zI x1,zI x2,Sl.v 1 s0]),(oC [Sl.v 1 s1])])) (by kernel_rfl) (by kernel_rfl) (by kernel_rfl)) (DZ (show ER 1 (sc 2 0 1 1 3) (hT 3 [(oC [zI x0,zI x1,zI x2,Sl.v 1 s0]),(oC [Sl.v 1 s1])]) = some ((Sl.v 1 (Sl.mk 1 0 (Aq (1 * 1) (Am 0 ([Sl.v 1 s1]:LV))))),(hT 3 [(oC [zI x0,zI x1,zI x2,Sl.v 1 s0]),.dead])) from KH 2 0 1 1 3 ([Sl.v 1 s1]:LV) [] (by kernel_rfl) (by kernel_rfl) (by kernel_rfl)) Jt)) (by kernel_rfl) h0) (eE)) ?_
  refine .ghs (fr 23 [(1,Sl.v 1 s1),(6,(.pointer none)),(7,zI x4)]) Ap (.k0 [false] [] [1,6,7]) ?_
  refine .then (.then (.rK (.ghs (fr 23 [(1,Sl.v 1 s1),(6,(.pointer none)),(7,zI x4),(16,(zB (nt (Bd x4 (0:Int)))))]) Ap (.k0 [false] [] [1,6,7,16]) ?_)))
  replace hm:=Ag hm;rcases hm with ⟨h8,hm⟩ | ⟨h8,hm⟩
  ·refine Bp (nt (Bd x4 (0 : Int))) h8 ?_
   refine .then (.rK (.ghs (fr 23 [(4,(.slice none 0 0)),(5,zI x4)]) Ap (.k0 [false] [] [4,5]) ?_))
   refine .ghs (Fr.puts (fr 23 [(4,(.slice none 0 0)),(5,zI x4)]) [(4,(Sl.v 1 (Sl.mk 0 2 [])))]) Ap (.freeze 1 4 1 (by kernel_rfl) (by kernel_rfl) (E9.id _ _)) ?_
   refine .ret ?_
   exact Ay (.tuple ⟨[(Sl.v 1 (Sl.mk 0 2 [])),zI x4]⟩) hm
  ·refine Bq (nt (Bd x4 (0 : Int))) h8 ?_
   refine .skip (.ghs (fr 23 [(1,Sl.v 1 s1),(6,(.pointer none))]) Ap (.k0 [false] [] [1,6]) ?_)
   refine .then ?_
   replace hm:=oS hm;obtain ⟨s4,h9,hm⟩:=hm
   replace hm:=Ae hm;obtain ⟨h10,hm⟩:=hm
   replace hm:=oS hm;obtain ⟨s5,h11,hm⟩:=hm
   refine .reg (eC 2 ((oo (pu 52 [(.pointer none),Sl.v 1 s1]) none fun v=>some (v,Ap))) (AB h9) (eD (keep Ap (bb (an (Nat.blt 0 (Sl.n s4)) true) (some (Cv (0 * 1) (Sl.cs s4))) none)) (AX h10) (eD (keep Ap (AL (Sl.cs s4) (0 * 1))) (AZ h11) (eE)))) ?_
   refine .ghs (fr 23 [(4,Sl.v 1 s5),(5,(zI (0:Int)))]) Ap (.k0 [false] [] [4,5]) ?_
   refine .ret ?_
   exact Ay (.tuple ⟨[Sl.v 1 s5,(zI (0:Int))]⟩) hm

def Zu (pu:Af) (n:Nat) (x0 x1 x2:Int) (s0 s1:Sl):OV:=
 (oo (pu 46 [(.agg ⟨[.int .i64 x0,.int .i64 x1,.int .i64 x2,Sl.v 1 s0]⟩),Sl.v 1 s1]) none fun v0=>(oo (Bi .i64 v0) none fun x3=>(bb (nt (Bd x3 (0:Int))) (some (.tuple ⟨[(Sl.v 1 (Sl.mk 0 2 [])),.int .i64 x3]⟩)) (oo (pu 53 [(.agg ⟨[.int .i64 x0,.int .i64 x1,.int .i64 x2,Sl.v 1 s0]⟩),Sl.v 1 s1]) none fun v1=>(oo (Bj 1 v1) none fun s2=>(some (.tuple ⟨[Sl.v 1 s2,(.int .i64 (0:Int))]⟩)))))))
def m19 (pu:Af) (n:Nat) (args:LV):OV:=
 (ll args none fun a0 args=>(ll args none fun a1 args=>(ll args (oo (Bt a0) none fun l0=>(ll l0 none fun v0 l0=>(ll l0 none fun v1 l0=>(ll l0 none fun v2 l0=>(ll l0 none fun v3 l0=>(ll l0 (oo (Bi .i64 v0) none fun x0=>(oo (Bi .i64 v1) none fun x1=>(oo (Bi .i64 v2) none fun x2=>(oo (Bj 1 v3) none fun s0=>(oo (Bj 1 a1) none fun s1=>(Zu pu n x0 x1 x2 s0 s1)))))) fun _ _=>none)))))) fun _ _=>none)))
theorem r19 {call:A8} (pu:Af) (n:Nat) (hcall:call = Bb tabs isP pu (inl pu)) {args:LV} {v:Value} (hm:m19 pu n args = some v) (_:∀ x ∈ args,closed2 x = true):args.length≤16∧BN tt call 1 RQ (Fr.made 16 args) (Ao tabs) (Fin tt 1 [.tmp 4,.tmp 5] v):=by
 subst hcall
 unfold m19 at hm
 replace hm:=Ad hm;obtain ⟨a0,args_0,rfl,hm⟩:=hm
 replace hm:=Ad hm;obtain ⟨a1,args_1,rfl,hm⟩:=hm
 replace hm:=AC hm;obtain ⟨rfl,hm⟩:=hm
 replace hm:=BG hm;obtain ⟨l0,rfl,hm⟩:=hm
 replace hm:=Ad hm;obtain ⟨v0,l429_0,rfl,hm⟩:=hm
 replace hm:=Ad hm;obtain ⟨v1,l429_1,rfl,hm⟩:=hm
 replace hm:=Ad hm;obtain ⟨v2,l429_2,rfl,hm⟩:=hm
 replace hm:=Ad hm;obtain ⟨v3,l429_3,rfl,hm⟩:=hm
 replace hm:=AC hm;obtain ⟨rfl,hm⟩:=hm
 replace hm:=Ai hm;obtain ⟨x0,rfl,hm⟩:=hm
 replace hm:=Ai hm;obtain ⟨x1,rfl,hm⟩:=hm
 replace hm:=Ai hm;obtain ⟨x2,rfl,hm⟩:=hm
 replace hm:=Al hm;obtain ⟨s0,rfl,hm⟩:=hm
 replace hm:=Al hm;obtain ⟨s1,rfl,hm⟩:=hm
 unfold Zu at hm
 refine ⟨by simp,?_⟩
 refine .same (F':=(fr 16 [(0,(.agg ⟨[zI x0,zI x1,zI x2,Sl.v 1 s0]⟩)),(1,Sl.v 1 s1)])) (H':=Ap) (by kernel_rfl) (by kernel_rfl) ?_
 refine .then (.rK (.ghs (fr 16 [(1,Sl.v 1 s1),(2,pt 1 0)]) (hT 2 [(oC [zI x0,zI x1,zI x2,Sl.v 1 s0])]) (.k0 [false] [.tmp 2 false] [1,2]) ?_))
 refine .then ?_
 replace hm:=oI hm;obtain ⟨x3,h0,hm⟩:=hm
 refine .reg (eC 2 ((oo (pu 46 [(.agg ⟨[zI x0,zI x1,zI x2,Sl.v 1 s0]⟩),Sl.v 1 s1]) none fun v=>some (v,(hT 2 [(oC [zI x0,zI x1,zI x2,Sl.v 1 s0])])))) (AB h0) (eE)) ?_
 refine .ghs (fr 16 [(1,Sl.v 1 s1),(2,pt 1 0),(6,zI x3)]) (hT 2 [(oC [zI x0,zI x1,zI x2,Sl.v 1 s0])]) (.k0 [false] [.tmp 2 false] [1,2,6]) ?_
 refine .then (.then (.rK (.ghs (fr 16 [(1,Sl.v 1 s1),(2,pt 1 0),(6,zI x3),(11,(zB (nt (Bd x3 (0:Int)))))]) (hT 2 [(oC [zI x0,zI x1,zI x2,Sl.v 1 s0])]) (.k0 [false] [.tmp 2 false] [1,2,6,11]) ?_)))
 replace hm:=Ag hm;rcases hm with ⟨h1,hm⟩ | ⟨h1,hm⟩
 ·refine Bp (nt (Bd x3 (0 : Int))) h1 ?_
  refine .then (.rK (.ghs (fr 16 [(4,(.slice none 0 0)),(5,zI x3)]) Ap (.k0 [false] [] [4,5]) ?_))
  refine .ghs (Fr.puts (fr 16 [(4,(.slice none 0 0)),(5,zI x3)]) [(4,(Sl.v 1 (Sl.mk 0 2 [])))]) Ap (.freeze 1 4 1 (by kernel_rfl) (by kernel_rfl) (E9.id _ _)) ?_
  refine .ret ?_
  exact Ay (.tuple ⟨[(Sl.v 1 (Sl.mk 0 2 [])),zI x3]⟩) hm
 ·refine Bq (nt (Bd x3 (0 : Int))) h1 ?_
  refine .skip (.ghs (fr 16 [(1,Sl.v 1 s1),(2,pt 1 0)]) (hT 2 [(oC [zI x0,zI x1,zI x2,Sl.v 1 s0])]) (.k0 [false] [.tmp 2 false] [1,2]) ?_)
  refine .then ?_
  replace hm:=oS hm;obtain ⟨s2,h2,hm⟩:=hm
  refine .reg (eC 2 ((oo (pu 53 [(.agg ⟨[zI x0,zI x1,zI x2,Sl.v 1 s0]⟩),Sl.v 1 s1]) none fun v=>some (v,(hT 2 [(oC [zI x0,zI x1,zI x2,Sl.v 1 s0])])))) (AB h2) (eE)) ?_
  refine .ghs (fr 16 [(4,Sl.v 1 s2),(5,(zI (0:Int)))]) Ap (.k0 [false] [] [4,5]) ?_
  refine .ret ?_
  exact Ay (.tuple ⟨[Sl.v 1 s2,(zI (0:Int))]⟩) hm

def Zv (pu:Af) (n:Nat) (x0 x1 x2:Int) (s0 s1:Sl):OV:=
 (oo (pu 43 [(.agg ⟨[.int .i64 x0,.int .i64 x1,.int .i64 x2,Sl.v 1 s0]⟩),(Sl.v 1 (Sl.mk 1 0 (Aq (1 * 1) (Am 0 ([Sl.v 1 s1]:LV)))))]) none fun v0=>(oo (CQ v0) none fun l0=>(ll l0 none fun v1 l0=>(ll l0 none fun v2 l0=>(ll l0 (bb (isS (Pv v1)) (oo (Pv v1) none fun p0=>(oo (Bi .i64 v2) none fun x3=>(bb (nt (Bd x3 (0:Int))) (some (.tuple ⟨[(Sl.v 1 (Sl.mk 0 2 [])),.int .i64 x3]⟩)) (oo (pu 52 [(Cv (Db.off p0) (Db.cs p0)),Sl.v 1 s1]) none fun v3=>(oo (Bj 1 v3) none fun s2=>(some (.tuple ⟨[Sl.v 1 s2,(.int .i64 (0:Int))]⟩))))))) (bb (VU v1) (oo (Bi .i64 v2) none fun x4=>(bb (nt (Bd x4 (0:Int))) (some (.tuple ⟨[(Sl.v 1 (Sl.mk 0 2 [])),.int .i64 x4]⟩)) (oo (pu 52 [(.pointer none),Sl.v 1 s1]) none fun v4=>(oo (Bj 1 v4) none fun s3=>(some (.tuple ⟨[Sl.v 1 s3,(.int .i64 (0:Int))]⟩)))))) none)) fun _ _=>none)))))
def m20 (pu:Af) (n:Nat) (args:LV):OV:=
 (ll args none fun a0 args=>(ll args none fun a1 args=>(ll args (oo (Bt a0) none fun l0=>(ll l0 none fun v0 l0=>(ll l0 none fun v1 l0=>(ll l0 none fun v2 l0=>(ll l0 none fun v3 l0=>(ll l0 (oo (Bi .i64 v0) none fun x0=>(oo (Bi .i64 v1) none fun x1=>(oo (Bi .i64 v2) none fun x2=>(oo (Bj 1 v3) none fun s0=>(oo (Bj 1 a1) none fun s1=>(Zv pu n x0 x1 x2 s0 s1)))))) fun _ _=>none)))))) fun _ _=>none)))
theorem r20 {call:A8} (pu:Af) (n:Nat) (hcall:call = Bb tabs isP pu (inl pu)) {args:LV} {v:Value} (hm:m20 pu n args = some v) (_:∀ x ∈ args,closed2 x = true):args.length≤21∧BN tt call 1 RS (Fr.made 21 args) (Ao tabs) (Fin tt 1 [.tmp 4,.tmp 5] v):=by
 subst hcall
 unfold m20 at hm
 replace hm:=Ad hm;obtain ⟨a0,args_0,rfl,hm⟩:=hm
 replace hm:=Ad hm;obtain ⟨a1,args_1,rfl,hm⟩:=hm
 replace hm:=AC hm;obtain ⟨rfl,hm⟩:=hm
 replace hm:=BG hm;obtain ⟨l0,rfl,hm⟩:=hm
 replace hm:=Ad hm;obtain ⟨v0,l462_0,rfl,hm⟩:=hm
 replace hm:=Ad hm;obtain ⟨v1,l462_1,rfl,hm⟩:=hm
 replace hm:=Ad hm;obtain ⟨v2,l462_2,rfl,hm⟩:=hm
 replace hm:=Ad hm;obtain ⟨v3,l462_3,rfl,hm⟩:=hm
 replace hm:=AC hm;obtain ⟨rfl,hm⟩:=hm
 replace hm:=Ai hm;obtain ⟨x0,rfl,hm⟩:=hm
 replace hm:=Ai hm;obtain ⟨x1,rfl,hm⟩:=hm
 replace hm:=Ai hm;obtain ⟨x2,rfl,hm⟩:=hm
 replace hm:=Al hm;obtain ⟨s0,rfl,hm⟩:=hm
 replace hm:=Al hm;obtain ⟨s1,rfl,hm⟩:=hm
 unfold Zv at hm
 refine ⟨by simp,?_⟩
 refine .same (F':=(fr 21 [(0,(.agg ⟨[zI x0,zI x1,zI x2,Sl.v 1 s0]⟩)),(1,Sl.v 1 s1)])) (H':=Ap) (by kernel_rfl) (by kernel_rfl) ?_
 refine .then (.rK (.ghs (fr 21 [(1,Sl.v 1 s1),(2,pt 1 0)]) (hT 2 [(oC [zI x0,zI x1,zI x2,Sl.v 1 s0])]) (.k0 [false] [.tmp 2 false] [1,2]) ?_))
 refine .then ?_
 replace hm:=Ab hm;obtain ⟨v4,h0,hm⟩:=hm
 replace hm:=Ch hm;obtain ⟨l1,rfl,hm⟩:=hm
 replace hm:=Ad hm;obtain ⟨v5,l491_0,rfl,hm⟩:=hm
 replace hm:=Ad hm;obtain ⟨v6,l491_1,rfl,hm⟩:=hm
 replace hm:=AC hm;obtain ⟨rfl,hm⟩:=hm
 replace hm:=Ag hm;rcases hm with ⟨h1,hm⟩ | ⟨h1,hm⟩
 ·replace hm := Ab hm; obtain ⟨p0, h2, hm⟩ := hm
  obtain rfl:=F7 h2
  replace hm:=Ai hm;obtain ⟨x3,rfl,hm⟩:=hm
  refine .reg (eC 3 (Hr tabs 1 (pu 43) [(.agg ⟨[zI x0,zI x1,zI x2,Sl.v 1 s0]⟩),sc 2 0 1 1 3] (hT 3 [(oC [zI x0,zI x1,zI x2,Sl.v 1 s0]),(oC [Sl.v 1 s1])])) (KI (DZ (CV (z:=1) (v:=(.agg ⟨[zI x0,zI x1,zI x2,Sl.v 1 s0]⟩)) (H:=(hT 3 [(oC [zI x0,zI x1,zI x2,Sl.v 1 s0]),(oC [Sl.v 1 s1])])) (by kernel_rfl) (by kernel_rfl) (by kernel_rfl)) (DZ (show ER 1 (sc 2 0 1 1 3) (hT 3 [(oC [zI x0,zI x1,zI x2,Sl.v 1 s0]),(oC [Sl.v 1 s1])]) = some ((Sl.v 1 (Sl.mk 1 0 (Aq (1 * 1) (Am 0 ([Sl.v 1 s1]:LV))))),(hT 3 [(oC [zI x0,zI x1,zI x2,Sl.v 1 s0]),.dead])) from KH 2 0 1 1 3 ([Sl.v 1 s1]:LV) [] (by kernel_rfl) (by kernel_rfl) (by kernel_rfl)) Jt)) (by kernel_rfl) h0) (eE)) ?_
  refine .ghs (fr 21 [(1,Sl.v 1 s1),(6,(Cv (Db.off p0) (Db.cs p0))),(7,zI x3)]) Ap (.k0 [false] [] [1,6,7]) ?_
  refine .then (.then (.rK (.ghs (fr 21 [(1,Sl.v 1 s1),(6,(Cv (Db.off p0) (Db.cs p0))),(7,zI x3),(16,(zB (nt (Bd x3 (0:Int)))))]) Ap (.k0 [false] [] [1,6,7,16]) ?_)))
  replace hm:=Ag hm;rcases hm with ⟨h3,hm⟩ | ⟨h3,hm⟩
  ·refine Bp (nt (Bd x3 (0 : Int))) h3 ?_
   refine .then (.rK (.ghs (fr 21 [(4,(.slice none 0 0)),(5,zI x3)]) Ap (.k0 [false] [] [4,5]) ?_))
   refine .ghs (Fr.puts (fr 21 [(4,(.slice none 0 0)),(5,zI x3)]) [(4,(Sl.v 1 (Sl.mk 0 2 [])))]) Ap (.freeze 1 4 1 (by kernel_rfl) (by kernel_rfl) (E9.id _ _)) ?_
   refine .ret ?_
   exact Ay (.tuple ⟨[(Sl.v 1 (Sl.mk 0 2 [])),zI x3]⟩) hm
  ·refine Bq (nt (Bd x3 (0 : Int))) h3 ?_
   refine .skip (.ghs (fr 21 [(1,Sl.v 1 s1),(6,(Cv (Db.off p0) (Db.cs p0)))]) Ap (.k0 [false] [] [1,6]) ?_)
   refine .then ?_
   replace hm:=oS hm;obtain ⟨s2,h4,hm⟩:=hm
   refine .reg (eC 2 ((oo (pu 52 [(Cv (Db.off p0) (Db.cs p0)),Sl.v 1 s1]) none fun v=>some (v,Ap))) (AB h4) (eE)) ?_
   refine .ghs (fr 21 [(4,Sl.v 1 s2),(5,(zI (0:Int)))]) Ap (.k0 [false] [] [4,5]) ?_
   refine .ret ?_
   exact Ay (.tuple ⟨[Sl.v 1 s2,(zI (0:Int))]⟩) hm
 ·replace hm := Ae hm; obtain ⟨h5, hm⟩ := hm
  obtain rfl:=Sz h5
  replace hm:=Ai hm;obtain ⟨x4,rfl,hm⟩:=hm
  refine .reg (eC 3 (Hr tabs 1 (pu 43) [(.agg ⟨[zI x0,zI x1,zI x2,Sl.v 1 s0]⟩),sc 2 0 1 1 3] (hT 3 [(oC [zI x0,zI x1,zI x2,Sl.v 1 s0]),(oC [Sl.v 1 s1])])) (KI (DZ (CV (z:=1) (v:=(.agg ⟨[zI x0,zI x1,zI x2,Sl.v 1 s0]⟩)) (H:=(hT 3 [(oC [zI x0,zI x1,zI x2,Sl.v 1 s0]),(oC [Sl.v 1 s1])])) (by kernel_rfl) (by kernel_rfl) (by kernel_rfl)) (DZ (show ER 1 (sc 2 0 1 1 3) (hT 3 [(oC [zI x0,zI x1,zI x2,Sl.v 1 s0]),(oC [Sl.v 1 s1])]) = some ((Sl.v 1 (Sl.mk 1 0 (Aq (1 * 1) (Am 0 ([Sl.v 1 s1]:LV))))),(hT 3 [(oC [zI x0,zI x1,zI x2,Sl.v 1 s0]),.dead])) from KH 2 0 1 1 3 ([Sl.v 1 s1]:LV) [] (by kernel_rfl) (by kernel_rfl) (by kernel_rfl)) Jt)) (by kernel_rfl) h0) (eE)) ?_
  refine .ghs (fr 21 [(1,Sl.v 1 s1),(6,(.pointer none)),(7,zI x4)]) Ap (.k0 [false] [] [1,6,7]) ?_
  refine .then (.then (.rK (.ghs (fr 21 [(1,Sl.v 1 s1),(6,(.pointer none)),(7,zI x4),(16,(zB (nt (Bd x4 (0:Int)))))]) Ap (.k0 [false] [] [1,6,7,16]) ?_)))
  replace hm:=Ag hm;rcases hm with ⟨h6,hm⟩ | ⟨h6,hm⟩
  ·refine Bp (nt (Bd x4 (0 : Int))) h6 ?_
   refine .then (.rK (.ghs (fr 21 [(4,(.slice none 0 0)),(5,zI x4)]) Ap (.k0 [false] [] [4,5]) ?_))
   refine .ghs (Fr.puts (fr 21 [(4,(.slice none 0 0)),(5,zI x4)]) [(4,(Sl.v 1 (Sl.mk 0 2 [])))]) Ap (.freeze 1 4 1 (by kernel_rfl) (by kernel_rfl) (E9.id _ _)) ?_
   refine .ret ?_
   exact Ay (.tuple ⟨[(Sl.v 1 (Sl.mk 0 2 [])),zI x4]⟩) hm
  ·refine Bq (nt (Bd x4 (0 : Int))) h6 ?_
   refine .skip (.ghs (fr 21 [(1,Sl.v 1 s1),(6,(.pointer none))]) Ap (.k0 [false] [] [1,6]) ?_)
   refine .then ?_
   replace hm:=oS hm;obtain ⟨s3,h7,hm⟩:=hm
   refine .reg (eC 2 ((oo (pu 52 [(.pointer none),Sl.v 1 s1]) none fun v=>some (v,Ap))) (AB h7) (eE)) ?_
   refine .ghs (fr 21 [(4,Sl.v 1 s3),(5,(zI (0:Int)))]) Ap (.k0 [false] [] [4,5]) ?_
   refine .ret ?_
   exact Ay (.tuple ⟨[Sl.v 1 s3,(zI (0:Int))]⟩) hm
def Uc (pu:Af) (n n0 c0:Nat) (q0:LV):OV:=
 (bb (Au Ah q0) (bb (an (Nat.ble (0 + n0 * 1) (len q0)) (Au Ah (Aq (n0 * 1) (Am 0 q0)))) (some (.tuple ⟨[(Sl.v 1 (Sl.mk n0 0 (Aq (n0 * 1) (Am 0 q0)))),(.int .i64 (0:Int))]⟩)) none) none)
def Ow (pu:Af) (n:Nat) (ih0:Sl→Nat→Nat→Int→Int→Int→Int→Sl→LV→OV) (s0:Sl) (n0 c0:Nat) (z0 z1 z2 z3:Int) (s1:Sl) (q0:LV):OV:=
 (bb (Au Ah q0) (ih0 s0 n0 c0 (Aj .i64 (Int.add z0 (1:Int))) z1 z2 z3 s1 q0) none)
def Qp (pu:Af) (n:Nat) (ih0:Sl→Nat→Nat→Int→Int→Int→Int→Sl→LV→OV) (ih1:Sl→Nat→Nat→Int→Int→Int→Int→Int→Sl→LV→OV) (s0:Sl) (n0 c0:Nat) (z0 z1:Int) (b0:Bool) (z2 z3 z4:Int) (s1:Sl) (q0:LV):OV:=
 (bb b0 (bb (Au Ah q0) (oo (EA (Aj .i64 (Int.sub z1 (1:Int)))) none fun k1=>(oo (EA (Aj .i64 (Int.sub z1 (1:Int)))) none fun k2=>(bb (an (Nat.blt k2 n0) true) (oo (AL q0 (0 + k2 * 1)) none fun v0=>(oo (Bj 1 v0) none fun s2=>(oo (EA z1) none fun k3=>(bb (an (Nat.blt k3 n0) true) (oo (AL q0 (0 + k3 * 1)) none fun v1=>(oo (Bj 1 v1) none fun s3=>(bb (an (Nat.blt k3 n0) true) (bb (an (Nat.ble ((0 + k3 * 1) + 1) (len q0)) true) (bb (an (Nat.blt k1 n0) true) (bb (an (Nat.ble ((0 + k1 * 1) + 1) (len (BM ([Sl.v 1 s2]:LV) (0 + k3 * 1) q0))) true) (bb (Au Ah (BM ([Sl.v 1 s3]:LV) (0 + k1 * 1) (BM ([Sl.v 1 s2]:LV) (0 + k3 * 1) q0))) (ih1 s0 n0 c0 z0 (Aj .i64 (Int.sub (Int.ofNat k3) (1:Int))) z2 z3 z4 s1 (BM ([Sl.v 1 s3]:LV) (0 + k1 * 1) (BM ([Sl.v 1 s2]:LV) (0 + k3 * 1) q0))) none) none) none) none) none))) none)))) none))) none) (bb (Au Ah q0) (Ow pu n ih0 s0 n0 c0 z0 z2 z3 z4 s1 q0) none))
def Ox (pu:Af) (n:Nat) (ih0:Sl→Nat→Nat→Int→Int→Int→Int→Sl→LV→OV) (ih1:Sl→Nat→Nat→Int→Int→Int→Int→Int→Sl→LV→OV) (s0:Sl) (n0 c0:Nat) (z0 z1 z2 z3 z4:Int) (s1:Sl) (q0:LV):OV:=
 (bb (AY (0:Int) z1) (oo (EA z1) none fun k1=>(bb (an (Nat.blt k1 n0) true) (oo (AL q0 (0 + k1 * 1)) none fun v0=>(oo (Bj 1 v0) none fun s2=>(oo (EA (Aj .i64 (Int.sub (Int.ofNat k1) (1:Int)))) none fun k2=>(bb (an (Nat.blt k2 n0) true) (oo (AL q0 (0 + k2 * 1)) none fun v1=>(oo (Bj 1 v1) none fun s3=>(oo (pu 54 [Sl.v 1 s2,Sl.v 1 s3]) none fun v2=>(oo (Bf v2) none fun b0=>(bb (Au Ah q0) (Qp pu n ih0 ih1 s0 n0 c0 z0 (Int.ofNat k1) b0 z2 z3 z4 s1 q0) none))))) none)))) none)) (bb (Au Ah q0) (Qp pu n ih0 ih1 s0 n0 c0 z0 z1 false z2 z3 z4 s1 q0) none))
def Oy (pu:Af) (n:Nat) (ih0:Sl→Nat→Nat→Int→Int→Int→Int→Sl→LV→OV) (w:Nat):Sl→Nat→Nat→Int→Int→Int→Int→Int→Sl→LV→OV:=
 Nat.rec (motive:=fun _=>Sl→Nat→Nat→Int→Int→Int→Int→Int→Sl→LV→OV) (fun _ _ _ _ _ _ _ _ _ _=>none) (fun _ ih1=>Ox pu n ih0 ih1) w
def Ud (pu:Af) (n:Nat) (ih0:Sl→Nat→Nat→Int→Int→Int→Int→Sl→LV→OV) (s0:Sl) (n0 c0:Nat) (z0:Int) (s1:Sl) (b0:Bool) (z1 z2 z3:Int) (s2:Sl) (q0:LV):OV:=
 (bb (Au Ah q0) (bb b0 (Ow pu n ih0 s0 n0 c0 z0 z1 z2 z3 s2 q0) (bb (GV 1 24 n0 c0 1 q0) (bb (Au Ah (Br (Am 0 q0) [Sl.v 1 s1])) (Oy pu n ih0 n s0 (n0 + 1) (2 * (n0 + 1) + bb false 1 0) z0 (Aj .i64 (Int.sub (Int.ofNat (n0 + 1)) (1:Int))) z1 z2 z3 s2 (Br (Am 0 q0) [Sl.v 1 s1])) none) none)) none)
def Oz (pu:Af) (n:Nat) (ih0:Sl→Nat→Nat→Int→Int→Int→Int→Sl→LV→OV) (ih1:Sl→Nat→Nat→Int→Sl→Bool→Int→Int→Int→Int→Sl→LV→OV) (s0:Sl) (n0 c0:Nat) (z0:Int) (s1:Sl) (b0:Bool) (z1 z2 z3 z4:Int) (s2:Sl) (q0:LV):OV:=
 (bb (Au Ah q0) (bb (AY z1 (Int.ofNat n0)) (bb b0 (ih1 s0 n0 c0 z0 s1 true (Aj .i64 (Int.add z1 (1:Int))) z2 z3 z4 s2 q0) (oo (EA z1) none fun k1=>(bb (an (Nat.blt k1 n0) true) (oo (AL q0 (0 + k1 * 1)) none fun v0=>(oo (Bj 1 v0) none fun s3=>(oo (pu 50 [Sl.v 1 s3,Sl.v 1 s1]) none fun v1=>(oo (Bf v1) none fun b1=>(ih1 s0 n0 c0 z0 s1 b1 (Aj .i64 (Int.add (Int.ofNat k1) (1:Int))) z2 z3 z4 s2 q0))))) none))) (Ud pu n ih0 s0 n0 c0 z0 s1 b0 z2 z3 z4 s2 q0)) none)
def Qq (pu:Af) (n:Nat) (ih0:Sl→Nat→Nat→Int→Int→Int→Int→Sl→LV→OV) (w:Nat):Sl→Nat→Nat→Int→Sl→Bool→Int→Int→Int→Int→Sl→LV→OV:=
 Nat.rec (motive:=fun _=>Sl→Nat→Nat→Int→Sl→Bool→Int→Int→Int→Int→Sl→LV→OV) (fun _ _ _ _ _ _ _ _ _ _ _ _=>none) (fun _ ih1=>Oz pu n ih0 ih1) w
def OA (pu:Af) (n:Nat) (ih0:Sl→Nat→Nat→Int→Int→Int→Int→Sl→LV→OV) (s0:Sl) (n0 c0:Nat) (z0 z1 z2 z3:Int) (s1:Sl) (q0:LV):OV:=
 (bb (Au Ah q0) (bb (AY z0 (Int.ofNat (Sl.n s1))) (oo (EA z0) none fun k1=>(bb (an (Nat.blt k1 (Sl.n s1)) true) (oo (AL (Sl.cs s1) (k1 * 1)) none fun v0=>(oo (Bi .i64 v0) none fun x0=>(oo (pu 10480 [(.agg ⟨[.int .i64 z1,.int .i64 z2,.int .i64 z3,Sl.v 1 s1]⟩),Sl.v 1 s0,.int .i64 x0]) none fun v1=>(oo (CQ v1) none fun l0=>(ll l0 none fun v2 l0=>(ll l0 (oo (Bj 1 v2) none fun s2=>(Qq pu n ih0 n s0 n0 c0 (Int.ofNat k1) s2 false (0:Int) z1 z2 z3 s1 q0)) fun _ _=>none)))))) none)) (Uc pu n n0 c0 q0)) none)
def EM (pu:Af) (n w:Nat):Sl→Nat→Nat→Int→Int→Int→Int→Sl→LV→OV:=
 Nat.rec (motive:=fun _=>Sl→Nat→Nat→Int→Int→Int→Int→Sl→LV→OV) (fun _ _ _ _ _ _ _ _ _=>none) (fun _ ih0=>OA pu n ih0) w
def Zw (pu:Af) (n:Nat) (x0 x1 x2:Int) (s0 s1:Sl):OV:=
 (oo (pu 46 [(.agg ⟨[.int .i64 x0,.int .i64 x1,.int .i64 x2,Sl.v 1 s0]⟩),Sl.v 1 s1]) none fun v0=>(oo (Bi .i64 v0) none fun x3=>(bb (nt (Bd x3 (0:Int))) (some (.tuple ⟨[(Sl.v 1 (Sl.mk 0 2 [])),.int .i64 x3]⟩)) (EM pu n n s1 0 0 (0:Int) x0 x1 x2 s0 ([]:LV)))))
def m21 (pu:Af) (n:Nat) (args:LV):OV:=
 (ll args none fun a0 args=>(ll args none fun a1 args=>(ll args (oo (Bt a0) none fun l0=>(ll l0 none fun v0 l0=>(ll l0 none fun v1 l0=>(ll l0 none fun v2 l0=>(ll l0 none fun v3 l0=>(ll l0 (oo (Bi .i64 v0) none fun x0=>(oo (Bi .i64 v1) none fun x1=>(oo (Bi .i64 v2) none fun x2=>(oo (Bj 1 v3) none fun s0=>(oo (Bj 1 a1) none fun s1=>(Zw pu n x0 x1 x2 s0 s1)))))) fun _ _=>none)))))) fun _ _=>none)))
theorem Afm (pu:Af) (n n0 c0:Nat) (q0:LV) {v:Value} (hm:Uc pu n n0 c0 q0 = some v):BN tt (Bb tabs isP pu (inl pu)) 1 bJ (fr 90 [(7,sc 1 0 1 n0 c0)]) (hT 2 [oC q0]) (Fin tt 1 [.tmp 4,.tmp 5] v):=by
 unfold Uc at hm
 refine .then (.rK ?_)
 replace hm:=Ae hm;obtain ⟨h0,hm⟩:=hm
 refine .ghs (fr 90 [(4,sc 1 0 1 n0 c0),(5,(zI (0:Int)))]) (hT 2 [oC q0]) (.k [1] [false] [.tmp 4 false] [4,5] ⟨BI h0,trivial⟩) ?_
 replace hm:=Ae hm;obtain ⟨h1,hm⟩:=hm
 refine .ghs (Fr.puts (fr 90 [(4,sc 1 0 1 n0 c0),(5,(zI (0:Int)))]) [(4,(Sl.v 1 (Sl.mk n0 0 (Aq (n0 * 1) (Am 0 q0)))))]) (hT 2 [.dead]) (.freezeC 1 4 1 (an (Nat.ble (0 + n0 * 1) (len q0)) (Au Ah (Aq (n0 * 1) (Am 0 q0)))) (F1:=(Fr.puts (fr 90 [(4,sc 1 0 1 n0 c0),(5,(zI (0:Int)))]) [(4,(Sl.v 1 (Sl.mk n0 0 (Aq (n0 * 1) (Am 0 q0)))))])) (H1:=(hT 2 [.dead])) (by kernel_rfl) (by kernel_rfl) h1 (E9.id _ _)) ?_
 refine .ret ?_
 exact Ay (.tuple ⟨[(Sl.v 1 (Sl.mk n0 0 (Aq (n0 * 1) (Am 0 q0)))),(zI (0:Int))]⟩) hm
theorem r21 {call:A8} (pu:Af) (n:Nat) (hcall:call = Bb tabs isP pu (inl pu)) {args:LV} {v:Value} (hm:m21 pu n args = some v) (_:∀ x ∈ args,closed2 x = true):args.length≤90∧BN tt call 1 RU (Fr.made 90 args) (Ao tabs) (Fin tt 1 [.tmp 4,.tmp 5] v):=by
 subst hcall
 unfold m21 at hm
 replace hm:=Ad hm;obtain ⟨a0,args_0,rfl,hm⟩:=hm
 replace hm:=Ad hm;obtain ⟨a1,args_1,rfl,hm⟩:=hm
 replace hm:=AC hm;obtain ⟨rfl,hm⟩:=hm
 replace hm:=BG hm;obtain ⟨l0,rfl,hm⟩:=hm
 replace hm:=Ad hm;obtain ⟨v0,l518_0,rfl,hm⟩:=hm
 replace hm:=Ad hm;obtain ⟨v1,l518_1,rfl,hm⟩:=hm
 replace hm:=Ad hm;obtain ⟨v2,l518_2,rfl,hm⟩:=hm
 replace hm:=Ad hm;obtain ⟨v3,l518_3,rfl,hm⟩:=hm
 replace hm:=AC hm;obtain ⟨rfl,hm⟩:=hm
 replace hm:=Ai hm;obtain ⟨x0,rfl,hm⟩:=hm
 replace hm:=Ai hm;obtain ⟨x1,rfl,hm⟩:=hm
 replace hm:=Ai hm;obtain ⟨x2,rfl,hm⟩:=hm
 replace hm:=Al hm;obtain ⟨s0,rfl,hm⟩:=hm
 replace hm:=Al hm;obtain ⟨s1,rfl,hm⟩:=hm
 unfold Zw at hm
 refine ⟨by simp,?_⟩
 refine .same (F':=(fr 90 [(0,(.agg ⟨[zI x0,zI x1,zI x2,Sl.v 1 s0]⟩)),(1,Sl.v 1 s1)])) (H':=Ap) (by kernel_rfl) (by kernel_rfl) ?_
 refine .then (.rK (.ghs (fr 90 [(1,Sl.v 1 s1),(2,pt 1 0)]) (hT 2 [(oC [zI x0,zI x1,zI x2,Sl.v 1 s0])]) (.k0 [false] [.tmp 2 false] [1,2]) ?_))
 refine .then ?_
 replace hm:=oI hm;obtain ⟨x3,h0,hm⟩:=hm
 refine .reg (eC 2 ((oo (pu 46 [(.agg ⟨[zI x0,zI x1,zI x2,Sl.v 1 s0]⟩),Sl.v 1 s1]) none fun v=>some (v,(hT 2 [(oC [zI x0,zI x1,zI x2,Sl.v 1 s0])])))) (AB h0) (eE)) ?_
 refine .ghs (fr 90 [(1,Sl.v 1 s1),(2,pt 1 0),(6,zI x3)]) (hT 2 [(oC [zI x0,zI x1,zI x2,Sl.v 1 s0])]) (.k0 [false] [.tmp 2 false] [1,2,6]) ?_
 refine .then (.then (.rK (.ghs (fr 90 [(1,Sl.v 1 s1),(2,pt 1 0),(6,zI x3),(17,(zB (nt (Bd x3 (0:Int)))))]) (hT 2 [(oC [zI x0,zI x1,zI x2,Sl.v 1 s0])]) (.k0 [false] [.tmp 2 false] [1,2,6,17]) ?_)))
 replace hm:=Ag hm;rcases hm with ⟨h1,hm⟩ | ⟨h1,hm⟩
 ·refine Bp (nt (Bd x3 (0 : Int))) h1 ?_
  refine .then (.rK (.ghs (fr 90 [(4,(.slice none 0 0)),(5,zI x3)]) Ap (.k0 [false] [] [4,5]) ?_))
  refine .ghs (Fr.puts (fr 90 [(4,(.slice none 0 0)),(5,zI x3)]) [(4,(Sl.v 1 (Sl.mk 0 2 [])))]) Ap (.freeze 1 4 1 (by kernel_rfl) (by kernel_rfl) (E9.id _ _)) ?_
  refine .ret ?_
  exact Ay (.tuple ⟨[(Sl.v 1 (Sl.mk 0 2 [])),zI x3]⟩) hm
 ·refine Bq (nt (Bd x3 (0 : Int))) h1 ?_
  refine .skip (.ghs (fr 90 [(1,Sl.v 1 s1),(2,pt 1 0)]) (hT 2 [(oC [zI x0,zI x1,zI x2,Sl.v 1 s0])]) (.k0 [false] [.tmp 2 false] [1,2]) ?_)
  refine .then (.rK (.ghs (fr 90 [(1,Sl.v 1 s1),(2,pt 1 0),(7,(.slice none 0 0))]) (hT 2 [(oC [zI x0,zI x1,zI x2,Sl.v 1 s0])]) (.k0 [false] [.tmp 2 false] [1,2,7]) ?_))
  refine .join (v:=v) (fun y:Nat×Nat×LV=>((fr 90 [(7,(sc 1 0 1 y.1 y.2.1))]),(hT 2 [(oC y.2.2)]))) (fun y=>Uc pu n y.1 y.2.1 y.2.2) ?_ ?_
  ·rintro ⟨n0, c0, q0⟩ hm
   exact Afm pu n n0 c0 q0 hm
  ·refine .then (.rK (.ghs (fr 90 [(1, Sl.v 1 s1), (2, pt 1 0), (7, (.slice none 0 0)), (8, (zI (0 : Int)))]) (hT 2 [(oC [zI x0, zI x1, zI x2, Sl.v 1 s0])]) (.k0 [false] [.tmp 2 false] [1, 2, 7, 8]) ?_))
   refine .block (.loopM (v:=v) (fun y:Sl×Nat×Nat×Int×Int×Int×Int×Sl×LV=>((fr 90 [(1,(Sl.v 1 y.1)),(2,pt 1 0),(7,(sc 2 0 1 y.2.1 y.2.2.1)),(8,(zI y.2.2.2.1))]),(hT 3 [(oC [(zI y.2.2.2.2.1),(zI y.2.2.2.2.2.1),(zI y.2.2.2.2.2.2.1),(Sl.v 1 y.2.2.2.2.2.2.2.1)]),(oC y.2.2.2.2.2.2.2.2)]))) (fun w y=>EM pu n w y.1 y.2.1 y.2.2.1 y.2.2.2.1 y.2.2.2.2.1 y.2.2.2.2.2.1 y.2.2.2.2.2.2.1 y.2.2.2.2.2.2.2.1 y.2.2.2.2.2.2.2.2) n ⟨(s1,0,0,(0:Int),x0,x1,x2,s0,([]:LV)),hm,(.thaw 7 1 (by kernel_rfl) (.k0 [false] [.tmp 2 false,.tmp 7 false] [1,2,7,8]))⟩ (fun _=>rfl) ?_)
   rintro w0 ⟨s2,n1,c1,z0,z1,z2,z3,s3,q1⟩ hm
   replace hm:OA pu n (EM pu n w0) s2 n1 c1 z0 z1 z2 z3 s3 q1 = some v:=hm
   unfold OA at hm
   refine .then (.then (.rK ?_))
   replace hm:=Ae hm;obtain ⟨h2,hm⟩:=hm
   refine .ghs (fr 90 [(1,Sl.v 1 s2),(2,pt 1 0),(7,sc 2 0 1 n1 c1),(8,zI z0),(23,(zB (AY z0 (Int.ofNat (Sl.n s3)))))]) (hT 3 [(oC [zI z1,zI z2,zI z3,Sl.v 1 s3]),oC q1]) (.k [2] [false] [.tmp 2 false,.tmp 7 false] [1,2,7,8,23] ⟨BI h2,trivial⟩) ?_
   replace hm:=Ag hm;rcases hm with ⟨h3,hm⟩ | ⟨h3,hm⟩
   ·refine Bp (AY z0 (Int.ofNat (Sl.n s3))) h3 ?_
    refine .skip (.ghs (fr 90 [(1,Sl.v 1 s2),(2,pt 1 0),(7,sc 2 0 1 n1 c1),(8,zI z0)]) (hT 3 [(oC [zI z1,zI z2,zI z3,Sl.v 1 s3]),oC q1]) (.k [2] [false] [.tmp 2 false,.tmp 7 false] [1,2,7,8] ⟨BI h2,trivial⟩) ?_)
    refine .join (v:=v) (fun y:Sl×Nat×Nat×Int×Int×Int×Int×Sl×LV=>((fr 90 [(1,(Sl.v 1 y.1)),(2,pt 1 0),(7,(sc 2 0 1 y.2.1 y.2.2.1)),(8,(zI y.2.2.2.1))]),(hT 3 [(oC [(zI y.2.2.2.2.1),(zI y.2.2.2.2.2.1),(zI y.2.2.2.2.2.2.1),(Sl.v 1 y.2.2.2.2.2.2.2.1)]),(oC y.2.2.2.2.2.2.2.2)]))) (fun y=>Ow pu n (EM pu n w0) y.1 y.2.1 y.2.2.1 y.2.2.2.1 y.2.2.2.2.1 y.2.2.2.2.2.1 y.2.2.2.2.2.2.1 y.2.2.2.2.2.2.2.1 y.2.2.2.2.2.2.2.2) ?_ ?_
    ·rintro ⟨s4, n2, c2, z4, z5, z6, z7, s5, q2⟩ hm
     unfold Ow at hm
     refine .rK ?_
     replace hm:=Ae hm;obtain ⟨h4,hm⟩:=hm
     exact ⟨(s4,n2,c2,(Aj .i64 (Int.add z4 (1:Int))),z5,z6,z7,s5,q2),hm,(.k [2] [false] [.tmp 2 false,.tmp 7 false] [1,2,7,8] ⟨BI h4,trivial⟩)⟩
    ·refine .block (.then ?_)
     replace hm:=Ab hm;obtain ⟨k1,h5,hm⟩:=hm
     obtain rfl:=AR h5
     replace hm:=Ae hm;obtain ⟨h6,hm⟩:=hm
     replace hm:=oI hm;obtain ⟨x4,h7,hm⟩:=hm
     replace hm:=Ab hm;obtain ⟨v4,h8,hm⟩:=hm
     replace hm:=Ch hm;obtain ⟨l1,rfl,hm⟩:=hm
     replace hm:=Ad hm;obtain ⟨v5,l3591_0,rfl,hm⟩:=hm
     replace hm:=AC hm;obtain ⟨rfl,hm⟩:=hm
     replace hm:=Al hm;obtain ⟨s6,rfl,hm⟩:=hm
     refine .reg (eC 5 (keep (hT 3 [(oC [zI z1,zI z2,zI z3,Sl.v 1 s3]),oC q1]) (bb (an (Nat.blt k1 (Sl.n s3)) true) (some (Cv (k1 * 1) (Sl.cs s3))) none)) (AX h6) (eD (keep (hT 3 [(oC [zI z1,zI z2,zI z3,Sl.v 1 s3]),oC q1]) (AL (Sl.cs s3) (k1 * 1))) (AZ h7) (eD (EK tabs [[none,none,none,some 1],[some 1],[none]] 3 [] [] (pu 10480) [(.agg ⟨[zI z1,zI z2,zI z3,Sl.v 1 s3]⟩),Sl.v 1 s2,zI x4] (hT 3 [(oC [zI z1,zI z2,zI z3,Sl.v 1 s3]),oC q1])) (EL (as:=[(.agg ⟨[zI z1,zI z2,zI z3,Sl.v 1 s3]⟩),Sl.v 1 s2,zI x4]) (H1:=(hT 3 [(oC [zI z1,zI z2,zI z3,Sl.v 1 s3]),oC q1])) (BS (Ot (Da Dk (Da Dk (Da Dk (Da (KQ (CV (z:=1) (v:=(Sl.v 1 s3)) (H:=(hT 3 [(oC [zI z1,zI z2,zI z3,Sl.v 1 s3]),oC q1])) (by kernel_rfl) (by kernel_rfl) (by kernel_rfl))) Oq))))) (BS (Dm (KQ (CV (z:=1) (v:=(Sl.v 1 s2)) (H:=(hT 3 [(oC [zI z1,zI z2,zI z3,Sl.v 1 s3]),oC q1])) (by kernel_rfl) (by kernel_rfl) (by kernel_rfl)))) (BS (Dm Dk) Gj))) (EI (H2:=(hT 3 [(oC [zI z1,zI z2,zI z3,Sl.v 1 s3]),oC q1])) (v:=(Sl.v 1 s6)) (v':=(Sl.v 1 s6)) [some 0] [] [] [(.agg ⟨[zI z1,zI z2,zI z3,Sl.v 1 s3]⟩),Sl.v 1 s2,zI x4] [] [] [some 0,none,none] [] [] (by kernel_rfl) BX (Eq.trans (by kernel_rfl) h8) BX BX)) (eE)))) ?_
     refine .ghs (fr 90 [(1,Sl.v 1 s2),(2,pt 1 0),(7,sc 2 0 1 n1 c1),(8,(zI (Int.ofNat k1))),(9,Sl.v 1 s6)]) (hT 3 [(oC [zI z1,zI z2,zI z3,Sl.v 1 s3]),oC q1]) (.k [2] [false] [.tmp 2 false,.tmp 7 false] [1,2,7,8,9] ⟨BI h2,trivial⟩) ?_
     refine .then (.rK (.ghs (fr 90 [(1,Sl.v 1 s2),(2,pt 1 0),(7,sc 2 0 1 n1 c1),(8,(zI (Int.ofNat k1))),(9,Sl.v 1 s6),(10,zB false)]) (hT 3 [(oC [zI z1,zI z2,zI z3,Sl.v 1 s3]),oC q1]) (.k [2] [false] [.tmp 2 false,.tmp 7 false] [1,2,7,8,9,10] ⟨BI h2,trivial⟩) ?_))
     refine .join (v:=v) (fun y:Sl×Nat×Nat×Int×Sl×Bool×Int×Int×Int×Sl×LV=>((fr 90 [(1,(Sl.v 1 y.1)),(2,pt 1 0),(7,(sc 2 0 1 y.2.1 y.2.2.1)),(8,(zI y.2.2.2.1)),(9,(Sl.v 1 y.2.2.2.2.1)),(10,(zB y.2.2.2.2.2.1))]),(hT 3 [(oC [(zI y.2.2.2.2.2.2.1),(zI y.2.2.2.2.2.2.2.1),(zI y.2.2.2.2.2.2.2.2.1),(Sl.v 1 y.2.2.2.2.2.2.2.2.2.1)]),(oC y.2.2.2.2.2.2.2.2.2.2)]))) (fun y=>Ud pu n (EM pu n w0) y.1 y.2.1 y.2.2.1 y.2.2.2.1 y.2.2.2.2.1 y.2.2.2.2.2.1 y.2.2.2.2.2.2.1 y.2.2.2.2.2.2.2.1 y.2.2.2.2.2.2.2.2.1 y.2.2.2.2.2.2.2.2.2.1 y.2.2.2.2.2.2.2.2.2.2) ?_ ?_
     ·rintro ⟨s7, n3, c3, z8, s8, b0, z9, z10, z11, s9, q3⟩ hm
      unfold Ud at hm
      refine .then (.then (.rK ?_))
      replace hm:=Ae hm;obtain ⟨h9,hm⟩:=hm
      refine .ghs (fr 90 [(1,Sl.v 1 s7),(2,pt 1 0),(7,sc 2 0 1 n3 c3),(8,zI z8),(9,Sl.v 1 s8),(49,zB b0)]) (hT 3 [(oC [zI z9,zI z10,zI z11,Sl.v 1 s9]),oC q3]) (.k [2] [false] [.tmp 2 false,.tmp 7 false] [1,2,7,8,9,49] ⟨BI h9,trivial⟩) ?_
      replace hm:=Ag hm;rcases hm with ⟨h10,hm⟩ | ⟨h10,hm⟩
      ·refine .ifT b0 (by kernel_rfl) h10 ?_
       refine .exit ?_
       exact ⟨(s7,n3,c3,z8,z9,z10,z11,s9,q3),hm,(.k [2] [false] [.tmp 2 false,.tmp 7 false] [1,2,7,8] ⟨BI h9,trivial⟩)⟩
      ·refine .ifF b0 (by kernel_rfl) h10 ?_
       refine .skip (.ghs (fr 90 [(1,Sl.v 1 s7),(2,pt 1 0),(7,sc 2 0 1 n3 c3),(8,zI z8),(9,Sl.v 1 s8)]) (hT 3 [(oC [zI z9,zI z10,zI z11,Sl.v 1 s9]),oC q3]) (.k [2] [false] [.tmp 2 false,.tmp 7 false] [1,2,7,8,9] ⟨BI h9,trivial⟩) ?_)
       refine .then ?_
       replace hm:=Ae hm;obtain ⟨h11,hm⟩:=hm
       refine .reg (eC 3 (Oc 1 24 n3 c3 1 2 q3 [Sl.v 1 s8] [] (hT 4 [(oC [zI z9,zI z10,zI z11,Sl.v 1 s9]),oC q3,(oC [Sl.v 1 s8])])) (I1 h11) (eE)) ?_
       replace hm:=Ae hm;obtain ⟨h12,hm⟩:=hm
       refine .ghs (fr 90 [(1,Sl.v 1 s7),(2,pt 1 0),(7,(sc 2 0 1 (n3 + 1) (d2 (n3 + 1)))),(8,zI z8)]) (hT 3 [(oC [zI z9,zI z10,zI z11,Sl.v 1 s9]),(oC (Br (Am 0 q3) [Sl.v 1 s8]))]) (.k [4] [false] [.tmp 2 false,.tmp 7 false] [1,2,7,8] ⟨BI h12,trivial⟩) ?_
       refine .then (.rK (.ghs (fr 90 [(1,Sl.v 1 s7),(2,pt 1 0),(7,(sc 2 0 1 (n3 + 1) (d2 (n3 + 1)))),(8,zI z8),(12,(zI (Aj .i64 (Int.sub (Int.ofNat (n3 + 1)) (1:Int)))))]) (hT 3 [(oC [zI z9,zI z10,zI z11,Sl.v 1 s9]),(oC (Br (Am 0 q3) [Sl.v 1 s8]))]) (.k [2] [false] [.tmp 2 false,.tmp 7 false] [1,2,7,8,12] ⟨BI h12,trivial⟩) ?_))
       refine .block (.loopM (v:=v) (fun y:Sl×Nat×Nat×Int×Int×Int×Int×Int×Sl×LV=>((fr 90 [(1,(Sl.v 1 y.1)),(2,pt 1 0),(7,(sc 2 0 1 y.2.1 y.2.2.1)),(8,(zI y.2.2.2.1)),(12,(zI y.2.2.2.2.1))]),(hT 3 [(oC [(zI y.2.2.2.2.2.1),(zI y.2.2.2.2.2.2.1),(zI y.2.2.2.2.2.2.2.1),(Sl.v 1 y.2.2.2.2.2.2.2.2.1)]),(oC y.2.2.2.2.2.2.2.2.2)]))) (fun w y=>Oy pu n (EM pu n w0) w y.1 y.2.1 y.2.2.1 y.2.2.2.1 y.2.2.2.2.1 y.2.2.2.2.2.1 y.2.2.2.2.2.2.1 y.2.2.2.2.2.2.2.1 y.2.2.2.2.2.2.2.2.1 y.2.2.2.2.2.2.2.2.2) n ⟨(s7,(n3 + 1),(d2 (n3 + 1)),z8,(Aj .i64 (Int.sub (Int.ofNat (n3 + 1)) (1:Int))),z9,z10,z11,s9,(Br (Am 0 q3) [Sl.v 1 s8])),hm,(.k [2] [false] [.tmp 2 false,.tmp 7 false] [1,2,7,8,12] ⟨BI h12,trivial⟩)⟩ (fun _=>rfl) ?_)
       rintro w1 ⟨s10,n4,c5,z12,z13,z14,z15,z16,s11,q4⟩ hm
       replace hm:Ox pu n (EM pu n w0) (Oy pu n (EM pu n w0) w1) s10 n4 c5 z12 z13 z14 z15 z16 s11 q4 = some v:=hm
       unfold Ox at hm
       refine .then (.join (v:=v) (fun y:Sl×Nat×Nat×Int×Int×Bool×Int×Int×Int×Sl×LV=>((fr 90 [(1,(Sl.v 1 y.1)),(2,pt 1 0),(7,(sc 2 0 1 y.2.1 y.2.2.1)),(8,(zI y.2.2.2.1)),(12,(zI y.2.2.2.2.1)),(70,(zB y.2.2.2.2.2.1))]),(hT 3 [(oC [(zI y.2.2.2.2.2.2.1),(zI y.2.2.2.2.2.2.2.1),(zI y.2.2.2.2.2.2.2.2.1),(Sl.v 1 y.2.2.2.2.2.2.2.2.2.1)]),(oC y.2.2.2.2.2.2.2.2.2.2)]))) (fun y=>Qp pu n (EM pu n w0) (Oy pu n (EM pu n w0) w1) y.1 y.2.1 y.2.2.1 y.2.2.2.1 y.2.2.2.2.1 y.2.2.2.2.2.1 y.2.2.2.2.2.2.1 y.2.2.2.2.2.2.2.1 y.2.2.2.2.2.2.2.2.1 y.2.2.2.2.2.2.2.2.2.1 y.2.2.2.2.2.2.2.2.2.2) ?_ ?_)
       ·rintro ⟨s12, n5, c6, z17, z18, b1, z19, z20, z21, s13, q5⟩ hm
        unfold Qp at hm
        replace hm:=Ag hm;rcases hm with ⟨h13,hm⟩ | ⟨h13,hm⟩
        ·refine .ifT b1 (by kernel_rfl) h13 ?_
         refine .skip ?_
         replace hm:=Ae hm;obtain ⟨h14,hm⟩:=hm
         refine .ghs (fr 90 [(1,Sl.v 1 s12),(2,pt 1 0),(7,sc 2 0 1 n5 c6),(8,zI z17),(12,zI z18)]) (hT 3 [(oC [zI z19,zI z20,zI z21,Sl.v 1 s13]),oC q5]) (.k [2] [false] [.tmp 2 false,.tmp 7 false] [1,2,7,8,12] ⟨BI h14,trivial⟩) ?_
         refine .then (.block ?_)
         replace hm:=Ab hm;obtain ⟨k2,h15,hm⟩:=hm
         replace hm:=Ab hm;obtain ⟨k3,h16,hm⟩:=hm
         replace hm:=Ae hm;obtain ⟨h17,hm⟩:=hm
         replace hm:=oS hm;obtain ⟨s14,h18,hm⟩:=hm
         replace hm:=Ab hm;obtain ⟨k4,h19,hm⟩:=hm
         obtain rfl:=AR h19
         replace hm:=Ae hm;obtain ⟨h20,hm⟩:=hm
         replace hm:=oS hm;obtain ⟨s15,h21,hm⟩:=hm
         replace hm:=Ae hm;obtain ⟨h22,hm⟩:=hm
         replace hm:=Ae hm;obtain ⟨h23,hm⟩:=hm
         replace hm:=Ae hm;obtain ⟨h24,hm⟩:=hm
         replace hm:=Ae hm;obtain ⟨h25,hm⟩:=hm
         refine .reg (eN 9 (Fr.puts (fr 90 [(1,Sl.v 1 s12),(2,pt 1 0),(7,sc 2 0 1 n5 c6),(8,zI z17),(12,(zI (Int.ofNat k4)))]) [(73,sc 2 0 1 n5 c6),(74,(zI (Int.ofNat k4))),(75,sc 2 0 1 n5 c6),(76,(zI (Int.ofNat k4))),(77,(zI (Int.ofNat k2))),(78,sc 2 0 1 n5 c6),(79,(zI (Int.ofNat k4))),(80,(zI (Int.ofNat k3))),(81,(.pointer (some ⟨2,(0 + k3 * 1),none⟩)))]) (hT 3 [(oC [zI z19,zI z20,zI z21,Sl.v 1 s13]),oC q5]) (eC 4 (some ((zI (Aj .i64 (Int.sub (Int.ofNat k4) (1:Int)))),(hT 3 [(oC [zI z19,zI z20,zI z21,Sl.v 1 s13]),oC q5]))) (show _ = some ((zI (Int.ofNat k2)),_) from (by rw [AR h15])) (eC 2 (some ((zI (Aj .i64 (Int.sub (Int.ofNat k4) (1:Int)))),(hT 3 [(oC [zI z19,zI z20,zI z21,Sl.v 1 s13]),oC q5]))) (show _ = some ((zI (Int.ofNat k3)),_) from (by rw [AR h16])) (eD (keep (hT 3 [(oC [zI z19,zI z20,zI z21,Sl.v 1 s13]),oC q5]) (bb (an (Nat.blt k3 n5) true) (some (.pointer (some ⟨2,(0 + k3 * 1),none⟩))) none)) (AX h17) (by kernel_rfl)))) (eN 5 (Fr.puts (fr 90 [(1,Sl.v 1 s12),(2,pt 1 0),(7,sc 2 0 1 n5 c6),(8,zI z17),(12,(zI (Int.ofNat k4)))]) [(73,sc 2 0 1 n5 c6),(74,(zI (Int.ofNat k4))),(75,sc 2 0 1 n5 c6),(76,(zI (Int.ofNat k4))),(77,(zI (Int.ofNat k2))),(78,sc 2 0 1 n5 c6),(79,(zI (Int.ofNat k4))),(80,(zI (Int.ofNat k3))),(81,(.pointer (some ⟨2,(0 + k3 * 1),none⟩))),(82,Sl.v 1 s14),(83,sc 2 0 1 n5 c6),(84,(zI (Int.ofNat k4))),(85,(.pointer (some ⟨2,(0 + k4 * 1),none⟩))),(86,Sl.v 1 s15)]) (hT 3 [(oC [zI z19,zI z20,zI z21,Sl.v 1 s13]),oC q5]) (eD (keep (hT 3 [(oC [zI z19,zI z20,zI z21,Sl.v 1 s13]),oC q5]) (AL q5 (0 + k3 * 1))) (AZ h18) (eC 2 (keep (hT 3 [(oC [zI z19,zI z20,zI z21,Sl.v 1 s13]),oC q5]) (bb (an (Nat.blt k4 n5) true) (some (.pointer (some ⟨2,(0 + k4 * 1),none⟩))) none)) (AX h20) (eD (keep (hT 3 [(oC [zI z19,zI z20,zI z21,Sl.v 1 s13]),oC q5]) (AL q5 (0 + k4 * 1))) (AZ h21) (by kernel_rfl)))) (eD (keep (hT 3 [(oC [zI z19,zI z20,zI z21,Sl.v 1 s13]),oC q5]) (bb (an (Nat.blt k4 n5) true) (some (.pointer (some ⟨2,(0 + k4 * 1),none⟩))) none)) (AX h22) (eD (done (bb (an (Nat.ble ((0 + k4 * 1) + 1) (len q5)) true) (some (hT 3 [(oC [zI z19,zI z20,zI z21,Sl.v 1 s13]),(oC (BM ([Sl.v 1 s14]:LV) (0 + k4 * 1) q5))])) none) undef) (Js h23) (eD (keep (hT 3 [(oC [zI z19,zI z20,zI z21,Sl.v 1 s13]),(oC (BM ([Sl.v 1 s14]:LV) (0 + k4 * 1) q5))]) (bb (an (Nat.blt k2 n5) true) (some (.pointer (some ⟨2,(0 + k2 * 1),none⟩))) none)) (AX h24) (eD (done (bb (an (Nat.ble ((0 + k2 * 1) + 1) (len (BM ([Sl.v 1 s14]:LV) (0 + k4 * 1) q5))) true) (some (hT 3 [(oC [zI z19,zI z20,zI z21,Sl.v 1 s13]),(oC (BM ([Sl.v 1 s15]:LV) (0 + k2 * 1) (BM ([Sl.v 1 s14]:LV) (0 + k4 * 1) q5)))])) none) undef) (Js h25) (eE))))))) ?_
         replace hm:=Ae hm;obtain ⟨h26,hm⟩:=hm
         refine .ghs (fr 90 [(1,Sl.v 1 s12),(2,pt 1 0),(7,sc 2 0 1 n5 c6),(8,zI z17),(12,(zI (Int.ofNat k4)))]) (hT 3 [(oC [zI z19,zI z20,zI z21,Sl.v 1 s13]),(oC (BM ([Sl.v 1 s15]:LV) (0 + k2 * 1) (BM ([Sl.v 1 s14]:LV) (0 + k4 * 1) q5)))]) (.k [2] [false] [.tmp 2 false,.tmp 7 false] [1,2,7,8,12] ⟨BI h26,trivial⟩) ?_
         refine .rK ?_
         exact ⟨(s12,n5,c6,z17,(Aj .i64 (Int.sub (Int.ofNat k4) (1:Int))),z19,z20,z21,s13,(BM ([Sl.v 1 s15]:LV) (0 + k2 * 1) (BM ([Sl.v 1 s14]:LV) (0 + k4 * 1) q5))),hm,(.k [2] [false] [.tmp 2 false,.tmp 7 false] [1,2,7,8,12] ⟨BI h26,trivial⟩)⟩
        ·refine .ifF b1 (by kernel_rfl) h13 ?_
         refine .exit ?_
         replace hm:=Ae hm;obtain ⟨h27,hm⟩:=hm
         exact ⟨(s12,n5,c6,z17,z19,z20,z21,s13,q5),hm,(.k [2] [false] [.tmp 2 false,.tmp 7 false] [1,2,7,8] ⟨BI h27,trivial⟩)⟩
       ·replace hm := Ag hm; rcases hm with ⟨h28, hm⟩ | ⟨h28, hm⟩
        ·replace hm := Ab hm; obtain ⟨k5, h29, hm⟩ := hm
         obtain rfl:=AR h29
         replace hm:=Ae hm;obtain ⟨h30,hm⟩:=hm
         replace hm:=oS hm;obtain ⟨s16,h31,hm⟩:=hm
         replace hm:=Ab hm;obtain ⟨k6,h32,hm⟩:=hm
         replace hm:=Ae hm;obtain ⟨h33,hm⟩:=hm
         replace hm:=oS hm;obtain ⟨s17,h34,hm⟩:=hm
         replace hm:=oB hm;obtain ⟨b2,h35,hm⟩:=hm
         refine .reg (eN 7 (Fr.puts (fr 90 [(1,Sl.v 1 s10),(2,pt 1 0),(7,sc 2 0 1 n4 c5),(8,zI z12),(12,(zI (Int.ofNat k5)))]) [(57,(zI (Int.ofNat k5))),(58,zB true),(59,zB true),(60,sc 2 0 1 n4 c5),(61,(zI (Int.ofNat k5))),(62,(.pointer (some ⟨2,(0 + k5 * 1),none⟩))),(63,Sl.v 1 s16)]) (hT 3 [(oC [zI z14,zI z15,zI z16,Sl.v 1 s11]),oC q4]) (eC 1 (some ((zB (AY (0:Int) (Int.ofNat k5))),(hT 3 [(oC [zI z14,zI z15,zI z16,Sl.v 1 s11]),oC q4]))) (show _ = some ((zB true),_) from (by rw [show (AY (0:Int) (Int.ofNat k5)) = true from h28])) (eC 3 (keep (hT 3 [(oC [zI z14,zI z15,zI z16,Sl.v 1 s11]),oC q4]) (bb (an (Nat.blt k5 n4) true) (some (.pointer (some ⟨2,(0 + k5 * 1),none⟩))) none)) (AX h30) (eD (keep (hT 3 [(oC [zI z14,zI z15,zI z16,Sl.v 1 s11]),oC q4]) (AL q4 (0 + k5 * 1))) (AZ h31) (by kernel_rfl)))) (eC 2 (some ((zI (Aj .i64 (Int.sub (Int.ofNat k5) (1:Int)))),(hT 3 [(oC [zI z14,zI z15,zI z16,Sl.v 1 s11]),oC q4]))) (show _ = some ((zI (Int.ofNat k6)),_) from (by rw [AR h32])) (eD (keep (hT 3 [(oC [zI z14,zI z15,zI z16,Sl.v 1 s11]),oC q4]) (bb (an (Nat.blt k6 n4) true) (some (.pointer (some ⟨2,(0 + k6 * 1),none⟩))) none)) (AX h33) (eD (keep (hT 3 [(oC [zI z14,zI z15,zI z16,Sl.v 1 s11]),oC q4]) (AL q4 (0 + k6 * 1))) (AZ h34) (eD ((oo (pu 54 [Sl.v 1 s16,Sl.v 1 s17]) none fun v=>some (v,(hT 3 [(oC [zI z14,zI z15,zI z16,Sl.v 1 s11]),oC q4])))) (AB h35) (eE)))))) ?_
         replace hm:=Ae hm;obtain ⟨h36,hm⟩:=hm
         exact ⟨(s10,n4,c5,z12,(Int.ofNat k5),b2,z14,z15,z16,s11,q4),hm,(.k [2] [false] [.tmp 2 false,.tmp 7 false] [1,2,7,8,12,70] ⟨BI h36,trivial⟩)⟩
        ·refine .reg (eC 1 (some ((zB (AY (0 : Int) z13)), (hT 3 [(oC [zI z14, zI z15, zI z16, Sl.v 1 s11]), oC q4]))) (show _ = some ((zB false), _) from (by rw [show (AY (0 : Int) z13) = false from h28])) (eE)) ?_
         replace hm:=Ae hm;obtain ⟨h37,hm⟩:=hm
         exact ⟨(s10,n4,c5,z12,z13,false,z14,z15,z16,s11,q4),hm,(.k [2] [false] [.tmp 2 false,.tmp 7 false] [1,2,7,8,12,70] ⟨BI h37,trivial⟩)⟩
     ·refine .then (.rK (.ghs (fr 90 [(1, Sl.v 1 s2), (2, pt 1 0), (7, sc 2 0 1 n1 c1), (8, (zI (Int.ofNat k1))), (9, Sl.v 1 s6), (10, zB false), (11, (zI (0 : Int)))]) (hT 3 [(oC [zI z1, zI z2, zI z3, Sl.v 1 s3]), oC q1]) (.k [2] [false] [.tmp 2 false, .tmp 7 false] [1, 2, 7, 8, 9, 10, 11] ⟨BI h2, trivial⟩) ?_))
      refine .block (.loopM (v:=v) (fun y:Sl×Nat×Nat×Int×Sl×Bool×Int×Int×Int×Int×Sl×LV=>((fr 90 [(1,(Sl.v 1 y.1)),(2,pt 1 0),(7,(sc 2 0 1 y.2.1 y.2.2.1)),(8,(zI y.2.2.2.1)),(9,(Sl.v 1 y.2.2.2.2.1)),(10,(zB y.2.2.2.2.2.1)),(11,(zI y.2.2.2.2.2.2.1))]),(hT 3 [(oC [(zI y.2.2.2.2.2.2.2.1),(zI y.2.2.2.2.2.2.2.2.1),(zI y.2.2.2.2.2.2.2.2.2.1),(Sl.v 1 y.2.2.2.2.2.2.2.2.2.2.1)]),(oC y.2.2.2.2.2.2.2.2.2.2.2)]))) (fun w y=>Qq pu n (EM pu n w0) w y.1 y.2.1 y.2.2.1 y.2.2.2.1 y.2.2.2.2.1 y.2.2.2.2.2.1 y.2.2.2.2.2.2.1 y.2.2.2.2.2.2.2.1 y.2.2.2.2.2.2.2.2.1 y.2.2.2.2.2.2.2.2.2.1 y.2.2.2.2.2.2.2.2.2.2.1 y.2.2.2.2.2.2.2.2.2.2.2) n ⟨(s2,n1,c1,(Int.ofNat k1),s6,false,(0:Int),z1,z2,z3,s3,q1),hm,(.k [2] [false] [.tmp 2 false,.tmp 7 false] [1,2,7,8,9,10,11] ⟨BI h2,trivial⟩)⟩ (fun _=>rfl) ?_)
      rintro w1 ⟨s18,n6,c7,z22,s19,b3,z23,z24,z25,z26,s20,q6⟩ hm
      replace hm:Oz pu n (EM pu n w0) (Qq pu n (EM pu n w0) w1) s18 n6 c7 z22 s19 b3 z23 z24 z25 z26 s20 q6 = some v:=hm
      unfold Oz at hm
      refine .then (.then (.rK ?_))
      replace hm:=Ae hm;obtain ⟨h38,hm⟩:=hm
      refine .ghs (fr 90 [(1,Sl.v 1 s18),(2,pt 1 0),(7,sc 2 0 1 n6 c7),(8,zI z22),(9,Sl.v 1 s19),(10,zB b3),(11,zI z23),(37,(zB (AY z23 (Int.ofNat n6))))]) (hT 3 [(oC [zI z24,zI z25,zI z26,Sl.v 1 s20]),oC q6]) (.k [2] [false] [.tmp 2 false,.tmp 7 false] [1,2,7,8,9,10,11,37] ⟨BI h38,trivial⟩) ?_
      replace hm:=Ag hm;rcases hm with ⟨h39,hm⟩ | ⟨h39,hm⟩
      ·refine Bp (AY z23 (Int.ofNat n6)) h39 ?_
       refine .skip (.ghs (fr 90 [(1,Sl.v 1 s18),(2,pt 1 0),(7,sc 2 0 1 n6 c7),(8,zI z22),(9,Sl.v 1 s19),(10,zB b3),(11,zI z23)]) (hT 3 [(oC [zI z24,zI z25,zI z26,Sl.v 1 s20]),oC q6]) (.k [2] [false] [.tmp 2 false,.tmp 7 false] [1,2,7,8,9,10,11] ⟨BI h38,trivial⟩) ?_)
       refine .then (.block ?_)
       replace hm:=Ag hm;rcases hm with ⟨h40,hm⟩ | ⟨h40,hm⟩
       ·refine .reg (eD (some ((zB b3), (hT 3 [(oC [zI z24, zI z25, zI z26, Sl.v 1 s20]), oC q6]))) (show _ = some ((zB true), _) from (by rw [show b3 = true from h40])) (eE)) ?_
        refine .ghs (fr 90 [(1,Sl.v 1 s18),(2,pt 1 0),(7,sc 2 0 1 n6 c7),(8,zI z22),(9,Sl.v 1 s19),(10,zB true),(11,zI z23)]) (hT 3 [(oC [zI z24,zI z25,zI z26,Sl.v 1 s20]),oC q6]) (.k [2] [false] [.tmp 2 false,.tmp 7 false] [1,2,7,8,9,10,11] ⟨BI h38,trivial⟩) ?_
        refine .rK ?_
        exact ⟨(s18,n6,c7,z22,s19,true,(Aj .i64 (Int.add z23 (1:Int))),z24,z25,z26,s20,q6),hm,(.k [2] [false] [.tmp 2 false,.tmp 7 false] [1,2,7,8,9,10,11] ⟨BI h38,trivial⟩)⟩
       ·replace hm := Ab hm; obtain ⟨k7, h41, hm⟩ := hm
        obtain rfl:=AR h41
        replace hm:=Ae hm;obtain ⟨h42,hm⟩:=hm
        replace hm:=oS hm;obtain ⟨s21,h43,hm⟩:=hm
        replace hm:=oB hm;obtain ⟨b5,h44,hm⟩:=hm
        refine .reg (eD (some ((zB b3),(hT 3 [(oC [zI z24,zI z25,zI z26,Sl.v 1 s20]),oC q6]))) (show _ = some ((zB false),_) from (by rw [show b3 = false from h40])) (eC 3 (keep (hT 3 [(oC [zI z24,zI z25,zI z26,Sl.v 1 s20]),oC q6]) (bb (an (Nat.blt k7 n6) true) (some (.pointer (some ⟨2,(0 + k7 * 1),none⟩))) none)) (AX h42) (eD (keep (hT 3 [(oC [zI z24,zI z25,zI z26,Sl.v 1 s20]),oC q6]) (AL q6 (0 + k7 * 1))) (AZ h43) (eC 1 ((oo (pu 50 [Sl.v 1 s21,Sl.v 1 s19]) none fun v=>some (v,(hT 3 [(oC [zI z24,zI z25,zI z26,Sl.v 1 s20]),oC q6])))) (AB h44) (eE))))) ?_
        refine .ghs (fr 90 [(1,Sl.v 1 s18),(2,pt 1 0),(7,sc 2 0 1 n6 c7),(8,zI z22),(9,Sl.v 1 s19),(10,zB b5),(11,(zI (Int.ofNat k7)))]) (hT 3 [(oC [zI z24,zI z25,zI z26,Sl.v 1 s20]),oC q6]) (.k [2] [false] [.tmp 2 false,.tmp 7 false] [1,2,7,8,9,10,11] ⟨BI h38,trivial⟩) ?_
        refine .rK ?_
        exact ⟨(s18,n6,c7,z22,s19,b5,(Aj .i64 (Int.add (Int.ofNat k7) (1:Int))),z24,z25,z26,s20,q6),hm,(.k [2] [false] [.tmp 2 false,.tmp 7 false] [1,2,7,8,9,10,11] ⟨BI h38,trivial⟩)⟩
      ·refine Bq (AY z23 (Int.ofNat n6)) h39 ?_
       refine .exit ?_
       exact ⟨(s18,n6,c7,z22,s19,b3,z24,z25,z26,s20,q6),hm,(.k [2] [false] [.tmp 2 false,.tmp 7 false] [1,2,7,8,9,10] ⟨BI h38,trivial⟩)⟩
   ·refine Bq (AY z0 (Int.ofNat (Sl.n s3))) h3 ?_
    refine .exit ?_
    exact ⟨(n1,c1,q1),hm,(.k [2] [false] [.tmp 7 false] [7] ⟨BI h2,trivial⟩)⟩
end
end Go.BkYM
