/- Made from wip. -/
import Derived.Test.YtflonlkiajhhjaaGreatDoorTpDMod1x

set_option maxRecDepth 100000
set_option maxHeartbeats 20000000
set_option linter.unusedVariables false
namespace Go.TpDM
open Go.Sp Go.TpD
noncomputable section

def AbF (pu:Af) (n:Nat) (x0:Int) (s0 s1:Sl):OV:=
 (oo (pu 106 [(.agg ⟨[.int .i64 x0,Sl.v 1 s0,Sl.v 1 s1]⟩)]) none fun v0=>(oo (Bi .u16 v0) none fun x1=>(oo (pu 107 [.int .u16 x1]) none fun v1=>(oo (Bi .i64 v1) none fun x2=>(oo (pu 11080 [(.agg ⟨[.int .i64 x0,Sl.v 1 s0,Sl.v 1 s1]⟩)]) none fun v2=>(oo (CQ v2) none fun l0=>(ll l0 none fun v3 l0=>(ll l0 none fun v4 l0=>(ll l0 none fun v5 l0=>(ll l0 (bb (Po v3 2 0) (oo (Bt v4) none fun l1=>(ll l1 none fun v6 l1=>(ll l1 none fun v7 l1=>(ll l1 none fun v8 l1=>(ll l1 none fun v9 l1=>(ll l1 (oo (Bi .i64 v6) none fun x3=>(oo (Bj 1 v7) none fun s2=>(oo (Bj 1 v8) none fun s3=>(bb (M8 v9 3) (oo (Fj v5) none fun y0=>(bb (Au F4 (Akd.es y0)) (bb (Au F4 (Akd.es y0)) (oo (pu 11090 [(.pointer (some ⟨2,0,none⟩)),.int .u16 x1,(.agg ⟨[.int .i64 x3,Sl.v 1 s2,Sl.v 1 s3,(.map (some 3))]⟩),(Ef (.map (Akd.es y0) (Akd.clock y0)))]) none fun v10=>(oo (CQ v10) none fun l2=>(ll l2 none fun v11 l2=>(ll l2 none fun v12 l2=>(ll l2 none fun v13 l2=>(ll l2 (oo (Bi .i64 v11) none fun x4=>(oo (Bt v12) none fun l3=>(ll l3 none fun v14 l3=>(ll l3 none fun v15 l3=>(ll l3 none fun v16 l3=>(ll l3 none fun v17 l3=>(ll l3 (oo (Bi .i64 v14) none fun x5=>(oo (Bj 1 v15) none fun s4=>(oo (Bj 1 v16) none fun s5=>(bb (M8 v17 3) (oo (Fj v13) none fun y1=>(bb (Au F4 (Akd.es y1)) (some (.int .i64 (Aj .i64 (Int.sub x2 x4)))) none)) none)))) fun _ _=>none))))))) fun _ _=>none)))))) none) none)) none)))) fun _ _=>none)))))) none) fun _ _=>none))))))))))
def m49 (pu:Af) (n:Nat) (args:LV):OV:=
 (ll args none fun a0 args=>(ll args (oo (Bt a0) none fun l0=>(ll l0 none fun v0 l0=>(ll l0 none fun v1 l0=>(ll l0 none fun v2 l0=>(ll l0 (oo (Bi .i64 v0) none fun x0=>(oo (Bj 1 v1) none fun s0=>(oo (Bj 1 v2) none fun s1=>(AbF pu n x0 s0 s1)))) fun _ _=>none))))) fun _ _=>none))
theorem r49 {call:A8} (pu:Af) (n:Nat) (hcall:call=Bb tabs isP pu (inl pu)) {args:LV} {v:Value} (hm:m49 pu n args=some v) (_:∀ x∈args,closed2 x=true):args.length≤13∧BN tt call 2 Qz (Fr.made 13 args) (Ao tabs) (Fin tt 2 [.tmp 2] v):=by
 subst hcall
 unfold m49 at hm
 replace hm:=Ad hm;obtain⟨a0,args_0,rfl,hm⟩:=hm
 replace hm:=AC hm;obtain⟨rfl,hm⟩:=hm
 replace hm:=BG hm;obtain⟨l0,rfl,hm⟩:=hm
 replace hm:=Ad hm;obtain⟨v0,l9308_0,rfl,hm⟩:=hm
 replace hm:=Ad hm;obtain⟨v1,l9308_1,rfl,hm⟩:=hm
 replace hm:=Ad hm;obtain⟨v2,l9308_2,rfl,hm⟩:=hm
 replace hm:=AC hm;obtain⟨rfl,hm⟩:=hm
 replace hm:=Ai hm;obtain⟨x0,rfl,hm⟩:=hm
 replace hm:=Al hm;obtain⟨s0,rfl,hm⟩:=hm
 replace hm:=Al hm;obtain⟨s1,rfl,hm⟩:=hm
 unfold AbF at hm
 refine⟨by simp,?_⟩
 refine .same (F':=(fr 13 [(0,(.agg ⟨[zI x0,Sl.v 1 s0,Sl.v 1 s1]⟩))])) (H':=(hT 2 [(.cells Ay true false [])])) (by kernel_rfl) (by kernel_rfl) ?_
 refine .then (.rK (.ghs (fr 13 [(1,(pt 2 0))]) (hT 3 [(.cells Ay true false []),(oC [zI x0,Sl.v 1 s0,Sl.v 1 s1])]) (.k0 [false,false] [.tmp 1 false] [1]) ?_))
 refine .then ?_
 replace hm:=FK hm;obtain⟨x1,h0,hm⟩:=hm
 refine .reg (eC 1 ((oo (pu 106 [(.agg ⟨[zI x0,Sl.v 1 s0,Sl.v 1 s1]⟩)]) none fun v=>some (v,(hT 3 [(.cells Ay true false []),(oC [zI x0,Sl.v 1 s0,Sl.v 1 s1])])))) (AB h0) (eE)) ?_
 refine .ghs (fr 13 [(1,(pt 2 0)),(3,.int .u16 x1)]) (hT 3 [(.cells Ay true false []),(oC [zI x0,Sl.v 1 s0,Sl.v 1 s1])]) (.k0 [false,false] [.tmp 1 false] [1,3]) ?_
 refine .then ?_
 replace hm:=FK hm;obtain⟨x2,h1,hm⟩:=hm
 replace hm:=Ab hm;obtain⟨v3,h2,hm⟩:=hm
 replace hm:=Ch hm;obtain⟨l1,rfl,hm⟩:=hm
 replace hm:=Ad hm;obtain⟨v4,l9818_0,rfl,hm⟩:=hm
 replace hm:=Ad hm;obtain⟨v5,l9818_1,rfl,hm⟩:=hm
 replace hm:=Ad hm;obtain⟨v6,l9818_2,rfl,hm⟩:=hm
 replace hm:=AC hm;obtain⟨rfl,hm⟩:=hm
 replace hm:=Ae hm;obtain⟨h3,hm⟩:=hm
 obtain rfl:=M9 h3
 replace hm:=BG hm;obtain⟨l2,rfl,hm⟩:=hm
 replace hm:=Ad hm;obtain⟨v7,l9824_0,rfl,hm⟩:=hm
 replace hm:=Ad hm;obtain⟨v8,l9824_1,rfl,hm⟩:=hm
 replace hm:=Ad hm;obtain⟨v9,l9824_2,rfl,hm⟩:=hm
 replace hm:=Ad hm;obtain⟨v10,l9824_3,rfl,hm⟩:=hm
 replace hm:=AC hm;obtain⟨rfl,hm⟩:=hm
 replace hm:=Ai hm;obtain⟨x3,rfl,hm⟩:=hm
 replace hm:=Al hm;obtain⟨s2,rfl,hm⟩:=hm
 replace hm:=Al hm;obtain⟨s3,rfl,hm⟩:=hm
 replace hm:=Ae hm;obtain⟨h4,hm⟩:=hm
 obtain rfl:=Hy h4
 replace hm:=Ab hm;obtain⟨y0,h5,hm⟩:=hm
 replace hm:=Ae hm;obtain⟨h6,hm⟩:=hm
 replace hm:=Ae hm;obtain⟨h7,hm⟩:=hm
 replace hm:=Ab hm;obtain⟨v11,h8,hm⟩:=hm
 replace hm:=Ch hm;obtain⟨l3,rfl,hm⟩:=hm
 replace hm:=Ad hm;obtain⟨v12,l9849_0,rfl,hm⟩:=hm
 replace hm:=Ad hm;obtain⟨v13,l9849_1,rfl,hm⟩:=hm
 replace hm:=Ad hm;obtain⟨v14,l9849_2,rfl,hm⟩:=hm
 replace hm:=AC hm;obtain⟨rfl,hm⟩:=hm
 replace hm:=Ai hm;obtain⟨x4,rfl,hm⟩:=hm
 replace hm:=BG hm;obtain⟨l4,rfl,hm⟩:=hm
 replace hm:=Ad hm;obtain⟨v15,l9856_0,rfl,hm⟩:=hm
 replace hm:=Ad hm;obtain⟨v16,l9856_1,rfl,hm⟩:=hm
 replace hm:=Ad hm;obtain⟨v17,l9856_2,rfl,hm⟩:=hm
 replace hm:=Ad hm;obtain⟨v18,l9856_3,rfl,hm⟩:=hm
 replace hm:=AC hm;obtain⟨rfl,hm⟩:=hm
 replace hm:=Ai hm;obtain⟨x5,rfl,hm⟩:=hm
 replace hm:=Al hm;obtain⟨s4,rfl,hm⟩:=hm
 replace hm:=Al hm;obtain⟨s5,rfl,hm⟩:=hm
 replace hm:=Ae hm;obtain⟨h9,hm⟩:=hm
 obtain rfl:=Hy h9
 replace hm:=Ab hm;obtain⟨y1,h10,hm⟩:=hm
 replace hm:=Ae hm;obtain⟨h11,hm⟩:=hm
 refine .reg (eC 3 ((oo (pu 107 [.int .u16 x1]) none fun v=>some (v,(hT 3 [(.cells Ay true false []),(oC [zI x0,Sl.v 1 s0,Sl.v 1 s1])])))) (AB h1) (eD (Gs tabs [[none,some 1,some 1]] 1 [] [true,false] (pu 11080) [(.agg ⟨[zI x0,Sl.v 1 s0,Sl.v 1 s1]⟩)] (hT 3 [(.cells Ay true false []),(oC [zI x0,Sl.v 1 s0,Sl.v 1 s1])])) (HV (as:=[(.agg ⟨[zI x0,Sl.v 1 s0,Sl.v 1 s1]⟩)]) (H1:=(hT 3 [(.cells Ay true false []),(oC [zI x0,Sl.v 1 s0,Sl.v 1 s1])])) (G9 (fK (MH Pp (MH (WG (CV (z:=1) (v:=(Sl.v 1 s0)) (H:=(hT 3 [(.cells Ay true false []),(oC [zI x0,Sl.v 1 s0,Sl.v 1 s1])])) (by kernel_rfl) (by kernel_rfl) (by kernel_rfl))) (MH (WG (CV (z:=1) (v:=(Sl.v 1 s1)) (H:=(hT 3 [(.cells Ay true false []),(oC [zI x0,Sl.v 1 s0,Sl.v 1 s1])])) (by kernel_rfl) (by kernel_rfl) (by kernel_rfl))) fI)))) KJ) (Ha (H2:=(hT 5 [(.cells Ay true false []),(oC [zI x0,Sl.v 1 s0,Sl.v 1 s1]),(oC [zI x3,Sl.v 1 s2,Sl.v 1 s3,(.map (some 4))]),(.map (Akd.es y0) (Akd.clock y0))])) (v:=(pt 2 0)) (v':=(pt 3 0)) [some 0,some 1] [] [] [(.agg ⟨[zI x0,Sl.v 1 s0,Sl.v 1 s1]⟩)] [(.agg ⟨[zI x3,Sl.v 1 s2,Sl.v 1 s3,(.map (some 3))]⟩),v6] [(oC [zI x3,Sl.v 1 s2,Sl.v 1 s3,(.map (some 3))]),(.map (Akd.es y0) (Akd.clock y0))] [some 0,some 1,none,some 2,some 3] [(true,(oC [zI x3,Sl.v 1 s2,Sl.v 1 s3,(.map (some 3))])),(false,(.map (Akd.es y0) (Akd.clock y0)))] [(oC [zI x3,Sl.v 1 s2,Sl.v 1 s3,(.map (some 4))]),(.map (Akd.es y0) (Akd.clock y0))] (by kernel_rfl) Eb (Eq.trans (by kernel_rfl) h2) (Dn rfl (Dn (Gq h5) Eb)) (Dn (by kernel_rfl) (Dn (Pm h6) Eb)))) (eD (Gs tabs [[none],[none]] 2 [.tmp 0 true,.cell 2 3 false] [true,false] (pu 11090) [(pt 3 0),.int .u16 x1] (hT 5 [(.cells Ay true false []),(oC [zI x0,Sl.v 1 s0,Sl.v 1 s1]),(oC [zI x3,Sl.v 1 s2,Sl.v 1 s3,(.map (some 4))]),(.map (Akd.es y0) (Akd.clock y0))])) (HV (as:=[(pt 3 0),.int .u16 x1]) (H1:=(hT 5 [(.cells Ay true false []),(oC [zI x0,Sl.v 1 s0,Sl.v 1 s1]),(oC [zI x3,Sl.v 1 s2,Sl.v 1 s3,(.map (some 4))]),(.map (Akd.es y0) (Akd.clock y0))])) (G9 (O6 Pp) (G9 (O6 Pp) KJ)) (Ha (H2:=(hT 5 [(.cells Ay true false []),(oC [zI x0,Sl.v 1 s0,Sl.v 1 s1]),(oC [zI x5,Sl.v 1 s4,Sl.v 1 s5,(.map (some 4))]),(.map (Akd.es y1) (Akd.clock y1))])) (v:=(zI x4)) (v':=(zI x4)) [some 0,some 1,some 3,some 4] [(true,some 3),(false,some 4)] [(oC [zI x3,Sl.v 1 s2,Sl.v 1 s3,(.map (some 3))]),(.map (Akd.es y0) (Akd.clock y0))] [(pt 2 0),.int .u16 x1] [(.agg ⟨[zI x5,Sl.v 1 s4,Sl.v 1 s5,(.map (some 3))]⟩),v14] [(oC [zI x5,Sl.v 1 s4,Sl.v 1 s5,(.map (some 3))]),(.map (Akd.es y1) (Akd.clock y1))] [some 0,some 1,none,some 2,some 3] [(true,(oC [zI x5,Sl.v 1 s4,Sl.v 1 s5,(.map (some 3))])),(false,(.map (Akd.es y1) (Akd.clock y1)))] [(oC [zI x5,Sl.v 1 s4,Sl.v 1 s5,(.map (some 4))]),(.map (Akd.es y1) (Akd.clock y1))] (by kernel_rfl) (Dn (by kernel_rfl) (Dn (Sd h7) Eb)) (Eq.trans (by kernel_rfl) h8) (Dn rfl (Dn (Gq h10) Eb)) (Dn (by kernel_rfl) (Dn (Pm h11) Eb)))) (eE)))) ?_
 refine .ghs (fr 13 [(2,(zI (Aj .i64 (Int.sub x2 x4))))]) (hT 2 [(.cells Ay true false [])]) (.k0 [false,false] [] [2]) ?_
 refine .ret ?_
 exact BB (zI (Aj .i64 (Int.sub x2 x4))) hm
def Pf (pu:Af) (n:Nat) (b0:Bool):OV:=
 (some (.bool b0))
def AbG (pu:Af) (n:Nat) (x0 x1 x2:Int):OV:=
 (bb (nt (AY x1 x0)) (Pf pu n (nt (AY x2 x1))) (Pf pu n false))
def m80 (pu:Af) (n:Nat) (args:LV):OV:=
 (ll args none fun a0 args=>(ll args none fun a1 args=>(ll args none fun a2 args=>(ll args (oo (Bi .i64 a0) none fun x0=>(oo (Bi .i64 a1) none fun x1=>(oo (Bi .i64 a2) none fun x2=>(AbG pu n x0 x1 x2)))) fun _ _=>none))))
theorem AbH (pu:Af) (n:Nat) (b0:Bool) {v:Value} (hm:Pf pu n b0=some v):BN tt (Bb tabs isP pu (inl pu)) 2 .ret (fr 15 [(6,zB b0)]) (hT 2 [(.cells Ay true false [])]) (Fin tt 2 [.tmp 6] v):=by
 unfold Pf at hm
 refine .ret ?_
 exact BB (zB b0) hm
theorem r80 {call:A8} (pu:Af) (n:Nat) (hcall:call=Bb tabs isP pu (inl pu)) {args:LV} {v:Value} (hm:m80 pu n args=some v) (_:∀ x∈args,closed2 x=true):args.length≤15∧BN tt call 2 QA (Fr.made 15 args) (Ao tabs) (Fin tt 2 [.tmp 6] v):=by
 subst hcall
 unfold m80 at hm
 replace hm:=Ad hm;obtain⟨a0,args_0,rfl,hm⟩:=hm
 replace hm:=Ad hm;obtain⟨a1,args_1,rfl,hm⟩:=hm
 replace hm:=Ad hm;obtain⟨a2,args_2,rfl,hm⟩:=hm
 replace hm:=AC hm;obtain⟨rfl,hm⟩:=hm
 replace hm:=Ai hm;obtain⟨x0,rfl,hm⟩:=hm
 replace hm:=Ai hm;obtain⟨x1,rfl,hm⟩:=hm
 replace hm:=Ai hm;obtain⟨x2,rfl,hm⟩:=hm
 unfold AbG at hm
 refine⟨by simp,?_⟩
 refine .same (F':=(fr 15 [(0,zI x0),(1,zI x1),(2,zI x2)])) (H':=(hT 2 [(.cells Ay true false [])])) (by kernel_rfl) (by kernel_rfl) ?_
 refine .then (.rK (.ghs (fr 15 [(0,zI x0),(1,zI x1),(2,zI x2)]) (hT 2 [(.cells Ay true false [])]) (.k0 [false,false] [] [0,1,2]) ?_))
 refine .join (v:=v) (fun y:Bool=>((fr 15 [(6,zB y)]),(hT 2 [(.cells Ay true false [])]))) (fun y=>Pf pu n y) ?_ ?_
 ·rintro b0 hm
  exact AbH pu n b0 hm
 ·replace hm:=Ag hm;rcases hm with⟨h0,hm⟩ | ⟨h0,hm⟩
  ·refine .reg (eC 2 (some ((zB (nt (AY x1 x0))),(hT 2 [(.cells Ay true false [])]))) (show _=some ((zB true),_) from (by rw[show (nt (AY x1 x0))=true from h0])) (eE)) ?_
   exact⟨(nt (AY x2 x1)),hm,(.k0 [false,false] [] [6])⟩
  ·refine .reg (eC 2 (some ((zB (nt (AY x1 x0))),(hT 2 [(.cells Ay true false [])]))) (show _=some ((zB false),_) from (by rw[show (nt (AY x1 x0))=false from h0])) (eE)) ?_
   exact⟨false,hm,(.k0 [false,false] [] [6])⟩

def AbP (pu:Af) (n:Nat) (x0:Int):OV:=
 (bb (Bd x0 (0:Int)) (some (.int .i64 (16:Int))) (oo (EA (G6 .u32 (Aj .u32 (Int.mul (Aj .u32 (Np .u16 x0 (Aj .u16 (Int.sub (.ofNat 0) x0)))) (125613361:Int))) 27)) none fun k1=>(bb (Nat.blt k1 32) (oo (AL Ps (0+k1*1)) none fun v0=>(oo (Bi .u8 v0) none fun x1=>(some (.int .i64 (Aj .i64 x1))))) none)))
def m90 (pu:Af) (n:Nat) (args:LV):OV:=
 (ll args none fun a0 args=>(ll args (oo (Bi .u16 a0) none fun x0=>(AbP pu n x0)) fun _ _=>none))
theorem r90 {call:A8} (pu:Af) (n:Nat) (hcall:call=Bb tabs isP pu (inl pu)) {args:LV} {v:Value} (hm:m90 pu n args=some v) (_:∀ x∈args,closed2 x=true):args.length≤15∧BN tt call 2 QB (Fr.made 15 args) (Ao tabs) (Fin tt 2 [.tmp 2] v):=by
 subst hcall
 unfold m90 at hm
 replace hm:=Ad hm;obtain⟨a0,args_0,rfl,hm⟩:=hm
 replace hm:=AC hm;obtain⟨rfl,hm⟩:=hm
 replace hm:=Ai hm;obtain⟨x0,rfl,hm⟩:=hm
 unfold AbP at hm
 refine⟨by simp,?_⟩
 refine .same (F':=(fr 15 [(0,.int .u16 x0)])) (H':=(hT 2 [(.cells Ay true false [])])) (by kernel_rfl) (by kernel_rfl) ?_
 refine .then (.rK (.ghs (fr 15 [(0,.int .u16 x0)]) (hT 2 [(.cells Ay true false [])]) (.k0 [false,false] [] [0]) ?_))
 refine .then (.then (.rK (.ghs (fr 15 [(0,.int .u16 x0),(4,(zB (Bd x0 (0:Int))))]) (hT 2 [(.cells Ay true false [])]) (.k0 [false,false] [] [0,4]) ?_)))
 replace hm:=Ag hm;rcases hm with⟨h0,hm⟩ | ⟨h0,hm⟩
 ·refine Dr (Bd x0 (0:Int)) h0 ?_
  refine .then (.rK (.ghs (fr 15 [(2,(zI (16:Int)))]) (hT 2 [(.cells Ay true false [])]) (.k0 [false,false] [] [2]) ?_))
  refine .ret ?_
  exact BB (zI (16:Int)) hm
 ·refine Dy (Bd x0 (0:Int)) h0 ?_
  refine .skip (.ghs (fr 15 [(0,.int .u16 x0)]) (hT 2 [(.cells Ay true false [])]) (.k0 [false,false] [] [0]) ?_)
  refine .then ?_
  replace hm:=Ab hm;obtain⟨k1,h1,hm⟩:=hm
  replace hm:=Ae hm;obtain⟨h2,hm⟩:=hm
  replace hm:=FK hm;obtain⟨x1,h3,hm⟩:=hm
  refine .reg (eC 6 (some ((.int .u32 (G6 .u32 (Aj .u32 (Int.mul (Aj .u32 (Np .u16 x0 (Aj .u16 (Int.sub (.ofNat 0) x0)))) (125613361:Int))) 27)),(hT 2 [(.cells Ay true false [])]))) (show _=some ((.int .u32 (Int.ofNat k1)),_) from (by rw[AR h1])) (eD (keep (hT 2 [(.cells Ay true false [])]) (bb (Nat.blt k1 32) (some (.pointer (some ⟨0,(0+k1*1),none⟩))) none)) (AX h2) (eD (keep (hT 2 [(.cells Ay true false [])]) (AL Ps (0+k1*1))) (AZ h3) (eE)))) ?_
  refine .ghs (fr 15 [(2,(zI (Aj .i64 x1)))]) (hT 2 [(.cells Ay true false [])]) (.k0 [false,false] [] [2]) ?_
  refine .ret ?_
  exact BB (zI (Aj .i64 x1)) hm
def OE (pu:Af) (n:Nat):OV:=
 (some (.int .i64 (0:Int)))
def PL (pu:Af) (n:Nat) (ih0:Sl→Int→Sl→Int→Int→OV) (s0:Sl) (z0:Int) (s1:Sl) (z1 z2:Int):OV:=
 (bb (AY z2 z1) (oo (EA z2) none fun k1=>(bb (an (Nat.blt k1 (Sl.n s1)) true) (oo (AL (Sl.cs s1) (k1*1)) none fun v0=>(oo (Bi .i64 v0) none fun x0=>(oo (pu 80 [(.int .i64 (0:Int)),.int .i64 x0,(.int .i64 (Aj .i64 (Int.sub (Int.ofNat (Sl.n s0)) (1:Int))))]) none fun v1=>(oo (Bf v1) none fun b0=>(bb (nt b0) (some (.int .i64 (2:Int))) (oo (EA x0) none fun k2=>(bb (Bd (Np .u16 (G6 .u16 z0 k2) (1:Int)) (1:Int)) (some (.int .i64 (6:Int))) (ih0 s0 (jF .u16 z0 (QW .u16 (1:Int) k2)) s1 z1 (Aj .i64 (Int.add (Int.ofNat k1) (1:Int))))))))))) none)) (OE pu n))
def PM (pu:Af) (n w:Nat):Sl→Int→Sl→Int→Int→OV:=
 Nat.rec (motive:=fun _=>Sl→Int→Sl→Int→Int→OV) (fun _ _ _ _ _=>none) (fun _ ih0=>PL pu n ih0) w
def iK (pu:Af) (n:Nat) (s0:Sl):OV:=
 (PM pu n n s0 (0:Int) s0 (Int.ofNat (Sl.n s0)) (0:Int))
def bJ (pu:Af) (n:Nat) (args:LV):OV:=
 (ll args none fun a0 args=>(ll args (oo (Bj 1 a0) none fun s0=>(iK pu n s0)) fun _ _=>none))
theorem uH (pu:Af) (n:Nat) {v:Value} (hm:OE pu n=some v):BN tt (Bb tabs isP pu (inl pu)) 2 QC (fr 30 []) (hT 2 [(.cells Ay true false [])]) (Fin tt 2 [.tmp 2] v):=by
 unfold OE at hm
 refine .then (.rK (.ghs (fr 30 [(2,(zI (0:Int)))]) (hT 2 [(.cells Ay true false [])]) (.k0 [false,false] [] [2]) ?_))
 refine .ret ?_
 exact BB (zI (0:Int)) hm
theorem AdK {call:A8} (pu:Af) (n:Nat) (hcall:call=Bb tabs isP pu (inl pu)) {args:LV} {v:Value} (hm:bJ pu n args=some v) (_:∀ x∈args,closed2 x=true):args.length≤30∧BN tt call 2 Jw (Fr.made 30 args) (Ao tabs) (Fin tt 2 [.tmp 2] v):=by
 subst hcall
 unfold bJ at hm
 replace hm:=Ad hm;obtain⟨a0,args_0,rfl,hm⟩:=hm
 replace hm:=AC hm;obtain⟨rfl,hm⟩:=hm
 replace hm:=Al hm;obtain⟨s0,rfl,hm⟩:=hm
 unfold iK at hm
 refine⟨by simp,?_⟩
 refine .same (F':=(fr 30 [(0,Sl.v 1 s0)])) (H':=(hT 2 [(.cells Ay true false [])])) (by kernel_rfl) (by kernel_rfl) ?_
 refine .then (.rK (.ghs (fr 30 [(0,Sl.v 1 s0)]) (hT 2 [(.cells Ay true false [])]) (.k0 [false,false] [] [0]) ?_))
 refine .then (.rK (.ghs (fr 30 [(0,Sl.v 1 s0),(3,(.int .u16 (0:Int)))]) (hT 2 [(.cells Ay true false [])]) (.k0 [false,false] [] [0,3]) ?_))
 refine .join (v:=v) (fun y:Unit=>((fr 30 []),(hT 2 [(.cells Ay true false [])]))) (fun y=>OE pu n) ?_ ?_
 ·rintro _ hm
  exact uH pu n hm
 ·refine .then (.rK (.ghs (fr 30 [(0,Sl.v 1 s0),(3,(.int .u16 (0:Int))),(6,Sl.v 1 s0),(7,(zI (Int.ofNat (Sl.n s0)))),(8,(zI (0:Int)))]) (hT 2 [(.cells Ay true false [])]) (.k0 [false,false] [] [0,3,6,7,8]) ?_))
  refine .block (.loopM (v:=v) (fun y:Sl×Int×Sl×Int×Int=>((fr 30 [(0,(Sl.v 1 y.1)),(3,(.int .u16 y.2.1)),(6,(Sl.v 1 y.2.2.1)),(7,(zI y.2.2.2.1)),(8,(zI y.2.2.2.2))]),(hT 2 [(.cells Ay true false [])]))) (fun w y=>PM pu n w y.1 y.2.1 y.2.2.1 y.2.2.2.1 y.2.2.2.2) n ⟨(s0,(0:Int),s0,(Int.ofNat (Sl.n s0)),(0:Int)),hm,(.k0 [false,false] [] [0,3,6,7,8])⟩ (fun _=>rfl) ?_)
  rintro w0 ⟨s1,z0,s2,z1,z2⟩ hm
  replace hm:PL pu n (PM pu n w0) s1 z0 s2 z1 z2=some v:=hm
  unfold PL at hm
  refine .then (.rK (.ghs (fr 30 [(0,Sl.v 1 s1),(3,.int .u16 z0),(6,Sl.v 1 s2),(7,zI z1),(8,zI z2),(9,(zB (AY z2 z1)))]) (hT 2 [(.cells Ay true false [])]) (.k0 [false,false] [] [0,3,6,7,8,9]) ?_))
  refine .then ?_
  replace hm:=Ag hm;rcases hm with⟨h0,hm⟩ | ⟨h0,hm⟩
  ·refine Dr (AY z2 z1) h0 ?_
   refine .skip (.ghs (fr 30 [(0,Sl.v 1 s1),(3,.int .u16 z0),(6,Sl.v 1 s2),(7,zI z1),(8,zI z2)]) (hT 2 [(.cells Ay true false [])]) (.k0 [false,false] [] [0,3,6,7,8]) ?_)
   refine .then (.block (.then ?_))
   replace hm:=Ab hm;obtain⟨k1,h1,hm⟩:=hm
   obtain rfl:=AR h1
   replace hm:=Ae hm;obtain⟨h2,hm⟩:=hm
   replace hm:=FK hm;obtain⟨x0,h3,hm⟩:=hm
   refine .reg (eD (keep (hT 2 [(.cells Ay true false [])]) (bb (an (Nat.blt k1 (Sl.n s2)) true) (some (Cv (k1*1) (Sl.cs s2))) none)) (AX h2) (eD (keep (hT 2 [(.cells Ay true false [])]) (AL (Sl.cs s2) (k1*1))) (AZ h3) (eE))) ?_
   refine .ghs (fr 30 [(0,Sl.v 1 s1),(3,.int .u16 z0),(5,zI x0),(6,Sl.v 1 s2),(7,zI z1),(8,(zI (Int.ofNat k1)))]) (hT 2 [(.cells Ay true false [])]) (.k0 [false,false] [] [0,3,5,6,7,8]) ?_
   refine .then (.block (.then ?_))
   replace hm:=zT hm;obtain⟨b0,h4,hm⟩:=hm
   refine .reg (eC 4 ((oo (pu 80 [(zI (0:Int)),zI x0,(zI (Aj .i64 (Int.sub (Int.ofNat (Sl.n s1)) (1:Int))))]) none fun v=>some (v,(hT 2 [(.cells Ay true false [])])))) (AB h4) (eE)) ?_
   refine .ghs (fr 30 [(0,Sl.v 1 s1),(3,.int .u16 z0),(5,zI x0),(6,Sl.v 1 s2),(7,zI z1),(8,(zI (Int.ofNat k1))),(12,(zB (nt b0)))]) (hT 2 [(.cells Ay true false [])]) (.k0 [false,false] [] [0,3,5,6,7,8,12]) ?_
   replace hm:=Ag hm;rcases hm with⟨h5,hm⟩ | ⟨h5,hm⟩
   ·refine Dr (nt b0) h5 ?_
    refine .then (.rK (.ghs (fr 30 [(2,(zI (2:Int)))]) (hT 2 [(.cells Ay true false [])]) (.k0 [false,false] [] [2]) ?_))
    refine .ret ?_
    exact BB (zI (2:Int)) hm
   ·refine Dy (nt b0) h5 ?_
    refine .then ?_
    replace hm:=Ab hm;obtain⟨k2,h6,hm⟩:=hm
    obtain rfl:=AR h6
    refine .rK (.ghs (fr 30 [(0,Sl.v 1 s1),(3,.int .u16 z0),(5,(zI (Int.ofNat k2))),(6,Sl.v 1 s2),(7,zI z1),(8,(zI (Int.ofNat k1))),(19,(zB (Bd (Np .u16 (G6 .u16 z0 k2) (1:Int)) (1:Int))))]) (hT 2 [(.cells Ay true false [])]) (.k0 [false,false] [] [0,3,5,6,7,8,19]) ?_)
    replace hm:=Ag hm;rcases hm with⟨h7,hm⟩ | ⟨h7,hm⟩
    ·refine Dr (Bd (Np .u16 (G6 .u16 z0 k2) (1:Int)) (1:Int)) h7 ?_
     refine .then (.rK (.ghs (fr 30 [(2,(zI (6:Int)))]) (hT 2 [(.cells Ay true false [])]) (.k0 [false,false] [] [2]) ?_))
     refine .ret ?_
     exact BB (zI (6:Int)) hm
    ·refine Dy (Bd (Np .u16 (G6 .u16 z0 k2) (1:Int)) (1:Int)) h7 ?_
     refine .skip (.ghs (fr 30 [(0,Sl.v 1 s1),(3,.int .u16 z0),(5,(zI (Int.ofNat k2))),(6,Sl.v 1 s2),(7,zI z1),(8,(zI (Int.ofNat k1)))]) (hT 2 [(.cells Ay true false [])]) (.k0 [false,false] [] [0,3,5,6,7,8]) ?_)
     refine .rK (.ghs (fr 30 [(0,Sl.v 1 s1),(3,(.int .u16 (jF .u16 z0 (QW .u16 (1:Int) k2)))),(6,Sl.v 1 s2),(7,zI z1),(8,(zI (Int.ofNat k1)))]) (hT 2 [(.cells Ay true false [])]) (.k0 [false,false] [] [0,3,6,7,8]) ?_)
     refine .rK ?_
     exact⟨(s1,(jF .u16 z0 (QW .u16 (1:Int) k2)),s2,z1,(Aj .i64 (Int.add (Int.ofNat k1) (1:Int)))),hm,(.k0 [false,false] [] [0,3,6,7,8])⟩
  ·refine Dy (AY z2 z1) h0 ?_
   refine .exit ?_
   exact⟨(),hm,(.k0 [false,false] [] [])⟩
def KV (pu:Af) (n:Nat) (b0:Bool):OV:=
 (some (.bool b0))
def iL (pu:Af) (n:Nat) (x0 x1 x2:Int):OV:=
 (bb (nt (AY x1 x0)) (KV pu n (nt (AY x2 x1))) (KV pu n false))
def bM (pu:Af) (n:Nat) (args:LV):OV:=
 (ll args none fun a0 args=>(ll args none fun a1 args=>(ll args none fun a2 args=>(ll args (oo (Bi .i64 a0) none fun x0=>(oo (Bi .i64 a1) none fun x1=>(oo (Bi .i64 a2) none fun x2=>(iL pu n x0 x1 x2)))) fun _ _=>none))))
theorem uI (pu:Af) (n:Nat) (b0:Bool) {v:Value} (hm:KV pu n b0=some v):BN tt (Bb tabs isP pu (inl pu)) 2 .ret (fr 15 [(6,zB b0)]) (hT 2 [(.cells Ay true false [])]) (Fin tt 2 [.tmp 6] v):=by
 unfold KV at hm
 refine .ret ?_
 exact BB (zB b0) hm
theorem AdL {call:A8} (pu:Af) (n:Nat) (hcall:call=Bb tabs isP pu (inl pu)) {args:LV} {v:Value} (hm:bM pu n args=some v) (_:∀ x∈args,closed2 x=true):args.length≤15∧BN tt call 2 Ow (Fr.made 15 args) (Ao tabs) (Fin tt 2 [.tmp 6] v):=by
 subst hcall
 unfold bM at hm
 replace hm:=Ad hm;obtain⟨a0,args_0,rfl,hm⟩:=hm
 replace hm:=Ad hm;obtain⟨a1,args_1,rfl,hm⟩:=hm
 replace hm:=Ad hm;obtain⟨a2,args_2,rfl,hm⟩:=hm
 replace hm:=AC hm;obtain⟨rfl,hm⟩:=hm
 replace hm:=Ai hm;obtain⟨x0,rfl,hm⟩:=hm
 replace hm:=Ai hm;obtain⟨x1,rfl,hm⟩:=hm
 replace hm:=Ai hm;obtain⟨x2,rfl,hm⟩:=hm
 unfold iL at hm
 refine⟨by simp,?_⟩
 refine .same (F':=(fr 15 [(0,zI x0),(1,zI x1),(2,zI x2)])) (H':=(hT 2 [(.cells Ay true false [])])) (by kernel_rfl) (by kernel_rfl) ?_
 refine .then (.rK (.ghs (fr 15 [(0,zI x0),(1,zI x1),(2,zI x2)]) (hT 2 [(.cells Ay true false [])]) (.k0 [false,false] [] [0,1,2]) ?_))
 refine .join (v:=v) (fun y:Bool=>((fr 15 [(6,zB y)]),(hT 2 [(.cells Ay true false [])]))) (fun y=>KV pu n y) ?_ ?_
 ·rintro b0 hm
  exact uI pu n b0 hm
 ·replace hm:=Ag hm;rcases hm with⟨h0,hm⟩ | ⟨h0,hm⟩
  ·refine .reg (eC 2 (some ((zB (nt (AY x1 x0))),(hT 2 [(.cells Ay true false [])]))) (show _=some ((zB true),_) from (by rw[show (nt (AY x1 x0))=true from h0])) (eE)) ?_
   exact⟨(nt (AY x2 x1)),hm,(.k0 [false,false] [] [6])⟩
  ·refine .reg (eC 2 (some ((zB (nt (AY x1 x0))),(hT 2 [(.cells Ay true false [])]))) (show _=some ((zB false),_) from (by rw[show (nt (AY x1 x0))=false from h0])) (eE)) ?_
   exact⟨false,hm,(.k0 [false,false] [] [6])⟩
def OG (pu:Af) (n:Nat) (z0:Int):OV:=
 (some (.int .u16 z0))
def OH (pu:Af) (n:Nat) (ih0:Int→Sl→Int→Int→Int→Sl→Sl→OV) (z0:Int) (s0:Sl) (z1 z2 z3:Int) (s1 s2:Sl):OV:=
 (ih0 z0 s0 z1 (Aj .i64 (Int.add z2 (1:Int))) z3 s1 s2)
def PN (pu:Af) (n:Nat) (ih0:Int→Sl→Int→Int→Int→Sl→Sl→OV) (z0:Int) (s0:Sl) (z1 z2 z3:Int) (s1 s2:Sl):OV:=
 (bb (AY z2 z1) (oo (EA z2) none fun k1=>(bb (an (Nat.blt k1 (Sl.n s0)) true) (oo (AL (Sl.cs s0) (k1*1)) none fun v0=>(oo (Bi .i64 v0) none fun x0=>(bb (an (Nat.blt k1 (Sl.n s2)) true) (oo (AL (Sl.cs s2) (k1*1)) none fun v1=>(oo (Bi .i64 v1) none fun x1=>(bb (nt (Bd x0 x1)) (OH pu n ih0 (jF .u16 z0 (QW .u16 (1:Int) k1)) s0 z1 (Int.ofNat k1) z3 s1 s2) (OH pu n ih0 z0 s0 z1 (Int.ofNat k1) z3 s1 s2)))) none))) none)) (OG pu n z0))
def OJ (pu:Af) (n w:Nat):Int→Sl→Int→Int→Int→Sl→Sl→OV:=
 Nat.rec (motive:=fun _=>Int→Sl→Int→Int→Int→Sl→Sl→OV) (fun _ _ _ _ _ _ _=>none) (fun _ ih0=>PN pu n ih0) w
def iM (pu:Af) (n:Nat) (x0:Int) (s0 s1:Sl):OV:=
 (OJ pu n n (0:Int) s0 (Int.ofNat (Sl.n s0)) (0:Int) x0 s0 s1)
def bN (pu:Af) (n:Nat) (args:LV):OV:=
 (ll args none fun a0 args=>(ll args (oo (Bt a0) none fun l0=>(ll l0 none fun v0 l0=>(ll l0 none fun v1 l0=>(ll l0 none fun v2 l0=>(ll l0 (oo (Bi .i64 v0) none fun x0=>(oo (Bj 1 v1) none fun s0=>(oo (Bj 1 v2) none fun s1=>(iM pu n x0 s0 s1)))) fun _ _=>none))))) fun _ _=>none))
theorem uJ (pu:Af) (n:Nat) (z0:Int) {v:Value} (hm:OG pu n z0=some v):BN tt (Bb tabs isP pu (inl pu)) 2 QE (fr 27 [(3,.int .u16 z0)]) (hT 2 [(.cells Ay true false [])]) (Fin tt 2 [.tmp 2] v):=by
 unfold OG at hm
 refine .then (.rK (.ghs (fr 27 [(2,.int .u16 z0)]) (hT 2 [(.cells Ay true false [])]) (.k0 [false,false] [] [2]) ?_))
 refine .ret ?_
 exact BB (.int .u16 z0) hm
theorem AdM {call:A8} (pu:Af) (n:Nat) (hcall:call=Bb tabs isP pu (inl pu)) {args:LV} {v:Value} (hm:bN pu n args=some v) (_:∀ x∈args,closed2 x=true):args.length≤27∧BN tt call 2 JN (Fr.made 27 args) (Ao tabs) (Fin tt 2 [.tmp 2] v):=by
 subst hcall
 unfold bN at hm
 replace hm:=Ad hm;obtain⟨a0,args_0,rfl,hm⟩:=hm
 replace hm:=AC hm;obtain⟨rfl,hm⟩:=hm
 replace hm:=BG hm;obtain⟨l0,rfl,hm⟩:=hm
 replace hm:=Ad hm;obtain⟨v0,l10019_0,rfl,hm⟩:=hm
 replace hm:=Ad hm;obtain⟨v1,l10019_1,rfl,hm⟩:=hm
 replace hm:=Ad hm;obtain⟨v2,l10019_2,rfl,hm⟩:=hm
 replace hm:=AC hm;obtain⟨rfl,hm⟩:=hm
 replace hm:=Ai hm;obtain⟨x0,rfl,hm⟩:=hm
 replace hm:=Al hm;obtain⟨s0,rfl,hm⟩:=hm
 replace hm:=Al hm;obtain⟨s1,rfl,hm⟩:=hm
 unfold iM at hm
 refine⟨by simp,?_⟩
 refine .same (F':=(fr 27 [(0,(.agg ⟨[zI x0,Sl.v 1 s0,Sl.v 1 s1]⟩))])) (H':=(hT 2 [(.cells Ay true false [])])) (by kernel_rfl) (by kernel_rfl) ?_
 refine .then (.rK (.ghs (fr 27 [(1,(pt 2 0))]) (hT 3 [(.cells Ay true false []),(oC [zI x0,Sl.v 1 s0,Sl.v 1 s1])]) (.k0 [false,false] [.tmp 1 false] [1]) ?_))
 refine .then (.rK (.ghs (fr 27 [(1,(pt 2 0)),(3,(.int .u16 (0:Int)))]) (hT 3 [(.cells Ay true false []),(oC [zI x0,Sl.v 1 s0,Sl.v 1 s1])]) (.k0 [false,false] [.tmp 1 false] [1,3]) ?_))
 refine .join (v:=v) (fun y:Int=>((fr 27 [(3,.int .u16 y)]),(hT 2 [(.cells Ay true false [])]))) (fun y=>OG pu n y) ?_ ?_
 ·rintro z0 hm
  exact uJ pu n z0 hm
 ·refine .then (.rK (.ghs (fr 27 [(1,(pt 2 0)),(3,(.int .u16 (0:Int))),(7,Sl.v 1 s0),(8,(zI (Int.ofNat (Sl.n s0)))),(9,(zI (0:Int)))]) (hT 3 [(.cells Ay true false []),(oC [zI x0,Sl.v 1 s0,Sl.v 1 s1])]) (.k0 [false,false] [.tmp 1 false] [1,3,7,8,9]) ?_))
  refine .block (.loopM (v:=v) (fun y:Int×Sl×Int×Int×Int×Sl×Sl=>((fr 27 [(1,(pt 2 0)),(3,(.int .u16 y.1)),(7,(Sl.v 1 y.2.1)),(8,(zI y.2.2.1)),(9,(zI y.2.2.2.1))]),(hT 3 [(.cells Ay true false []),(oC [(zI y.2.2.2.2.1),(Sl.v 1 y.2.2.2.2.2.1),(Sl.v 1 y.2.2.2.2.2.2)])]))) (fun w y=>OJ pu n w y.1 y.2.1 y.2.2.1 y.2.2.2.1 y.2.2.2.2.1 y.2.2.2.2.2.1 y.2.2.2.2.2.2) n ⟨((0:Int),s0,(Int.ofNat (Sl.n s0)),(0:Int),x0,s0,s1),hm,(.k0 [false,false] [.tmp 1 false] [1,3,7,8,9])⟩ (fun _=>rfl) ?_)
  rintro w0 ⟨z1,s2,z2,z3,z4,s3,s4⟩ hm
  replace hm:PN pu n (OJ pu n w0) z1 s2 z2 z3 z4 s3 s4=some v:=hm
  unfold PN at hm
  refine .then (.rK (.ghs (fr 27 [(1,(pt 2 0)),(3,.int .u16 z1),(7,Sl.v 1 s2),(8,zI z2),(9,zI z3),(10,(zB (AY z3 z2)))]) (hT 3 [(.cells Ay true false []),(oC [zI z4,Sl.v 1 s3,Sl.v 1 s4])]) (.k0 [false,false] [.tmp 1 false] [1,3,7,8,9,10]) ?_))
  refine .then ?_
  replace hm:=Ag hm;rcases hm with⟨h0,hm⟩ | ⟨h0,hm⟩
  ·refine Dr (AY z3 z2) h0 ?_
   refine .skip (.ghs (fr 27 [(1,(pt 2 0)),(3,.int .u16 z1),(7,Sl.v 1 s2),(8,zI z2),(9,zI z3)]) (hT 3 [(.cells Ay true false []),(oC [zI z4,Sl.v 1 s3,Sl.v 1 s4])]) (.k0 [false,false] [.tmp 1 false] [1,3,7,8,9]) ?_)
   refine .join (v:=v) (fun y:Int×Sl×Int×Int×Int×Sl×Sl=>((fr 27 [(1,(pt 2 0)),(3,(.int .u16 y.1)),(7,(Sl.v 1 y.2.1)),(8,(zI y.2.2.1)),(9,(zI y.2.2.2.1))]),(hT 3 [(.cells Ay true false []),(oC [(zI y.2.2.2.2.1),(Sl.v 1 y.2.2.2.2.2.1),(Sl.v 1 y.2.2.2.2.2.2)])]))) (fun y=>OH pu n (OJ pu n w0) y.1 y.2.1 y.2.2.1 y.2.2.2.1 y.2.2.2.2.1 y.2.2.2.2.2.1 y.2.2.2.2.2.2) ?_ ?_
   ·rintro⟨z5,s5,z6,z7,z8,s6,s7⟩ hm
    unfold OH at hm
    refine .rK ?_
    exact⟨(z5,s5,z6,(Aj .i64 (Int.add z7 (1:Int))),z8,s6,s7),hm,(.k0 [false,false] [.tmp 1 false] [1,3,7,8,9])⟩
   ·refine .block (.then ?_)
    replace hm:=Ab hm;obtain⟨k1,h1,hm⟩:=hm
    obtain rfl:=AR h1
    replace hm:=Ae hm;obtain⟨h2,hm⟩:=hm
    replace hm:=FK hm;obtain⟨x1,h3,hm⟩:=hm
    refine .reg (eC 1 (keep (hT 3 [(.cells Ay true false []),(oC [zI z4,Sl.v 1 s3,Sl.v 1 s4])]) (bb (an (Nat.blt k1 (Sl.n s2)) true) (some (Cv (k1*1) (Sl.cs s2))) none)) (AX h2) (eD (keep (hT 3 [(.cells Ay true false []),(oC [zI z4,Sl.v 1 s3,Sl.v 1 s4])]) (AL (Sl.cs s2) (k1*1))) (AZ h3) (eE))) ?_
    refine .ghs (fr 27 [(1,(pt 2 0)),(3,.int .u16 z1),(4,(zI (Int.ofNat k1))),(5,zI x1),(7,Sl.v 1 s2),(8,zI z2),(9,(zI (Int.ofNat k1)))]) (hT 3 [(.cells Ay true false []),(oC [zI z4,Sl.v 1 s3,Sl.v 1 s4])]) (.k0 [false,false] [.tmp 1 false] [1,3,4,5,7,8,9]) ?_
    refine .then ?_
    replace hm:=Ae hm;obtain⟨h4,hm⟩:=hm
    replace hm:=FK hm;obtain⟨x2,h5,hm⟩:=hm
    refine .reg (eC 4 (keep (hT 3 [(.cells Ay true false []),(oC [zI z4,Sl.v 1 s3,Sl.v 1 s4])]) (bb (an (Nat.blt k1 (Sl.n s4)) true) (some (Cv (k1*1) (Sl.cs s4))) none)) (AX h4) (eD (keep (hT 3 [(.cells Ay true false []),(oC [zI z4,Sl.v 1 s3,Sl.v 1 s4])]) (AL (Sl.cs s4) (k1*1))) (AZ h5) (eE))) ?_
    refine .ghs (fr 27 [(1,(pt 2 0)),(3,.int .u16 z1),(4,(zI (Int.ofNat k1))),(7,Sl.v 1 s2),(8,zI z2),(9,(zI (Int.ofNat k1))),(20,(zB (nt (Bd x1 x2))))]) (hT 3 [(.cells Ay true false []),(oC [zI z4,Sl.v 1 s3,Sl.v 1 s4])]) (.k0 [false,false] [.tmp 1 false] [1,3,4,7,8,9,20]) ?_
    replace hm:=Ag hm;rcases hm with⟨h6,hm⟩ | ⟨h6,hm⟩
    ·refine Dr (nt (Bd x1 x2)) h6 ?_
     refine .rK ?_
     exact⟨((jF .u16 z1 (QW .u16 (1:Int) k1)),s2,z2,(Int.ofNat k1),z4,s3,s4),hm,(.k0 [false,false] [.tmp 1 false] [1,3,7,8,9])⟩
    ·refine Dy (nt (Bd x1 x2)) h6 ?_
     refine .skip ?_
     exact⟨(z1,s2,z2,(Int.ofNat k1),z4,s3,s4),hm,(.k0 [false,false] [.tmp 1 false] [1,3,7,8,9])⟩
  ·refine Dy (AY z3 z2) h0 ?_
   refine .exit ?_
   exact⟨z1,hm,(.k0 [false,false] [] [3])⟩

def iN (pu:Af) (n:Nat) (x0:Int):OV:=
 (oo (EA (G6 .u16 x0 8)) none fun k1=>(oo (ZT[k1]?) none fun c0=>(oo (EA (Np .u16 x0 (255:Int))) none fun k2=>(oo (ZT[k2]?) none fun c1=>(some (.int .i64 (Aj .i64 (Aj .u8 (Int.add (Int.ofNat (UInt8.toNat c0)) (Int.ofNat (UInt8.toNat c1)))))))))))
def bO (pu:Af) (n:Nat) (args:LV):OV:=
 (ll args none fun a0 args=>(ll args (oo (Bi .u16 a0) none fun x0=>(iN pu n x0)) fun _ _=>none))
theorem AdN {call:A8} (pu:Af) (n:Nat) (hcall:call=Bb tabs isP pu (inl pu)) {args:LV} {v:Value} (hm:bO pu n args=some v) (_:∀ x∈args,closed2 x=true):args.length≤11∧BN tt call 2 Oy (Fr.made 11 args) (Ao tabs) (Fin tt 2 [.tmp 2] v):=by
 subst hcall
 unfold bO at hm
 replace hm:=Ad hm;obtain⟨a0,args_0,rfl,hm⟩:=hm
 replace hm:=AC hm;obtain⟨rfl,hm⟩:=hm
 replace hm:=Ai hm;obtain⟨x0,rfl,hm⟩:=hm
 unfold iN at hm
 refine⟨by simp,?_⟩
 refine .same (F':=(fr 11 [(0,.int .u16 x0)])) (H':=(hT 2 [(.cells Ay true false [])])) (by kernel_rfl) (by kernel_rfl) ?_
 refine .then (.rK (.ghs (fr 11 [(0,.int .u16 x0)]) (hT 2 [(.cells Ay true false [])]) (.k0 [false,false] [] [0]) ?_))
 refine .then ?_
 replace hm:=Ab hm;obtain⟨k1,h0,hm⟩:=hm
 replace hm:=Ab hm;obtain⟨c0,h1,hm⟩:=hm
 replace hm:=Ab hm;obtain⟨k2,h2,hm⟩:=hm
 replace hm:=Ab hm;obtain⟨c1,h3,hm⟩:=hm
 refine .reg (eC 1 (some ((.int .u16 (G6 .u16 x0 8)),(hT 2 [(.cells Ay true false [])]))) (show _=some ((.int .u16 (Int.ofNat k1)),_) from (by rw[AR h0])) (eD (keep (hT 2 [(.cells Ay true false [])]) (oo (ZT[k1]?) none fun b=>iv .u8 (.ofNat b.toNat))) (fH h1) (eC 1 (some ((.int .u16 (Np .u16 x0 (255:Int))),(hT 2 [(.cells Ay true false [])]))) (show _=some ((.int .u16 (Int.ofNat k2)),_) from (by rw[AR h2])) (eD (keep (hT 2 [(.cells Ay true false [])]) (oo (ZT[k2]?) none fun b=>iv .u8 (.ofNat b.toNat))) (fH h3) (eE))))) ?_
 refine .ghs (fr 11 [(2,(zI (Aj .i64 (Aj .u8 (Int.add (Int.ofNat (UInt8.toNat c0)) (Int.ofNat (UInt8.toNat c1)))))))]) (hT 2 [(.cells Ay true false [])]) (.k0 [false,false] [] [2]) ?_
 refine .ret ?_
 exact BB (zI (Aj .i64 (Aj .u8 (Int.add (Int.ofNat (UInt8.toNat c0)) (Int.ofNat (UInt8.toNat c1)))))) hm
def OL (pu:Af) (n n0 c0:Nat) (q0:LV):OV:=
 (bb (Au Ah q0) (bb (an (Nat.ble (0+n0*1) (len q0)) (Au Ah (Aq (n0*1) (Am 0 q0)))) (some (Sl.v 1 (Sl.mk n0 0 (Aq (n0*1) (Am 0 q0))))) none) none)
def PO (pu:Af) (n:Nat) (ih0:Int→Nat→Nat→LV→OV) (z0:Int) (n0 c0:Nat) (q0:LV):OV:=
 (bb (Au Ah q0) (bb (nt (Bd z0 (0:Int))) (oo (pu 90 [.int .u16 z0]) none fun v0=>(oo (Bi .i64 v0) none fun x0=>(bb (GV 1 8 n0 c0 1 q0) (bb (Au Ah (Br (Am 0 q0) [.int .i64 x0])) (ih0 (Np .u16 z0 (Aj .u16 (Int.sub z0 (1:Int)))) (n0+1) (2*(n0+1)+bb false 1 0) (Br (Am 0 q0) [.int .i64 x0])) none) none))) (OL pu n n0 c0 q0)) none)
def PP (pu:Af) (n w:Nat):Int→Nat→Nat→LV→OV:=
 Nat.rec (motive:=fun _=>Int→Nat→Nat→LV→OV) (fun _ _ _ _=>none) (fun _ ih0=>PO pu n ih0) w
def iO (pu:Af) (n:Nat) (x0:Int):OV:=
 (PP pu n n x0 0 0 ([]:LV))
def bP (pu:Af) (n:Nat) (args:LV):OV:=
 (ll args none fun a0 args=>(ll args (oo (Bi .u16 a0) none fun x0=>(iO pu n x0)) fun _ _=>none))
theorem uK (pu:Af) (n n0 c0:Nat) (q0:LV) {v:Value} (hm:OL pu n n0 c0 q0=some v):BN tt (Bb tabs isP pu (inl pu)) 2 QF (fr 16 [(3,sc 2 0 1 n0 c0)]) (hT 3 [(.cells Ay true false []),oC q0]) (Fin tt 2 [.tmp 2] v):=by
 unfold OL at hm
 refine .then (.rK ?_)
 replace hm:=Ae hm;obtain⟨h0,hm⟩:=hm
 refine .ghs (fr 16 [(2,sc 2 0 1 n0 c0)]) (hT 3 [(.cells Ay true false []),oC q0]) (.k [2] [false,false] [.tmp 2 false] [2] ⟨AO h0,trivial⟩) ?_
 replace hm:=Ae hm;obtain⟨h1,hm⟩:=hm
 refine .ghs (Fr.puts (fr 16 [(2,sc 2 0 1 n0 c0)]) [(2,(Sl.v 1 (Sl.mk n0 0 (Aq (n0*1) (Am 0 q0)))))]) (hT 3 [(.cells Ay true false []),.dead]) (.freezeC 2 2 1 (an (Nat.ble (0+n0*1) (len q0)) (Au Ah (Aq (n0*1) (Am 0 q0)))) (F1:=(Fr.puts (fr 16 [(2,sc 2 0 1 n0 c0)]) [(2,(Sl.v 1 (Sl.mk n0 0 (Aq (n0*1) (Am 0 q0)))))])) (H1:=(hT 3 [(.cells Ay true false []),.dead])) (by kernel_rfl) (by kernel_rfl) h1 (E9.id _ _)) ?_
 refine .ret ?_
 exact BB (Sl.v 1 (Sl.mk n0 0 (Aq (n0*1) (Am 0 q0)))) hm
theorem AdO {call:A8} (pu:Af) (n:Nat) (hcall:call=Bb tabs isP pu (inl pu)) {args:LV} {v:Value} (hm:bP pu n args=some v) (_:∀ x∈args,closed2 x=true):args.length≤16∧BN tt call 2 JO (Fr.made 16 args) (Ao tabs) (Fin tt 2 [.tmp 2] v):=by
 subst hcall
 unfold bP at hm
 replace hm:=Ad hm;obtain⟨a0,args_0,rfl,hm⟩:=hm
 replace hm:=AC hm;obtain⟨rfl,hm⟩:=hm
 replace hm:=Ai hm;obtain⟨x0,rfl,hm⟩:=hm
 unfold iO at hm
 refine⟨by simp,?_⟩
 refine .same (F':=(fr 16 [(0,.int .u16 x0)])) (H':=(hT 2 [(.cells Ay true false [])])) (by kernel_rfl) (by kernel_rfl) ?_
 refine .then (.rK (.ghs (fr 16 [(0,.int .u16 x0)]) (hT 2 [(.cells Ay true false [])]) (.k0 [false,false] [] [0]) ?_))
 refine .then (.rK (.ghs (fr 16 [(0,.int .u16 x0),(3,(.slice none 0 0))]) (hT 2 [(.cells Ay true false [])]) (.k0 [false,false] [] [0,3]) ?_))
 refine .join (v:=v) (fun y:Nat×Nat×LV=>((fr 16 [(3,(sc 2 0 1 y.1 y.2.1))]),(hT 3 [(.cells Ay true false []),(oC y.2.2)]))) (fun y=>OL pu n y.1 y.2.1 y.2.2) ?_ ?_
 ·rintro⟨n0,c0,q0⟩ hm
  exact uK pu n n0 c0 q0 hm
 ·refine .block (.loopM (v:=v) (fun y:Int×Nat×Nat×LV=>((fr 16 [(0,(.int .u16 y.1)),(3,(sc 2 0 1 y.2.1 y.2.2.1))]),(hT 3 [(.cells Ay true false []),(oC y.2.2.2)]))) (fun w y=>PP pu n w y.1 y.2.1 y.2.2.1 y.2.2.2) n ⟨(x0,0,0,([]:LV)),hm,(.thaw 3 1 (by kernel_rfl) (.k0 [false,false] [.tmp 3 false] [0,3]))⟩ (fun _=>rfl) ?_)
  rintro w0 ⟨z0,n1,c1,q1⟩ hm
  replace hm:PO pu n (PP pu n w0) z0 n1 c1 q1=some v:=hm
  unfold PO at hm
  refine .then (.then (.rK ?_))
  replace hm:=Ae hm;obtain⟨h0,hm⟩:=hm
  refine .ghs (fr 16 [(0,.int .u16 z0),(3,sc 2 0 1 n1 c1),(5,(zB (nt (Bd z0 (0:Int)))))]) (hT 3 [(.cells Ay true false []),oC q1]) (.k [2] [false,false] [.tmp 3 false] [0,3,5] ⟨AO h0,trivial⟩) ?_
  replace hm:=Ag hm;rcases hm with⟨h1,hm⟩ | ⟨h1,hm⟩
  ·refine Dr (nt (Bd z0 (0:Int))) h1 ?_
   refine .skip (.ghs (fr 16 [(0,.int .u16 z0),(3,sc 2 0 1 n1 c1)]) (hT 3 [(.cells Ay true false []),oC q1]) (.k [2] [false,false] [.tmp 3 false] [0,3] ⟨AO h0,trivial⟩) ?_)
   refine .then (.block ?_)
   replace hm:=FK hm;obtain⟨x1,h2,hm⟩:=hm
   replace hm:=Ae hm;obtain⟨h3,hm⟩:=hm
   refine .reg (eC 2 ((oo (pu 90 [.int .u16 z0]) none fun v=>some (v,(hT 3 [(.cells Ay true false []),oC q1])))) (AB h2) (eC 1 (Oc 1 8 n1 c1 1 2 q1 [zI x1] [] (hT 4 [(.cells Ay true false []),oC q1,(oC [zI x1])])) (I1 h3) (eE))) ?_
   replace hm:=Ae hm;obtain⟨h4,hm⟩:=hm
   refine .ghs (fr 16 [(0,.int .u16 z0),(3,(sc 2 0 1 (n1+1) (d2 (n1+1))))]) (hT 3 [(.cells Ay true false []),(oC (Br (Am 0 q1) [zI x1]))]) (.k [4] [false,false] [.tmp 3 false] [0,3] ⟨AO h4,trivial⟩) ?_
   refine .rK ?_
   exact⟨((Np .u16 z0 (Aj .u16 (Int.sub z0 (1:Int)))),(n1+1),(d2 (n1+1)),(Br (Am 0 q1) [zI x1])),hm,(.k [2] [false,false] [.tmp 3 false] [0,3] ⟨AO h4,trivial⟩)⟩
  ·refine Dy (nt (Bd z0 (0:Int))) h1 ?_
   refine .exit ?_
   exact⟨(n1,c1,q1),hm,(.k [2] [false,false] [.tmp 3 false] [3] ⟨AO h0,trivial⟩)⟩
def OM (pu:Af) (n:Nat) (q0:LV):OV:=
 (bb (Nat.ble (0+5) (len q0)) (oo (AL q0 0) none fun v0=>(oo (Bi .i64 v0) none fun x0=>(oo (AL q0 (0+1)) none fun v1=>(oo (Bi .i64 v1) none fun x1=>(oo (AL q0 ((0+1)+1)) none fun v2=>(oo (Bi .i64 v2) none fun x2=>(oo (AL q0 (((0+1)+1)+1)) none fun v3=>(oo (Bi .i64 v3) none fun x3=>(oo (AL q0 ((((0+1)+1)+1)+1)) none fun v4=>(oo (Bi .i64 v4) none fun x4=>(some (.bool (bq true (an (Bd x0 (0:Int)) (an (Bd x1 (0:Int)) (an (Bd x2 (0:Int)) (an (Bd x3 (0:Int)) (an (Bd x4 (0:Int)) true)))))))))))))))))) none)
def OO (pu:Af) (n:Nat) (ih0:Int→Int→Int→Int→Sl→Sl→LV→OV) (z0 z1 z2 z3:Int) (s0 s1:Sl) (q0:LV):OV:=
 (bb (Au Ah q0) (ih0 z0 z1 (Aj .i64 (Int.add z2 (1:Int))) z3 s0 s1 q0) none)
def PQ (pu:Af) (n:Nat) (ih0:Int→Int→Int→Int→Sl→Sl→LV→OV) (z0 z1 z2 z3:Int) (s0 s1:Sl) (q0:LV):OV:=
 (bb (Au Ah q0) (bb (AY z2 z1) (oo (pu 197 [.int .u16 z0,.int .i64 z2]) none fun v0=>(oo (Bf v0) none fun b0=>(bb b0 (oo (EA z2) none fun k1=>(bb (an (Nat.blt k1 (Sl.n s0)) true) (oo (AL (Sl.cs s0) (k1*1)) none fun v1=>(oo (Bi .i64 v1) none fun x0=>(oo (EA x0) none fun k2=>(bb (Nat.blt k2 5) (oo (AL q0 (0+k2*1)) none fun v2=>(oo (Bi .i64 v2) none fun x1=>(bb (Nat.blt k2 5) (bb (an (Nat.ble ((0+k2*1)+1) (len q0)) true) (bb (Au Ah (BM ([(.int .i64 (Aj .i64 (Int.add x1 (1:Int))))]:LV) (0+k2*1) q0)) (bb (an (Nat.blt k1 (Sl.n s1)) true) (oo (AL (Sl.cs s1) (k1*1)) none fun v3=>(oo (Bi .i64 v3) none fun x2=>(oo (EA x2) none fun k3=>(bb (Nat.blt k3 5) (oo (AL (BM ([(.int .i64 (Aj .i64 (Int.add x1 (1:Int))))]:LV) (0+k2*1) q0) (0+k3*1)) none fun v4=>(oo (Bi .i64 v4) none fun x3=>(bb (Nat.blt k3 5) (bb (an (Nat.ble ((0+k3*1)+1) (len (BM ([(.int .i64 (Aj .i64 (Int.add x1 (1:Int))))]:LV) (0+k2*1) q0))) true) (bb (Au Ah (BM ([(.int .i64 (Aj .i64 (Int.sub x3 (1:Int))))]:LV) (0+k3*1) (BM ([(.int .i64 (Aj .i64 (Int.add x1 (1:Int))))]:LV) (0+k2*1) q0))) (OO pu n ih0 z0 z1 (Int.ofNat k1) z3 s0 s1 (BM ([(.int .i64 (Aj .i64 (Int.sub x3 (1:Int))))]:LV) (0+k3*1) (BM ([(.int .i64 (Aj .i64 (Int.add x1 (1:Int))))]:LV) (0+k2*1) q0))) none) none) none))) none)))) none) none) none) none))) none)))) none)) (OO pu n ih0 z0 z1 z2 z3 s0 s1 q0)))) (OM pu n q0)) none)
def OP (pu:Af) (n w:Nat):Int→Int→Int→Int→Sl→Sl→LV→OV:=
 Nat.rec (motive:=fun _=>Int→Int→Int→Int→Sl→Sl→LV→OV) (fun _ _ _ _ _ _ _=>none) (fun _ ih0=>PQ pu n ih0) w
def iR (pu:Af) (n:Nat) (x0:Int) (s0 s1:Sl) (x1:Int):OV:=
 (OP pu n n x1 (Int.ofNat (Sl.n s0)) (0:Int) x0 s0 s1 ([(.int .i64 (0:Int)),(.int .i64 (0:Int)),(.int .i64 (0:Int)),(.int .i64 (0:Int)),(.int .i64 (0:Int))]:LV))
def bQ (pu:Af) (n:Nat) (args:LV):OV:=
 (ll args none fun a0 args=>(ll args none fun a1 args=>(ll args (oo (Bt a0) none fun l0=>(ll l0 none fun v0 l0=>(ll l0 none fun v1 l0=>(ll l0 none fun v2 l0=>(ll l0 (oo (Bi .i64 v0) none fun x0=>(oo (Bj 1 v1) none fun s0=>(oo (Bj 1 v2) none fun s1=>(oo (Bi .u16 a1) none fun x1=>(iR pu n x0 s0 s1 x1))))) fun _ _=>none))))) fun _ _=>none)))
theorem uL (pu:Af) (n:Nat) (q0:LV) {v:Value} (hm:OM pu n q0=some v):BN tt (Bb tabs isP pu (inl pu)) 2 QG (fr 38 [(5,(pt 2 0))]) (hT 3 [(.cells Ay true false []),oC q0]) (Fin tt 2 [.tmp 4] v):=by
 unfold OM at hm
 refine .then ?_
 replace hm:=Ae hm;obtain⟨h0,hm⟩:=hm
 replace hm:=FK hm;obtain⟨x0,h1,hm⟩:=hm
 replace hm:=FK hm;obtain⟨x1,h2,hm⟩:=hm
 replace hm:=FK hm;obtain⟨x2,h3,hm⟩:=hm
 replace hm:=FK hm;obtain⟨x3,h4,hm⟩:=hm
 replace hm:=FK hm;obtain⟨x4,h5,hm⟩:=hm
 refine .reg (eD (keep (hT 3 [(.cells Ay true false []),oC q0]) (bb (Nat.ble (0+5) (len q0)) (some (.agg ⟨Aq 5 (Am 0 q0)⟩)) none)) (Pd h0 (Ca h1 (Ca h2 (Ca h3 (Ca h4 (Ca h5 rfl)))))) (eE)) ?_
 refine .ghs (fr 38 [(4,(zB (bq true (an (Bd x0 (0:Int)) (an (Bd x1 (0:Int)) (an (Bd x2 (0:Int)) (an (Bd x3 (0:Int)) (an (Bd x4 (0:Int)) true))))))))]) (hT 2 [(.cells Ay true false [])]) (.k0 [false,false] [] [4]) ?_
 refine .ret ?_
 exact BB (zB (bq true (an (Bd x0 (0:Int)) (an (Bd x1 (0:Int)) (an (Bd x2 (0:Int)) (an (Bd x3 (0:Int)) (an (Bd x4 (0:Int)) true))))))) hm
theorem AdP {call:A8} (pu:Af) (n:Nat) (hcall:call=Bb tabs isP pu (inl pu)) {args:LV} {v:Value} (hm:bQ pu n args=some v) (_:∀ x∈args,closed2 x=true):args.length≤38∧BN tt call 2 JP (Fr.made 38 args) (Ao tabs) (Fin tt 2 [.tmp 4] v):=by
 subst hcall
 unfold bQ at hm
 replace hm:=Ad hm;obtain⟨a0,args_0,rfl,hm⟩:=hm
 replace hm:=Ad hm;obtain⟨a1,args_1,rfl,hm⟩:=hm
 replace hm:=AC hm;obtain⟨rfl,hm⟩:=hm
 replace hm:=BG hm;obtain⟨l0,rfl,hm⟩:=hm
 replace hm:=Ad hm;obtain⟨v0,l10377_0,rfl,hm⟩:=hm
 replace hm:=Ad hm;obtain⟨v1,l10377_1,rfl,hm⟩:=hm
 replace hm:=Ad hm;obtain⟨v2,l10377_2,rfl,hm⟩:=hm
 replace hm:=AC hm;obtain⟨rfl,hm⟩:=hm
 replace hm:=Ai hm;obtain⟨x0,rfl,hm⟩:=hm
 replace hm:=Al hm;obtain⟨s0,rfl,hm⟩:=hm
 replace hm:=Al hm;obtain⟨s1,rfl,hm⟩:=hm
 replace hm:=Ai hm;obtain⟨x1,rfl,hm⟩:=hm
 unfold iR at hm
 refine⟨by simp,?_⟩
 refine .same (F':=(fr 38 [(0,(.agg ⟨[zI x0,Sl.v 1 s0,Sl.v 1 s1]⟩)),(1,.int .u16 x1)])) (H':=(hT 2 [(.cells Ay true false [])])) (by kernel_rfl) (by kernel_rfl) ?_
 refine .then (.rK (.ghs (fr 38 [(1,.int .u16 x1),(2,(pt 2 0))]) (hT 3 [(.cells Ay true false []),(oC [zI x0,Sl.v 1 s0,Sl.v 1 s1])]) (.k0 [false,false] [.tmp 2 false] [1,2]) ?_))
 refine .then (.rK (.ghs (fr 38 [(1,.int .u16 x1),(2,(pt 2 0)),(5,(pt 3 0))]) (hT 4 [(.cells Ay true false []),(oC [zI x0,Sl.v 1 s0,Sl.v 1 s1]),(oC [(zI (0:Int)),(zI (0:Int)),(zI (0:Int)),(zI (0:Int)),(zI (0:Int))])]) (.k0 [false,false] [.tmp 2 false,.tmp 5 false] [1,2,5]) ?_))
 refine .join (v:=v) (fun y:LV=>((fr 38 [(5,(pt 2 0))]),(hT 3 [(.cells Ay true false []),oC y]))) (fun y=>OM pu n y) ?_ ?_
 ·rintro q0 hm
  exact uL pu n q0 hm
 ·refine .then (.rK (.ghs (fr 38 [(1,.int .u16 x1),(2,(pt 2 0)),(5,(pt 3 0)),(9,(zI (Int.ofNat (Sl.n s0)))),(10,(zI (0:Int)))]) (hT 4 [(.cells Ay true false []),(oC [zI x0,Sl.v 1 s0,Sl.v 1 s1]),(oC [(zI (0:Int)),(zI (0:Int)),(zI (0:Int)),(zI (0:Int)),(zI (0:Int))])]) (.k0 [false,false] [.tmp 2 false,.tmp 5 false] [1,2,5,9,10]) ?_))
  refine .block (.loopM (v:=v) (fun y:Int×Int×Int×Int×Sl×Sl×LV=>((fr 38 [(1,(.int .u16 y.1)),(2,(pt 2 0)),(5,(pt 3 0)),(9,(zI y.2.1)),(10,(zI y.2.2.1))]),(hT 4 [(.cells Ay true false []),(oC [(zI y.2.2.2.1),(Sl.v 1 y.2.2.2.2.1),(Sl.v 1 y.2.2.2.2.2.1)]),(oC y.2.2.2.2.2.2)]))) (fun w y=>OP pu n w y.1 y.2.1 y.2.2.1 y.2.2.2.1 y.2.2.2.2.1 y.2.2.2.2.2.1 y.2.2.2.2.2.2) n ⟨(x1,(Int.ofNat (Sl.n s0)),(0:Int),x0,s0,s1,([(zI (0:Int)),(zI (0:Int)),(zI (0:Int)),(zI (0:Int)),(zI (0:Int))]:LV)),hm,(.k0 [false,false] [.tmp 2 false,.tmp 5 false] [1,2,5,9,10])⟩ (fun _=>rfl) ?_)
  rintro w0 ⟨z0,z1,z2,z3,s2,s3,q1⟩ hm
  replace hm:PQ pu n (OP pu n w0) z0 z1 z2 z3 s2 s3 q1=some v:=hm
  unfold PQ at hm
  refine .then (.rK ?_)
  replace hm:=Ae hm;obtain⟨h0,hm⟩:=hm
  refine .ghs (fr 38 [(1,.int .u16 z0),(2,(pt 2 0)),(5,(pt 3 0)),(9,zI z1),(10,zI z2),(11,(zB (AY z2 z1)))]) (hT 4 [(.cells Ay true false []),(oC [zI z3,Sl.v 1 s2,Sl.v 1 s3]),oC q1]) (.k [3] [false,false] [.tmp 2 false,.tmp 5 false] [1,2,5,9,10,11] ⟨AO h0,trivial⟩) ?_
  refine .then ?_
  replace hm:=Ag hm;rcases hm with⟨h1,hm⟩ | ⟨h1,hm⟩
  ·refine Dr (AY z2 z1) h1 ?_
   refine .skip (.ghs (fr 38 [(1,.int .u16 z0),(2,(pt 2 0)),(5,(pt 3 0)),(9,zI z1),(10,zI z2)]) (hT 4 [(.cells Ay true false []),(oC [zI z3,Sl.v 1 s2,Sl.v 1 s3]),oC q1]) (.k [3] [false,false] [.tmp 2 false,.tmp 5 false] [1,2,5,9,10] ⟨AO h0,trivial⟩) ?_)
   refine .join (v:=v) (fun y:Int×Int×Int×Int×Sl×Sl×LV=>((fr 38 [(1,(.int .u16 y.1)),(2,(pt 2 0)),(5,(pt 3 0)),(9,(zI y.2.1)),(10,(zI y.2.2.1))]),(hT 4 [(.cells Ay true false []),(oC [(zI y.2.2.2.1),(Sl.v 1 y.2.2.2.2.1),(Sl.v 1 y.2.2.2.2.2.1)]),(oC y.2.2.2.2.2.2)]))) (fun y=>OO pu n (OP pu n w0) y.1 y.2.1 y.2.2.1 y.2.2.2.1 y.2.2.2.2.1 y.2.2.2.2.2.1 y.2.2.2.2.2.2) ?_ ?_
   ·rintro⟨z4,z5,z6,z7,s4,s5,q2⟩ hm
    unfold OO at hm
    refine .rK ?_
    replace hm:=Ae hm;obtain⟨h2,hm⟩:=hm
    exact⟨(z4,z5,(Aj .i64 (Int.add z6 (1:Int))),z7,s4,s5,q2),hm,(.k [3] [false,false] [.tmp 2 false,.tmp 5 false] [1,2,5,9,10] ⟨AO h2,trivial⟩)⟩
   ·refine .block (.then (.rK (.ghs (fr 38 [(1,.int .u16 z0),(2,(pt 2 0)),(5,(pt 3 0)),(6,zI z2),(9,zI z1),(10,zI z2)]) (hT 4 [(.cells Ay true false []),(oC [zI z3,Sl.v 1 s2,Sl.v 1 s3]),oC q1]) (.k [3] [false,false] [.tmp 2 false,.tmp 5 false] [1,2,5,6,9,10] ⟨AO h0,trivial⟩) ?_)))
    refine .then ?_
    replace hm:=zT hm;obtain⟨b0,h3,hm⟩:=hm
    refine .reg (eC 2 ((oo (pu 197 [.int .u16 z0,zI z2]) none fun v=>some (v,(hT 4 [(.cells Ay true false []),(oC [zI z3,Sl.v 1 s2,Sl.v 1 s3]),oC q1])))) (AB h3) (eE)) ?_
    refine .ghs (fr 38 [(1,.int .u16 z0),(2,(pt 2 0)),(5,(pt 3 0)),(6,zI z2),(9,zI z1),(10,zI z2),(15,zB b0)]) (hT 4 [(.cells Ay true false []),(oC [zI z3,Sl.v 1 s2,Sl.v 1 s3]),oC q1]) (.k [3] [false,false] [.tmp 2 false,.tmp 5 false] [1,2,5,6,9,10,15] ⟨AO h0,trivial⟩) ?_
    replace hm:=Ag hm;rcases hm with⟨h4,hm⟩ | ⟨h4,hm⟩
    ·refine .ifT b0 (by kernel_rfl) h4 ?_
     refine .then ?_
     replace hm:=Ab hm;obtain⟨k1,h5,hm⟩:=hm
     obtain rfl:=AR h5
     replace hm:=Ae hm;obtain⟨h6,hm⟩:=hm
     replace hm:=FK hm;obtain⟨x2,h7,hm⟩:=hm
     replace hm:=Ab hm;obtain⟨k2,h8,hm⟩:=hm
     obtain rfl:=AR h8
     replace hm:=Ae hm;obtain⟨h9,hm⟩:=hm
     replace hm:=FK hm;obtain⟨x3,h10,hm⟩:=hm
     replace hm:=Ae hm;obtain⟨h11,hm⟩:=hm
     replace hm:=Ae hm;obtain⟨h12,hm⟩:=hm
     refine .reg (eN 6 (Fr.puts (fr 38 [(1,.int .u16 z0),(2,(pt 2 0)),(5,(pt 3 0)),(6,(zI (Int.ofNat k1))),(9,zI z1),(10,(zI (Int.ofNat k1))),(15,zB b0)]) [(16,(pt 2 1)),(17,Sl.v 1 s2),(18,(zI (Int.ofNat k1))),(19,(Cv (k1*1) (Sl.cs s2))),(20,(zI (Int.ofNat k2))),(21,(.pointer (some ⟨3,(0+k2*1),none⟩)))]) (hT 4 [(.cells Ay true false []),(oC [zI z3,Sl.v 1 s2,Sl.v 1 s3]),oC q1]) (eC 3 (keep (hT 4 [(.cells Ay true false []),(oC [zI z3,Sl.v 1 s2,Sl.v 1 s3]),oC q1]) (bb (an (Nat.blt k1 (Sl.n s2)) true) (some (Cv (k1*1) (Sl.cs s2))) none)) (AX h6) (eD (keep (hT 4 [(.cells Ay true false []),(oC [zI z3,Sl.v 1 s2,Sl.v 1 s3]),oC q1]) (AL (Sl.cs s2) (k1*1))) (AZ h7) (eD (keep (hT 4 [(.cells Ay true false []),(oC [zI z3,Sl.v 1 s2,Sl.v 1 s3]),oC q1]) (bb (Nat.blt k2 5) (some (.pointer (some ⟨3,(0+k2*1),none⟩))) none)) (AX h9) (by kernel_rfl)))) (eD (keep (hT 4 [(.cells Ay true false []),(oC [zI z3,Sl.v 1 s2,Sl.v 1 s3]),oC q1]) (AL q1 (0+k2*1))) (AZ h10) (eC 1 (keep (hT 4 [(.cells Ay true false []),(oC [zI z3,Sl.v 1 s2,Sl.v 1 s3]),oC q1]) (bb (Nat.blt k2 5) (some (.pointer (some ⟨3,(0+k2*1),none⟩))) none)) (AX h11) (eD (done (bb (an (Nat.ble ((0+k2*1)+1) (len q1)) true) (some (hT 4 [(.cells Ay true false []),(oC [zI z3,Sl.v 1 s2,Sl.v 1 s3]),(oC (BM ([(zI (Aj .i64 (Int.add x3 (1:Int))))]:LV) (0+k2*1) q1))])) none) undef) (Js h12) (eE))))) ?_
     replace hm:=Ae hm;obtain⟨h13,hm⟩:=hm
     refine .ghs (fr 38 [(1,.int .u16 z0),(2,(pt 2 0)),(5,(pt 3 0)),(6,(zI (Int.ofNat k1))),(9,zI z1),(10,(zI (Int.ofNat k1)))]) (hT 4 [(.cells Ay true false []),(oC [zI z3,Sl.v 1 s2,Sl.v 1 s3]),(oC (BM ([(zI (Aj .i64 (Int.add x3 (1:Int))))]:LV) (0+k2*1) q1))]) (.k [3] [false,false] [.tmp 2 false,.tmp 5 false] [1,2,5,6,9,10] ⟨AO h13,trivial⟩) ?_
     replace hm:=Ae hm;obtain⟨h14,hm⟩:=hm
     replace hm:=FK hm;obtain⟨x4,h15,hm⟩:=hm
     replace hm:=Ab hm;obtain⟨k3,h16,hm⟩:=hm
     obtain rfl:=AR h16
     replace hm:=Ae hm;obtain⟨h17,hm⟩:=hm
     replace hm:=FK hm;obtain⟨x5,h18,hm⟩:=hm
     replace hm:=Ae hm;obtain⟨h19,hm⟩:=hm
     replace hm:=Ae hm;obtain⟨h20,hm⟩:=hm
     refine .reg (eN 6 (Fr.puts (fr 38 [(1,.int .u16 z0),(2,(pt 2 0)),(5,(pt 3 0)),(6,(zI (Int.ofNat k1))),(9,zI z1),(10,(zI (Int.ofNat k1)))]) [(25,(pt 2 2)),(26,Sl.v 1 s3),(27,(zI (Int.ofNat k1))),(28,(Cv (k1*1) (Sl.cs s3))),(29,(zI (Int.ofNat k3))),(30,(.pointer (some ⟨3,(0+k3*1),none⟩)))]) (hT 4 [(.cells Ay true false []),(oC [zI z3,Sl.v 1 s2,Sl.v 1 s3]),(oC (BM ([(zI (Aj .i64 (Int.add x3 (1:Int))))]:LV) (0+k2*1) q1))]) (eC 3 (keep (hT 4 [(.cells Ay true false []),(oC [zI z3,Sl.v 1 s2,Sl.v 1 s3]),(oC (BM ([(zI (Aj .i64 (Int.add x3 (1:Int))))]:LV) (0+k2*1) q1))]) (bb (an (Nat.blt k1 (Sl.n s3)) true) (some (Cv (k1*1) (Sl.cs s3))) none)) (AX h14) (eD (keep (hT 4 [(.cells Ay true false []),(oC [zI z3,Sl.v 1 s2,Sl.v 1 s3]),(oC (BM ([(zI (Aj .i64 (Int.add x3 (1:Int))))]:LV) (0+k2*1) q1))]) (AL (Sl.cs s3) (k1*1))) (AZ h15) (eD (keep (hT 4 [(.cells Ay true false []),(oC [zI z3,Sl.v 1 s2,Sl.v 1 s3]),(oC (BM ([(zI (Aj .i64 (Int.add x3 (1:Int))))]:LV) (0+k2*1) q1))]) (bb (Nat.blt k3 5) (some (.pointer (some ⟨3,(0+k3*1),none⟩))) none)) (AX h17) (by kernel_rfl)))) (eD (keep (hT 4 [(.cells Ay true false []),(oC [zI z3,Sl.v 1 s2,Sl.v 1 s3]),(oC (BM ([(zI (Aj .i64 (Int.add x3 (1:Int))))]:LV) (0+k2*1) q1))]) (AL (BM ([(zI (Aj .i64 (Int.add x3 (1:Int))))]:LV) (0+k2*1) q1) (0+k3*1))) (AZ h18) (eC 1 (keep (hT 4 [(.cells Ay true false []),(oC [zI z3,Sl.v 1 s2,Sl.v 1 s3]),(oC (BM ([(zI (Aj .i64 (Int.add x3 (1:Int))))]:LV) (0+k2*1) q1))]) (bb (Nat.blt k3 5) (some (.pointer (some ⟨3,(0+k3*1),none⟩))) none)) (AX h19) (eD (done (bb (an (Nat.ble ((0+k3*1)+1) (len (BM ([(zI (Aj .i64 (Int.add x3 (1:Int))))]:LV) (0+k2*1) q1))) true) (some (hT 4 [(.cells Ay true false []),(oC [zI z3,Sl.v 1 s2,Sl.v 1 s3]),(oC (BM ([(zI (Aj .i64 (Int.sub x5 (1:Int))))]:LV) (0+k3*1) (BM ([(zI (Aj .i64 (Int.add x3 (1:Int))))]:LV) (0+k2*1) q1)))])) none) undef) (Js h20) (eE))))) ?_
     replace hm:=Ae hm;obtain⟨h21,hm⟩:=hm
     exact⟨(z0,z1,(Int.ofNat k1),z3,s2,s3,(BM ([(zI (Aj .i64 (Int.sub x5 (1:Int))))]:LV) (0+k3*1) (BM ([(zI (Aj .i64 (Int.add x3 (1:Int))))]:LV) (0+k2*1) q1))),hm,(.k [3] [false,false] [.tmp 2 false,.tmp 5 false] [1,2,5,9,10] ⟨AO h21,trivial⟩)⟩
    ·refine .ifF b0 (by kernel_rfl) h4 ?_
     refine .skip ?_
     exact⟨(z0,z1,z2,z3,s2,s3,q1),hm,(.k [3] [false,false] [.tmp 2 false,.tmp 5 false] [1,2,5,9,10] ⟨AO h0,trivial⟩)⟩
  ·refine Dy (AY z2 z1) h1 ?_
   refine .exit ?_
   exact⟨q1,hm,(.k [3] [false,false] [.tmp 5 false] [5] ⟨AO h0,trivial⟩)⟩
end
end Go.TpDM
