import Derived.Test.YtlgmapibifphaaaDoorMnSMod0x
set_option maxRecDepth 100000
set_option maxHeartbeats 20000000
set_option linter.unusedVariables false
namespace Go.MnSM
open Go.Sp Go.MnS
noncomputable section
def RO (pu:Af) (n:Nat) (z0:Int) (s0 s1:Sl) (n0 c0:Nat) (q0:LV):OV:=
 (bb (Au Ah q0) (bb (Au F4 ([]:List EO)) (bb (an (Nat.ble (0+n0*1) (len q0)) (Au Ah (Aq (n0*1) (Am 0 q0)))) (bb (Au F4 ([]:List EO)) (bb (Au F4 ([]:List EO)) (oo (pu 10600 [(.int .i64 (0:Int)),(.pointer (some ⟨1,0,none⟩)),(.pointer (some ⟨2,0,none⟩)),(.pointer (some ⟨3,0,none⟩)),(.pointer (some ⟨4,0,none⟩)),(.pointer (some ⟨5,0,none⟩)),(.pointer (some ⟨6,0,none⟩)),(.agg ⟨[(Sl.v 1 (Sl.mk n0 0 (Aq (n0*1) (Am 0 q0))))]⟩),(.agg ⟨[(.map (some 7))]⟩),(.agg ⟨[.int .i64 z0,Sl.v 1 s0,Sl.v 1 s1]⟩),(.agg ⟨[(.map (some 8))]⟩),(.agg ⟨[(.func (.func 60) ⟨[]⟩ ⟨[(.pointer (some ⟨1,0,none⟩)),(.pointer (some ⟨2,0,none⟩)),(.pointer (some ⟨3,0,none⟩)),(.pointer (some ⟨4,0,none⟩)),(.pointer (some ⟨5,0,none⟩)),(.pointer (some ⟨6,0,none⟩))]⟩)]⟩),(.agg ⟨[(Sl.v 1 (Sl.mk 0 2 []))]⟩),(Ef (.map ([]:List EO) 0)),(Ef (.map ([]:List EO) 0))]) none λv0=>(oo (CQ v0) none λl0=>(ll l0 none λv1 l0=>(ll l0 none λv2 l0=>(ll l0 none λv3 l0=>(ll l0 none λv4 l0=>(ll l0 none λv5 l0=>(ll l0 none λv6 l0=>(ll l0 none λv7 l0=>(ll l0 none λv8 l0=>(ll l0 none λv9 l0=>(ll l0 (bb (MC v1) (oo (Bt v2) none λl1=>(ll l1 none λv10 l1=>(ll l1 (oo (Bj 1 v10) none λs2=>(oo (Bt v3) none λl2=>(ll l2 none λv11 l2=>(ll l2 (bb (FC v11 7) (oo (Bt v4) none λl3=>(ll l3 none λv12 l3=>(ll l3 none λv13 l3=>(ll l3 none λv14 l3=>(ll l3 (oo (Bi .i64 v12) none λx0=>(oo (Bj 1 v13) none λs3=>(oo (Bj 1 v14) none λs4=>(oo (Bt v5) none λl4=>(ll l4 none λv15 l4=>(ll l4 (bb (FC v15 8) (oo (Bt v6) none λl5=>(ll l5 none λv16 l5=>(ll l5 (oo (Om 60 0 v16) none λl6=>(ll l6 none λv17 l6=>(ll l6 none λv18 l6=>(ll l6 none λv19 l6=>(ll l6 none λv20 l6=>(ll l6 none λv21 l6=>(ll l6 none λv22 l6=>(ll l6 (bb (MK v17 1 0) (bb (MK v18 2 0) (bb (MK v19 3 0) (bb (MK v20 4 0) (bb (MK v21 5 0) (bb (MK v22 6 0) (oo (Bt v7) none λl7=>(ll l7 none λv23 l7=>(ll l7 (oo (Bj 1 v23) none λs5=>(oo (Fj v8) none λy0=>(oo (Fj v9) none λy1=>(bb (Au F4 (Akd.es y0)) (bb (Au F4 (Akd.es y1)) (some (Sl.v 1 s5)) none) none)))) λ_ _=>none))) none) none) none) none) none) none) λ_ _=>none)))))))) λ_ _=>none))) none) λ_ _=>none)))))) λ_ _=>none))))) none) λ_ _=>none)))) λ_ _=>none))) none) λ_ _=>none)))))))))))) none) none) none) none) none)
def TY (pu:Af) (n:Nat) (ih0:AjH) (z0 z1 z2:Int) (s0 s1:Sl) (n0 c0:Nat) (q0:LV):OV:=
 (bb (Au Ah q0) (ih0 z0 (Aj .i64 (Int.add z1 (1:Int))) z2 s0 s1 n0 c0 q0) none)
def WG (pu:Af) (n:Nat) (ih0:AjH) (z0 z1 z2:Int) (s0 s1:Sl) (n0 c0:Nat) (q0:LV):OV:=
 (bb (Au Ah q0) (bb (AY z1 z0) (oo (EA z1) none λk1=>(bb (an (Nat.blt k1 (Sl.n s0)) true) (oo (AL (Sl.cs s0) (k1*1)) none λv0=>(oo (Bi .i64 v0) none λx0=>(bb (an (Nat.blt k1 (Sl.n s1)) true) (oo (AL (Sl.cs s1) (k1*1)) none λv1=>(oo (Bi .i64 v1) none λx1=>(bb (nt (Bd x0 x1)) (bb (GV 1 8 n0 c0 1 q0) (bb (Au Ah (Br (Am 0 q0) [(.int .i64 (Int.ofNat k1))])) (TY pu n ih0 z0 (Int.ofNat k1) z2 s0 s1 (n0+1) (2*(n0+1)+bb false 1 0) (Br (Am 0 q0) [(.int .i64 (Int.ofNat k1))])) none) none) (TY pu n ih0 z0 (Int.ofNat k1) z2 s0 s1 n0 c0 q0)))) none))) none)) (RO pu n z2 s0 s1 n0 c0 q0)) none)
def OP (pu:Af) (n w:Nat):AjH:=
 Nat.rec (motive:=λ_=>AjH) (λ_ _ _ _ _ _ _ _=>none) (λ_ ih0=>WG pu n ih0) w
def nJ (pu:Af) (n:Nat) (x0:Int) (s0 s1:Sl):OV:=
 (OP pu n n (Int.ofNat (Sl.n s0)) (0:Int) x0 s0 s1 0 0 ([]:LV))
def m36 (pu:Af) (n:Nat) (args:LV):OV:=
 (ll args none λa0 args=>(ll args (oo (Bt a0) none λl0=>(ll l0 none λv0 l0=>(ll l0 none λv1 l0=>(ll l0 none λv2 l0=>(ll l0 (oo (Bi .i64 v0) none λx0=>(oo (Bj 1 v1) none λs0=>(oo (Bj 1 v2) none λs1=>(nJ pu n x0 s0 s1)))) λ_ _=>none))))) λ_ _=>none))
theorem AfD (pu:Af) (n:Nat) (z0:Int) (s0 s1:Sl) (n0 c0:Nat) (q0:LV) {v:Value} (hm:RO pu n z0 s0 s1 n0 c0 q0=some v):BN tt (Bb tabs Ir pu (inl pu)) 1 eO (fr 37 [(1,pt 1 0),(3,(pt 2 0))]) (hT 4 [(oC [zI z0,Sl.v 1 s0,Sl.v 1 s1]),(oC [sc 3 0 1 n0 c0]),oC q0]) (Fin tt 1 [.tmp 2] v):=by
 unfold RO at hm
 refine .then (.rK ?_)
 replace⟨h0,hm⟩:=Ae hm
 refine .ghs (fr 37 [(1,pt 1 0),(3,(pt 2 0)),(5,(pt 3 0))]) (hT 5 [(Ahr z0 s0 s1),(oC [sc 4 0 1 n0 c0]),AiR,oC q0]) (.k [3] [false] [.tmp 1 false,.tmp 3 true,.tmp 5 false,.cell 2 0 false] [1,3,5] ⟨Fb h0,trivial⟩) ?_
 refine .then (.rK ?_)
 replace⟨h1,hm⟩:=Ae hm
 refine .ghs (fr 37 [(1,pt 1 0),(3,(pt 2 0)),(5,(pt 3 0)),(6,(pt 4 0))]) (hT 7 [(Ahr z0 s0 s1),(oC [sc 5 0 1 n0 c0]),AiR,(oC [(.map (some 6))]),oC q0,(.map ([]:List EO) 0)]) (.k [4,5] [false] [.tmp 1 false,.tmp 3 true,.tmp 5 false,.tmp 6 true,.cell 2 0 false,.cell 4 0 false] [1,3,5,6] ⟨Fb h0,Fb h1,trivial⟩) ?_
 refine .then (.rK (.ghs (fr 37 [(1,pt 1 0),(3,(pt 2 0)),(5,(pt 3 0)),(6,(pt 4 0)),(7,(pt 5 0))]) (hT 9 [(Ahr z0 s0 s1),(oC [sc 6 0 1 n0 c0]),AiR,(oC [(.map (some 7))]),(oC [(.map (some 8))]),oC q0,(.map ([]:List EO) 0),(.map ([]:List EO) 0)]) (.k [5,6,7] [false] [.tmp 1 false,.tmp 3 true,.tmp 5 false,.tmp 6 true,.tmp 7 true,.cell 2 0 false,.cell 4 0 false,.cell 5 0 false] [1,3,5,6,7] ⟨Fb h0,Fb h1,Fb h1,trivial⟩) ?_))
 refine .then (.rK (.ghs (fr 37 [(1,pt 1 0),(3,(pt 2 0)),(5,(pt 3 0)),(6,(pt 4 0)),(7,(pt 5 0)),(8,(pt 6 0))]) (hT 10 [(Ahr z0 s0 s1),(oC [sc 7 0 1 n0 c0]),AiR,(oC [(.map (some 8))]),(oC [(.map (some 9))]),(oC [.nilFunc]),oC q0,(.map ([]:List EO) 0),(.map ([]:List EO) 0)]) (.k [6,7,8] [false] [.tmp 1 false,.tmp 3 true,.tmp 5 false,.tmp 6 true,.tmp 7 true,.tmp 8 false,.cell 2 0 false,.cell 4 0 false,.cell 5 0 false] [1,3,5,6,7,8] ⟨Fb h0,Fb h1,Fb h1,trivial⟩) ?_))
 refine .then (.rK (.ghs (fr 37 [(5,pt 1 0),(8,(pt 2 0))]) (hT 10 [AiR,AhO,(oC [sc 7 0 1 n0 c0]),(oC [(.map (some 8))]),(Ahr z0 s0 s1),(oC [(.map (some 9))]),oC q0,(.map ([]:List EO) 0),(.map ([]:List EO) 0)]) (.k [7,9,8] [false] [.tmp 5 false,.tmp 8 true,.ccap 2 0 0 true,.ccap 2 0 1 true,.ccap 2 0 2 false,.ccap 2 0 3 true,.cell 3 0 false,.cell 4 0 false,.cell 6 0 false] [5,8] ⟨Fb h0,Fb h1,Fb h1,trivial⟩) ?_))
 refine .then ?_
 replace⟨h2,hm⟩:=Ae hm
 refine .ghs (fr 37 [(5,pt 1 0),(8,(pt 2 0))]) (Aii n0 q0 z0 s0 s1) (.frzC 1 3 0 [sc 7 0 1 n0 c0] (Aij n0 q0) (v:=(sc 7 0 1 n0 c0)) (v':=(Sl.v 1 (Ahx n0 q0))) (H1:=(hT 10 [AiR,AhO,(oC [sc 7 0 1 n0 c0]),(oC [(.map (some 8))]),(Ahr z0 s0 s1),(oC [(.map (some 9))]),.dead,(.map ([]:List EO) 0),(.map ([]:List EO) 0)])) (imm:=false) (spent:=false) (anc:=[]) h2 (.nilC 1 0 1 [(.slice none 0 0)] (imm:=false) (spent:=false) (anc:=[]) (by kernel_rfl) (by kernel_rfl) (by kernel_rfl) (E9.id _ _))) ?_
 replace⟨h3,hm⟩:=Ae hm
 replace⟨h4,hm⟩:=Ae hm
 replace⟨v0,h5,hm⟩:=Ab hm
 replace hm:=Ch hm;obtain⟨l0,rfl,hm⟩:=hm
 replace hm:=Ad hm;obtain⟨v1,l33048_0,rfl,hm⟩:=hm
 replace hm:=Ad hm;obtain⟨v2,l33048_1,rfl,hm⟩:=hm
 replace hm:=Ad hm;obtain⟨v3,l33048_2,rfl,hm⟩:=hm
 replace hm:=Ad hm;obtain⟨v4,l33048_3,rfl,hm⟩:=hm
 replace hm:=Ad hm;obtain⟨v5,l33048_4,rfl,hm⟩:=hm
 replace hm:=Ad hm;obtain⟨v6,l33048_5,rfl,hm⟩:=hm
 replace hm:=Ad hm;obtain⟨v7,l33048_6,rfl,hm⟩:=hm
 replace hm:=Ad hm;obtain⟨v8,l33048_7,rfl,hm⟩:=hm
 replace hm:=Ad hm;obtain⟨v9,l33048_8,rfl,hm⟩:=hm
 replace hm:=AC hm;obtain⟨rfl,hm⟩:=hm
 replace⟨h6,hm⟩:=Ae hm
 obtain rfl:=Oo h6
 replace hm:=BG hm;obtain⟨l1,rfl,hm⟩:=hm
 replace hm:=Ad hm;obtain⟨v10,l33060_0,rfl,hm⟩:=hm
 replace hm:=AC hm;obtain⟨rfl,hm⟩:=hm
 replace hm:=Al hm;obtain⟨s2,rfl,hm⟩:=hm
 replace hm:=BG hm;obtain⟨l2,rfl,hm⟩:=hm
 replace hm:=Ad hm;obtain⟨v11,l33065_0,rfl,hm⟩:=hm
 replace hm:=AC hm;obtain⟨rfl,hm⟩:=hm
 replace⟨h7,hm⟩:=Ae hm
 obtain rfl:=Ey h7
 replace hm:=BG hm;obtain⟨l3,rfl,hm⟩:=hm
 replace hm:=Ad hm;obtain⟨v12,l33069_0,rfl,hm⟩:=hm
 replace hm:=Ad hm;obtain⟨v13,l33069_1,rfl,hm⟩:=hm
 replace hm:=Ad hm;obtain⟨v14,l33069_2,rfl,hm⟩:=hm
 replace hm:=AC hm;obtain⟨rfl,hm⟩:=hm
 replace hm:=Ai hm;obtain⟨x0,rfl,hm⟩:=hm
 replace hm:=Al hm;obtain⟨s3,rfl,hm⟩:=hm
 replace hm:=Al hm;obtain⟨s4,rfl,hm⟩:=hm
 replace hm:=BG hm;obtain⟨l4,rfl,hm⟩:=hm
 replace hm:=Ad hm;obtain⟨v15,l33080_0,rfl,hm⟩:=hm
 replace hm:=AC hm;obtain⟨rfl,hm⟩:=hm
 replace⟨h8,hm⟩:=Ae hm
 obtain rfl:=Ey h8
 replace hm:=BG hm;obtain⟨l5,rfl,hm⟩:=hm
 replace hm:=Ad hm;obtain⟨v16,l33084_0,rfl,hm⟩:=hm
 replace hm:=AC hm;obtain⟨rfl,hm⟩:=hm
 replace⟨l6,h9,hm⟩:=Ab hm
 obtain rfl:=Hu h9
 replace hm:=Ad hm;obtain⟨v17,l33087_0,rfl,hm⟩:=hm
 replace hm:=Ad hm;obtain⟨v18,l33087_1,rfl,hm⟩:=hm
 replace hm:=Ad hm;obtain⟨v19,l33087_2,rfl,hm⟩:=hm
 replace hm:=Ad hm;obtain⟨v20,l33087_3,rfl,hm⟩:=hm
 replace hm:=Ad hm;obtain⟨v21,l33087_4,rfl,hm⟩:=hm
 replace hm:=Ad hm;obtain⟨v22,l33087_5,rfl,hm⟩:=hm
 replace hm:=AC hm;obtain⟨rfl,hm⟩:=hm
 replace⟨h10,hm⟩:=Ae hm
 obtain rfl:=KR h10
 replace⟨h11,hm⟩:=Ae hm
 obtain rfl:=KR h11
 replace⟨h12,hm⟩:=Ae hm
 obtain rfl:=KR h12
 replace⟨h13,hm⟩:=Ae hm
 obtain rfl:=KR h13
 replace⟨h14,hm⟩:=Ae hm
 obtain rfl:=KR h14
 replace⟨h15,hm⟩:=Ae hm
 obtain rfl:=KR h15
 replace hm:=BG hm;obtain⟨l7,rfl,hm⟩:=hm
 replace hm:=Ad hm;obtain⟨v23,l33101_0,rfl,hm⟩:=hm
 replace hm:=AC hm;obtain⟨rfl,hm⟩:=hm
 replace hm:=Al hm;obtain⟨s5,rfl,hm⟩:=hm
 replace⟨y0,h16,hm⟩:=Ab hm
 replace⟨y1,h17,hm⟩:=Ab hm
 replace⟨h18,hm⟩:=Ae hm
 replace⟨h19,hm⟩:=Ae hm
 refine .reg (eC 1 (EK tabs [[none],[none],[none],[none],[none],[none],[none]] 7 [.tmp 1 false,.tmp 2 true,.tmp 3 false,.tmp 4 true,.tmp 5 true,.tmp 6 false,.cell 2 0 false,.cell 4 0 false] [false,true,false,true,true,false,false,false] (pu 10600) [(zI (0:Int)),(pt 3 0),(pt 4 0),(pt 5 0),(pt 6 0),(pt 2 0),pt 1 0] (Aii n0 q0 z0 s0 s1)) (EL (as:=[(zI (0:Int)),(pt 3 0),(pt 4 0),(pt 5 0),(pt 6 0),(pt 2 0),pt 1 0]) (H1:=(Aii n0 q0 z0 s0 s1)) (BS (Dm Dk) (BS (Dm Dk) (BS (Dm Dk) (BS (Dm Dk) (BS (Dm Dk) (BS (Dm Dk) (BS (Dm Dk) Gj))))))) (EI (H2:=(hT 10 [(oC [Sl.v 1 s5]),AhO,(oC [Sl.v 1 s2]),(oC [(.map (some 8))]),(Ahr x0 s3 s4),(oC [(.map (some 9))]),.dead,(Ahv y0),(Ahv y1)])) (v:=(.tuple ⟨[]⟩)) (v':=(.tuple ⟨[]⟩)) [some 0,some 3,some 4,some 5,some 6,some 2,some 1,some 8,some 9] [(false,some 3),(true,some 4),(false,some 5),(true,some 6),(true,some 2),(false,some 1),(false,some 8),(false,some 9)] [(oC [(Sl.v 1 (Ahx n0 q0))]),(oC [(.map (some 7))]),(Ahr z0 s0 s1),(oC [(.map (some 8))]),Ahq,(oC [(Sl.v 1 (Sl.mk 0 2 []))]),(.map ([]:List EO) 0),(.map ([]:List EO) 0)] [(zI (0:Int)),pt 1 0,(pt 2 0),(pt 3 0),(pt 4 0),(pt 5 0),(pt 6 0)] [(.agg ⟨[Sl.v 1 s2]⟩),(.agg ⟨[(.map (some 7))]⟩),(AhC x0 s3 s4),(.agg ⟨[(.map (some 8))]⟩),(.agg ⟨[(.func (.func 60) ⟨[]⟩ ⟨[pt 1 0,(pt 2 0),(pt 3 0),(pt 4 0),(pt 5 0),(pt 6 0)]⟩)]⟩),(.agg ⟨[Sl.v 1 s5]⟩),v8,v9] (AhK s2 x0 s3 s4 s5 y0 y1) [some 0,some 6,some 5,some 1,some 2,some 3,some 4,none,some 7,some 8] [(false,(oC [Sl.v 1 s2])),(true,(oC [(.map (some 7))])),(false,(Ahr x0 s3 s4)),(true,(oC [(.map (some 8))])),(true,Ahq),(false,(oC [Sl.v 1 s5])),(false,(Ahv y0)),(false,(Ahv y1))] [(oC [Sl.v 1 s2]),(oC [(.map (some 8))]),(Ahr x0 s3 s4),(oC [(.map (some 9))]),AhO,(oC [Sl.v 1 s5]),(Ahv y0),(Ahv y1)] (by kernel_rfl) (En (by kernel_rfl) (En (by kernel_rfl) (En (by kernel_rfl) (En (by kernel_rfl) (En (by kernel_rfl) (En (by kernel_rfl) (En (Ka h3) (En (Ka h4) BX)))))))) (Eq.trans (by kernel_rfl) h5) (En rfl (En rfl (En rfl (En rfl (En rfl (En rfl (En (CK h16) (En (CK h17) BX)))))))) (En (by kernel_rfl) (En (by kernel_rfl) (En (by kernel_rfl) (En (by kernel_rfl) (En (by kernel_rfl) (En (by kernel_rfl) (En (GZ h18) (En (GZ h19) BX)))))))))) (eE)) ?_
 refine .ghs (fr 37 [(5,pt 1 0)]) (hT 2 [(oC [Sl.v 1 s5])]) (.k0 [false] [.tmp 5 false] [5]) ?_
 refine .then (.rK (.ghs (fr 37 [(2,Sl.v 1 s5)]) FD (.k0 [false] [] [2]) ?_))
 refine .ret ?_
 exact Fp (Sl.v 1 s5) hm
theorem r36 {call:A8} (pu:Af) (n:Nat) (hcall:call=Bb tabs Ir pu (inl pu)) {args:LV} {v:Value} (hm:m36 pu n args=some v) (_:∀ x∈args,closed2 x=true):args.length≤37∧BN tt call 1 UL (Fr.made 37 args) (Ao tabs) (Fin tt 1 [.tmp 2] v):=by
 subst hcall
 unfold m36 at hm
 replace hm:=Ad hm;obtain⟨a0,args_0,rfl,hm⟩:=hm
 replace hm:=AC hm;obtain⟨rfl,hm⟩:=hm
 replace hm:=BG hm;obtain⟨l0,rfl,hm⟩:=hm
 replace hm:=Ad hm;obtain⟨v0,l19903_0,rfl,hm⟩:=hm
 replace hm:=Ad hm;obtain⟨v1,l19903_1,rfl,hm⟩:=hm
 replace hm:=Ad hm;obtain⟨v2,l19903_2,rfl,hm⟩:=hm
 replace hm:=AC hm;obtain⟨rfl,hm⟩:=hm
 replace hm:=Ai hm;obtain⟨x0,rfl,hm⟩:=hm
 replace hm:=Al hm;obtain⟨s0,rfl,hm⟩:=hm
 replace hm:=Al hm;obtain⟨s1,rfl,hm⟩:=hm
 unfold nJ at hm
 refine⟨by simp,?_⟩
 refine .same (F':=(fr 37 [(0,(AhC x0 s0 s1))])) (H':=FD) (by kernel_rfl) (by kernel_rfl) ?_
 refine .then (.rK (.ghs (fr 37 [(1,pt 1 0)]) (hT 2 [(Ahr x0 s0 s1)]) (.k0 [false] [.tmp 1 false] [1]) ?_))
 refine .then (.rK (.ghs (fr 37 [(1,pt 1 0),(3,(pt 2 0))]) (hT 3 [(Ahr x0 s0 s1),AiR]) (.k0 [false] Ah3 [1,3]) ?_))
 refine .join (v:=v) (λy:Int×Sl×Sl×Nat×Nat×LV=>((fr 37 [(1,pt 1 0),(3,(pt 2 0))]),(hT 4 [(AhF y.1 y.2.1 y.2.2.1),(oC [(sc 3 0 1 y.2.2.2.1 (AaW y))]),(oC (AaX y))]))) (λy=>RO pu n y.1 y.2.1 y.2.2.1 y.2.2.2.1 (AaW y) (AaX y)) ?_ ?_
 ·rintro⟨z0,s2,s3,n0,c0,q0⟩ hm
  exact AfD pu n z0 s2 s3 n0 c0 q0 hm
 ·refine .then (.rK (.ghs (fr 37 [(1,pt 1 0),(3,(pt 2 0)),(11,(Ah6 s0)),(12,(zI (0:Int)))]) (hT 3 [(Ahr x0 s0 s1),AiR]) (.k0 [false] Ah3 [1,3,11,12]) ?_))
  refine .block (.loopM (v:=v) (λy:Int×Int×Int×Sl×Sl×Nat×Nat×LV=>((fr 37 [(1,pt 1 0),(3,(pt 2 0)),(11,(zI y.1)),(12,(zI y.2.1))]),(hT 4 [(AhF y.2.2.1 y.2.2.2.1 (AaW y)),(oC [(sc 3 0 1 (Acq y) (Ac3 y))]),(oC (Adc y))]))) (λw y=>OP pu n w y.1 y.2.1 y.2.2.1 y.2.2.2.1 (AaW y) (Acq y) (Ac3 y) (Adc y)) n ⟨((Int.ofNat (Sl.n s0)),(0:Int),x0,s0,s1,0,0,([]:LV)),hm,(.thawC 2 0 1 [(.slice none 0 0)] (imm:=false) (spent:=false) (anc:=[]) (by kernel_rfl) (by kernel_rfl) (by kernel_rfl) (by kernel_rfl) (.k0 [false] Aib [1,3,11,12]))⟩ (λ_=>rfl) ?_)
  rintro w0 ⟨z1,z2,z3,s4,s5,n1,c1,q1⟩ hm
  replace hm:WG pu n (OP pu n w0) z1 z2 z3 s4 s5 n1 c1 q1=some v:=hm
  unfold WG at hm
  refine .then (.rK ?_)
  replace⟨h0,hm⟩:=Ae hm
  refine .ghs (fr 37 [(1,pt 1 0),(3,(pt 2 0)),(11,zI z1),(12,zI z2),(13,(zB (AY z2 z1)))]) (AiP z3 s4 s5 n1 c1 q1) (.k [3] [false] Aib [1,3,11,12,13] ⟨Fb h0,trivial⟩) ?_
  refine .then ?_
  replace hm:=Ag hm;rcases hm with⟨h1,hm⟩|⟨h1,hm⟩
  ·refine Gq (AY z2 z1) h1 ?_
   refine .skip (.ghs (fr 37 [(1,pt 1 0),(3,(pt 2 0)),(11,zI z1),(12,zI z2)]) (AiP z3 s4 s5 n1 c1 q1) (.k [3] [false] Aib [1,3,11,12] ⟨Fb h0,trivial⟩) ?_)
   refine .join (v:=v) (λy:Int×Int×Int×Sl×Sl×Nat×Nat×LV=>((fr 37 [(1,pt 1 0),(3,(pt 2 0)),(11,(zI y.1)),(12,(zI y.2.1))]),(hT 4 [(AhF y.2.2.1 y.2.2.2.1 (AaW y)),(oC [(sc 3 0 1 (Acq y) (Ac3 y))]),(oC (Adc y))]))) (λy=>TY pu n (OP pu n w0) y.1 y.2.1 y.2.2.1 y.2.2.2.1 (AaW y) (Acq y) (Ac3 y) (Adc y)) ?_ ?_
   ·rintro⟨z4,z5,z6,s6,s7,n2,c2,q2⟩ hm
    unfold TY at hm
    refine .rK ?_
    replace⟨h2,hm⟩:=Ae hm
    exact⟨(z4,(AhE z5),z6,s6,s7,n2,c2,q2),hm,(.k [3] [false] Aib [1,3,11,12] ⟨Fb h2,trivial⟩)⟩
   ·refine .block (.then (.rK (.ghs (fr 37 [(1,pt 1 0),(3,(pt 2 0)),(4,zI z2),(11,zI z1),(12,zI z2)]) (AiP z3 s4 s5 n1 c1 q1) (.k [3] [false] Aib [1,3,4,11,12] ⟨Fb h0,trivial⟩) ?_)))
    refine .then ?_
    replace⟨k1,h3,hm⟩:=Ab hm
    obtain rfl:=AR h3
    replace⟨h4,hm⟩:=Ae hm
    replace⟨x1,h5,hm⟩:=Hw hm
    replace⟨h6,hm⟩:=Ae hm
    replace⟨x2,h7,hm⟩:=Hw hm
    refine .reg (eC 3 (keep (AiP z3 s4 s5 n1 c1 q1) (Aht k1 s4)) (AX h4) (eD (keep (AiP z3 s4 s5 n1 c1 q1) (AL (Sl.cs s4) (k1*1))) (AZ h5) (eC 3 (keep (AiP z3 s4 s5 n1 c1 q1) (Aht k1 s5)) (AX h6) (eD (keep (AiP z3 s4 s5 n1 c1 q1) (AL (Sl.cs s5) (k1*1))) (AZ h7) (eE))))) ?_
    refine .ghs (fr 37 [(1,pt 1 0),(3,(pt 2 0)),(4,(zI (Int.ofNat k1))),(11,zI z1),(12,(zI (Int.ofNat k1))),(25,(zB (nt (Bd x1 x2))))]) (AiP z3 s4 s5 n1 c1 q1) (.k [3] [false] Aib [1,3,4,11,12,25] ⟨Fb h0,trivial⟩) ?_
    replace hm:=Ag hm;rcases hm with⟨h8,hm⟩|⟨h8,hm⟩
    ·refine Gq (nt (Bd x1 x2)) h8 ?_
     replace⟨h9,hm⟩:=Ae hm
     refine .reg (eC 3 (Oc 1 8 n1 c1 1 3 q1 [(zI (Int.ofNat k1))] [] (hT 5 [(Ahr z3 s4 s5),(oC [sc 3 0 1 n1 c1]),oC q1,(Ajr k1)])) (I1 h9) (eE)) ?_
     replace⟨h10,hm⟩:=Ae hm
     exact⟨(z1,(Int.ofNat k1),z3,s4,s5,(n1+1),(d2 (n1+1)),(Br (Am 0 q1) [(zI (Int.ofNat k1))])),hm,(.k [5] [false] Aib [1,3,11,12] ⟨Fb h10,trivial⟩)⟩
    ·refine Gs (nt (Bd x1 x2)) h8 ?_
     refine .skip ?_
     exact⟨(z1,(Int.ofNat k1),z3,s4,s5,n1,c1,q1),hm,(.k [3] [false] Aib [1,3,11,12] ⟨Fb h0,trivial⟩)⟩
  ·refine Gs (AY z2 z1) h1 ?_
   refine .exit ?_
   exact⟨(z3,s4,s5,n1,c1,q1),hm,(.k [3] [false] Aib [1,3] ⟨Fb h0,trivial⟩)⟩
def Zt (pu:Af) (n:Nat) (z0:Int):OV:=
 (some (.int .i64 z0))
def WH (pu:Af) (n:Nat) (ih0:AjM) (z0 z1 z2 z3:Int) (s0 s1:Sl):OV:=
 (ih0 z0 z1 (Aj .i64 (Int.add z2 (1:Int))) z3 s0 s1)
def WI (pu:Af) (n:Nat) (ih0:AjM) (z0 z1 z2 z3:Int) (s0 s1:Sl):OV:=
 (bb (AY z2 z1) (oo (EA z2) none λk1=>(bb (an (Nat.blt k1 (Sl.n s0)) true) (oo (AL (Sl.cs s0) (k1*1)) none λv0=>(oo (Bi .i64 v0) none λx0=>(bb (an (Nat.blt k1 (Sl.n s1)) true) (oo (AL (Sl.cs s1) (k1*1)) none λv1=>(oo (Bi .i64 v1) none λx1=>(bb (nt (Bd x0 x1)) (WH pu n ih0 (Aj .i64 (Int.add z0 (1:Int))) z1 (Int.ofNat k1) z3 s0 s1) (WH pu n ih0 z0 z1 (Int.ofNat k1) z3 s0 s1)))) none))) none)) (Zt pu n z0))
def PI (pu:Af) (n w:Nat):AjM:=
 Nat.rec (motive:=λ_=>AjM) (λ_ _ _ _ _ _=>none) (λ_ ih0=>WI pu n ih0) w
def nK (pu:Af) (n:Nat) (x0:Int) (s0 s1:Sl):OV:=
 (PI pu n n (0:Int) (Int.ofNat (Sl.n s0)) (0:Int) x0 s0 s1)
def m37 (pu:Af) (n:Nat) (args:LV):OV:=
 (ll args none λa0 args=>(ll args (oo (Bt a0) none λl0=>(ll l0 none λv0 l0=>(ll l0 none λv1 l0=>(ll l0 none λv2 l0=>(ll l0 (oo (Bi .i64 v0) none λx0=>(oo (Bj 1 v1) none λs0=>(oo (Bj 1 v2) none λs1=>(nK pu n x0 s0 s1)))) λ_ _=>none))))) λ_ _=>none))
theorem AfE (pu:Af) (n:Nat) (z0:Int) {v:Value} (hm:Zt pu n z0=some v):BN tt (Bb tabs Ir pu (inl pu)) 1 eP (fr 26 [(3,zI z0)]) FD (Fin tt 1 [.tmp 2] v):=by
 unfold Zt at hm
 refine .then (.rK (.ghs (fr 26 [(2,zI z0)]) FD (.k0 [false] [] [2]) ?_))
 refine .ret ?_
 exact Fp (zI z0) hm
theorem r37 {call:A8} (pu:Af) (n:Nat) (hcall:call=Bb tabs Ir pu (inl pu)) {args:LV} {v:Value} (hm:m37 pu n args=some v) (_:∀ x∈args,closed2 x=true):args.length≤26∧BN tt call 1 UM (Fr.made 26 args) (Ao tabs) (Fin tt 1 [.tmp 2] v):=by
 subst hcall
 unfold m37 at hm
 replace hm:=Ad hm;obtain⟨a0,args_0,rfl,hm⟩:=hm
 replace hm:=AC hm;obtain⟨rfl,hm⟩:=hm
 replace hm:=BG hm;obtain⟨l0,rfl,hm⟩:=hm
 replace hm:=Ad hm;obtain⟨v0,l33279_0,rfl,hm⟩:=hm
 replace hm:=Ad hm;obtain⟨v1,l33279_1,rfl,hm⟩:=hm
 replace hm:=Ad hm;obtain⟨v2,l33279_2,rfl,hm⟩:=hm
 replace hm:=AC hm;obtain⟨rfl,hm⟩:=hm
 replace hm:=Ai hm;obtain⟨x0,rfl,hm⟩:=hm
 replace hm:=Al hm;obtain⟨s0,rfl,hm⟩:=hm
 replace hm:=Al hm;obtain⟨s1,rfl,hm⟩:=hm
 unfold nK at hm
 refine⟨by simp,?_⟩
 refine .same (F':=(fr 26 [(0,(AhC x0 s0 s1))])) (H':=FD) (by kernel_rfl) (by kernel_rfl) ?_
 refine .then (.rK (.ghs (fr 26 [(1,pt 1 0)]) (hT 2 [(Ahr x0 s0 s1)]) (.k0 [false] [.tmp 1 false] [1]) ?_))
 refine .then (.rK (.ghs (fr 26 [(1,pt 1 0),(3,(zI (0:Int)))]) (hT 2 [(Ahr x0 s0 s1)]) (.k0 [false] [.tmp 1 false] [1,3]) ?_))
 refine .join (v:=v) (λy:Int=>((fr 26 [(3,zI y)]),FD)) (λy=>Zt pu n y) ?_ ?_
 ·rintro z0 hm
  exact AfE pu n z0 hm
 ·refine .then (.rK (.ghs (fr 26 [(1,pt 1 0),(3,(zI (0:Int))),(7,(Ah6 s0)),(8,(zI (0:Int)))]) (hT 2 [(Ahr x0 s0 s1)]) (.k0 [false] [.tmp 1 false] [1,3,7,8]) ?_))
  refine .block (.loopM (v:=v) (λy:Int×Int×Int×Int×Sl×Sl=>((fr 26 [(1,pt 1 0),(3,(zI y.1)),(7,(zI y.2.1)),(8,(zI y.2.2.1))]),(Ai7 y.2.2.2.1 (AaW y) (AaX y)))) (λw y=>PI pu n w y.1 y.2.1 y.2.2.1 y.2.2.2.1 (AaW y) (AaX y)) n ⟨((0:Int),(Int.ofNat (Sl.n s0)),(0:Int),x0,s0,s1),hm,(.k0 [false] [.tmp 1 false] [1,3,7,8])⟩ (λ_=>rfl) ?_)
  rintro w0 ⟨z1,z2,z3,z4,s2,s3⟩ hm
  replace hm:WI pu n (PI pu n w0) z1 z2 z3 z4 s2 s3=some v:=hm
  unfold WI at hm
  refine .then (.rK (.ghs (fr 26 [(1,pt 1 0),(3,zI z1),(7,zI z2),(8,zI z3),(9,(zB (AY z3 z2)))]) (hT 2 [(Ahr z4 s2 s3)]) (.k0 [false] [.tmp 1 false] [1,3,7,8,9]) ?_))
  refine .then ?_
  replace hm:=Ag hm;rcases hm with⟨h0,hm⟩|⟨h0,hm⟩
  ·refine Gq (AY z3 z2) h0 ?_
   refine .skip (.ghs (fr 26 [(1,pt 1 0),(3,zI z1),(7,zI z2),(8,zI z3)]) (hT 2 [(Ahr z4 s2 s3)]) (.k0 [false] [.tmp 1 false] [1,3,7,8]) ?_)
   refine .join (v:=v) (λy:Int×Int×Int×Int×Sl×Sl=>((fr 26 [(1,pt 1 0),(3,(zI y.1)),(7,(zI y.2.1)),(8,(zI y.2.2.1))]),(Ai7 y.2.2.2.1 (AaW y) (AaX y)))) (λy=>WH pu n (PI pu n w0) y.1 y.2.1 y.2.2.1 y.2.2.2.1 (AaW y) (AaX y)) ?_ ?_
   ·rintro⟨z5,z6,z7,z8,s4,s5⟩ hm
    unfold WH at hm
    refine .rK ?_
    exact⟨(z5,z6,(AhE z7),z8,s4,s5),hm,(.k0 [false] [.tmp 1 false] [1,3,7,8])⟩
   ·refine .block (.then (.rK (.ghs (fr 26 [(1,pt 1 0),(3,zI z1),(4,zI z3),(7,zI z2),(8,zI z3)]) (hT 2 [(Ahr z4 s2 s3)]) (.k0 [false] [.tmp 1 false] [1,3,4,7,8]) ?_)))
    refine .then ?_
    replace⟨k1,h1,hm⟩:=Ab hm
    obtain rfl:=AR h1
    replace⟨h2,hm⟩:=Ae hm
    replace⟨x1,h3,hm⟩:=Hw hm
    replace⟨h4,hm⟩:=Ae hm
    replace⟨x2,h5,hm⟩:=Hw hm
    refine .reg (eC 3 (keep (hT 2 [(Ahr z4 s2 s3)]) (Aht k1 s2)) (AX h2) (eD (keep (hT 2 [(Ahr z4 s2 s3)]) (AL (Sl.cs s2) (k1*1))) (AZ h3) (eC 3 (keep (hT 2 [(Ahr z4 s2 s3)]) (Aht k1 s3)) (AX h4) (eD (keep (hT 2 [(Ahr z4 s2 s3)]) (AL (Sl.cs s3) (k1*1))) (AZ h5) (eE))))) ?_
    refine .ghs (fr 26 [(1,pt 1 0),(3,zI z1),(7,zI z2),(8,(zI (Int.ofNat k1))),(21,(zB (nt (Bd x1 x2))))]) (hT 2 [(Ahr z4 s2 s3)]) (.k0 [false] [.tmp 1 false] [1,3,7,8,21]) ?_
    replace hm:=Ag hm;rcases hm with⟨h6,hm⟩|⟨h6,hm⟩
    ·refine Gq (nt (Bd x1 x2)) h6 ?_
     refine .rK ?_
     exact⟨((AhE z1),z2,(Int.ofNat k1),z4,s2,s3),hm,(.k0 [false] [.tmp 1 false] [1,3,7,8])⟩
    ·refine Gs (nt (Bd x1 x2)) h6 ?_
     refine .skip ?_
     exact⟨(z1,z2,(Int.ofNat k1),z4,s2,s3),hm,(.k0 [false] [.tmp 1 false] [1,3,7,8])⟩
  ·refine Gs (AY z3 z2) h0 ?_
   refine .exit ?_
   exact⟨z1,hm,(.k0 [false] [] [3])⟩
def nL (pu:Af) (n:Nat) (x0:Int) (s0 s1:Sl) (x1 x2:Int):OV:=
 (bb (EQ (0+(Sl.n s0)) 8) (bb (EQ (0+(Sl.n s1)) 8) (bb (Au Ah (Aq ((Sl.n s0)*1) (Sl.cs s0))) (bb (Au Ah (Aq ((Sl.n s1)*1) (Sl.cs s1))) (oo (EA x2) none λk1=>(bb (an (Nat.blt k1 (Sl.n s0)) true) (oo (AL (Aq ((Sl.n s0)*1) (Sl.cs s0)) (0+k1*1)) none λv0=>(oo (Bi .i64 v0) none λx3=>(oo (EA x1) none λk2=>(bb (an (Nat.blt k2 (Sl.n s0)) true) (oo (AL (Aq ((Sl.n s0)*1) (Sl.cs s0)) (0+k2*1)) none λv1=>(oo (Bi .i64 v1) none λx4=>(bb (an (Nat.blt k2 (Sl.n s0)) true) (bb (an (Nat.ble ((0+k2*1)+1) (len (Aq ((Sl.n s0)*1) (Sl.cs s0)))) true) (bb (an (Nat.blt k1 (Sl.n s0)) true) (bb (an (Nat.ble ((0+k1*1)+1) (len (BM ([.int .i64 x3]:LV) (0+k2*1) (Aq ((Sl.n s0)*1) (Sl.cs s0))))) true) (bb (Au Ah (BM ([.int .i64 x4]:LV) (0+k1*1) (BM ([.int .i64 x3]:LV) (0+k2*1) (Aq ((Sl.n s0)*1) (Sl.cs s0))))) (bb (an (Nat.ble (0+(Sl.n s0)*1) (len (BM ([.int .i64 x4]:LV) (0+k1*1) (BM ([.int .i64 x3]:LV) (0+k2*1) (Aq ((Sl.n s0)*1) (Sl.cs s0)))))) (Au Ah (Aq ((Sl.n s0)*1) (Am 0 (BM ([.int .i64 x4]:LV) (0+k1*1) (BM ([.int .i64 x3]:LV) (0+k2*1) (Aq ((Sl.n s0)*1) (Sl.cs s0)))))))) (bb (an (Nat.ble (0+(Sl.n s1)*1) (len (Aq ((Sl.n s1)*1) (Sl.cs s1)))) (Au Ah (Aq ((Sl.n s1)*1) (Am 0 (Aq ((Sl.n s1)*1) (Sl.cs s1)))))) (some (.agg ⟨[.int .i64 x0,(Sl.v 1 (Sl.mk (Sl.n s0) 0 (Aq ((Sl.n s0)*1) (Am 0 (BM ([.int .i64 x4]:LV) (0+k1*1) (BM ([.int .i64 x3]:LV) (0+k2*1) (Aq ((Sl.n s0)*1) (Sl.cs s0)))))))),(Sl.v 1 (Sl.mk (Sl.n s1) 0 (Aq ((Sl.n s1)*1) (Am 0 (Aq ((Sl.n s1)*1) (Sl.cs s1))))))]⟩)) none) none) none) none) none) none) none))) none)))) none)) none) none) none) none)
def m43 (pu:Af) (n:Nat) (args:LV):OV:=
 (ll args none λa0 args=>(ll args none λa1 args=>(ll args none λa2 args=>(ll args (oo (Bt a0) none λl0=>(ll l0 none λv0 l0=>(ll l0 none λv1 l0=>(ll l0 none λv2 l0=>(ll l0 (oo (Bi .i64 v0) none λx0=>(oo (Bj 1 v1) none λs0=>(oo (Bj 1 v2) none λs1=>(oo (Bi .i64 a1) none λx1=>(oo (Bi .i64 a2) none λx2=>(nL pu n x0 s0 s1 x1 x2)))))) λ_ _=>none))))) λ_ _=>none))))
theorem r43 {call:A8} (pu:Af) (n:Nat) (hcall:call=Bb tabs Ir pu (inl pu)) {args:LV} {v:Value} (hm:m43 pu n args=some v) (_:∀ x∈args,closed2 x=true):args.length≤36∧BN tt call 1 Yr (Fr.made 36 args) (Ao tabs) (Fin tt 1 [.cell 6 24] v):=by
 subst hcall
 unfold m43 at hm
 replace hm:=Ad hm;obtain⟨a0,args_0,rfl,hm⟩:=hm
 replace hm:=Ad hm;obtain⟨a1,args_1,rfl,hm⟩:=hm
 replace hm:=Ad hm;obtain⟨a2,args_2,rfl,hm⟩:=hm
 replace hm:=AC hm;obtain⟨rfl,hm⟩:=hm
 replace hm:=BG hm;obtain⟨l0,rfl,hm⟩:=hm
 replace hm:=Ad hm;obtain⟨v0,l33555_0,rfl,hm⟩:=hm
 replace hm:=Ad hm;obtain⟨v1,l33555_1,rfl,hm⟩:=hm
 replace hm:=Ad hm;obtain⟨v2,l33555_2,rfl,hm⟩:=hm
 replace hm:=AC hm;obtain⟨rfl,hm⟩:=hm
 replace hm:=Ai hm;obtain⟨x0,rfl,hm⟩:=hm
 replace hm:=Al hm;obtain⟨s0,rfl,hm⟩:=hm
 replace hm:=Al hm;obtain⟨s1,rfl,hm⟩:=hm
 replace hm:=Ai hm;obtain⟨x1,rfl,hm⟩:=hm
 replace hm:=Ai hm;obtain⟨x2,rfl,hm⟩:=hm
 unfold nL at hm
 refine⟨by simp,?_⟩
 refine .same (F':=(fr 36 [(0,(AhC x0 s0 s1)),(1,zI x1),(2,zI x2)])) (H':=FD) (by kernel_rfl) (by kernel_rfl) ?_
 refine .then (.rK (.ghs (fr 36 [(1,zI x1),(2,zI x2),(3,pt 1 0),(6,(pt 2 0))]) (hT 3 [(Ahr x0 s0 s1),Ahz]) (.k0 [false] [.tmp 3 false,.tmp 6 false] [1,2,3,6]) ?_))
 refine .then ?_
 replace⟨h0,hm⟩:=Ae hm
 replace⟨h1,hm⟩:=Ae hm
 refine .reg (eC 7 (bb (EQ (0+(Sl.n s0)) 8) (some ((sc 5 0 1 (Sl.n s0) (d2 (Sl.n s0))),(hT 6 [(Ahr x0 s0 s1),Ahz,Ahz,(oC []),(oC (Ahy s0))]))) none) (kH h0) (eD (bb (EQ (0+(Sl.n s1)) 8) (some ((sc 7 0 1 (Sl.n s1) (d2 (Sl.n s1))),(hT 8 [(Ahr x0 s0 s1),Ahz,Ahz,(oC []),(oC (Ahy s0)),(oC []),(oC (Ahy s1))]))) none) (kH h1) (eE))) ?_
 replace⟨h2,hm⟩:=Ae hm
 replace⟨h3,hm⟩:=Ae hm
 refine .ghs (fr 36 [(1,zI x1),(2,zI x2),(6,pt 1 0),(7,(pt 2 0))]) (Ajf x0 s0 s1) (.k [5,7] [false] Ai0 [1,2,6,7] ⟨Fb h2,Fb h3,trivial⟩) ?_
 refine .then ?_
 replace⟨k1,h4,hm⟩:=Ab hm
 obtain rfl:=AR h4
 replace⟨h5,hm⟩:=Ae hm
 replace⟨x3,h6,hm⟩:=Hw hm
 replace⟨k2,h7,hm⟩:=Ab hm
 obtain rfl:=AR h7
 replace⟨h8,hm⟩:=Ae hm
 replace⟨x4,h9,hm⟩:=Hw hm
 replace⟨h10,hm⟩:=Ae hm
 replace⟨h11,hm⟩:=Ae hm
 replace⟨h12,hm⟩:=Ae hm
 replace⟨h13,hm⟩:=Ae hm
 refine .reg (eN 15 (Fr.puts (fr 36 [(1,(zI (Int.ofNat k2))),(2,(zI (Int.ofNat k1))),(6,pt 1 0),(7,(pt 2 0))]) [(17,(pt 2 1)),(18,(AiN s0)),(19,(zI (Int.ofNat k2))),(20,(pt 2 1)),(21,(AiN s0)),(22,(zI (Int.ofNat k1))),(23,(pt 2 1)),(24,(AiN s0)),(25,(zI (Int.ofNat k1))),(26,(.pointer (some ⟨3,(0+k1*1),none⟩))),(27,zI x3),(28,(pt 2 1)),(29,(AiN s0)),(30,(zI (Int.ofNat k2))),(31,(.pointer (some ⟨3,(0+k2*1),none⟩)))]) (Ajf x0 s0 s1) (eC 9 (AiH x0 s0 s1 k1) (AX h5) (eD (keep (Ajf x0 s0 s1) (AL (Ahy s0) (0+k1*1))) (AZ h6) (eC 3 (AiH x0 s0 s1 k2) (AX h8) (by kernel_rfl)))) (eD (keep (Ajf x0 s0 s1) (AL (Ahy s0) (0+k2*1))) (AZ h9) (eD (AiH x0 s0 s1 k2) (AX h10) (eD (done (bb (an (Nat.ble ((0+k2*1)+1) (len (Ahy s0))) true) (some (hT 5 [Ahz,(AhH x0 s0 s1),(oC (Ajp x3 k2 s0)),(oC (Ahy s1))])) none) undef) (Js h11) (eD (keep (hT 5 [Ahz,(AhH x0 s0 s1),(oC (Ajp x3 k2 s0)),(oC (Ahy s1))]) (bb (an (Nat.blt k1 (Sl.n s0)) true) (some (.pointer (some ⟨3,(0+k1*1),none⟩))) none)) (AX h12) (eD (done (bb (an (Nat.ble ((0+k1*1)+1) (len (Ajp x3 k2 s0))) true) (some (hT 5 [Ahz,(AhH x0 s0 s1),(oC (AhN x4 k1 x3 k2 s0)),(oC (Ahy s1))])) none) undef) (Js h13) (eE))))))) ?_
 replace⟨h14,hm⟩:=Ae hm
 refine .ghs (fr 36 [(6,pt 1 0),(7,(pt 2 0))]) (hT 5 [Ahz,(AhH x0 s0 s1),(oC (AhN x4 k1 x3 k2 s0)),(oC (Ahy s1))]) (.k [3,4] [false] Ai0 [6,7] ⟨Fb h14,Fb h3,trivial⟩) ?_
 refine .then (.rK (.ghs (fr 36 [(6,pt 1 0)]) (hT 4 [(oC (Ajj x0 s0 s1)),(oC (AhN x4 k1 x3 k2 s0)),(oC (Ahy s1))]) (.k [3,4] [false] [.tmp 6 true,.cell 1 1 false,.cell 1 2 false] [6] ⟨Fb h14,Fb h3,trivial⟩) ?_))
 refine .ret ?_
 replace⟨h15,hm⟩:=Ae hm
 replace⟨h16,hm⟩:=Ae hm
 exact Uc (.agg ⟨(Ajj x0 s0 s1)⟩) (.agg ⟨[zI x0,(Sl.v 1 (Sl.mk (Sl.n s0) 0 (Aq ((Sl.n s0)*1) (Am 0 (AhN x4 k1 x3 k2 s0))))),(Sl.v 1 (Sl.mk (Sl.n s1) 0 (Aq ((Sl.n s1)*1) (Am 0 (Ahy s1)))))]⟩) (by kernel_rfl) (FU.agg (.cons (FU.refl _ _ _) (.cons (FU.frz (v':=(Sl.v 1 (Sl.mk (Sl.n s0) 0 (Aq ((Sl.n s0)*1) (Am 0 (AhN x4 k1 x3 k2 s0)))))) (H1:=(hT 4 [(oC (Ajj x0 s0 s1)),.dead,(oC (Ahy s1))])) 1 false (an (Nat.ble (0+(Sl.n s0)*1) (len (AhN x4 k1 x3 k2 s0))) (Au Ah (Aq ((Sl.n s0)*1) (Am 0 (AhN x4 k1 x3 k2 s0))))) (by kernel_rfl) (by kernel_rfl) h15) (.cons (FU.frz (v':=(Sl.v 1 (Sl.mk (Sl.n s1) 0 (Aq ((Sl.n s1)*1) (Am 0 (Ahy s1)))))) (H1:=(hT 4 [(oC (Ajj x0 s0 s1)),.dead,.dead])) 1 false (an (Nat.ble (0+(Sl.n s1)*1) (len (Ahy s1))) (Au Ah (Aq ((Sl.n s1)*1) (Am 0 (Ahy s1))))) (by kernel_rfl) (by kernel_rfl) h16) (Mr.nil _))))) (by kernel_rfl) hm
def nM (pu:Af) (n:Nat) (x0:Int) (s0 s1:Sl):OV:=
 (oo (pu 51 [(.agg ⟨[.int .i64 x0,Sl.v 1 s0,Sl.v 1 s1]⟩)]) none λv0=>(oo (Bi .u16 v0) none λx1=>(oo (pu 64 [.int .u16 x1]) none λv1=>(oo (Bi .i64 v1) none λx2=>(oo (pu 10650 [(.agg ⟨[.int .i64 x0,Sl.v 1 s0,Sl.v 1 s1]⟩)]) none λv2=>(oo (CQ v2) none λl0=>(ll l0 none λv3 l0=>(ll l0 none λv4 l0=>(ll l0 none λv5 l0=>(ll l0 (bb (MK v3 1 0) (oo (Bt v4) none λl1=>(ll l1 none λv6 l1=>(ll l1 none λv7 l1=>(ll l1 none λv8 l1=>(ll l1 none λv9 l1=>(ll l1 (oo (Bi .i64 v6) none λx3=>(oo (Bj 1 v7) none λs2=>(oo (Bj 1 v8) none λs3=>(bb (FC v9 2) (oo (Fj v5) none λy0=>(bb (Au F4 (Akd.es y0)) (bb (Au F4 (Akd.es y0)) (oo (pu 10660 [(.pointer (some ⟨1,0,none⟩)),.int .u16 x1,(.agg ⟨[.int .i64 x3,Sl.v 1 s2,Sl.v 1 s3,(.map (some 2))]⟩),(Ef (.map (Akd.es y0) (Akd.clock y0)))]) none λv10=>(oo (CQ v10) none λl2=>(ll l2 none λv11 l2=>(ll l2 none λv12 l2=>(ll l2 none λv13 l2=>(ll l2 (oo (Bi .i64 v11) none λx4=>(oo (Bt v12) none λl3=>(ll l3 none λv14 l3=>(ll l3 none λv15 l3=>(ll l3 none λv16 l3=>(ll l3 none λv17 l3=>(ll l3 (oo (Bi .i64 v14) none λx5=>(oo (Bj 1 v15) none λs4=>(oo (Bj 1 v16) none λs5=>(bb (FC v17 2) (oo (Fj v13) none λy1=>(bb (Au F4 (Akd.es y1)) (some (.int .i64 (Aj .i64 (Int.sub x2 x4)))) none)) none)))) λ_ _=>none))))))) λ_ _=>none)))))) none) none)) none)))) λ_ _=>none)))))) none) λ_ _=>none))))))))))
def m44 (pu:Af) (n:Nat) (args:LV):OV:=
 (ll args none λa0 args=>(ll args (oo (Bt a0) none λl0=>(ll l0 none λv0 l0=>(ll l0 none λv1 l0=>(ll l0 none λv2 l0=>(ll l0 (oo (Bi .i64 v0) none λx0=>(oo (Bj 1 v1) none λs0=>(oo (Bj 1 v2) none λs1=>(nM pu n x0 s0 s1)))) λ_ _=>none))))) λ_ _=>none))
theorem r44 {call:A8} (pu:Af) (n:Nat) (hcall:call=Bb tabs Ir pu (inl pu)) {args:LV} {v:Value} (hm:m44 pu n args=some v) (_:∀ x∈args,closed2 x=true):args.length≤13∧BN tt call 1 Yt (Fr.made 13 args) (Ao tabs) (Fin tt 1 [.tmp 2] v):=by
 subst hcall
 unfold m44 at hm
 replace hm:=Ad hm;obtain⟨a0,args_0,rfl,hm⟩:=hm
 replace hm:=AC hm;obtain⟨rfl,hm⟩:=hm
 replace hm:=BG hm;obtain⟨l0,rfl,hm⟩:=hm
 replace hm:=Ad hm;obtain⟨v0,l33615_0,rfl,hm⟩:=hm
 replace hm:=Ad hm;obtain⟨v1,l33615_1,rfl,hm⟩:=hm
 replace hm:=Ad hm;obtain⟨v2,l33615_2,rfl,hm⟩:=hm
 replace hm:=AC hm;obtain⟨rfl,hm⟩:=hm
 replace hm:=Ai hm;obtain⟨x0,rfl,hm⟩:=hm
 replace hm:=Al hm;obtain⟨s0,rfl,hm⟩:=hm
 replace hm:=Al hm;obtain⟨s1,rfl,hm⟩:=hm
 unfold nM at hm
 refine⟨by simp,?_⟩
 refine .same (F':=(fr 13 [(0,(AhC x0 s0 s1))])) (H':=FD) (by kernel_rfl) (by kernel_rfl) ?_
 refine .then (.rK (.ghs (fr 13 [(1,pt 1 0)]) (hT 2 [(Ahr x0 s0 s1)]) (.k0 [false] [.tmp 1 false] [1]) ?_))
 refine .then ?_
 replace⟨x1,h0,hm⟩:=Hw hm
 refine .reg (eC 1 ((oo (pu 51 [(AhC x0 s0 s1)]) none λv=>some (v,(hT 2 [(Ahr x0 s0 s1)])))) (AB h0) (eE)) ?_
 refine .ghs (fr 13 [(1,pt 1 0),(3,.int .u16 x1)]) (hT 2 [(Ahr x0 s0 s1)]) (.k0 [false] [.tmp 1 false] [1,3]) ?_
 refine .then ?_
 replace⟨x2,h1,hm⟩:=Hw hm
 replace⟨v3,h2,hm⟩:=Ab hm
 replace hm:=Ch hm;obtain⟨l1,rfl,hm⟩:=hm
 replace hm:=Ad hm;obtain⟨v4,l34125_0,rfl,hm⟩:=hm
 replace hm:=Ad hm;obtain⟨v5,l34125_1,rfl,hm⟩:=hm
 replace hm:=Ad hm;obtain⟨v6,l34125_2,rfl,hm⟩:=hm
 replace hm:=AC hm;obtain⟨rfl,hm⟩:=hm
 replace⟨h3,hm⟩:=Ae hm
 obtain rfl:=KR h3
 replace hm:=BG hm;obtain⟨l2,rfl,hm⟩:=hm
 replace hm:=Ad hm;obtain⟨v7,l34131_0,rfl,hm⟩:=hm
 replace hm:=Ad hm;obtain⟨v8,l34131_1,rfl,hm⟩:=hm
 replace hm:=Ad hm;obtain⟨v9,l34131_2,rfl,hm⟩:=hm
 replace hm:=Ad hm;obtain⟨v10,l34131_3,rfl,hm⟩:=hm
 replace hm:=AC hm;obtain⟨rfl,hm⟩:=hm
 replace hm:=Ai hm;obtain⟨x3,rfl,hm⟩:=hm
 replace hm:=Al hm;obtain⟨s2,rfl,hm⟩:=hm
 replace hm:=Al hm;obtain⟨s3,rfl,hm⟩:=hm
 replace⟨h4,hm⟩:=Ae hm
 obtain rfl:=Ey h4
 replace⟨y0,h5,hm⟩:=Ab hm
 replace⟨h6,hm⟩:=Ae hm
 replace⟨h7,hm⟩:=Ae hm
 replace⟨v11,h8,hm⟩:=Ab hm
 replace hm:=Ch hm;obtain⟨l3,rfl,hm⟩:=hm
 replace hm:=Ad hm;obtain⟨v12,l34156_0,rfl,hm⟩:=hm
 replace hm:=Ad hm;obtain⟨v13,l34156_1,rfl,hm⟩:=hm
 replace hm:=Ad hm;obtain⟨v14,l34156_2,rfl,hm⟩:=hm
 replace hm:=AC hm;obtain⟨rfl,hm⟩:=hm
 replace hm:=Ai hm;obtain⟨x4,rfl,hm⟩:=hm
 replace hm:=BG hm;obtain⟨l4,rfl,hm⟩:=hm
 replace hm:=Ad hm;obtain⟨v15,l34163_0,rfl,hm⟩:=hm
 replace hm:=Ad hm;obtain⟨v16,l34163_1,rfl,hm⟩:=hm
 replace hm:=Ad hm;obtain⟨v17,l34163_2,rfl,hm⟩:=hm
 replace hm:=Ad hm;obtain⟨v18,l34163_3,rfl,hm⟩:=hm
 replace hm:=AC hm;obtain⟨rfl,hm⟩:=hm
 replace hm:=Ai hm;obtain⟨x5,rfl,hm⟩:=hm
 replace hm:=Al hm;obtain⟨s4,rfl,hm⟩:=hm
 replace hm:=Al hm;obtain⟨s5,rfl,hm⟩:=hm
 replace⟨h9,hm⟩:=Ae hm
 obtain rfl:=Ey h9
 replace⟨y1,h10,hm⟩:=Ab hm
 replace⟨h11,hm⟩:=Ae hm
 refine .reg (eC 3 ((oo (pu 64 [.int .u16 x1]) none λv=>some (v,(hT 2 [(Ahr x0 s0 s1)])))) (AB h1) (eD (EK tabs [[none,some 1,some 1]] 1 [] [true,false] (pu 10650) [(AhC x0 s0 s1)] (hT 2 [(Ahr x0 s0 s1)])) (EL (as:=[(AhC x0 s0 s1)]) (H1:=(hT 2 [(Ahr x0 s0 s1)])) (BS (Ot (Da Dk (Da (KQ (CV (z:=1) (v:=(Sl.v 1 s0)) (H:=(hT 2 [(Ahr x0 s0 s1)])) (by kernel_rfl) (by kernel_rfl) (by kernel_rfl))) (Da (KQ (CV (z:=1) (v:=(Sl.v 1 s1)) (H:=(hT 2 [(Ahr x0 s0 s1)])) (by kernel_rfl) (by kernel_rfl) (by kernel_rfl))) Oq)))) Gj) (EI (H2:=(Ajd x0 s0 s1 x3 s2 s3 y0)) (v:=(pt 1 0)) (v':=(pt 2 0)) [some 0] [] [] [(AhC x0 s0 s1)] [(.agg ⟨(AhT x3 s2 s3)⟩),v6] [(oC (AhT x3 s2 s3)),(Ahv y0)] [some 0,none,some 1,some 2] (Ajo x3 s2 s3 y0) [(AhB x3 s2 s3),(Ahv y0)] (by kernel_rfl) BX (Eq.trans (by kernel_rfl) h2) (En rfl (En (CK h5) BX)) (En (by kernel_rfl) (En (GZ h6) BX)))) (eD (EK tabs [[none],[none]] 2 [.tmp 0 true,.cell 1 3 false] [true,false] (pu 10660) [(pt 2 0),.int .u16 x1] (Ajd x0 s0 s1 x3 s2 s3 y0)) (EL (as:=[(pt 2 0),.int .u16 x1]) (H1:=(Ajd x0 s0 s1 x3 s2 s3 y0)) (BS (Dm Dk) (BS (Dm Dk) Gj)) (EI (H2:=(Ajd x0 s0 s1 x5 s4 s5 y1)) (v:=(zI x4)) (v':=(zI x4)) [some 0,some 2,some 3] [(true,some 2),(false,some 3)] [(oC (AhT x3 s2 s3)),(Ahv y0)] [pt 1 0,.int .u16 x1] [(.agg ⟨(AhT x5 s4 s5)⟩),v14] [(oC (AhT x5 s4 s5)),(Ahv y1)] [some 0,none,some 1,some 2] (Ajo x5 s4 s5 y1) [(AhB x5 s4 s5),(Ahv y1)] (by kernel_rfl) (En (by kernel_rfl) (En (Ka h7) BX)) (Eq.trans (by kernel_rfl) h8) (En rfl (En (CK h10) BX)) (En (by kernel_rfl) (En (GZ h11) BX)))) (eE)))) ?_
 refine .ghs (fr 13 [(2,(zI (Aj .i64 (Int.sub x2 x4))))]) FD (.k0 [false] [] [2]) ?_
 refine .ret ?_
 exact Fp (zI (Aj .i64 (Int.sub x2 x4))) hm
end
end Go.MnSM
