/- Made from wip. -/
import Derived.Test.YtglnihplphhhoaaDoorTbRMod1x
import Derived.Test.YtglnihplphhhoaaDoorTbRMod2
import Derived.Test.YtglnihplphhhoaaDoorTbRMod3
import Derived.Test.YtglnihplphhhoaaDoorTbRMod4

set_option maxRecDepth 100000
set_option maxHeartbeats 20000000
set_option linter.unusedVariables false
namespace Go.TbRM
open Go.Sp Go.TbR
noncomputable section

def UU (pu:Af) (n:Nat) (x0:Int):OV:=
 (some (.bool (nt (Bd x0 x0))))
def uQ (pu:Af) (n:Nat) (args:LV):OV:=
 (ll args none fun a0 args=>(ll args (oo (Bi .i64 a0) none fun x0=>(UU pu n x0)) fun _ _=>none))
theorem r53 {call:A8} (pu:Af) (n:Nat) (hcall:call=Bb tabs Fb pu (inl pu)) {args:LV} {v:Value} (hm:uQ pu n args=some v) (_:∀ x∈args,closed2 x=true):args.length≤6∧BN tt call 1 Qv (Fr.made 6 args) (Ao tabs) (Fin tt 1 [.tmp 2] v):=by
 subst hcall
 unfold uQ at hm
 replace hm:=Ad hm;obtain⟨a0,args_0,rfl,hm⟩:=hm
 replace hm:=AC hm;obtain⟨rfl,hm⟩:=hm
 replace hm:=Ai hm;obtain⟨x0,rfl,hm⟩:=hm
 unfold UU at hm
 refine⟨by simp,?_⟩
 refine .same (F':=(fr 6 [(0,zI x0)])) (H':=BB) (by kernel_rfl) (by kernel_rfl) ?_
 refine .then (.rK (.ghs (fr 6 [(0,zI x0)]) BB (.k0 [false] [] [0]) ?_))
 refine .then (.rK (.ghs (fr 6 [(2,(zB (nt (Bd x0 x0))))]) BB (.k0 [false] [] [2]) ?_))
 refine .ret ?_
 exact BO (zB (nt (Bd x0 x0))) hm

def Ir (pu:Af) (n:Nat) (z93 z94:Int) (s95:Sl) (n96 c97 n98 c99:Nat) (q0:LV) (q1:LV):OV:=
 (bb (Au Ah q0) (bb (Au Ah q1) (bb (Dp (Nat.ble 2 c97) (MQ q0)) (bb (Dp (Nat.ble 2 c99) (MQ q1)) (bb (Au Ah q0) (bb (Au Ah q1) (oo (pu 10150 [(Sl.v 1 (Sl.mk 0 2 [])),(.pointer (some ⟨1,0,none⟩)),(.pointer (some ⟨2,0,none⟩)),(.pointer (some ⟨3,0,none⟩)),(.agg ⟨[.int .i64 z93]⟩),(.agg ⟨[(.func (.func 7) ⟨[]⟩ ⟨[(.pointer (some ⟨4,0,none⟩)),(.pointer (some ⟨5,0,none⟩)),(.pointer (some ⟨6,0,none⟩))]⟩)]⟩),(.agg ⟨[(.func (.func 15) ⟨[]⟩ ⟨[(.pointer (some ⟨1,0,none⟩)),(.pointer (some ⟨2,0,none⟩)),(.pointer (some ⟨3,0,none⟩))]⟩)]⟩),(.agg ⟨[.int .i64 z94,(Sl.v 2 s95)]⟩),(.agg ⟨[(.slice (some ⟨7,0,some 1⟩) n96 c97)]⟩),(.agg ⟨[(.slice (some ⟨8,0,some 1⟩) n98 c99)]⟩),(.agg ⟨q0⟩),(.agg ⟨q1⟩)]) none fun v0=>(oo (CQ v0) none fun l0=>(ll l0 none fun v1 l0=>(ll l0 none fun v2 l0=>(ll l0 none fun v3 l0=>(ll l0 none fun v4 l0=>(ll l0 none fun v5 l0=>(ll l0 none fun v6 l0=>(ll l0 none fun v7 l0=>(ll l0 none fun v8 l0=>(ll l0 none fun v9 l0=>(ll l0 (bb (MC v1) (oo (Bt v2) none fun l1=>(ll l1 none fun v10 l1=>(ll l1 (oo (Bi .i64 v10) none fun x0=>(oo (Bt v3) none fun l2=>(ll l2 none fun v11 l2=>(ll l2 (oo (Om 7 0 v11) none fun l3=>(ll l3 none fun v12 l3=>(ll l3 none fun v13 l3=>(ll l3 none fun v14 l3=>(ll l3 (bb (MK v12 4 0) (bb (MK v13 5 0) (bb (MK v14 6 0) (oo (Bt v4) none fun l4=>(ll l4 none fun v15 l4=>(ll l4 (oo (Om 15 0 v15) none fun l5=>(ll l5 none fun v16 l5=>(ll l5 none fun v17 l5=>(ll l5 none fun v18 l5=>(ll l5 (bb (MK v16 1 0) (bb (MK v17 2 0) (bb (MK v18 3 0) (oo (Bt v5) none fun l6=>(ll l6 none fun v19 l6=>(ll l6 none fun v20 l6=>(ll l6 (oo (Bi .i64 v19) none fun x1=>(oo (Bj 2 v20) none fun s0=>(oo (Bt v6) none fun l7=>(ll l7 none fun v21 l7=>(ll l7 (oo (KP 7 0 1 v21) none fun y0=>(oo (Bt v7) none fun l10=>(ll l10 none fun v22 l10=>(ll l10 (oo (KP 8 0 1 v22) none fun y1=>(oo (Bt v8) none fun q2=>(oo (Bt v9) none fun q3=>(bb (Au Ah q2) (bb (Au Ah q3) (bb (Au Ah q2) (bb (Au Ah q3) (some (.tuple ⟨[(.tuple ⟨[]⟩),(.agg ⟨[.int .i64 x1,(Sl.v 2 s0)]⟩),(.agg ⟨[(.slice (some ⟨4,0,some 1⟩) (NC.n y0) (NC.c y0))]⟩),(.agg ⟨[(.slice (some ⟨5,0,some 1⟩) (NC.n y1) (NC.c y1))]⟩),(.agg ⟨q2⟩),(.agg ⟨q3⟩)]⟩)) none) none) none) none)))) fun _ _=>none)))) fun _ _=>none))))) fun _ _=>none)))) none) none) none) fun _ _=>none))))) fun _ _=>none))) none) none) none) fun _ _=>none))))) fun _ _=>none)))) fun _ _=>none))) none) fun _ _=>none)))))))))))) none) none) none) none) none) none)
def LJ (pu:Af) (n:Nat) (args:LV):OV:=
 (ll args none fun a0 args=>(ll args none fun a1 args=>(ll args none fun o0 args=>(ll args none fun o1 args=>(ll args none fun o2 args=>(ll args none fun o3 args=>(ll args none fun o4 args=>(ll args (oo (Bi .i64 a0) none fun x0=>(oo (Om 7 0 a1) none fun l0=>(ll l0 none fun v0 l0=>(ll l0 none fun v1 l0=>(ll l0 none fun v2 l0=>(ll l0 (bb (MK v0 1 0) (bb (MK v1 2 0) (bb (MK v2 3 0) (oo (Bt o0) none fun l1=>(ll l1 none fun v3 l1=>(ll l1 none fun v4 l1=>(ll l1 (oo (Bi .i64 v3) none fun x1=>(oo (Bj 2 v4) none fun s0=>(oo (Bt o1) none fun l2=>(ll l2 none fun v5 l2=>(ll l2 (oo (KP 4 0 1 v5) none fun y0=>(oo (Bt o2) none fun l3=>(ll l3 none fun v6 l3=>(ll l3 (oo (KP 5 0 1 v6) none fun y1=>(oo (Bt o3) none fun q0=>(oo (Bt o4) none fun q1=>(Ir pu n x0 x1 s0 (NC.n y0) (NC.c y0) (NC.n y1) (NC.c y1) q0 q1)))) fun _ _=>none)))) fun _ _=>none))))) fun _ _=>none)))) none) none) none) fun _ _=>none)))))) fun _ _=>none))))))))
theorem Yx (pu:Af) (n:Nat) (z93 z94:Int) (s95:Sl) (n96 c97 n98 c99:Nat) (q0:LV) (q1:LV) {v:Value} (hm:Ir pu n z93 z94 s95 n96 c97 n98 c99 q0 q1=some v):BN tt (Bb tabs Fb pu (inl pu)) 6 R9 (fr 8 [(0,zI z93),(1,(.func (.func 7) ⟨[]⟩ ⟨[pt 1 0,(pt 2 0),(pt 3 0)]⟩))]) (hT 6 [(oC [zI z94,(Sl.v 2 s95)]),(oC [sc 4 0 1 n96 c97]),(oC [sc 5 0 1 n98 c99]),oC q0,oC q1]) (FJ tt 1 5 [] v):=by
 unfold Ir at hm
 refine .then (.rK ?_)
 replace hm:=Ae hm;obtain⟨h0,hm⟩:=hm
 replace hm:=Ae hm;obtain⟨h1,hm⟩:=hm
 refine .ghs (fr 8 [(2,(pt 6 0)),(3,(pt 7 0))]) (hT 8 [(oC [zI z94,(Sl.v 2 s95)]),(oC [sc 4 0 1 n96 c97]),(oC [sc 5 0 1 n98 c99]),oC q0,oC q1,(oC [zI z93]),(oC [(.func (.func 7) ⟨[]⟩ ⟨[pt 1 0,(pt 2 0),(pt 3 0)]⟩)])]) (.k [4,5] [false,false,true,true,false,false] [.tmp 2 false,.tmp 3 true] [2,3] ⟨Bp h0,Bp h1,trivial⟩) ?_
 refine .then (.rK (.ghs (fr 8 [(2,(pt 6 0)),(3,(pt 7 0)),(4,(pt 8 0))]) (hT 9 [(oC [zI z94,(Sl.v 2 s95)]),(oC [sc 4 0 1 n96 c97]),(oC [sc 5 0 1 n98 c99]),oC q0,oC q1,(oC [zI z93]),(oC [(.func (.func 7) ⟨[]⟩ ⟨[pt 1 0,(pt 2 0),(pt 3 0)]⟩)]),(oC [.nilFunc])]) (.k [4,5] [false,false,true,true,false,false] [.tmp 2 false,.tmp 3 true,.tmp 4 false] [2,3,4] ⟨Bp h0,Bp h1,trivial⟩) ?_))
 refine .then (.rK (.ghs (fr 8 [(4,(pt 6 0))]) (hT 9 [(oC [zI z94,(Sl.v 2 s95)]),(oC [sc 4 0 1 n96 c97]),(oC [sc 5 0 1 n98 c99]),oC q0,oC q1,(oC [(.func (.func 15) ⟨[]⟩ ⟨[(pt 7 0),(pt 8 0),(pt 6 0)]⟩)]),(oC [zI z93]),(oC [(.func (.func 7) ⟨[]⟩ ⟨[pt 1 0,(pt 2 0),(pt 3 0)]⟩)])]) (.k [4,5] [false,false,true,true,false,false] [.tmp 4 true,.ccap 6 0 0 false,.ccap 6 0 1 true] [4] ⟨Bp h0,Bp h1,trivial⟩) ?_))
 replace hm:=Ae hm;obtain⟨h2,hm⟩:=hm
 replace hm:=Ae hm;obtain⟨h3,hm⟩:=hm
 replace hm:=Ae hm;obtain⟨h4,hm⟩:=hm
 replace hm:=Ae hm;obtain⟨h5,hm⟩:=hm
 replace hm:=Ab hm;obtain⟨v0,h6,hm⟩:=hm
 replace hm:=Ch hm;obtain⟨l0,rfl,hm⟩:=hm
 replace hm:=Ad hm;obtain⟨v1,l1055_0,rfl,hm⟩:=hm
 replace hm:=Ad hm;obtain⟨v2,l1055_1,rfl,hm⟩:=hm
 replace hm:=Ad hm;obtain⟨v3,l1055_2,rfl,hm⟩:=hm
 replace hm:=Ad hm;obtain⟨v4,l1055_3,rfl,hm⟩:=hm
 replace hm:=Ad hm;obtain⟨v5,l1055_4,rfl,hm⟩:=hm
 replace hm:=Ad hm;obtain⟨v6,l1055_5,rfl,hm⟩:=hm
 replace hm:=Ad hm;obtain⟨v7,l1055_6,rfl,hm⟩:=hm
 replace hm:=Ad hm;obtain⟨v8,l1055_7,rfl,hm⟩:=hm
 replace hm:=Ad hm;obtain⟨v9,l1055_8,rfl,hm⟩:=hm
 replace hm:=AC hm;obtain⟨rfl,hm⟩:=hm
 replace hm:=Ae hm;obtain⟨h7,hm⟩:=hm
 obtain rfl:=Oo h7
 replace hm:=BG hm;obtain⟨l1,rfl,hm⟩:=hm
 replace hm:=Ad hm;obtain⟨v10,l1067_0,rfl,hm⟩:=hm
 replace hm:=AC hm;obtain⟨rfl,hm⟩:=hm
 replace hm:=Ai hm;obtain⟨x0,rfl,hm⟩:=hm
 replace hm:=BG hm;obtain⟨l2,rfl,hm⟩:=hm
 replace hm:=Ad hm;obtain⟨v11,l1072_0,rfl,hm⟩:=hm
 replace hm:=AC hm;obtain⟨rfl,hm⟩:=hm
 replace hm:=Ab hm;obtain⟨l3,h8,hm⟩:=hm
 obtain rfl:=Hu h8
 replace hm:=Ad hm;obtain⟨v12,l1075_0,rfl,hm⟩:=hm
 replace hm:=Ad hm;obtain⟨v13,l1075_1,rfl,hm⟩:=hm
 replace hm:=Ad hm;obtain⟨v14,l1075_2,rfl,hm⟩:=hm
 replace hm:=AC hm;obtain⟨rfl,hm⟩:=hm
 replace hm:=Ae hm;obtain⟨h9,hm⟩:=hm
 obtain rfl:=KR h9
 replace hm:=Ae hm;obtain⟨h10,hm⟩:=hm
 obtain rfl:=KR h10
 replace hm:=Ae hm;obtain⟨h11,hm⟩:=hm
 obtain rfl:=KR h11
 replace hm:=BG hm;obtain⟨l4,rfl,hm⟩:=hm
 replace hm:=Ad hm;obtain⟨v15,l1083_0,rfl,hm⟩:=hm
 replace hm:=AC hm;obtain⟨rfl,hm⟩:=hm
 replace hm:=Ab hm;obtain⟨l5,h12,hm⟩:=hm
 obtain rfl:=Hu h12
 replace hm:=Ad hm;obtain⟨v16,l1086_0,rfl,hm⟩:=hm
 replace hm:=Ad hm;obtain⟨v17,l1086_1,rfl,hm⟩:=hm
 replace hm:=Ad hm;obtain⟨v18,l1086_2,rfl,hm⟩:=hm
 replace hm:=AC hm;obtain⟨rfl,hm⟩:=hm
 replace hm:=Ae hm;obtain⟨h13,hm⟩:=hm
 obtain rfl:=KR h13
 replace hm:=Ae hm;obtain⟨h14,hm⟩:=hm
 obtain rfl:=KR h14
 replace hm:=Ae hm;obtain⟨h15,hm⟩:=hm
 obtain rfl:=KR h15
 replace hm:=BG hm;obtain⟨l6,rfl,hm⟩:=hm
 replace hm:=Ad hm;obtain⟨v19,l1094_0,rfl,hm⟩:=hm
 replace hm:=Ad hm;obtain⟨v20,l1094_1,rfl,hm⟩:=hm
 replace hm:=AC hm;obtain⟨rfl,hm⟩:=hm
 replace hm:=Ai hm;obtain⟨x1,rfl,hm⟩:=hm
 replace hm:=Al hm;obtain⟨s0,rfl,hm⟩:=hm
 replace hm:=BG hm;obtain⟨l7,rfl,hm⟩:=hm
 replace hm:=Ad hm;obtain⟨v21,l1102_0,rfl,hm⟩:=hm
 replace hm:=AC hm;obtain⟨rfl,hm⟩:=hm
 replace hm:=Ab hm;obtain⟨y0,h16,hm⟩:=hm
 obtain rfl:=F5 h16
 replace hm:=BG hm;obtain⟨l10,rfl,hm⟩:=hm
 replace hm:=Ad hm;obtain⟨v22,l1107_0,rfl,hm⟩:=hm
 replace hm:=AC hm;obtain⟨rfl,hm⟩:=hm
 replace hm:=Ab hm;obtain⟨y1,h17,hm⟩:=hm
 obtain rfl:=F5 h17
 replace hm:=BG hm;obtain⟨q2,rfl,hm⟩:=hm
 replace hm:=BG hm;obtain⟨q3,rfl,hm⟩:=hm
 replace hm:=Ae hm;obtain⟨h18,hm⟩:=hm
 replace hm:=Ae hm;obtain⟨h19,hm⟩:=hm
 refine .reg (eC 1 (EK tabs [[some 1],[none],[none],[none]] 4 [.tmp 1 false,.tmp 2 true,.tmp 3 true,.ccap 2 0 0 false,.ccap 2 0 1 true,.ccap 2 0 2 true,.cell 5 0 false,.cell 6 0 false] [false,true,true,false,true,true,false,false] (pu 10150) [(.slice none 0 0),(pt 7 0),(pt 8 0),(pt 6 0)] (hT 9 [(oC [zI z94,(Sl.v 2 s95)]),(oC [sc 4 0 1 n96 c97]),(oC [sc 5 0 1 n98 c99]),oC q0,oC q1,(oC [(.func (.func 15) ⟨[]⟩ ⟨[(pt 7 0),(pt 8 0),(pt 6 0)]⟩)]),(oC [zI z93]),(oC [(.func (.func 7) ⟨[]⟩ ⟨[pt 1 0,(pt 2 0),(pt 3 0)]⟩)])])) (EL (as:=[(Sl.v 1 (Sl.mk 0 2 [])),(pt 7 0),(pt 8 0),(pt 6 0)]) (H1:=(hT 9 [(oC [zI z94,(Sl.v 2 s95)]),(oC [sc 4 0 1 n96 c97]),(oC [sc 5 0 1 n98 c99]),oC q0,oC q1,(oC [(.func (.func 15) ⟨[]⟩ ⟨[(pt 7 0),(pt 8 0),(pt 6 0)]⟩)]),(oC [zI z93]),(oC [(.func (.func 7) ⟨[]⟩ ⟨[pt 1 0,(pt 2 0),(pt 3 0)]⟩)])])) (BS (Dm (KQ (Ju (z:=1) (H:=(hT 9 [(oC [zI z94,(Sl.v 2 s95)]),(oC [sc 4 0 1 n96 c97]),(oC [sc 5 0 1 n98 c99]),oC q0,oC q1,(oC [(.func (.func 15) ⟨[]⟩ ⟨[(pt 7 0),(pt 8 0),(pt 6 0)]⟩)]),(oC [zI z93]),(oC [(.func (.func 7) ⟨[]⟩ ⟨[pt 1 0,(pt 2 0),(pt 3 0)]⟩)])]))))) (BS (Dm Dk) (BS (Dm Dk) (BS (Dm Dk) Gj)))) (EI (H2:=(hT 9 [(oC [zI x1,(Sl.v 2 s0)]),(oC [(sc 4 0 1 (NC.n y0) (NC.c y0))]),(oC [(sc 5 0 1 (NC.n y1) (NC.c y1))]),oC q2,oC q3,(oC [(.func (.func 15) ⟨[]⟩ ⟨[(pt 7 0),(pt 8 0),(pt 6 0)]⟩)]),(oC [zI x0]),(oC [(.func (.func 7) ⟨[]⟩ ⟨[pt 1 0,(pt 2 0),(pt 3 0)]⟩)])])) (v:=(.tuple ⟨[]⟩)) (v':=(.tuple ⟨[]⟩)) [some 0,some 7,some 8,some 6,some 1,some 2,some 3,some 4,some 5] [(false,some 7),(true,some 8),(true,some 6),(false,some 1),(true,some 2),(true,some 3),(false,some 4),(false,some 5)] [(oC [zI z93]),(oC [(.func (.func 7) ⟨[]⟩ ⟨[(pt 4 0),(pt 5 0),(pt 6 0)]⟩)]),(oC [(.func (.func 15) ⟨[]⟩ ⟨[pt 1 0,(pt 2 0),(pt 3 0)]⟩)]),(oC [zI z94,(Sl.v 2 s95)]),(oC [sc 7 0 1 n96 c97]),(oC [sc 8 0 1 n98 c99]),oC q0,oC q1] [(Sl.v 1 (Sl.mk 0 2 [])),pt 1 0,(pt 2 0),(pt 3 0)] [(.agg ⟨[zI x0]⟩),(.agg ⟨[(.func (.func 7) ⟨[]⟩ ⟨[(pt 4 0),(pt 5 0),(pt 6 0)]⟩)]⟩),(.agg ⟨[(.func (.func 15) ⟨[]⟩ ⟨[pt 1 0,(pt 2 0),(pt 3 0)]⟩)]⟩),(.agg ⟨[zI x1,(Sl.v 2 s0)]⟩),(.agg ⟨[(sc 7 0 1 (NC.n y0) (NC.c y0))]⟩),(.agg ⟨[(sc 8 0 1 (NC.n y1) (NC.c y1))]⟩),(.agg ⟨q2⟩),(.agg ⟨q3⟩)] [(oC [zI x0]),(oC [(.func (.func 7) ⟨[]⟩ ⟨[(pt 4 0),(pt 5 0),(pt 6 0)]⟩)]),(oC [(.func (.func 15) ⟨[]⟩ ⟨[pt 1 0,(pt 2 0),(pt 3 0)]⟩)]),(oC [zI x1,(Sl.v 2 s0)]),(oC [(sc 7 0 1 (NC.n y0) (NC.c y0))]),(oC [(sc 8 0 1 (NC.n y1) (NC.c y1))]),oC q2,oC q3] [some 0,some 4,some 5,some 6,some 7,some 8,some 3,some 1,some 2] [(false,(oC [zI x0])),(true,(oC [(.func (.func 7) ⟨[]⟩ ⟨[(pt 4 0),(pt 5 0),(pt 6 0)]⟩)])),(true,(oC [(.func (.func 15) ⟨[]⟩ ⟨[pt 1 0,(pt 2 0),(pt 3 0)]⟩)])),(false,(oC [zI x1,(Sl.v 2 s0)])),(true,(oC [(sc 7 0 1 (NC.n y0) (NC.c y0))])),(true,(oC [(sc 8 0 1 (NC.n y1) (NC.c y1))])),(false,oC q2),(false,oC q3)] [(oC [zI x0]),(oC [(.func (.func 7) ⟨[]⟩ ⟨[pt 1 0,(pt 2 0),(pt 3 0)]⟩)]),(oC [(.func (.func 15) ⟨[]⟩ ⟨[(pt 7 0),(pt 8 0),(pt 6 0)]⟩)]),(oC [zI x1,(Sl.v 2 s0)]),(oC [(sc 4 0 1 (NC.n y0) (NC.c y0))]),(oC [(sc 5 0 1 (NC.n y1) (NC.c y1))]),oC q2,oC q3] (sF (by kernel_rfl) (XX h2 (XX h3 rfl))) (En (by kernel_rfl) (En (by kernel_rfl) (En (by kernel_rfl) (En (by kernel_rfl) (En (by kernel_rfl) (En (by kernel_rfl) (En (Nb (anc:=[]) h4) (En (Nb (anc:=[]) h5) BX)))))))) (Eq.trans (by kernel_rfl) h6) (En rfl (En rfl (En rfl (En rfl (En rfl (En rfl (En rfl (En rfl BX)))))))) (En (by kernel_rfl) (En (by kernel_rfl) (En (by kernel_rfl) (En (by kernel_rfl) (En (by kernel_rfl) (En (by kernel_rfl) (En (KO h18) (En (KO h19) BX)))))))))) (eE)) ?_
 replace hm:=Ae hm;obtain⟨h20,hm⟩:=hm
 replace hm:=Ae hm;obtain⟨h21,hm⟩:=hm
 refine .ghs (fr 8 []) (hT 6 [(oC [zI x1,(Sl.v 2 s0)]),(oC [(sc 4 0 1 (NC.n y0) (NC.c y0))]),(oC [(sc 5 0 1 (NC.n y1) (NC.c y1))]),oC q2,oC q3]) (.k [4,5] [false,false,true,true,false,false] [] [] ⟨Bp h20,Bp h21,trivial⟩) ?_
 exact TU (.tuple ⟨[]⟩) [(oC [zI x1,(Sl.v 2 s0)]),(oC [(sc 4 0 1 (NC.n y0) (NC.c y0))]),(oC [(sc 5 0 1 (NC.n y1) (NC.c y1))]),oC q2,oC q3] (by kernel_rfl) hm (Nat.le_of_ble_eq_true rfl) (Fa (VT _) (Fa (VT _) (Fa (VT _) (Fa (VT _) (Fa (VT _) EJ)))))
theorem Yy {call:A8} (pu:Af) (n:Nat) (hcall:call=Bb tabs Fb pu (inl pu)) {args:LV} {os:List AJ} {z:Value} (ha:args.length=2) (hk:os.length=5) (hpl:∀ o∈os,plainO o) (hm:LJ pu n (args++os.map Ef)=some z):args.length≤8∧BN tt call (tabs.length+5) R9 (Fr.made 8 args) (BK tabs os) (FJ tt tabs.length 5 [] z):=by
 subst hcall
 have hq:=BC ha;clear ha;obtain⟨a0,args,rfl,ha⟩:=hq
 have hq:=BC ha;clear ha;obtain⟨a1,args,rfl,ha⟩:=hq
 obtain rfl:=len_nil ha
 have hq:=BC hk;clear hk;obtain⟨b0,os,rfl,hk⟩:=hq
 have hp0:plainO b0:=hpl b0 (by simp)
 have hq:=BC hk;clear hk;obtain⟨b1,os,rfl,hk⟩:=hq
 have hp1:plainO b1:=hpl b1 (by simp)
 have hq:=BC hk;clear hk;obtain⟨b2,os,rfl,hk⟩:=hq
 have hp2:plainO b2:=hpl b2 (by simp)
 have hq:=BC hk;clear hk;obtain⟨b3,os,rfl,hk⟩:=hq
 have hp3:plainO b3:=hpl b3 (by simp)
 have hq:=BC hk;clear hk;obtain⟨b4,os,rfl,hk⟩:=hq
 have hp4:plainO b4:=hpl b4 (by simp)
 obtain rfl:=len_nil hk
 replace hm:LJ pu n [a0,a1,Ef b0,Ef b1,Ef b2,Ef b3,Ef b4]=some z:=hm
 unfold LJ at hm
 replace hm:(oo (Bi .i64 a0) none fun x0=>(oo (Om 7 0 a1) none fun l0=>(ll l0 none fun v0 l0=>(ll l0 none fun v1 l0=>(ll l0 none fun v2 l0=>(ll l0 (bb (MK v0 1 0) (bb (MK v1 2 0) (bb (MK v2 3 0) (oo (Bt (Ef b0)) none fun l1=>(ll l1 none fun v3 l1=>(ll l1 none fun v4 l1=>(ll l1 (oo (Bi .i64 v3) none fun x1=>(oo (Bj 2 v4) none fun s0=>(oo (Bt (Ef b1)) none fun l2=>(ll l2 none fun v5 l2=>(ll l2 (oo (KP 4 0 1 v5) none fun y0=>(oo (Bt (Ef b2)) none fun l3=>(ll l3 none fun v6 l3=>(ll l3 (oo (KP 5 0 1 v6) none fun y1=>(oo (Bt (Ef b3)) none fun q0=>(oo (Bt (Ef b4)) none fun q1=>(Ir pu n x0 x1 s0 (NC.n y0) (NC.c y0) (NC.n y1) (NC.c y1) q0 q1)))) fun _ _=>none)))) fun _ _=>none))))) fun _ _=>none)))) none) none) none) fun _ _=>none))))))=some z:=hm
 replace hm:=Ai hm;obtain⟨x0,rfl,hm⟩:=hm
 replace hm:=Ab hm;obtain⟨l0,h0,hm⟩:=hm
 obtain rfl:=Hu h0
 replace hm:=Ad hm;obtain⟨v0,l1130_0,rfl,hm⟩:=hm
 replace hm:=Ad hm;obtain⟨v1,l1130_1,rfl,hm⟩:=hm
 replace hm:=Ad hm;obtain⟨v2,l1130_2,rfl,hm⟩:=hm
 replace hm:=AC hm;obtain⟨rfl,hm⟩:=hm
 replace hm:=Ae hm;obtain⟨h1,hm⟩:=hm
 obtain rfl:=KR h1
 replace hm:=Ae hm;obtain⟨h2,hm⟩:=hm
 obtain rfl:=KR h2
 replace hm:=Ae hm;obtain⟨h3,hm⟩:=hm
 obtain rfl:=KR h3
 replace hm:=Ab hm;obtain⟨l1,h4,hm⟩:=hm
 obtain rfl:=I7 hp0 h4
 replace hm:=Ad hm;obtain⟨v3,l1138_0,rfl,hm⟩:=hm
 replace hm:=Ad hm;obtain⟨v4,l1138_1,rfl,hm⟩:=hm
 replace hm:=AC hm;obtain⟨rfl,hm⟩:=hm
 replace hm:=Ai hm;obtain⟨x1,rfl,hm⟩:=hm
 replace hm:=Al hm;obtain⟨s0,rfl,hm⟩:=hm
 replace hm:=Ab hm;obtain⟨l2,h5,hm⟩:=hm
 obtain rfl:=I7 hp1 h5
 replace hm:=Ad hm;obtain⟨v5,l1146_0,rfl,hm⟩:=hm
 replace hm:=AC hm;obtain⟨rfl,hm⟩:=hm
 replace hm:=Ab hm;obtain⟨y0,h6,hm⟩:=hm
 obtain rfl:=F5 h6
 replace hm:=Ab hm;obtain⟨l3,h7,hm⟩:=hm
 obtain rfl:=I7 hp2 h7
 replace hm:=Ad hm;obtain⟨v6,l1151_0,rfl,hm⟩:=hm
 replace hm:=AC hm;obtain⟨rfl,hm⟩:=hm
 replace hm:=Ab hm;obtain⟨y1,h8,hm⟩:=hm
 obtain rfl:=F5 h8
 replace hm:=Ab hm;obtain⟨q0,h9,hm⟩:=hm
 obtain rfl:=I7 hp3 h9
 replace hm:=Ab hm;obtain⟨q1,h10,hm⟩:=hm
 obtain rfl:=I7 hp4 h10
 refine⟨by simp,?_⟩
 exact .same (F':=(fr 8 [(0,zI x0),(1,(.func (.func 7) ⟨[]⟩ ⟨[pt 1 0,(pt 2 0),(pt 3 0)]⟩))])) (H':=(hT 6 [(oC [zI x1,(Sl.v 2 s0)]),(oC [(sc 4 0 1 (NC.n y0) (NC.c y0))]),(oC [(sc 5 0 1 (NC.n y1) (NC.c y1))]),oC q0,oC q1])) (by kernel_rfl) (by kernel_rfl) (Yx pu n x0 x1 s0 (NC.n y0) (NC.c y0) (NC.n y1) (NC.c y1) q0 q1 hm)
def FK (pu:Af) (n:Nat) (ih0:Sl→Int→Int→Int→Sl→Nat→Nat→Nat→Nat→LV→LV→OV) (s0:Sl) (z0 z1 z2:Int) (s1:Sl) (n0 c0 n1 c1:Nat) (q0:LV) (q1:LV):OV:=
 (bb (Au Ah q0) (bb (Au Ah q1) (ih0 s0 (Aj .i64 (Int.add z0 (1:Int))) z1 z2 s1 n0 c0 n1 c1 q0 q1) none) none)
def FL (pu:Af) (n:Nat) (ih0:Sl→Int→Int→Int→Sl→Nat→Nat→Nat→Nat→LV→LV→OV) (s0:Sl) (z0 z1 z2:Int) (s1:Sl) (n0 c0 n1 c1:Nat) (q0:LV) (q1:LV):OV:=
 (bb (Au Ah q0) (bb (Au Ah q1) (bb (AY z0 z1) (oo (pu 16 [Sl.v 1 s0,.int .i64 z0]) none fun v0=>(oo (Bf v0) none fun b0=>(bb (nt b0) (oo (pu 17 [Sl.v 1 s0]) none fun v1=>(oo (Bj 1 v1) none fun s2=>(bb (an (Dp (Nat.beq (Sl.fl s2) 1) (Nat.beq (Sl.fl s2) 2)) (EQ ((Sl.n s2)+1) 8)) (bb (an (Nat.ble (0+((Sl.n s2)+1)*1) (len (Br (Sl.cs s2) ([.int .i64 z0]:LV)))) (Au Ah (Aq (((Sl.n s2)+1)*1) (Am 0 (Br (Sl.cs s2) ([.int .i64 z0]:LV)))))) (bb (Dp (Nat.ble 2 c0) (MQ q0)) (bb (Dp (Nat.ble 2 c1) (MQ q1)) (bb (Au Ah q0) (bb (Au Ah q1) (oo (pu 10150 [(Sl.v 1 (Sl.mk ((Sl.n s2)+1) 0 (Aq (((Sl.n s2)+1)*1) (Am 0 (Br (Sl.cs s2) ([.int .i64 z0]:LV)))))),(.pointer (some ⟨1,0,none⟩)),(.pointer (some ⟨2,0,none⟩)),(.pointer (some ⟨3,0,none⟩)),(.agg ⟨[.int .i64 z1]⟩),(.agg ⟨[(.func (.func 7) ⟨[]⟩ ⟨[(.pointer (some ⟨4,0,none⟩)),(.pointer (some ⟨5,0,none⟩)),(.pointer (some ⟨6,0,none⟩))]⟩)]⟩),(.agg ⟨[(.func (.func 15) ⟨[]⟩ ⟨[(.pointer (some ⟨1,0,none⟩)),(.pointer (some ⟨2,0,none⟩)),(.pointer (some ⟨3,0,none⟩))]⟩)]⟩),(.agg ⟨[.int .i64 z2,(Sl.v 2 s1)]⟩),(.agg ⟨[(.slice (some ⟨7,0,some 1⟩) n0 c0)]⟩),(.agg ⟨[(.slice (some ⟨8,0,some 1⟩) n1 c1)]⟩),(.agg ⟨q0⟩),(.agg ⟨q1⟩)]) none fun v2=>(oo (CQ v2) none fun l0=>(ll l0 none fun v3 l0=>(ll l0 none fun v4 l0=>(ll l0 none fun v5 l0=>(ll l0 none fun v6 l0=>(ll l0 none fun v7 l0=>(ll l0 none fun v8 l0=>(ll l0 none fun v9 l0=>(ll l0 none fun v10 l0=>(ll l0 none fun v11 l0=>(ll l0 (bb (MC v3) (oo (Bt v4) none fun l1=>(ll l1 none fun v12 l1=>(ll l1 (oo (Bi .i64 v12) none fun x0=>(oo (Bt v5) none fun l2=>(ll l2 none fun v13 l2=>(ll l2 (oo (Om 7 0 v13) none fun l3=>(ll l3 none fun v14 l3=>(ll l3 none fun v15 l3=>(ll l3 none fun v16 l3=>(ll l3 (bb (MK v14 4 0) (bb (MK v15 5 0) (bb (MK v16 6 0) (oo (Bt v6) none fun l4=>(ll l4 none fun v17 l4=>(ll l4 (oo (Om 15 0 v17) none fun l5=>(ll l5 none fun v18 l5=>(ll l5 none fun v19 l5=>(ll l5 none fun v20 l5=>(ll l5 (bb (MK v18 1 0) (bb (MK v19 2 0) (bb (MK v20 3 0) (oo (Bt v7) none fun l6=>(ll l6 none fun v21 l6=>(ll l6 none fun v22 l6=>(ll l6 (oo (Bi .i64 v21) none fun x1=>(oo (Bj 2 v22) none fun s3=>(oo (Bt v8) none fun l7=>(ll l7 none fun v23 l7=>(ll l7 (oo (KP 7 0 1 v23) none fun y0=>(oo (Bt v9) none fun l10=>(ll l10 none fun v24 l10=>(ll l10 (oo (KP 8 0 1 v24) none fun y1=>(oo (Bt v10) none fun q2=>(oo (Bt v11) none fun q3=>(bb (Au Ah q2) (bb (Au Ah q3) (bb (Au Ah q2) (bb (Au Ah q3) (FK pu n ih0 s0 z0 x0 x1 s3 (NC.n y0) (NC.c y0) (NC.n y1) (NC.c y1) q2 q3) none) none) none) none)))) fun _ _=>none)))) fun _ _=>none))))) fun _ _=>none)))) none) none) none) fun _ _=>none))))) fun _ _=>none))) none) none) none) fun _ _=>none))))) fun _ _=>none)))) fun _ _=>none))) none) fun _ _=>none)))))))))))) none) none) none) none) none) none))) (FK pu n ih0 s0 z0 z1 z2 s1 n0 c0 n1 c1 q0 q1)))) (some (.tuple ⟨[(.tuple ⟨[]⟩),(.agg ⟨[.int .i64 z1]⟩),(.agg ⟨[(.func (.func 7) ⟨[]⟩ ⟨[(.pointer (some ⟨4,0,none⟩)),(.pointer (some ⟨5,0,none⟩)),(.pointer (some ⟨6,0,none⟩))]⟩)]⟩),(.agg ⟨[(.func (.func 15) ⟨[]⟩ ⟨[(.pointer (some ⟨1,0,none⟩)),(.pointer (some ⟨2,0,none⟩)),(.pointer (some ⟨3,0,none⟩))]⟩)]⟩),(.agg ⟨[.int .i64 z2,(Sl.v 2 s1)]⟩),(.agg ⟨[(.slice (some ⟨7,0,some 1⟩) n0 c0)]⟩),(.agg ⟨[(.slice (some ⟨8,0,some 1⟩) n1 c1)]⟩),(.agg ⟨q0⟩),(.agg ⟨q1⟩)]⟩))) none) none)
def Fh (pu:Af) (n w:Nat):Sl→Int→Int→Int→Sl→Nat→Nat→Nat→Nat→LV→LV→OV:=
 Nat.rec (motive:=fun _=>Sl→Int→Int→Int→Sl→Nat→Nat→Nat→Nat→LV→LV→OV) (fun _ _ _ _ _ _ _ _ _ _ _=>none) (fun _ ih0=>FL pu n ih0) w
def G5 (pu:Af) (n:Nat) (s0:Sl) (z0 z1:Int) (s1:Sl) (n0 c0 n1 c1:Nat) (q0:LV) (q1:LV):OV:=
 (bb (Au Ah q0) (bb (Au Ah q1) (bb (Bd (Int.ofNat (Sl.n s0)) z0) (bb (Dp (Nat.ble 2 c0) (MQ q0)) (bb (Dp (Nat.ble 2 c1) (MQ q1)) (bb (Au Ah q0) (bb (Au Ah q1) (oo (pu 10070 [Sl.v 1 s0,(.pointer (some ⟨1,0,none⟩)),(.pointer (some ⟨2,0,none⟩)),(.pointer (some ⟨3,0,none⟩)),(.agg ⟨[.int .i64 z1,(Sl.v 2 s1)]⟩),(.agg ⟨[(.slice (some ⟨4,0,some 1⟩) n0 c0)]⟩),(.agg ⟨[(.slice (some ⟨5,0,some 1⟩) n1 c1)]⟩),(.agg ⟨q0⟩),(.agg ⟨q1⟩)]) none fun v0=>(oo (CQ v0) none fun l0=>(ll l0 none fun v1 l0=>(ll l0 none fun v2 l0=>(ll l0 none fun v3 l0=>(ll l0 none fun v4 l0=>(ll l0 none fun v5 l0=>(ll l0 none fun v6 l0=>(ll l0 (bb (MC v1) (oo (Bt v2) none fun l1=>(ll l1 none fun v7 l1=>(ll l1 none fun v8 l1=>(ll l1 (oo (Bi .i64 v7) none fun x0=>(oo (Bj 2 v8) none fun s2=>(oo (Bt v3) none fun l2=>(ll l2 none fun v9 l2=>(ll l2 (oo (KP 4 0 1 v9) none fun y0=>(oo (Bt v4) none fun l3=>(ll l3 none fun v10 l3=>(ll l3 (oo (KP 5 0 1 v10) none fun y1=>(oo (Bt v5) none fun q2=>(oo (Bt v6) none fun q3=>(bb (Au Ah q2) (bb (Au Ah q3) (bb (Au Ah q2) (bb (Au Ah q3) (some (.tuple ⟨[(.tuple ⟨[]⟩),(.agg ⟨[.int .i64 z0]⟩),(.agg ⟨[(.func (.func 7) ⟨[]⟩ ⟨[(.pointer (some ⟨4,0,none⟩)),(.pointer (some ⟨5,0,none⟩)),(.pointer (some ⟨6,0,none⟩))]⟩)]⟩),(.agg ⟨[(.func (.func 15) ⟨[]⟩ ⟨[(.pointer (some ⟨1,0,none⟩)),(.pointer (some ⟨2,0,none⟩)),(.pointer (some ⟨3,0,none⟩))]⟩)]⟩),(.agg ⟨[.int .i64 x0,(Sl.v 2 s2)]⟩),(.agg ⟨[(.slice (some ⟨7,0,some 1⟩) (NC.n y0) (NC.c y0))]⟩),(.agg ⟨[(.slice (some ⟨8,0,some 1⟩) (NC.n y1) (NC.c y1))]⟩),(.agg ⟨q2⟩),(.agg ⟨q3⟩)]⟩)) none) none) none) none)))) fun _ _=>none)))) fun _ _=>none))))) fun _ _=>none)))) none) fun _ _=>none))))))))) none) none) none) none) (Fh pu n n s0 (0:Int) z0 z1 s1 n0 c0 n1 c1 q0 q1)) none) none)
def LK (pu:Af) (n:Nat) (args:LV):OV:=
 (ll args none fun a0 args=>(ll args none fun a1 args=>(ll args none fun a2 args=>(ll args none fun a3 args=>(ll args none fun o0 args=>(ll args none fun o1 args=>(ll args none fun o2 args=>(ll args none fun o3 args=>(ll args none fun o4 args=>(ll args none fun o5 args=>(ll args none fun o6 args=>(ll args none fun o7 args=>(ll args (oo (Bj 1 a0) none fun s0=>(bb (MK a1 1 0) (bb (MK a2 2 0) (bb (MK a3 3 0) (oo (Bt o0) none fun l0=>(ll l0 none fun v0 l0=>(ll l0 (oo (Bi .i64 v0) none fun x0=>(oo (Bt o1) none fun l1=>(ll l1 none fun v1 l1=>(ll l1 (oo (Om 7 0 v1) none fun l2=>(ll l2 none fun v2 l2=>(ll l2 none fun v3 l2=>(ll l2 none fun v4 l2=>(ll l2 (bb (MK v2 4 0) (bb (MK v3 5 0) (bb (MK v4 6 0) (oo (Bt o2) none fun l3=>(ll l3 none fun v5 l3=>(ll l3 (oo (Om 15 0 v5) none fun l4=>(ll l4 none fun v6 l4=>(ll l4 none fun v7 l4=>(ll l4 none fun v8 l4=>(ll l4 (bb (MK v6 1 0) (bb (MK v7 2 0) (bb (MK v8 3 0) (oo (Bt o3) none fun l5=>(ll l5 none fun v9 l5=>(ll l5 none fun v10 l5=>(ll l5 (oo (Bi .i64 v9) none fun x1=>(oo (Bj 2 v10) none fun s1=>(oo (Bt o4) none fun l6=>(ll l6 none fun v11 l6=>(ll l6 (oo (KP 7 0 1 v11) none fun y0=>(oo (Bt o5) none fun l7=>(ll l7 none fun v12 l7=>(ll l7 (oo (KP 8 0 1 v12) none fun y1=>(oo (Bt o6) none fun q0=>(oo (Bt o7) none fun q1=>(G5 pu n s0 x0 x1 s1 (NC.n y0) (NC.c y0) (NC.n y1) (NC.c y1) q0 q1)))) fun _ _=>none)))) fun _ _=>none))))) fun _ _=>none)))) none) none) none) fun _ _=>none))))) fun _ _=>none))) none) none) none) fun _ _=>none))))) fun _ _=>none)))) fun _ _=>none))) none) none) none)) fun _ _=>none)))))))))))))
theorem Yz (pu:Af) (n:Nat) (s0:Sl) (z0 z1:Int) (s1:Sl) (n0 c0 n1 c1:Nat) (q0:LV) (q1:LV) {v:Value} (hm:G5 pu n s0 z0 z1 s1 n0 c0 n1 c1 q0 q1=some v):BN tt (Bb tabs Fb pu (inl pu)) 9 KZ (fr 29 [(0,Sl.v 1 s0),(1,pt 1 0),(2,(pt 2 0)),(3,(pt 3 0))]) (hT 9 [(oC [zI z0]),(oC [(.func (.func 7) ⟨[]⟩ ⟨[(pt 4 0),(pt 5 0),(pt 6 0)]⟩)]),(oC [(.func (.func 15) ⟨[]⟩ ⟨[pt 1 0,(pt 2 0),(pt 3 0)]⟩)]),(oC [zI z1,(Sl.v 2 s1)]),(oC [sc 7 0 1 n0 c0]),(oC [sc 8 0 1 n1 c1]),oC q0,oC q1]) (FJ tt 1 8 [] v):=by
 unfold G5 at hm
 refine .then (.then (.rK ?_))
 replace hm:=Ae hm;obtain⟨h0,hm⟩:=hm
 replace hm:=Ae hm;obtain⟨h1,hm⟩:=hm
 refine .ghs (fr 29 [(0,Sl.v 1 s0),(1,pt 1 0),(2,(pt 2 0)),(3,(pt 3 0)),(9,(zB (Bd (Int.ofNat (Sl.n s0)) z0)))]) (hT 9 [(oC [zI z0]),(oC [(.func (.func 7) ⟨[]⟩ ⟨[(pt 4 0),(pt 5 0),(pt 6 0)]⟩)]),(oC [(.func (.func 15) ⟨[]⟩ ⟨[pt 1 0,(pt 2 0),(pt 3 0)]⟩)]),(oC [zI z1,(Sl.v 2 s1)]),(oC [sc 7 0 1 n0 c0]),(oC [sc 8 0 1 n1 c1]),oC q0,oC q1]) (.k [7,8] [false,false,true,true,false,true,true,false,false] [] [0,1,2,3,9] ⟨Bp h0,Bp h1,trivial⟩) ?_
 replace hm:=Ag hm;rcases hm with⟨h2,hm⟩ | ⟨h2,hm⟩
 ·refine DL (Bd (Int.ofNat (Sl.n s0)) z0) h2 ?_
  refine .then ?_
  replace hm:=Ae hm;obtain⟨h3,hm⟩:=hm
  replace hm:=Ae hm;obtain⟨h4,hm⟩:=hm
  replace hm:=Ae hm;obtain⟨h5,hm⟩:=hm
  replace hm:=Ae hm;obtain⟨h6,hm⟩:=hm
  replace hm:=Ab hm;obtain⟨v0,h7,hm⟩:=hm
  replace hm:=Ch hm;obtain⟨l0,rfl,hm⟩:=hm
  replace hm:=Ad hm;obtain⟨v1,l295_0,rfl,hm⟩:=hm
  replace hm:=Ad hm;obtain⟨v2,l295_1,rfl,hm⟩:=hm
  replace hm:=Ad hm;obtain⟨v3,l295_2,rfl,hm⟩:=hm
  replace hm:=Ad hm;obtain⟨v4,l295_3,rfl,hm⟩:=hm
  replace hm:=Ad hm;obtain⟨v5,l295_4,rfl,hm⟩:=hm
  replace hm:=Ad hm;obtain⟨v6,l295_5,rfl,hm⟩:=hm
  replace hm:=AC hm;obtain⟨rfl,hm⟩:=hm
  replace hm:=Ae hm;obtain⟨h8,hm⟩:=hm
  obtain rfl:=Oo h8
  replace hm:=BG hm;obtain⟨l1,rfl,hm⟩:=hm
  replace hm:=Ad hm;obtain⟨v7,l304_0,rfl,hm⟩:=hm
  replace hm:=Ad hm;obtain⟨v8,l304_1,rfl,hm⟩:=hm
  replace hm:=AC hm;obtain⟨rfl,hm⟩:=hm
  replace hm:=Ai hm;obtain⟨x0,rfl,hm⟩:=hm
  replace hm:=Al hm;obtain⟨s2,rfl,hm⟩:=hm
  replace hm:=BG hm;obtain⟨l2,rfl,hm⟩:=hm
  replace hm:=Ad hm;obtain⟨v9,l312_0,rfl,hm⟩:=hm
  replace hm:=AC hm;obtain⟨rfl,hm⟩:=hm
  replace hm:=Ab hm;obtain⟨y0,h9,hm⟩:=hm
  obtain rfl:=F5 h9
  replace hm:=BG hm;obtain⟨l3,rfl,hm⟩:=hm
  replace hm:=Ad hm;obtain⟨v10,l317_0,rfl,hm⟩:=hm
  replace hm:=AC hm;obtain⟨rfl,hm⟩:=hm
  replace hm:=Ab hm;obtain⟨y1,h10,hm⟩:=hm
  obtain rfl:=F5 h10
  replace hm:=BG hm;obtain⟨q2,rfl,hm⟩:=hm
  replace hm:=BG hm;obtain⟨q3,rfl,hm⟩:=hm
  replace hm:=Ae hm;obtain⟨h11,hm⟩:=hm
  replace hm:=Ae hm;obtain⟨h12,hm⟩:=hm
  refine .reg (eC 2 (EK tabs [[some 1],[none],[none],[none]] 4 [.tmp 1 false,.tmp 2 true,.tmp 3 true,.cell 2 0 false,.cell 3 0 false] [false,true,true,false,false] (pu 10070) [Sl.v 1 s0,(pt 4 0),(pt 5 0),(pt 6 0)] (hT 9 [(oC [zI z0]),(oC [(.func (.func 7) ⟨[]⟩ ⟨[(pt 4 0),(pt 5 0),(pt 6 0)]⟩)]),(oC [(.func (.func 15) ⟨[]⟩ ⟨[pt 1 0,(pt 2 0),(pt 3 0)]⟩)]),(oC [zI z1,(Sl.v 2 s1)]),(oC [sc 7 0 1 n0 c0]),(oC [sc 8 0 1 n1 c1]),oC q0,oC q1])) (EL (as:=[Sl.v 1 s0,(pt 4 0),(pt 5 0),(pt 6 0)]) (H1:=(hT 9 [(oC [zI z0]),(oC [(.func (.func 7) ⟨[]⟩ ⟨[(pt 4 0),(pt 5 0),(pt 6 0)]⟩)]),(oC [(.func (.func 15) ⟨[]⟩ ⟨[pt 1 0,(pt 2 0),(pt 3 0)]⟩)]),(oC [zI z1,(Sl.v 2 s1)]),(oC [sc 7 0 1 n0 c0]),(oC [sc 8 0 1 n1 c1]),oC q0,oC q1])) (BS (Dm (KQ (CV (z:=1) (v:=(Sl.v 1 s0)) (H:=(hT 9 [(oC [zI z0]),(oC [(.func (.func 7) ⟨[]⟩ ⟨[(pt 4 0),(pt 5 0),(pt 6 0)]⟩)]),(oC [(.func (.func 15) ⟨[]⟩ ⟨[pt 1 0,(pt 2 0),(pt 3 0)]⟩)]),(oC [zI z1,(Sl.v 2 s1)]),(oC [sc 7 0 1 n0 c0]),(oC [sc 8 0 1 n1 c1]),oC q0,oC q1])) (by kernel_rfl) (by kernel_rfl) (by kernel_rfl)))) (BS (Dm Dk) (BS (Dm Dk) (BS (Dm Dk) Gj)))) (EI (H2:=(hT 9 [(oC [zI z0]),(oC [(.func (.func 7) ⟨[]⟩ ⟨[(pt 4 0),(pt 5 0),(pt 6 0)]⟩)]),(oC [(.func (.func 15) ⟨[]⟩ ⟨[pt 1 0,(pt 2 0),(pt 3 0)]⟩)]),(oC [zI x0,(Sl.v 2 s2)]),(oC [(sc 7 0 1 (NC.n y0) (NC.c y0))]),(oC [(sc 8 0 1 (NC.n y1) (NC.c y1))]),oC q2,oC q3])) (v:=(.tuple ⟨[]⟩)) (v':=(.tuple ⟨[]⟩)) [some 0,some 4,some 5,some 6,some 7,some 8] [(false,some 4),(true,some 5),(true,some 6),(false,some 7),(false,some 8)] [(oC [zI z1,(Sl.v 2 s1)]),(oC [sc 4 0 1 n0 c0]),(oC [sc 5 0 1 n1 c1]),oC q0,oC q1] [Sl.v 1 s0,pt 1 0,(pt 2 0),(pt 3 0)] [(.agg ⟨[zI x0,(Sl.v 2 s2)]⟩),(.agg ⟨[(sc 4 0 1 (NC.n y0) (NC.c y0))]⟩),(.agg ⟨[(sc 5 0 1 (NC.n y1) (NC.c y1))]⟩),(.agg ⟨q2⟩),(.agg ⟨q3⟩)] [(oC [zI x0,(Sl.v 2 s2)]),(oC [(sc 4 0 1 (NC.n y0) (NC.c y0))]),(oC [(sc 5 0 1 (NC.n y1) (NC.c y1))]),oC q2,oC q3] [some 0,none,none,none,some 1,some 2,some 3,some 4,some 5] [(false,(oC [zI x0,(Sl.v 2 s2)])),(true,(oC [(sc 4 0 1 (NC.n y0) (NC.c y0))])),(true,(oC [(sc 5 0 1 (NC.n y1) (NC.c y1))])),(false,oC q2),(false,oC q3)] [(oC [zI x0,(Sl.v 2 s2)]),(oC [(sc 7 0 1 (NC.n y0) (NC.c y0))]),(oC [(sc 8 0 1 (NC.n y1) (NC.c y1))]),oC q2,oC q3] (sF (by kernel_rfl) (XX h3 (XX h4 rfl))) (En (by kernel_rfl) (En (by kernel_rfl) (En (by kernel_rfl) (En (Nb (anc:=[]) h5) (En (Nb (anc:=[]) h6) BX))))) (Eq.trans (by kernel_rfl) h7) (En rfl (En rfl (En rfl (En rfl (En rfl BX))))) (En (by kernel_rfl) (En (by kernel_rfl) (En (by kernel_rfl) (En (KO h11) (En (KO h12) BX))))))) (eE)) ?_
  replace hm:=Ae hm;obtain⟨h13,hm⟩:=hm
  replace hm:=Ae hm;obtain⟨h14,hm⟩:=hm
  refine .ghs (fr 29 []) (hT 9 [(oC [zI z0]),(oC [(.func (.func 7) ⟨[]⟩ ⟨[(pt 4 0),(pt 5 0),(pt 6 0)]⟩)]),(oC [(.func (.func 15) ⟨[]⟩ ⟨[pt 1 0,(pt 2 0),(pt 3 0)]⟩)]),(oC [zI x0,(Sl.v 2 s2)]),(oC [(sc 7 0 1 (NC.n y0) (NC.c y0))]),(oC [(sc 8 0 1 (NC.n y1) (NC.c y1))]),oC q2,oC q3]) (.k [7,8] [false,false,true,true,false,true,true,false,false] [] [] ⟨Bp h13,Bp h14,trivial⟩) ?_
  refine .ghs (fr 29 []) (hT 9 [(oC [zI z0]),(oC [(.func (.func 7) ⟨[]⟩ ⟨[(pt 4 0),(pt 5 0),(pt 6 0)]⟩)]),(oC [(.func (.func 15) ⟨[]⟩ ⟨[pt 1 0,(pt 2 0),(pt 3 0)]⟩)]),(oC [zI x0,(Sl.v 2 s2)]),(oC [(sc 7 0 1 (NC.n y0) (NC.c y0))]),(oC [(sc 8 0 1 (NC.n y1) (NC.c y1))]),oC q2,oC q3]) (.k [7,8] [false,false,true,true,false,true,true,false,false] [] [] ⟨Bp h13,Bp h14,trivial⟩) ?_
  refine .ret ?_
  exact Gi (.tuple ⟨[]⟩) [(oC [zI z0]),(oC [(.func (.func 7) ⟨[]⟩ ⟨[(pt 4 0),(pt 5 0),(pt 6 0)]⟩)]),(oC [(.func (.func 15) ⟨[]⟩ ⟨[pt 1 0,(pt 2 0),(pt 3 0)]⟩)]),(oC [zI x0,(Sl.v 2 s2)]),(oC [(sc 7 0 1 (NC.n y0) (NC.c y0))]),(oC [(sc 8 0 1 (NC.n y1) (NC.c y1))]),oC q2,oC q3] (by kernel_rfl) hm (Nat.le_of_ble_eq_true rfl) (Fa (VT _) (Fa (VT _) (Fa (VT _) (Fa (VT _) (Fa (VT _) (Fa (VT _) (Fa (VT _) (Fa (VT _) EJ))))))))
 ·refine DT (Bd (Int.ofNat (Sl.n s0)) z0) h2 ?_
  refine .skip (.ghs (fr 29 [(0,Sl.v 1 s0),(1,pt 1 0),(3,(pt 3 0))]) (hT 9 [(oC [zI z0]),(oC [(.func (.func 7) ⟨[]⟩ ⟨[(pt 4 0),(pt 5 0),(pt 6 0)]⟩)]),(oC [(.func (.func 15) ⟨[]⟩ ⟨[pt 1 0,(pt 2 0),(pt 3 0)]⟩)]),(oC [zI z1,(Sl.v 2 s1)]),(oC [sc 7 0 1 n0 c0]),(oC [sc 8 0 1 n1 c1]),oC q0,oC q1]) (.k [7,8] [false,false,true,true,false,true,true,false,false] [] [0,1,3] ⟨Bp h0,Bp h1,trivial⟩) ?_)
  refine .then (.rK (.ghs (fr 29 [(0,Sl.v 1 s0),(1,pt 1 0),(3,(pt 3 0)),(5,(zI (0:Int)))]) (hT 9 [(oC [zI z0]),(oC [(.func (.func 7) ⟨[]⟩ ⟨[(pt 4 0),(pt 5 0),(pt 6 0)]⟩)]),(oC [(.func (.func 15) ⟨[]⟩ ⟨[pt 1 0,(pt 2 0),(pt 3 0)]⟩)]),(oC [zI z1,(Sl.v 2 s1)]),(oC [sc 7 0 1 n0 c0]),(oC [sc 8 0 1 n1 c1]),oC q0,oC q1]) (.k [7,8] [false,false,true,true,false,true,true,false,false] [] [0,1,3,5] ⟨Bp h0,Bp h1,trivial⟩) ?_))
  refine .block (.loopM (v:=v) (fun y:Sl×Int×Int×Int×Sl×Nat×Nat×Nat×Nat×LV×LV=>((fr 29 [(0,(Sl.v 1 y.1)),(1,pt 1 0),(3,(pt 3 0)),(5,(zI y.2.1))]),(hT 9 [(oC [(zI y.2.2.1)]),(oC [(.func (.func 7) ⟨[]⟩ ⟨[(pt 4 0),(pt 5 0),(pt 6 0)]⟩)]),(oC [(.func (.func 15) ⟨[]⟩ ⟨[pt 1 0,(pt 2 0),(pt 3 0)]⟩)]),(oC [(zI y.2.2.2.1),(Sl.v 2 y.2.2.2.2.1)]),(oC [(sc 7 0 1 y.2.2.2.2.2.1 y.2.2.2.2.2.2.1)]),(oC [(sc 8 0 1 y.2.2.2.2.2.2.2.1 y.2.2.2.2.2.2.2.2.1)]),(oC y.2.2.2.2.2.2.2.2.2.1),(oC y.2.2.2.2.2.2.2.2.2.2)]))) (fun w y=>Fh pu n w y.1 y.2.1 y.2.2.1 y.2.2.2.1 y.2.2.2.2.1 y.2.2.2.2.2.1 y.2.2.2.2.2.2.1 y.2.2.2.2.2.2.2.1 y.2.2.2.2.2.2.2.2.1 y.2.2.2.2.2.2.2.2.2.1 y.2.2.2.2.2.2.2.2.2.2) n ⟨(s0,(0:Int),z0,z1,s1,n0,c0,n1,c1,q0,q1),hm,(.k [7,8] [false,false,true,true,false,true,true,false,false] [] [0,1,3,5] ⟨Bp h0,Bp h1,trivial⟩)⟩ (fun _=>rfl) ?_)
  rintro w0 ⟨s3,z2,z3,z4,s4,n2,c2,n3,c4,q4,q5⟩ hm
  replace hm:FL pu n (Fh pu n w0) s3 z2 z3 z4 s4 n2 c2 n3 c4 q4 q5=some v:=hm
  unfold FL at hm
  refine .then (.then (.rK ?_))
  replace hm:=Ae hm;obtain⟨h15,hm⟩:=hm
  replace hm:=Ae hm;obtain⟨h16,hm⟩:=hm
  refine .ghs (fr 29 [(0,Sl.v 1 s3),(1,pt 1 0),(3,(pt 3 0)),(5,zI z2),(15,(zB (AY z2 z3)))]) (hT 9 [(oC [zI z3]),(oC [(.func (.func 7) ⟨[]⟩ ⟨[(pt 4 0),(pt 5 0),(pt 6 0)]⟩)]),(oC [(.func (.func 15) ⟨[]⟩ ⟨[pt 1 0,(pt 2 0),(pt 3 0)]⟩)]),(oC [zI z4,(Sl.v 2 s4)]),(oC [sc 7 0 1 n2 c2]),(oC [sc 8 0 1 n3 c4]),oC q4,oC q5]) (.k [7,8] [false,false,true,true,false,true,true,false,false] [] [0,1,3,5,15] ⟨Bp h15,Bp h16,trivial⟩) ?_
  replace hm:=Ag hm;rcases hm with⟨h17,hm⟩ | ⟨h17,hm⟩
  ·refine DL (AY z2 z3) h17 ?_
   refine .skip (.ghs (fr 29 [(0,Sl.v 1 s3),(1,pt 1 0),(3,(pt 3 0)),(5,zI z2)]) (hT 9 [(oC [zI z3]),(oC [(.func (.func 7) ⟨[]⟩ ⟨[(pt 4 0),(pt 5 0),(pt 6 0)]⟩)]),(oC [(.func (.func 15) ⟨[]⟩ ⟨[pt 1 0,(pt 2 0),(pt 3 0)]⟩)]),(oC [zI z4,(Sl.v 2 s4)]),(oC [sc 7 0 1 n2 c2]),(oC [sc 8 0 1 n3 c4]),oC q4,oC q5]) (.k [7,8] [false,false,true,true,false,true,true,false,false] [] [0,1,3,5] ⟨Bp h15,Bp h16,trivial⟩) ?_)
   refine .join (v:=v) (fun y:Sl×Int×Int×Int×Sl×Nat×Nat×Nat×Nat×LV×LV=>((fr 29 [(0,(Sl.v 1 y.1)),(1,pt 1 0),(3,(pt 3 0)),(5,(zI y.2.1))]),(hT 9 [(oC [(zI y.2.2.1)]),(oC [(.func (.func 7) ⟨[]⟩ ⟨[(pt 4 0),(pt 5 0),(pt 6 0)]⟩)]),(oC [(.func (.func 15) ⟨[]⟩ ⟨[pt 1 0,(pt 2 0),(pt 3 0)]⟩)]),(oC [(zI y.2.2.2.1),(Sl.v 2 y.2.2.2.2.1)]),(oC [(sc 7 0 1 y.2.2.2.2.2.1 y.2.2.2.2.2.2.1)]),(oC [(sc 8 0 1 y.2.2.2.2.2.2.2.1 y.2.2.2.2.2.2.2.2.1)]),(oC y.2.2.2.2.2.2.2.2.2.1),(oC y.2.2.2.2.2.2.2.2.2.2)]))) (fun y=>FK pu n (Fh pu n w0) y.1 y.2.1 y.2.2.1 y.2.2.2.1 y.2.2.2.2.1 y.2.2.2.2.2.1 y.2.2.2.2.2.2.1 y.2.2.2.2.2.2.2.1 y.2.2.2.2.2.2.2.2.1 y.2.2.2.2.2.2.2.2.2.1 y.2.2.2.2.2.2.2.2.2.2) ?_ ?_
   ·rintro⟨s5,z5,z6,z7,s6,n4,c12,n5,c72,q6,q7⟩ hm
    unfold FK at hm
    refine .rK ?_
    replace hm:=Ae hm;obtain⟨h18,hm⟩:=hm
    replace hm:=Ae hm;obtain⟨h19,hm⟩:=hm
    exact⟨(s5,(Aj .i64 (Int.add z5 (1:Int))),z6,z7,s6,n4,c12,n5,c72,q6,q7),hm,(.k [7,8] [false,false,true,true,false,true,true,false,false] [] [0,1,3,5] ⟨Bp h18,Bp h19,trivial⟩)⟩
   ·refine .block (.then ?_)
    replace hm:=Yq hm;obtain⟨b0,h20,hm⟩:=hm
    refine .reg (eC 2 ((oo (pu 16 [Sl.v 1 s3,zI z2]) none fun v=>some (v,(hT 9 [(oC [zI z3]),(oC [(.func (.func 7) ⟨[]⟩ ⟨[(pt 4 0),(pt 5 0),(pt 6 0)]⟩)]),(oC [(.func (.func 15) ⟨[]⟩ ⟨[pt 1 0,(pt 2 0),(pt 3 0)]⟩)]),(oC [zI z4,(Sl.v 2 s4)]),(oC [sc 7 0 1 n2 c2]),(oC [sc 8 0 1 n3 c4]),oC q4,oC q5])))) (AB h20) (eE)) ?_
    refine .ghs (fr 29 [(0,Sl.v 1 s3),(1,pt 1 0),(3,(pt 3 0)),(5,zI z2),(21,(zB (nt b0)))]) (hT 9 [(oC [zI z3]),(oC [(.func (.func 7) ⟨[]⟩ ⟨[(pt 4 0),(pt 5 0),(pt 6 0)]⟩)]),(oC [(.func (.func 15) ⟨[]⟩ ⟨[pt 1 0,(pt 2 0),(pt 3 0)]⟩)]),(oC [zI z4,(Sl.v 2 s4)]),(oC [sc 7 0 1 n2 c2]),(oC [sc 8 0 1 n3 c4]),oC q4,oC q5]) (.k [7,8] [false,false,true,true,false,true,true,false,false] [] [0,1,3,5,21] ⟨Bp h15,Bp h16,trivial⟩) ?_
    replace hm:=Ag hm;rcases hm with⟨h21,hm⟩ | ⟨h21,hm⟩
    ·refine DL (nt b0) h21 ?_
     replace hm:=oQS hm;obtain⟨s7,h22,hm⟩:=hm
     replace hm:=Ae hm;obtain⟨h23,hm⟩:=hm
     replace hm:=Ae hm;obtain⟨h24,hm⟩:=hm
     replace hm:=Ae hm;obtain⟨h25,hm⟩:=hm
     replace hm:=Ae hm;obtain⟨h26,hm⟩:=hm
     replace hm:=Ae hm;obtain⟨h27,hm⟩:=hm
     replace hm:=Ae hm;obtain⟨h28,hm⟩:=hm
     replace hm:=Ab hm;obtain⟨v11,h29,hm⟩:=hm
     replace hm:=Ch hm;obtain⟨l4,rfl,hm⟩:=hm
     replace hm:=Ad hm;obtain⟨v12,l842_0,rfl,hm⟩:=hm
     replace hm:=Ad hm;obtain⟨v13,l842_1,rfl,hm⟩:=hm
     replace hm:=Ad hm;obtain⟨v14,l842_2,rfl,hm⟩:=hm
     replace hm:=Ad hm;obtain⟨v15,l842_3,rfl,hm⟩:=hm
     replace hm:=Ad hm;obtain⟨v16,l842_4,rfl,hm⟩:=hm
     replace hm:=Ad hm;obtain⟨v17,l842_5,rfl,hm⟩:=hm
     replace hm:=Ad hm;obtain⟨v18,l842_6,rfl,hm⟩:=hm
     replace hm:=Ad hm;obtain⟨v19,l842_7,rfl,hm⟩:=hm
     replace hm:=Ad hm;obtain⟨v20,l842_8,rfl,hm⟩:=hm
     replace hm:=AC hm;obtain⟨rfl,hm⟩:=hm
     replace hm:=Ae hm;obtain⟨h30,hm⟩:=hm
     obtain rfl:=Oo h30
     replace hm:=BG hm;obtain⟨l5,rfl,hm⟩:=hm
     replace hm:=Ad hm;obtain⟨v21,l854_0,rfl,hm⟩:=hm
     replace hm:=AC hm;obtain⟨rfl,hm⟩:=hm
     replace hm:=Ai hm;obtain⟨x1,rfl,hm⟩:=hm
     replace hm:=BG hm;obtain⟨l6,rfl,hm⟩:=hm
     replace hm:=Ad hm;obtain⟨v22,l859_0,rfl,hm⟩:=hm
     replace hm:=AC hm;obtain⟨rfl,hm⟩:=hm
     replace hm:=Ab hm;obtain⟨l7,h31,hm⟩:=hm
     obtain rfl:=Hu h31
     replace hm:=Ad hm;obtain⟨v23,l862_0,rfl,hm⟩:=hm
     replace hm:=Ad hm;obtain⟨v24,l862_1,rfl,hm⟩:=hm
     replace hm:=Ad hm;obtain⟨v25,l862_2,rfl,hm⟩:=hm
     replace hm:=AC hm;obtain⟨rfl,hm⟩:=hm
     replace hm:=Ae hm;obtain⟨h32,hm⟩:=hm
     obtain rfl:=KR h32
     replace hm:=Ae hm;obtain⟨h33,hm⟩:=hm
     obtain rfl:=KR h33
     replace hm:=Ae hm;obtain⟨h34,hm⟩:=hm
     obtain rfl:=KR h34
     replace hm:=BG hm;obtain⟨l10,rfl,hm⟩:=hm
     replace hm:=Ad hm;obtain⟨v26,l870_0,rfl,hm⟩:=hm
     replace hm:=AC hm;obtain⟨rfl,hm⟩:=hm
     replace hm:=Ab hm;obtain⟨l11,h35,hm⟩:=hm
     obtain rfl:=Hu h35
     replace hm:=Ad hm;obtain⟨v27,l873_0,rfl,hm⟩:=hm
     replace hm:=Ad hm;obtain⟨v28,l873_1,rfl,hm⟩:=hm
     replace hm:=Ad hm;obtain⟨v29,l873_2,rfl,hm⟩:=hm
     replace hm:=AC hm;obtain⟨rfl,hm⟩:=hm
     replace hm:=Ae hm;obtain⟨h36,hm⟩:=hm
     obtain rfl:=KR h36
     replace hm:=Ae hm;obtain⟨h37,hm⟩:=hm
     obtain rfl:=KR h37
     replace hm:=Ae hm;obtain⟨h38,hm⟩:=hm
     obtain rfl:=KR h38
     replace hm:=BG hm;obtain⟨l12,rfl,hm⟩:=hm
     replace hm:=Ad hm;obtain⟨v30,l881_0,rfl,hm⟩:=hm
     replace hm:=Ad hm;obtain⟨v31,l881_1,rfl,hm⟩:=hm
     replace hm:=AC hm;obtain⟨rfl,hm⟩:=hm
     replace hm:=Ai hm;obtain⟨x2,rfl,hm⟩:=hm
     replace hm:=Al hm;obtain⟨s8,rfl,hm⟩:=hm
     replace hm:=BG hm;obtain⟨l14,rfl,hm⟩:=hm
     replace hm:=Ad hm;obtain⟨v32,l889_0,rfl,hm⟩:=hm
     replace hm:=AC hm;obtain⟨rfl,hm⟩:=hm
     replace hm:=Ab hm;obtain⟨y2,h39,hm⟩:=hm
     obtain rfl:=F5 h39
     replace hm:=BG hm;obtain⟨l15,rfl,hm⟩:=hm
     replace hm:=Ad hm;obtain⟨v33,l894_0,rfl,hm⟩:=hm
     replace hm:=AC hm;obtain⟨rfl,hm⟩:=hm
     replace hm:=Ab hm;obtain⟨y3,h40,hm⟩:=hm
     obtain rfl:=F5 h40
     replace hm:=BG hm;obtain⟨q8,rfl,hm⟩:=hm
     replace hm:=BG hm;obtain⟨q9,rfl,hm⟩:=hm
     replace hm:=Ae hm;obtain⟨h41,hm⟩:=hm
     replace hm:=Ae hm;obtain⟨h42,hm⟩:=hm
     refine .reg (eC 4 ((oo (pu 17 [Sl.v 1 s3]) none fun v=>some (v,(hT 10 [(oC [zI z3]),(oC [(.func (.func 7) ⟨[]⟩ ⟨[(pt 4 0),(pt 5 0),(pt 6 0)]⟩)]),(oC [(.func (.func 15) ⟨[]⟩ ⟨[pt 1 0,(pt 2 0),(pt 3 0)]⟩)]),(oC [zI z4,(Sl.v 2 s4)]),(oC [sc 7 0 1 n2 c2]),(oC [sc 8 0 1 n3 c4]),oC q4,oC q5,(oC [zI z2])])))) (AB h22) (eD (Uu (hT 10 [(oC [zI z3]),(oC [(.func (.func 7) ⟨[]⟩ ⟨[(pt 4 0),(pt 5 0),(pt 6 0)]⟩)]),(oC [(.func (.func 15) ⟨[]⟩ ⟨[pt 1 0,(pt 2 0),(pt 3 0)]⟩)]),(oC [zI z4,(Sl.v 2 s4)]),(oC [sc 7 0 1 n2 c2]),(oC [sc 8 0 1 n3 c4]),oC q4,oC q5,(oC [zI z2])]) 1 8 s7 1 ([zI z2]:LV)) (Wi h23) (eD (EK tabs [[some 1],[none],[none],[none]] 4 [.tmp 1 false,.tmp 2 true,.tmp 3 true,.ccap 2 0 0 false,.ccap 2 0 1 true,.ccap 2 0 2 true,.cell 5 0 false,.cell 6 0 false] [false,true,true,false,true,true,false,false] (pu 10150) [(sc 10 0 1 ((Sl.n s7)+1) (d2 ((Sl.n s7)+1))),pt 1 0,(pt 2 0),(pt 3 0)] (hT 11 [(oC [zI z3]),(oC [(.func (.func 7) ⟨[]⟩ ⟨[(pt 4 0),(pt 5 0),(pt 6 0)]⟩)]),(oC [(.func (.func 15) ⟨[]⟩ ⟨[pt 1 0,(pt 2 0),(pt 3 0)]⟩)]),(oC [zI z4,(Sl.v 2 s4)]),(oC [sc 7 0 1 n2 c2]),(oC [sc 8 0 1 n3 c4]),oC q4,oC q5,(oC [zI z2]),(oC (Br (Sl.cs s7) ([zI z2]:LV)))])) (EL (as:=[(Sl.v 1 (Sl.mk ((Sl.n s7)+1) 0 (Aq (((Sl.n s7)+1)*1) (Am 0 (Br (Sl.cs s7) ([zI z2]:LV)))))),pt 1 0,(pt 2 0),(pt 3 0)]) (H1:=(hT 11 [(oC [zI z3]),(oC [(.func (.func 7) ⟨[]⟩ ⟨[(pt 4 0),(pt 5 0),(pt 6 0)]⟩)]),(oC [(.func (.func 15) ⟨[]⟩ ⟨[pt 1 0,(pt 2 0),(pt 3 0)]⟩)]),(oC [zI z4,(Sl.v 2 s4)]),(oC [sc 7 0 1 n2 c2]),(oC [sc 8 0 1 n3 c4]),oC q4,oC q5,(oC [zI z2]),.dead])) (BS (Dm (KQ (show ER 1 (sc 10 0 1 ((Sl.n s7)+1) (d2 ((Sl.n s7)+1))) (hT 11 [(oC [zI z3]),(oC [(.func (.func 7) ⟨[]⟩ ⟨[(pt 4 0),(pt 5 0),(pt 6 0)]⟩)]),(oC [(.func (.func 15) ⟨[]⟩ ⟨[pt 1 0,(pt 2 0),(pt 3 0)]⟩)]),(oC [zI z4,(Sl.v 2 s4)]),(oC [sc 7 0 1 n2 c2]),(oC [sc 8 0 1 n3 c4]),oC q4,oC q5,(oC [zI z2]),(oC (Br (Sl.cs s7) ([zI z2]:LV)))])=some ((Sl.v 1 (Sl.mk ((Sl.n s7)+1) 0 (Aq (((Sl.n s7)+1)*1) (Am 0 (Br (Sl.cs s7) ([zI z2]:LV)))))),(hT 11 [(oC [zI z3]),(oC [(.func (.func 7) ⟨[]⟩ ⟨[(pt 4 0),(pt 5 0),(pt 6 0)]⟩)]),(oC [(.func (.func 15) ⟨[]⟩ ⟨[pt 1 0,(pt 2 0),(pt 3 0)]⟩)]),(oC [zI z4,(Sl.v 2 s4)]),(oC [sc 7 0 1 n2 c2]),(oC [sc 8 0 1 n3 c4]),oC q4,oC q5,(oC [zI z2]),.dead])) from KH 10 0 1 ((Sl.n s7)+1) (d2 ((Sl.n s7)+1)) (Br (Sl.cs s7) ([zI z2]:LV)) [] (by kernel_rfl) (by kernel_rfl) h24))) (BS (Dm Dk) (BS (Dm Dk) (BS (Dm Dk) Gj)))) (EI (H2:=(hT 11 [(oC [zI x1]),(oC [(.func (.func 7) ⟨[]⟩ ⟨[(pt 4 0),(pt 5 0),(pt 6 0)]⟩)]),(oC [(.func (.func 15) ⟨[]⟩ ⟨[pt 1 0,(pt 2 0),(pt 3 0)]⟩)]),(oC [zI x2,(Sl.v 2 s8)]),(oC [(sc 7 0 1 (NC.n y2) (NC.c y2))]),(oC [(sc 8 0 1 (NC.n y3) (NC.c y3))]),oC q8,oC q9,(oC [zI z2]),.dead])) (v:=(.tuple ⟨[]⟩)) (v':=(.tuple ⟨[]⟩)) [some 0,some 1,some 2,some 3,some 4,some 5,some 6,some 7,some 8] [(false,some 1),(true,some 2),(true,some 3),(false,some 4),(true,some 5),(true,some 6),(false,some 7),(false,some 8)] [(oC [zI z3]),(oC [(.func (.func 7) ⟨[]⟩ ⟨[(pt 4 0),(pt 5 0),(pt 6 0)]⟩)]),(oC [(.func (.func 15) ⟨[]⟩ ⟨[pt 1 0,(pt 2 0),(pt 3 0)]⟩)]),(oC [zI z4,(Sl.v 2 s4)]),(oC [sc 7 0 1 n2 c2]),(oC [sc 8 0 1 n3 c4]),oC q4,oC q5] [(Sl.v 1 (Sl.mk ((Sl.n s7)+1) 0 (Aq (((Sl.n s7)+1)*1) (Am 0 (Br (Sl.cs s7) ([zI z2]:LV)))))),pt 1 0,(pt 2 0),(pt 3 0)] [(.agg ⟨[zI x1]⟩),(.agg ⟨[(.func (.func 7) ⟨[]⟩ ⟨[(pt 4 0),(pt 5 0),(pt 6 0)]⟩)]⟩),(.agg ⟨[(.func (.func 15) ⟨[]⟩ ⟨[pt 1 0,(pt 2 0),(pt 3 0)]⟩)]⟩),(.agg ⟨[zI x2,(Sl.v 2 s8)]⟩),(.agg ⟨[(sc 7 0 1 (NC.n y2) (NC.c y2))]⟩),(.agg ⟨[(sc 8 0 1 (NC.n y3) (NC.c y3))]⟩),(.agg ⟨q8⟩),(.agg ⟨q9⟩)] [(oC [zI x1]),(oC [(.func (.func 7) ⟨[]⟩ ⟨[(pt 4 0),(pt 5 0),(pt 6 0)]⟩)]),(oC [(.func (.func 15) ⟨[]⟩ ⟨[pt 1 0,(pt 2 0),(pt 3 0)]⟩)]),(oC [zI x2,(Sl.v 2 s8)]),(oC [(sc 7 0 1 (NC.n y2) (NC.c y2))]),(oC [(sc 8 0 1 (NC.n y3) (NC.c y3))]),oC q8,oC q9] [some 0,some 1,some 2,some 3,some 4,some 5,some 6,some 7,some 8,none,none] [(false,(oC [zI x1])),(true,(oC [(.func (.func 7) ⟨[]⟩ ⟨[(pt 4 0),(pt 5 0),(pt 6 0)]⟩)])),(true,(oC [(.func (.func 15) ⟨[]⟩ ⟨[pt 1 0,(pt 2 0),(pt 3 0)]⟩)])),(false,(oC [zI x2,(Sl.v 2 s8)])),(true,(oC [(sc 7 0 1 (NC.n y2) (NC.c y2))])),(true,(oC [(sc 8 0 1 (NC.n y3) (NC.c y3))])),(false,oC q8),(false,oC q9)] [(oC [zI x1]),(oC [(.func (.func 7) ⟨[]⟩ ⟨[(pt 4 0),(pt 5 0),(pt 6 0)]⟩)]),(oC [(.func (.func 15) ⟨[]⟩ ⟨[pt 1 0,(pt 2 0),(pt 3 0)]⟩)]),(oC [zI x2,(Sl.v 2 s8)]),(oC [(sc 7 0 1 (NC.n y2) (NC.c y2))]),(oC [(sc 8 0 1 (NC.n y3) (NC.c y3))]),oC q8,oC q9] (sF (by kernel_rfl) (XX h25 (XX h26 rfl))) (En (by kernel_rfl) (En (by kernel_rfl) (En (by kernel_rfl) (En (by kernel_rfl) (En (by kernel_rfl) (En (by kernel_rfl) (En (Nb (anc:=[]) h27) (En (Nb (anc:=[]) h28) BX)))))))) (Eq.trans (by kernel_rfl) h29) (En rfl (En rfl (En rfl (En rfl (En rfl (En rfl (En rfl (En rfl BX)))))))) (En (by kernel_rfl) (En (by kernel_rfl) (En (by kernel_rfl) (En (by kernel_rfl) (En (by kernel_rfl) (En (by kernel_rfl) (En (KO h41) (En (KO h42) BX)))))))))) (eE)))) ?_
     replace hm:=Ae hm;obtain⟨h43,hm⟩:=hm
     replace hm:=Ae hm;obtain⟨h44,hm⟩:=hm
     exact⟨(s3,z2,x1,x2,s8,(NC.n y2),(NC.c y2),(NC.n y3),(NC.c y3),q8,q9),hm,(.k [7,8] [false,false,true,true,false,true,true,false,false] [] [0,1,3,5] ⟨Bp h43,Bp h44,trivial⟩)⟩
    ·refine DT (nt b0) h21 ?_
     refine .skip ?_
     exact⟨(s3,z2,z3,z4,s4,n2,c2,n3,c4,q4,q5),hm,(.k [7,8] [false,false,true,true,false,true,true,false,false] [] [0,1,3,5] ⟨Bp h15,Bp h16,trivial⟩)⟩
  ·refine DT (AY z2 z3) h17 ?_
   refine .exit ?_
   refine .ghs (fr 29 []) (hT 9 [(oC [zI z3]),(oC [(.func (.func 7) ⟨[]⟩ ⟨[(pt 4 0),(pt 5 0),(pt 6 0)]⟩)]),(oC [(.func (.func 15) ⟨[]⟩ ⟨[pt 1 0,(pt 2 0),(pt 3 0)]⟩)]),(oC [zI z4,(Sl.v 2 s4)]),(oC [sc 7 0 1 n2 c2]),(oC [sc 8 0 1 n3 c4]),oC q4,oC q5]) (.k [7,8] [false,false,true,true,false,true,true,false,false] [] [] ⟨Bp h15,Bp h16,trivial⟩) ?_
   exact TU (.tuple ⟨[]⟩) [(oC [zI z3]),(oC [(.func (.func 7) ⟨[]⟩ ⟨[(pt 4 0),(pt 5 0),(pt 6 0)]⟩)]),(oC [(.func (.func 15) ⟨[]⟩ ⟨[pt 1 0,(pt 2 0),(pt 3 0)]⟩)]),(oC [zI z4,(Sl.v 2 s4)]),(oC [sc 7 0 1 n2 c2]),(oC [sc 8 0 1 n3 c4]),oC q4,oC q5] (by kernel_rfl) hm (Nat.le_of_ble_eq_true rfl) (Fa (VT _) (Fa (VT _) (Fa (VT _) (Fa (VT _) (Fa (VT _) (Fa (VT _) (Fa (VT _) (Fa (VT _) EJ))))))))
theorem YA {call:A8} (pu:Af) (n:Nat) (hcall:call=Bb tabs Fb pu (inl pu)) {args:LV} {os:List AJ} {z:Value} (ha:args.length=4) (hk:os.length=8) (hpl:∀ o∈os,plainO o) (hm:LK pu n (args++os.map Ef)=some z):args.length≤29∧BN tt call (tabs.length+8) KZ (Fr.made 29 args) (BK tabs os) (FJ tt tabs.length 8 [] z):=by
 subst hcall
 have hq:=BC ha;clear ha;obtain⟨a0,args,rfl,ha⟩:=hq
 have hq:=BC ha;clear ha;obtain⟨a1,args,rfl,ha⟩:=hq
 have hq:=BC ha;clear ha;obtain⟨a2,args,rfl,ha⟩:=hq
 have hq:=BC ha;clear ha;obtain⟨a3,args,rfl,ha⟩:=hq
 obtain rfl:=len_nil ha
 have hq:=BC hk;clear hk;obtain⟨b0,os,rfl,hk⟩:=hq
 have hp0:plainO b0:=hpl b0 (by simp)
 have hq:=BC hk;clear hk;obtain⟨b1,os,rfl,hk⟩:=hq
 have hp1:plainO b1:=hpl b1 (by simp)
 have hq:=BC hk;clear hk;obtain⟨b2,os,rfl,hk⟩:=hq
 have hp2:plainO b2:=hpl b2 (by simp)
 have hq:=BC hk;clear hk;obtain⟨b3,os,rfl,hk⟩:=hq
 have hp3:plainO b3:=hpl b3 (by simp)
 have hq:=BC hk;clear hk;obtain⟨b4,os,rfl,hk⟩:=hq
 have hp4:plainO b4:=hpl b4 (by simp)
 have hq:=BC hk;clear hk;obtain⟨b5,os,rfl,hk⟩:=hq
 have hp5:plainO b5:=hpl b5 (by simp)
 have hq:=BC hk;clear hk;obtain⟨b6,os,rfl,hk⟩:=hq
 have hp6:plainO b6:=hpl b6 (by simp)
 have hq:=BC hk;clear hk;obtain⟨b7,os,rfl,hk⟩:=hq
 have hp7:plainO b7:=hpl b7 (by simp)
 obtain rfl:=len_nil hk
 replace hm:LK pu n [a0,a1,a2,a3,Ef b0,Ef b1,Ef b2,Ef b3,Ef b4,Ef b5,Ef b6,Ef b7]=some z:=hm
 unfold LK at hm
 replace hm:(oo (Bj 1 a0) none fun s0=>(bb (MK a1 1 0) (bb (MK a2 2 0) (bb (MK a3 3 0) (oo (Bt (Ef b0)) none fun l0=>(ll l0 none fun v0 l0=>(ll l0 (oo (Bi .i64 v0) none fun x0=>(oo (Bt (Ef b1)) none fun l1=>(ll l1 none fun v1 l1=>(ll l1 (oo (Om 7 0 v1) none fun l2=>(ll l2 none fun v2 l2=>(ll l2 none fun v3 l2=>(ll l2 none fun v4 l2=>(ll l2 (bb (MK v2 4 0) (bb (MK v3 5 0) (bb (MK v4 6 0) (oo (Bt (Ef b2)) none fun l3=>(ll l3 none fun v5 l3=>(ll l3 (oo (Om 15 0 v5) none fun l4=>(ll l4 none fun v6 l4=>(ll l4 none fun v7 l4=>(ll l4 none fun v8 l4=>(ll l4 (bb (MK v6 1 0) (bb (MK v7 2 0) (bb (MK v8 3 0) (oo (Bt (Ef b3)) none fun l5=>(ll l5 none fun v9 l5=>(ll l5 none fun v10 l5=>(ll l5 (oo (Bi .i64 v9) none fun x1=>(oo (Bj 2 v10) none fun s1=>(oo (Bt (Ef b4)) none fun l6=>(ll l6 none fun v11 l6=>(ll l6 (oo (KP 7 0 1 v11) none fun y0=>(oo (Bt (Ef b5)) none fun l7=>(ll l7 none fun v12 l7=>(ll l7 (oo (KP 8 0 1 v12) none fun y1=>(oo (Bt (Ef b6)) none fun q0=>(oo (Bt (Ef b7)) none fun q1=>(G5 pu n s0 x0 x1 s1 (NC.n y0) (NC.c y0) (NC.n y1) (NC.c y1) q0 q1)))) fun _ _=>none)))) fun _ _=>none))))) fun _ _=>none)))) none) none) none) fun _ _=>none))))) fun _ _=>none))) none) none) none) fun _ _=>none))))) fun _ _=>none)))) fun _ _=>none))) none) none) none))=some z:=hm
 replace hm:=Al hm;obtain⟨s0,rfl,hm⟩:=hm
 replace hm:=Ae hm;obtain⟨h0,hm⟩:=hm
 obtain rfl:=KR h0
 replace hm:=Ae hm;obtain⟨h1,hm⟩:=hm
 obtain rfl:=KR h1
 replace hm:=Ae hm;obtain⟨h2,hm⟩:=hm
 obtain rfl:=KR h2
 replace hm:=Ab hm;obtain⟨l0,h3,hm⟩:=hm
 obtain rfl:=I7 hp0 h3
 replace hm:=Ad hm;obtain⟨v0,l921_0,rfl,hm⟩:=hm
 replace hm:=AC hm;obtain⟨rfl,hm⟩:=hm
 replace hm:=Ai hm;obtain⟨x0,rfl,hm⟩:=hm
 replace hm:=Ab hm;obtain⟨l1,h4,hm⟩:=hm
 obtain rfl:=I7 hp1 h4
 replace hm:=Ad hm;obtain⟨v1,l926_0,rfl,hm⟩:=hm
 replace hm:=AC hm;obtain⟨rfl,hm⟩:=hm
 replace hm:=Ab hm;obtain⟨l2,h5,hm⟩:=hm
 obtain rfl:=Hu h5
 replace hm:=Ad hm;obtain⟨v2,l929_0,rfl,hm⟩:=hm
 replace hm:=Ad hm;obtain⟨v3,l929_1,rfl,hm⟩:=hm
 replace hm:=Ad hm;obtain⟨v4,l929_2,rfl,hm⟩:=hm
 replace hm:=AC hm;obtain⟨rfl,hm⟩:=hm
 replace hm:=Ae hm;obtain⟨h6,hm⟩:=hm
 obtain rfl:=KR h6
 replace hm:=Ae hm;obtain⟨h7,hm⟩:=hm
 obtain rfl:=KR h7
 replace hm:=Ae hm;obtain⟨h8,hm⟩:=hm
 obtain rfl:=KR h8
 replace hm:=Ab hm;obtain⟨l3,h9,hm⟩:=hm
 obtain rfl:=I7 hp2 h9
 replace hm:=Ad hm;obtain⟨v5,l937_0,rfl,hm⟩:=hm
 replace hm:=AC hm;obtain⟨rfl,hm⟩:=hm
 replace hm:=Ab hm;obtain⟨l4,h10,hm⟩:=hm
 obtain rfl:=Hu h10
 replace hm:=Ad hm;obtain⟨v6,l940_0,rfl,hm⟩:=hm
 replace hm:=Ad hm;obtain⟨v7,l940_1,rfl,hm⟩:=hm
 replace hm:=Ad hm;obtain⟨v8,l940_2,rfl,hm⟩:=hm
 replace hm:=AC hm;obtain⟨rfl,hm⟩:=hm
 replace hm:=Ae hm;obtain⟨h11,hm⟩:=hm
 obtain rfl:=KR h11
 replace hm:=Ae hm;obtain⟨h12,hm⟩:=hm
 obtain rfl:=KR h12
 replace hm:=Ae hm;obtain⟨h13,hm⟩:=hm
 obtain rfl:=KR h13
 replace hm:=Ab hm;obtain⟨l5,h14,hm⟩:=hm
 obtain rfl:=I7 hp3 h14
 replace hm:=Ad hm;obtain⟨v9,l948_0,rfl,hm⟩:=hm
 replace hm:=Ad hm;obtain⟨v10,l948_1,rfl,hm⟩:=hm
 replace hm:=AC hm;obtain⟨rfl,hm⟩:=hm
 replace hm:=Ai hm;obtain⟨x1,rfl,hm⟩:=hm
 replace hm:=Al hm;obtain⟨s1,rfl,hm⟩:=hm
 replace hm:=Ab hm;obtain⟨l6,h15,hm⟩:=hm
 obtain rfl:=I7 hp4 h15
 replace hm:=Ad hm;obtain⟨v11,l956_0,rfl,hm⟩:=hm
 replace hm:=AC hm;obtain⟨rfl,hm⟩:=hm
 replace hm:=Ab hm;obtain⟨y0,h16,hm⟩:=hm
 obtain rfl:=F5 h16
 replace hm:=Ab hm;obtain⟨l7,h17,hm⟩:=hm
 obtain rfl:=I7 hp5 h17
 replace hm:=Ad hm;obtain⟨v12,l961_0,rfl,hm⟩:=hm
 replace hm:=AC hm;obtain⟨rfl,hm⟩:=hm
 replace hm:=Ab hm;obtain⟨y1,h18,hm⟩:=hm
 obtain rfl:=F5 h18
 replace hm:=Ab hm;obtain⟨q0,h19,hm⟩:=hm
 obtain rfl:=I7 hp6 h19
 replace hm:=Ab hm;obtain⟨q1,h20,hm⟩:=hm
 obtain rfl:=I7 hp7 h20
 refine⟨by simp,?_⟩
 exact .same (F':=(fr 29 [(0,Sl.v 1 s0),(1,pt 1 0),(2,(pt 2 0)),(3,(pt 3 0))])) (H':=(hT 9 [(oC [zI x0]),(oC [(.func (.func 7) ⟨[]⟩ ⟨[(pt 4 0),(pt 5 0),(pt 6 0)]⟩)]),(oC [(.func (.func 15) ⟨[]⟩ ⟨[pt 1 0,(pt 2 0),(pt 3 0)]⟩)]),(oC [zI x1,(Sl.v 2 s1)]),(oC [(sc 7 0 1 (NC.n y0) (NC.c y0))]),(oC [(sc 8 0 1 (NC.n y1) (NC.c y1))]),oC q0,oC q1])) (by kernel_rfl) (by kernel_rfl) (Yz pu n s0 x0 x1 s1 (NC.n y0) (NC.c y0) (NC.n y1) (NC.c y1) q0 q1 hm)
end
end Go.TbRM
set_option maxRecDepth 100000
set_option maxHeartbeats 20000000
set_option linter.unusedVariables false
namespace Go.TbRM
open Go.Sp Go.TbR
noncomputable section
def FM (pu:Af) (n:Nat) (ih0:Sl→Int→Int→Int→Sl→Nat→Nat→Nat→Nat→LV→LV→OV) (s0:Sl) (z0 z1 z2:Int) (s1:Sl) (n0 c0 n1 c1:Nat) (q0:LV) (q1:LV):OV:=
 (bb (Au Ah q0) (bb (Au Ah q1) (bb (AY z1 z0) (oo (EA z1) none fun k1=>(bb (an (Nat.blt k1 (Sl.n s0)) true) (oo (AL (Sl.cs s0) (k1*1)) none fun v0=>(oo (Bi .i64 v0) none fun x0=>(bb (an (Nat.blt k1 n0) true) (oo (AL q0 (0+k1*1)) none fun v1=>(oo (Bi .i64 v1) none fun x1=>(bb (an (Nat.blt k1 n1) true) (oo (AL q1 (0+k1*1)) none fun v2=>(oo (Bi .i64 v2) none fun x2=>(bb (an (Nat.blt k1 n0) true) (bb (an (Nat.ble ((0+k1*1)+1) (len q0)) true) (bb (an (Nat.blt k1 n1) true) (bb (an (Nat.ble ((0+k1*1)+1) (len q1)) true) (bb (Au Ah (BM ([(.int .i64 (bb (AY x0 x1) x0 x1))]:LV) (0+k1*1) q0)) (bb (Au Ah (BM ([(.int .i64 (bb (AY x2 x0) x0 x2))]:LV) (0+k1*1) q1)) (ih0 s0 z0 (Aj .i64 (Int.add (Int.ofNat k1) (1:Int))) z2 s1 n0 c0 n1 c1 (BM ([(.int .i64 (bb (AY x0 x1) x0 x1))]:LV) (0+k1*1) q0) (BM ([(.int .i64 (bb (AY x2 x0) x0 x2))]:LV) (0+k1*1) q1)) none) none) none) none) none) none))) none))) none))) none)) (some (.tuple ⟨[(.tuple ⟨[]⟩),(.agg ⟨[.int .i64 z2,(Sl.v 2 s1)]⟩),(.agg ⟨[(.slice (some ⟨4,0,some 1⟩) n0 c0)]⟩),(.agg ⟨[(.slice (some ⟨5,0,some 1⟩) n1 c1)]⟩),(.agg ⟨q0⟩),(.agg ⟨q1⟩)]⟩))) none) none)
def Gn (pu:Af) (n w:Nat):Sl→Int→Int→Int→Sl→Nat→Nat→Nat→Nat→LV→LV→OV:=
 Nat.rec (motive:=fun _=>Sl→Int→Int→Int→Sl→Nat→Nat→Nat→Nat→LV→LV→OV) (fun _ _ _ _ _ _ _ _ _ _ _=>none) (fun _ ih0=>FM pu n ih0) w
def Iy (pu:Af) (n:Nat) (s0:Sl) (z0:Int) (s1:Sl) (n0 c0 n1 c1:Nat) (q0:LV) (q1:LV):OV:=
 (oo (pu 8 [(.agg ⟨[.int .i64 z0,(Sl.v 2 s1)]⟩),Sl.v 1 s0,(.int .i64 (-1:Int))]) none fun v0=>(oo (CQ v0) none fun l0=>(ll l0 none fun v1 l0=>(ll l0 none fun v2 l0=>(ll l0 (oo (Bj 1 v1) none fun s2=>(oo (Bj 1 v2) none fun s3=>(bb (Au Ah q0) (bb (Au Ah q1) (Gn pu n n s2 (Int.ofNat (Sl.n s2)) (0:Int) z0 s1 n0 c0 n1 c1 q0 q1) none) none))) fun _ _=>none)))))
def LM (pu:Af) (n:Nat) (args:LV):OV:=
 (ll args none fun a0 args=>(ll args none fun a1 args=>(ll args none fun a2 args=>(ll args none fun a3 args=>(ll args none fun o0 args=>(ll args none fun o1 args=>(ll args none fun o2 args=>(ll args none fun o3 args=>(ll args none fun o4 args=>(ll args (oo (Bj 1 a0) none fun s0=>(bb (MK a1 1 0) (bb (MK a2 2 0) (bb (MK a3 3 0) (oo (Bt o0) none fun l0=>(ll l0 none fun v0 l0=>(ll l0 none fun v1 l0=>(ll l0 (oo (Bi .i64 v0) none fun x0=>(oo (Bj 2 v1) none fun s1=>(oo (Bt o1) none fun l1=>(ll l1 none fun v2 l1=>(ll l1 (oo (KP 4 0 1 v2) none fun y0=>(oo (Bt o2) none fun l2=>(ll l2 none fun v3 l2=>(ll l2 (oo (KP 5 0 1 v3) none fun y1=>(oo (Bt o3) none fun q0=>(oo (Bt o4) none fun q1=>(Iy pu n s0 x0 s1 (NC.n y0) (NC.c y0) (NC.n y1) (NC.c y1) q0 q1)))) fun _ _=>none)))) fun _ _=>none))))) fun _ _=>none)))) none) none) none)) fun _ _=>none))))))))))
theorem YB (pu:Af) (n:Nat) (s0:Sl) (z0:Int) (s1:Sl) (n0 c0 n1 c1:Nat) (q0:LV) (q1:LV) {v:Value} (hm:Iy pu n s0 z0 s1 n0 c0 n1 c1 q0 q1=some v):BN tt (Bb tabs Fb pu (inl pu)) 6 OJ (fr 41 [(0,Sl.v 1 s0),(1,pt 1 0),(2,(pt 2 0)),(3,(pt 3 0))]) (hT 6 [(oC [zI z0,(Sl.v 2 s1)]),(oC [sc 4 0 1 n0 c0]),(oC [sc 5 0 1 n1 c1]),oC q0,oC q1]) (FJ tt 1 5 [] v):=by
 unfold Iy at hm
 refine .then ?_
 replace hm:=Ab hm;obtain⟨v0,h0,hm⟩:=hm
 replace hm:=Ch hm;obtain⟨l0,rfl,hm⟩:=hm
 replace hm:=Ad hm;obtain⟨v1,l138_0,rfl,hm⟩:=hm
 replace hm:=Ad hm;obtain⟨v2,l138_1,rfl,hm⟩:=hm
 replace hm:=AC hm;obtain⟨rfl,hm⟩:=hm
 replace hm:=Al hm;obtain⟨s2,rfl,hm⟩:=hm
 replace hm:=Al hm;obtain⟨s3,rfl,hm⟩:=hm
 refine .reg (eC 2 ((oo (pu 8 [(.agg ⟨[zI z0,(Sl.v 2 s1)]⟩),Sl.v 1 s0,(zI (-1:Int))]) none fun v=>some (v,(hT 6 [(oC [zI z0,(Sl.v 2 s1)]),(oC [sc 4 0 1 n0 c0]),(oC [sc 5 0 1 n1 c1]),oC q0,oC q1])))) (AB h0) (eE)) ?_
 replace hm:=Ae hm;obtain⟨h1,hm⟩:=hm
 replace hm:=Ae hm;obtain⟨h2,hm⟩:=hm
 refine .ghs (fr 41 [(2,(pt 2 0)),(3,(pt 3 0)),(5,Sl.v 1 s2)]) (hT 6 [(oC [zI z0,(Sl.v 2 s1)]),(oC [sc 4 0 1 n0 c0]),(oC [sc 5 0 1 n1 c1]),oC q0,oC q1]) (.k [4,5] [false,false,true,true,false,false] [] [2,3,5] ⟨Bp h1,Bp h2,trivial⟩) ?_
 refine .then (.rK (.ghs (fr 41 [(2,(pt 2 0)),(3,(pt 3 0)),(15,Sl.v 1 s2),(16,(zI (Int.ofNat (Sl.n s2)))),(17,(zI (0:Int)))]) (hT 6 [(oC [zI z0,(Sl.v 2 s1)]),(oC [sc 4 0 1 n0 c0]),(oC [sc 5 0 1 n1 c1]),oC q0,oC q1]) (.k [4,5] [false,false,true,true,false,false] [] [2,3,15,16,17] ⟨Bp h1,Bp h2,trivial⟩) ?_))
 refine .block (.loopM (v:=v) (fun y:Sl×Int×Int×Int×Sl×Nat×Nat×Nat×Nat×LV×LV=>((fr 41 [(2,(pt 2 0)),(3,(pt 3 0)),(15,(Sl.v 1 y.1)),(16,(zI y.2.1)),(17,(zI y.2.2.1))]),(hT 6 [(oC [(zI y.2.2.2.1),(Sl.v 2 y.2.2.2.2.1)]),(oC [(sc 4 0 1 y.2.2.2.2.2.1 y.2.2.2.2.2.2.1)]),(oC [(sc 5 0 1 y.2.2.2.2.2.2.2.1 y.2.2.2.2.2.2.2.2.1)]),(oC y.2.2.2.2.2.2.2.2.2.1),(oC y.2.2.2.2.2.2.2.2.2.2)]))) (fun w y=>Gn pu n w y.1 y.2.1 y.2.2.1 y.2.2.2.1 y.2.2.2.2.1 y.2.2.2.2.2.1 y.2.2.2.2.2.2.1 y.2.2.2.2.2.2.2.1 y.2.2.2.2.2.2.2.2.1 y.2.2.2.2.2.2.2.2.2.1 y.2.2.2.2.2.2.2.2.2.2) n ⟨(s2,(Int.ofNat (Sl.n s2)),(0:Int),z0,s1,n0,c0,n1,c1,q0,q1),hm,(.k [4,5] [false,false,true,true,false,false] [] [2,3,15,16,17] ⟨Bp h1,Bp h2,trivial⟩)⟩ (fun _=>rfl) ?_)
 rintro w0 ⟨s4,z1,z2,z3,s5,n2,c2,n3,c4,q2,q3⟩ hm
 replace hm:FM pu n (Gn pu n w0) s4 z1 z2 z3 s5 n2 c2 n3 c4 q2 q3=some v:=hm
 unfold FM at hm
 refine .then (.rK ?_)
 replace hm:=Ae hm;obtain⟨h3,hm⟩:=hm
 replace hm:=Ae hm;obtain⟨h4,hm⟩:=hm
 refine .ghs (fr 41 [(2,(pt 2 0)),(3,(pt 3 0)),(15,Sl.v 1 s4),(16,zI z1),(17,zI z2),(18,(zB (AY z2 z1)))]) (hT 6 [(oC [zI z3,(Sl.v 2 s5)]),(oC [sc 4 0 1 n2 c2]),(oC [sc 5 0 1 n3 c4]),oC q2,oC q3]) (.k [4,5] [false,false,true,true,false,false] [] [2,3,15,16,17,18] ⟨Bp h3,Bp h4,trivial⟩) ?_
 refine .then ?_
 replace hm:=Ag hm;rcases hm with⟨h5,hm⟩ | ⟨h5,hm⟩
 ·refine DL (AY z2 z1) h5 ?_
  refine .skip (.ghs (fr 41 [(2,(pt 2 0)),(3,(pt 3 0)),(15,Sl.v 1 s4),(16,zI z1),(17,zI z2)]) (hT 6 [(oC [zI z3,(Sl.v 2 s5)]),(oC [sc 4 0 1 n2 c2]),(oC [sc 5 0 1 n3 c4]),oC q2,oC q3]) (.k [4,5] [false,false,true,true,false,false] [] [2,3,15,16,17] ⟨Bp h3,Bp h4,trivial⟩) ?_)
  refine .then (.block (.then ?_))
  replace hm:=Ab hm;obtain⟨k1,h6,hm⟩:=hm
  obtain rfl:=AR h6
  replace hm:=Ae hm;obtain⟨h7,hm⟩:=hm
  replace hm:=IV hm;obtain⟨x0,h8,hm⟩:=hm
  refine .reg (eC 1 (keep (hT 6 [(oC [zI z3,(Sl.v 2 s5)]),(oC [sc 4 0 1 n2 c2]),(oC [sc 5 0 1 n3 c4]),oC q2,oC q3]) (bb (an (Nat.blt k1 (Sl.n s4)) true) (some (Cv (k1*1) (Sl.cs s4))) none)) (AX h7) (eD (keep (hT 6 [(oC [zI z3,(Sl.v 2 s5)]),(oC [sc 4 0 1 n2 c2]),(oC [sc 5 0 1 n3 c4]),oC q2,oC q3]) (AL (Sl.cs s4) (k1*1))) (AZ h8) (eE))) ?_
  refine .ghs (fr 41 [(2,(pt 2 0)),(3,(pt 3 0)),(7,(zI (Int.ofNat k1))),(8,zI x0),(15,Sl.v 1 s4),(16,zI z1),(17,(zI (Int.ofNat k1)))]) (hT 6 [(oC [zI z3,(Sl.v 2 s5)]),(oC [sc 4 0 1 n2 c2]),(oC [sc 5 0 1 n3 c4]),oC q2,oC q3]) (.k [4,5] [false,false,true,true,false,false] [] [2,3,7,8,15,16,17] ⟨Bp h3,Bp h4,trivial⟩) ?_
  replace hm:=Ae hm;obtain⟨h9,hm⟩:=hm
  replace hm:=IV hm;obtain⟨x1,h10,hm⟩:=hm
  replace hm:=Ae hm;obtain⟨h11,hm⟩:=hm
  replace hm:=IV hm;obtain⟨x2,h12,hm⟩:=hm
  replace hm:=Ae hm;obtain⟨h13,hm⟩:=hm
  replace hm:=Ae hm;obtain⟨h14,hm⟩:=hm
  replace hm:=Ae hm;obtain⟨h15,hm⟩:=hm
  replace hm:=Ae hm;obtain⟨h16,hm⟩:=hm
  refine .reg (eN 13 (Fr.puts (fr 41 [(2,(pt 2 0)),(3,(pt 3 0)),(7,(zI (Int.ofNat k1))),(8,zI x0),(15,Sl.v 1 s4),(16,zI z1),(17,(zI (Int.ofNat k1)))]) [(22,sc 4 0 1 n2 c2),(23,(zI (Int.ofNat k1))),(24,sc 5 0 1 n3 c4),(25,(zI (Int.ofNat k1))),(26,sc 4 0 1 n2 c2),(27,(zI (Int.ofNat k1))),(28,(.pointer (some ⟨4,(0+k1*1),none⟩))),(29,zI x1),(30,zI x0),(31,(zI (bb (AY x0 x1) x0 x1))),(32,sc 5 0 1 n3 c4),(33,(zI (Int.ofNat k1))),(34,(.pointer (some ⟨5,(0+k1*1),none⟩)))]) (hT 6 [(oC [zI z3,(Sl.v 2 s5)]),(oC [sc 4 0 1 n2 c2]),(oC [sc 5 0 1 n3 c4]),oC q2,oC q3]) (eC 6 (keep (hT 6 [(oC [zI z3,(Sl.v 2 s5)]),(oC [sc 4 0 1 n2 c2]),(oC [sc 5 0 1 n3 c4]),oC q2,oC q3]) (bb (an (Nat.blt k1 n2) true) (some (.pointer (some ⟨4,(0+k1*1),none⟩))) none)) (AX h9) (eD (keep (hT 6 [(oC [zI z3,(Sl.v 2 s5)]),(oC [sc 4 0 1 n2 c2]),(oC [sc 5 0 1 n3 c4]),oC q2,oC q3]) (AL q2 (0+k1*1))) (AZ h10) (eC 4 (keep (hT 6 [(oC [zI z3,(Sl.v 2 s5)]),(oC [sc 4 0 1 n2 c2]),(oC [sc 5 0 1 n3 c4]),oC q2,oC q3]) (bb (an (Nat.blt k1 n3) true) (some (.pointer (some ⟨5,(0+k1*1),none⟩))) none)) (AX h11) (by kernel_rfl)))) (eD (keep (hT 6 [(oC [zI z3,(Sl.v 2 s5)]),(oC [sc 4 0 1 n2 c2]),(oC [sc 5 0 1 n3 c4]),oC q2,oC q3]) (AL q3 (0+k1*1))) (AZ h12) (eC 2 (keep (hT 6 [(oC [zI z3,(Sl.v 2 s5)]),(oC [sc 4 0 1 n2 c2]),(oC [sc 5 0 1 n3 c4]),oC q2,oC q3]) (bb (an (Nat.blt k1 n2) true) (some (.pointer (some ⟨4,(0+k1*1),none⟩))) none)) (AX h13) (eD (done (bb (an (Nat.ble ((0+k1*1)+1) (len q2)) true) (some (hT 6 [(oC [zI z3,(Sl.v 2 s5)]),(oC [sc 4 0 1 n2 c2]),(oC [sc 5 0 1 n3 c4]),(oC (BM ([(zI (bb (AY x0 x1) x0 x1))]:LV) (0+k1*1) q2)),oC q3])) none) undef) (Js h14) (eD (keep (hT 6 [(oC [zI z3,(Sl.v 2 s5)]),(oC [sc 4 0 1 n2 c2]),(oC [sc 5 0 1 n3 c4]),(oC (BM ([(zI (bb (AY x0 x1) x0 x1))]:LV) (0+k1*1) q2)),oC q3]) (bb (an (Nat.blt k1 n3) true) (some (.pointer (some ⟨5,(0+k1*1),none⟩))) none)) (AX h15) (eD (done (bb (an (Nat.ble ((0+k1*1)+1) (len q3)) true) (some (hT 6 [(oC [zI z3,(Sl.v 2 s5)]),(oC [sc 4 0 1 n2 c2]),(oC [sc 5 0 1 n3 c4]),(oC (BM ([(zI (bb (AY x0 x1) x0 x1))]:LV) (0+k1*1) q2)),(oC (BM ([(zI (bb (AY x2 x0) x0 x2))]:LV) (0+k1*1) q3))])) none) undef) (Js h16) (eE))))))) ?_
  replace hm:=Ae hm;obtain⟨h17,hm⟩:=hm
  replace hm:=Ae hm;obtain⟨h18,hm⟩:=hm
  refine .ghs (fr 41 [(2,(pt 2 0)),(3,(pt 3 0)),(15,Sl.v 1 s4),(16,zI z1),(17,(zI (Int.ofNat k1)))]) (hT 6 [(oC [zI z3,(Sl.v 2 s5)]),(oC [sc 4 0 1 n2 c2]),(oC [sc 5 0 1 n3 c4]),(oC (BM ([(zI (bb (AY x0 x1) x0 x1))]:LV) (0+k1*1) q2)),(oC (BM ([(zI (bb (AY x2 x0) x0 x2))]:LV) (0+k1*1) q3))]) (.k [4,5] [false,false,true,true,false,false] [] [2,3,15,16,17] ⟨Bp h17,Bp h18,trivial⟩) ?_
  refine .rK ?_
  exact⟨(s4,z1,(Aj .i64 (Int.add (Int.ofNat k1) (1:Int))),z3,s5,n2,c2,n3,c4,(BM ([(zI (bb (AY x0 x1) x0 x1))]:LV) (0+k1*1) q2),(BM ([(zI (bb (AY x2 x0) x0 x2))]:LV) (0+k1*1) q3)),hm,(.k [4,5] [false,false,true,true,false,false] [] [2,3,15,16,17] ⟨Bp h17,Bp h18,trivial⟩)⟩
 ·refine DT (AY z2 z1) h5 ?_
  refine .exit ?_
  refine .ghs (fr 41 []) (hT 6 [(oC [zI z3,(Sl.v 2 s5)]),(oC [sc 4 0 1 n2 c2]),(oC [sc 5 0 1 n3 c4]),oC q2,oC q3]) (.k [4,5] [false,false,true,true,false,false] [] [] ⟨Bp h3,Bp h4,trivial⟩) ?_
  exact TU (.tuple ⟨[]⟩) [(oC [zI z3,(Sl.v 2 s5)]),(oC [sc 4 0 1 n2 c2]),(oC [sc 5 0 1 n3 c4]),oC q2,oC q3] (by kernel_rfl) hm (Nat.le_of_ble_eq_true rfl) (Fa (VT _) (Fa (VT _) (Fa (VT _) (Fa (VT _) (Fa (VT _) EJ)))))
theorem YC {call:A8} (pu:Af) (n:Nat) (hcall:call=Bb tabs Fb pu (inl pu)) {args:LV} {os:List AJ} {z:Value} (ha:args.length=4) (hk:os.length=5) (hpl:∀ o∈os,plainO o) (hm:LM pu n (args++os.map Ef)=some z):args.length≤41∧BN tt call (tabs.length+5) OJ (Fr.made 41 args) (BK tabs os) (FJ tt tabs.length 5 [] z):=by
 subst hcall
 have hq:=BC ha;clear ha;obtain⟨a0,args,rfl,ha⟩:=hq
 have hq:=BC ha;clear ha;obtain⟨a1,args,rfl,ha⟩:=hq
 have hq:=BC ha;clear ha;obtain⟨a2,args,rfl,ha⟩:=hq
 have hq:=BC ha;clear ha;obtain⟨a3,args,rfl,ha⟩:=hq
 obtain rfl:=len_nil ha
 have hq:=BC hk;clear hk;obtain⟨b0,os,rfl,hk⟩:=hq
 have hp0:plainO b0:=hpl b0 (by simp)
 have hq:=BC hk;clear hk;obtain⟨b1,os,rfl,hk⟩:=hq
 have hp1:plainO b1:=hpl b1 (by simp)
 have hq:=BC hk;clear hk;obtain⟨b2,os,rfl,hk⟩:=hq
 have hp2:plainO b2:=hpl b2 (by simp)
 have hq:=BC hk;clear hk;obtain⟨b3,os,rfl,hk⟩:=hq
 have hp3:plainO b3:=hpl b3 (by simp)
 have hq:=BC hk;clear hk;obtain⟨b4,os,rfl,hk⟩:=hq
 have hp4:plainO b4:=hpl b4 (by simp)
 obtain rfl:=len_nil hk
 replace hm:LM pu n [a0,a1,a2,a3,Ef b0,Ef b1,Ef b2,Ef b3,Ef b4]=some z:=hm
 unfold LM at hm
 replace hm:(oo (Bj 1 a0) none fun s0=>(bb (MK a1 1 0) (bb (MK a2 2 0) (bb (MK a3 3 0) (oo (Bt (Ef b0)) none fun l0=>(ll l0 none fun v0 l0=>(ll l0 none fun v1 l0=>(ll l0 (oo (Bi .i64 v0) none fun x0=>(oo (Bj 2 v1) none fun s1=>(oo (Bt (Ef b1)) none fun l1=>(ll l1 none fun v2 l1=>(ll l1 (oo (KP 4 0 1 v2) none fun y0=>(oo (Bt (Ef b2)) none fun l2=>(ll l2 none fun v3 l2=>(ll l2 (oo (KP 5 0 1 v3) none fun y1=>(oo (Bt (Ef b3)) none fun q0=>(oo (Bt (Ef b4)) none fun q1=>(Iy pu n s0 x0 s1 (NC.n y0) (NC.c y0) (NC.n y1) (NC.c y1) q0 q1)))) fun _ _=>none)))) fun _ _=>none))))) fun _ _=>none)))) none) none) none))=some z:=hm
 replace hm:=Al hm;obtain⟨s0,rfl,hm⟩:=hm
 replace hm:=Ae hm;obtain⟨h0,hm⟩:=hm
 obtain rfl:=KR h0
 replace hm:=Ae hm;obtain⟨h1,hm⟩:=hm
 obtain rfl:=KR h1
 replace hm:=Ae hm;obtain⟨h2,hm⟩:=hm
 obtain rfl:=KR h2
 replace hm:=Ab hm;obtain⟨l0,h3,hm⟩:=hm
 obtain rfl:=I7 hp0 h3
 replace hm:=Ad hm;obtain⟨v0,l219_0,rfl,hm⟩:=hm
 replace hm:=Ad hm;obtain⟨v1,l219_1,rfl,hm⟩:=hm
 replace hm:=AC hm;obtain⟨rfl,hm⟩:=hm
 replace hm:=Ai hm;obtain⟨x0,rfl,hm⟩:=hm
 replace hm:=Al hm;obtain⟨s1,rfl,hm⟩:=hm
 replace hm:=Ab hm;obtain⟨l1,h4,hm⟩:=hm
 obtain rfl:=I7 hp1 h4
 replace hm:=Ad hm;obtain⟨v2,l227_0,rfl,hm⟩:=hm
 replace hm:=AC hm;obtain⟨rfl,hm⟩:=hm
 replace hm:=Ab hm;obtain⟨y0,h5,hm⟩:=hm
 obtain rfl:=F5 h5
 replace hm:=Ab hm;obtain⟨l2,h6,hm⟩:=hm
 obtain rfl:=I7 hp2 h6
 replace hm:=Ad hm;obtain⟨v3,l232_0,rfl,hm⟩:=hm
 replace hm:=AC hm;obtain⟨rfl,hm⟩:=hm
 replace hm:=Ab hm;obtain⟨y1,h7,hm⟩:=hm
 obtain rfl:=F5 h7
 replace hm:=Ab hm;obtain⟨q0,h8,hm⟩:=hm
 obtain rfl:=I7 hp3 h8
 replace hm:=Ab hm;obtain⟨q1,h9,hm⟩:=hm
 obtain rfl:=I7 hp4 h9
 refine⟨by simp,?_⟩
 exact .same (F':=(fr 41 [(0,Sl.v 1 s0),(1,pt 1 0),(2,(pt 2 0)),(3,(pt 3 0))])) (H':=(hT 6 [(oC [zI x0,(Sl.v 2 s1)]),(oC [(sc 4 0 1 (NC.n y0) (NC.c y0))]),(oC [(sc 5 0 1 (NC.n y1) (NC.c y1))]),oC q0,oC q1])) (by kernel_rfl) (by kernel_rfl) (YB pu n s0 x0 s1 (NC.n y0) (NC.c y0) (NC.n y1) (NC.c y1) q0 q1 hm)
end
end Go.TbRM
set_option maxRecDepth 100000
namespace Go.TbRM
open Go.Sp Go.TbR
noncomputable section
def L:Nat:=1000000
def Sn (pu:Af):Af:=fun g args=>
 bb (Nat.beq g 3) (m3 pu L args) (bb (Nat.beq g 5) (m5 pu L args) (bb (Nat.beq g 8) (m8 pu L args) (bb (Nat.beq g 9) (m9 pu L args) (bb (Nat.beq g 10) (tZ pu L args) (bb (Nat.beq g 13) (uA pu L args) (bb (Nat.beq g 16) (uB pu L args) (bb (Nat.beq g 17) (uC pu L args) (bb (Nat.beq g 19) (uD pu L args) (bb (Nat.beq g 20) (uE pu L args) (bb (Nat.beq g 21) (uF pu L args) (bb (Nat.beq g 22) (uG pu L args) (bb (Nat.beq g 39) (uH pu L args) (bb (Nat.beq g 40) (uI pu L args) (bb (Nat.beq g 42) (uJ pu L args) (bb (Nat.beq g 43) (uK pu L args) (bb (Nat.beq g 44) (uL pu L args) (bb (Nat.beq g 45) (uM pu L args) (bb (Nat.beq g 46) (uN pu L args) (bb (Nat.beq g 47) (uO pu L args) (bb (Nat.beq g 51) (uP pu L args) (bb (Nat.beq g 53) (uQ pu L args) (bb (Nat.beq g 10060) (LJ pu L args) (bb (Nat.beq g 10150) (LK pu L args) (bb (Nat.beq g 10070) (LM pu L args) (bb (Nat.beq g 11) (ll args (some (.bool true)) fun _ _=>none) (none))))))))))))))))))))))))))
def BI:Nat→Af:=fun n=>Nat.rec (motive:=fun _=>Af) (fun _ _=>none) (fun _ ih=>Sn ih) n
end
end Go.TbRM
