/- Made from wip. -/
import Derived.Test.YtokbaaeimejjlaaGreatDoorBkUInlx

set_option maxRecDepth 100000
set_option maxHeartbeats 20000000
set_option linter.unusedVariables false
namespace Go.BkUM
open Go.Sp Go.BkU
noncomputable section
def VV:List Value:=[.int .u8 0,.int .u8 1,.int .u8 28,.int .u8 2,.int .u8 29,.int .u8 14,.int .u8 24,.int .u8 3,.int .u8 30,.int .u8 22,.int .u8 20,.int .u8 15,.int .u8 25,.int .u8 17,.int .u8 4,.int .u8 8,.int .u8 31,.int .u8 27,.int .u8 13,.int .u8 23,.int .u8 21,.int .u8 19,.int .u8 16,.int .u8 7,.int .u8 26,.int .u8 12,.int .u8 18,.int .u8 6,.int .u8 11,.int .u8 5,.int .u8 10,.int .u8 9]
def tabs:List (List Value):=[VV]
theorem Ay {tt:TT} {n0:Nat} {rs:List ResultVar} {v:Value} {F:Fr} {H:Aa} (r:Value) (hm:some r=some v) (h:DV tt F H rs=some r:=by kernel_rfl) (hc:Fe r=true:=by kernel_rfl):Fin tt n0 rs v .ret F H:=kI r h hc hm
theorem oI {α:Type} {k:IntKind} {o:Option Value} {s:Int→Option α} {w:α} (h:oo o none (fun v=>oo (Bi k v) none s)=some w):∃ x,o=some (.int k x)∧s x=some w:=by
 obtain⟨v,h1,h2⟩:=Ab h
 obtain⟨x,hx,h3⟩:=Ai h2
 subst hx
 exact⟨x,h1,h3⟩
theorem oS {α:Type} {k:Nat} {o:Option Value} {s:Sl→Option α} {w:α} (h:oo o none (fun v=>oo (Bj k v) none s)=some w):∃ x,o=some (Sl.v k x)∧s x=some w:=by
 obtain⟨v,h1,h2⟩:=Ab h
 obtain⟨x,hx,h3⟩:=Al h2
 subst hx
 exact⟨x,h1,h3⟩
theorem oB {α:Type} {o:Option Value} {s:Bool→Option α} {w:α} (h:oo o none (fun v=>oo (Bf v) none s)=some w):∃ x,o=some (.bool x)∧s x=some w:=by
 obtain⟨v,h1,h2⟩:=Ab h
 obtain⟨x,hx,h3⟩:=Be h2
 subst hx
 exact⟨x,h1,h3⟩
theorem Bq {tt:TT} {call:A8} {n0:Nat} {c:Operand} {a b:RC} {F:Fr} {H:Aa} {Q:Ex→Fr→Aa→Prop} (e:Bool) (hb:e=true) (h:BN tt call n0 a F H Q) (he:Bf (F.eval c)=some e:=by kernel_rfl):BN tt call n0 (.cond c a b) F H Q:=.ifT e he hb h
theorem BB {tt:TT} {call:A8} {n0:Nat} {c:Operand} {a b:RC} {F:Fr} {H:Aa} {Q:Ex→Fr→Aa→Prop} (e:Bool) (hb:e=false) (h:BN tt call n0 b F H Q) (he:Bf (F.eval c)=some e:=by kernel_rfl):BN tt call n0 (.cond c a b) F H Q:=.ifF e he hb h
abbrev Ap:Aa:=hp 1 [oT VV]
abbrev hT (n:Nat) (l:List AJ):Aa:=hp n (oT VV::l)
theorem BI {a b:Bool} (h:b=true) (e:a=b:=by kernel_rfl):a=true:=e.trans h
abbrev OV:=Option Value
abbrev LV:=List Value
def TY:List Nat:=[5,10,23,24,25,26,27,28,34,36,44,45,47,49,50,55,56,57,58,59,60,61,62,63,75,76,77,80,81,84,91,92,93]
def isP:FuncId→Bool:=fun g=>ED g TY
def inl (pu:Af):A8:=fun g args H=>bb (Nat.beq g 98) (Hr tabs 1 (pu 98) args H) (bb (Nat.beq g 43) (Hr tabs 1 (pu 43) args H) (bb (Nat.beq g 9) (Gn tabs [[none,none,none,some 1],[some 1],[some 1]] 3 [] [] (pu 10090) args H) (bb (Nat.beq g 64) (Gn tabs [[some 1],[none]] 2 [.tmp 1 false] [false] (pu 10640) args H) (bb (Nat.beq g 48) (bb (an (oo (AL args 1) false (fun v=>isS (IA v))) true) (Gn tabs [[none,none,none,some 1],[none],[none]] 3 [.tmp 1 false] [false] (pu 10480) args H) (Gn tabs [[none,none,none,some 1],[some 1],[none]] 3 [] [] (pu 10481) args H)) (bb (Nat.beq g 85) (Gn tabs [[none],[none],[none],[none],[none],[none]] 6 [.tmp 3 false,.tmp 4 false,.tmp 5 true] [false,false,true] (pu 10850) args H) (none))))))
def Sg:LV:=[(.int .i64 (0:Int)),(.int .i64 (0:Int)),(.int .i64 (0:Int)),(.int .i64 (0:Int)),(.int .i64 (0:Int)),(.int .i64 (0:Int)),(.int .i64 (0:Int)),(.int .i64 (0:Int)),(.int .i64 (0:Int)),(.int .i64 (0:Int)),(.int .i64 (0:Int)),(.int .i64 (0:Int)),(.int .i64 (0:Int)),(.int .i64 (0:Int)),(.int .i64 (0:Int)),(.int .i64 (0:Int)),(.int .i64 (0:Int))]
end
end Go.BkUM
set_option maxRecDepth 100000
set_option maxHeartbeats 20000000
set_option linter.unusedVariables false
namespace Go.BkUM
open Go.Sp Go.BkU
noncomputable section
def Pq (pu:Af) (n:Nat) (b0:Bool):OV:=
 (some (.bool b0))
def m5_ (pu:Af) (n:Nat) (x7 x9 x11:Int) (s13:Sl) (x15:Int) (s17:Sl):OV:=
 (oo (pu 10090 [(.agg ⟨[.int .i64 x7,.int .i64 x9,.int .i64 x11,Sl.v 1 s13]⟩),Sl.v 1 s17,(Sl.v 1 (Sl.mk 0 2 []))]) none fun v70=>(oo (CQ v70) none fun l72=>(ll l72 none fun v74 l72=>(ll l72 (oo (Bf v74) none fun mH=>(bb mH (oo (pu 10 []) none fun v82=>(oo (Bf v82) none fun b84=>(some (.bool b84)))) (oo (pu 23 [(.agg ⟨[.int .i64 x7,.int .i64 x9,.int .i64 x11,Sl.v 1 s13]⟩),.int .i64 x15]) none fun v96=>(oo (CQ v96) none fun l98=>(ll l98 none fun v0 l98=>(ll l98 none fun v1 l98=>(ll l98 (oo (Bi .i64 v0) none fun x0=>(oo (Bi .i64 v1) none fun x1=>(oo (pu 24 [(.agg ⟨[.int .i64 x7,.int .i64 x9,.int .i64 x11,Sl.v 1 s13]⟩),.int .i64 x15]) none fun v2=>(oo (CQ v2) none fun l0=>(ll l0 none fun v3 l0=>(ll l0 none fun v4 l0=>(ll l0 (oo (Bi .i64 v3) none fun x2=>(oo (Bi .i64 v4) none fun x3=>(oo (pu 25 [(.agg ⟨[.int .i64 x7,.int .i64 x9,.int .i64 x11,Sl.v 1 s13]⟩)]) none fun v5=>(oo (CQ v5) none fun l1=>(ll l1 none fun v6 l1=>(ll l1 none fun v7 l1=>(ll l1 (oo (Bi .i64 v6) none fun x4=>(oo (Bi .i64 v7) none fun x5=>(oo (pu 26 [(.agg ⟨[.int .i64 x7,.int .i64 x9,.int .i64 x11,Sl.v 1 s13]⟩)]) none fun v8=>(oo (CQ v8) none fun l2=>(ll l2 none fun v9 l2=>(ll l2 none fun v10 l2=>(ll l2 (oo (Bi .i64 v9) none fun x6=>(oo (Bi .i64 v10) none fun x8=>(oo (pu 27 [(.agg ⟨[.int .i64 x7,.int .i64 x9,.int .i64 x11,Sl.v 1 s13]⟩),Sl.v 1 s17]) none fun v11=>(oo (CQ v11) none fun l3=>(ll l3 none fun v12 l3=>(ll l3 none fun v13 l3=>(ll l3 (oo (Bi .i64 v12) none fun x10=>(oo (Bi .i64 v13) none fun x12=>(oo (pu 28 [(.agg ⟨[.int .i64 x7,.int .i64 x9,.int .i64 x11,Sl.v 1 s13]⟩),Sl.v 1 s17]) none fun v14=>(oo (CQ v14) none fun l4=>(ll l4 none fun v15 l4=>(ll l4 none fun v16 l4=>(ll l4 (oo (Bi .i64 v15) none fun x13=>(oo (Bi .i64 v16) none fun x14=>(bb (Bd x0 x2) (bb (Bd x1 x3) (bb (Bd x4 x6) (bb (Bd x5 x8) (bb (Bd x10 x13) (bb (Bd x12 x14) (oo (pu 10 []) none fun v17=>(oo (Bf v17) none fun b0=>(Pq pu n b0))) (Pq pu n false)) (Pq pu n false)) (Pq pu n false)) (Pq pu n false)) (Pq pu n false)) (Pq pu n false)))) fun _ _=>none))))))) fun _ _=>none))))))) fun _ _=>none))))))) fun _ _=>none))))))) fun _ _=>none))))))) fun _ _=>none))))))) fun _ _=>none))))
def m5 (pu:Af) (n:Nat) (args:LV):OV:=
 (ll args none fun a0 args=>(ll args none fun a1 args=>(ll args none fun a2 args=>(ll args (oo (Bt a0) none fun l1=>(ll l1 none fun v3 l1=>(ll l1 none fun v4 l1=>(ll l1 none fun v5 l1=>(ll l1 none fun v6 l1=>(ll l1 (oo (Bi .i64 v3) none fun x7=>(oo (Bi .i64 v4) none fun x9=>(oo (Bi .i64 v5) none fun x11=>(oo (Bj 1 v6) none fun s13=>(oo (Bi .i64 a1) none fun x15=>(oo (Bj 1 a2) none fun s17=>(m5_ pu n x7 x9 x11 s13 x15 s17))))))) fun _ _=>none)))))) fun _ _=>none))))
theorem AjB (pu:Af) (n:Nat) (b0:Bool) {v:Value} (hm:Pq pu n b0=some v):BN tt (Bb tabs isP pu (inl pu)) 1 .ret (fr 90 [(6,zB b0)]) Ap (Fin tt 1 [.tmp 6] v):=by
 unfold Pq at hm
 refine .ret ?_
 exact Ay (zB b0) hm
theorem r5 {call:A8} (pu:Af) (n:Nat) (hcall:call=Bb tabs isP pu (inl pu)) {args:LV} {v:Value} (hm:m5 pu n args=some v) (_:∀ x∈args,closed2 x=true):args.length≤90∧BN tt call 1 Xa (Fr.made 90 args) (Ao tabs) (Fin tt 1 [.tmp 6] v):=by
 subst hcall
 unfold m5 at hm
 replace hm:=Ad hm;obtain⟨a0,args_0,rfl,hm⟩:=hm
 replace hm:=Ad hm;obtain⟨a1,args_1,rfl,hm⟩:=hm
 replace hm:=Ad hm;obtain⟨a2,args_2,rfl,hm⟩:=hm
 replace hm:=AC hm;obtain⟨rfl,hm⟩:=hm
 replace hm:=BG hm;obtain⟨l1,rfl,hm⟩:=hm
 replace hm:=Ad hm;obtain⟨v3,l1_0,rfl,hm⟩:=hm
 replace hm:=Ad hm;obtain⟨v4,l1_1,rfl,hm⟩:=hm
 replace hm:=Ad hm;obtain⟨v5,l1_2,rfl,hm⟩:=hm
 replace hm:=Ad hm;obtain⟨v6,l1_3,rfl,hm⟩:=hm
 replace hm:=AC hm;obtain⟨rfl,hm⟩:=hm
 replace hm:=Ai hm;obtain⟨x7,rfl,hm⟩:=hm
 replace hm:=Ai hm;obtain⟨x9,rfl,hm⟩:=hm
 replace hm:=Ai hm;obtain⟨x11,rfl,hm⟩:=hm
 replace hm:=Al hm;obtain⟨s13,rfl,hm⟩:=hm
 replace hm:=Ai hm;obtain⟨x15,rfl,hm⟩:=hm
 replace hm:=Al hm;obtain⟨s17,rfl,hm⟩:=hm
 unfold m5_ at hm
 refine⟨by simp,?_⟩
 refine .same (F':=(fr 90 [(0,(.agg ⟨[zI x7,zI x9,zI x11,Sl.v 1 s13]⟩)),(1,zI x15),(2,Sl.v 1 s17)])) (H':=Ap) (by kernel_rfl) (by kernel_rfl) ?_
 refine .then (.rK (.ghs (fr 90 [(1,zI x15),(2,Sl.v 1 s17),(3,pt 1 0)]) (hT 2 [(oC [zI x7,zI x9,zI x11,Sl.v 1 s13])]) (.k0 [false] [.tmp 3 false] [1,2,3]) ?_))
 refine .then (.then ?_)
 replace hm:=Ab hm;obtain⟨v70,h71,hm⟩:=hm
 replace hm:=Ch hm;obtain⟨l72,rfl,hm⟩:=hm
 replace hm:=Ad hm;obtain⟨v74,l72_0,rfl,hm⟩:=hm
 replace hm:=AC hm;obtain⟨rfl,hm⟩:=hm
 replace hm:=Be hm;obtain⟨mH,rfl,hm⟩:=hm
 refine .reg (eC 2 (Gn tabs [[none,none,none,some 1],[some 1],[some 1]] 3 [] [] (pu 10090) [(.agg ⟨[zI x7,zI x9,zI x11,Sl.v 1 s13]⟩),Sl.v 1 s17,(.slice none 0 0)] (hT 2 [(oC [zI x7,zI x9,zI x11,Sl.v 1 s13])])) (FY (as:=[(.agg ⟨[zI x7,zI x9,zI x11,Sl.v 1 s13]⟩),Sl.v 1 s17,(Sl.v 1 (Sl.mk 0 2 []))]) (H1:=(hT 2 [(oC [zI x7,zI x9,zI x11,Sl.v 1 s13])])) (CK (Xh (FM Ey (FM Ey (FM Ey (FM (Oi (CV (z:=1) (v:=(Sl.v 1 s13)) (H:=(hT 2 [(oC [zI x7,zI x9,zI x11,Sl.v 1 s13])])) (by kernel_rfl) (by kernel_rfl) (by kernel_rfl))) Xg))))) (CK (DR (Oi (CV (z:=1) (v:=(Sl.v 1 s17)) (H:=(hT 2 [(oC [zI x7,zI x9,zI x11,Sl.v 1 s13])])) (by kernel_rfl) (by kernel_rfl) (by kernel_rfl)))) (CK (DR (Oi (Ju (z:=1) (H:=(hT 2 [(oC [zI x7,zI x9,zI x11,Sl.v 1 s13])]))))) Iz))) (FX (H2:=(hT 2 [(oC [zI x7,zI x9,zI x11,Sl.v 1 s13])])) (v:=(zB mH)) (v':=(zB mH)) [some 0] [] [] [(.agg ⟨[zI x7,zI x9,zI x11,Sl.v 1 s13]⟩),Sl.v 1 s17,(Sl.v 1 (Sl.mk 0 2 []))] [] [] [some 0,none] [] [] (by kernel_rfl) C8 (Eq.trans (by kernel_rfl) h71) C8 C8)) (eE)) ?_
 refine .ghs (fr 90 [(1,zI x15),(2,Sl.v 1 s17),(3,pt 1 0),(22,zB mH)]) (hT 2 [(oC [zI x7,zI x9,zI x11,Sl.v 1 s13])]) (.k0 [false] [.tmp 3 false] [1,2,3,22]) ?_
 replace hm:=Ag hm;rcases hm with⟨h77,hm⟩ | ⟨h77,hm⟩
 ·refine .ifT mH (by kernel_rfl) h77 ?_
  refine .then ?_
  replace hm:=oB hm;obtain⟨b84,h83,hm⟩:=hm
  refine .reg (eD ((oo (pu 10 []) none fun v=>some (v,(hT 2 [(oC [zI x7,zI x9,zI x11,Sl.v 1 s13])])))) (AB h83) (eE)) ?_
  refine .ghs (fr 90 [(6,zB b84)]) Ap (.k0 [false] [] [6]) ?_
  refine .ret ?_
  exact Ay (zB b84) hm
 ·refine .ifF mH (by kernel_rfl) h77 ?_
  refine .skip (.ghs (fr 90 [(1,zI x15),(2,Sl.v 1 s17),(3,pt 1 0)]) (hT 2 [(oC [zI x7,zI x9,zI x11,Sl.v 1 s13])]) (.k0 [false] [.tmp 3 false] [1,2,3]) ?_)
  refine .then (.rK (.ghs (fr 90 [(1,zI x15),(2,Sl.v 1 s17),(3,pt 1 0),(7,(pt 2 0))]) (hT 3 [(oC [zI x7,zI x9,zI x11,Sl.v 1 s13]),(oC [zI x7,zI x9,zI x11,Sl.v 1 s13])]) (.k0 [false] [.tmp 3 false,.tmp 7 false] [1,2,3,7]) ?_))
  refine .then ?_
  replace hm:=Ab hm;obtain⟨v96,h97,hm⟩:=hm
  replace hm:=Ch hm;obtain⟨l98,rfl,hm⟩:=hm
  replace hm:=Ad hm;obtain⟨v0,l98_0,rfl,hm⟩:=hm
  replace hm:=Ad hm;obtain⟨v1,l98_1,rfl,hm⟩:=hm
  replace hm:=AC hm;obtain⟨rfl,hm⟩:=hm
  replace hm:=Ai hm;obtain⟨x0,rfl,hm⟩:=hm
  replace hm:=Ai hm;obtain⟨x1,rfl,hm⟩:=hm
  refine .reg (eC 2 ((oo (pu 23 [(.agg ⟨[zI x7,zI x9,zI x11,Sl.v 1 s13]⟩),zI x15]) none fun v=>some (v,(hT 3 [(oC [zI x7,zI x9,zI x11,Sl.v 1 s13]),(oC [zI x7,zI x9,zI x11,Sl.v 1 s13])])))) (AB h97) (eE)) ?_
  refine .ghs (fr 90 [(1,zI x15),(2,Sl.v 1 s17),(3,pt 1 0),(7,(pt 2 0)),(8,zI x0),(9,zI x1)]) (hT 3 [(oC [zI x7,zI x9,zI x11,Sl.v 1 s13]),(oC [zI x7,zI x9,zI x11,Sl.v 1 s13])]) (.k0 [false] [.tmp 3 false,.tmp 7 false] [1,2,3,7,8,9]) ?_
  refine .then ?_
  replace hm:=Ab hm;obtain⟨v2,h0,hm⟩:=hm
  replace hm:=Ch hm;obtain⟨l0,rfl,hm⟩:=hm
  replace hm:=Ad hm;obtain⟨v7,l118_0,rfl,hm⟩:=hm
  replace hm:=Ad hm;obtain⟨v8,l118_1,rfl,hm⟩:=hm
  replace hm:=AC hm;obtain⟨rfl,hm⟩:=hm
  replace hm:=Ai hm;obtain⟨x2,rfl,hm⟩:=hm
  replace hm:=Ai hm;obtain⟨x3,rfl,hm⟩:=hm
  refine .reg (eC 2 ((oo (pu 24 [(.agg ⟨[zI x7,zI x9,zI x11,Sl.v 1 s13]⟩),zI x15]) none fun v=>some (v,(hT 3 [(oC [zI x7,zI x9,zI x11,Sl.v 1 s13]),(oC [zI x7,zI x9,zI x11,Sl.v 1 s13])])))) (AB h0) (eE)) ?_
  refine .ghs (fr 90 [(2,Sl.v 1 s17),(3,pt 1 0),(7,(pt 2 0)),(8,zI x0),(9,zI x1),(10,zI x2),(11,zI x3)]) (hT 3 [(oC [zI x7,zI x9,zI x11,Sl.v 1 s13]),(oC [zI x7,zI x9,zI x11,Sl.v 1 s13])]) (.k0 [false] [.tmp 3 false,.tmp 7 false] [2,3,7,8,9,10,11]) ?_
  refine .then ?_
  replace hm:=Ab hm;obtain⟨v9,h1,hm⟩:=hm
  replace hm:=Ch hm;obtain⟨l2,rfl,hm⟩:=hm
  replace hm:=Ad hm;obtain⟨v10,l138_0,rfl,hm⟩:=hm
  replace hm:=Ad hm;obtain⟨v11,l138_1,rfl,hm⟩:=hm
  replace hm:=AC hm;obtain⟨rfl,hm⟩:=hm
  replace hm:=Ai hm;obtain⟨x4,rfl,hm⟩:=hm
  replace hm:=Ai hm;obtain⟨x5,rfl,hm⟩:=hm
  refine .reg (eC 1 ((oo (pu 25 [(.agg ⟨[zI x7,zI x9,zI x11,Sl.v 1 s13]⟩)]) none fun v=>some (v,(hT 3 [(oC [zI x7,zI x9,zI x11,Sl.v 1 s13]),(oC [zI x7,zI x9,zI x11,Sl.v 1 s13])])))) (AB h1) (eE)) ?_
  refine .ghs (fr 90 [(2,Sl.v 1 s17),(3,pt 1 0),(7,(pt 2 0)),(8,zI x0),(9,zI x1),(10,zI x2),(11,zI x3),(12,zI x4),(13,zI x5)]) (hT 3 [(oC [zI x7,zI x9,zI x11,Sl.v 1 s13]),(oC [zI x7,zI x9,zI x11,Sl.v 1 s13])]) (.k0 [false] [.tmp 3 false,.tmp 7 false] [2,3,7,8,9,10,11,12,13]) ?_
  refine .then ?_
  replace hm:=Ab hm;obtain⟨v12,h2,hm⟩:=hm
  replace hm:=Ch hm;obtain⟨l3,rfl,hm⟩:=hm
  replace hm:=Ad hm;obtain⟨v13,l158_0,rfl,hm⟩:=hm
  replace hm:=Ad hm;obtain⟨v14,l158_1,rfl,hm⟩:=hm
  replace hm:=AC hm;obtain⟨rfl,hm⟩:=hm
  replace hm:=Ai hm;obtain⟨x6,rfl,hm⟩:=hm
  replace hm:=Ai hm;obtain⟨x8,rfl,hm⟩:=hm
  refine .reg (eC 1 ((oo (pu 26 [(.agg ⟨[zI x7,zI x9,zI x11,Sl.v 1 s13]⟩)]) none fun v=>some (v,(hT 3 [(oC [zI x7,zI x9,zI x11,Sl.v 1 s13]),(oC [zI x7,zI x9,zI x11,Sl.v 1 s13])])))) (AB h2) (eE)) ?_
  refine .ghs (fr 90 [(2,Sl.v 1 s17),(3,pt 1 0),(7,(pt 2 0)),(8,zI x0),(9,zI x1),(10,zI x2),(11,zI x3),(12,zI x4),(13,zI x5),(14,zI x6),(15,zI x8)]) (hT 3 [(oC [zI x7,zI x9,zI x11,Sl.v 1 s13]),(oC [zI x7,zI x9,zI x11,Sl.v 1 s13])]) (.k0 [false] [.tmp 3 false,.tmp 7 false] [2,3,7,8,9,10,11,12,13,14,15]) ?_
  refine .then ?_
  replace hm:=Ab hm;obtain⟨v15,h3,hm⟩:=hm
  replace hm:=Ch hm;obtain⟨l4,rfl,hm⟩:=hm
  replace hm:=Ad hm;obtain⟨v16,l178_0,rfl,hm⟩:=hm
  replace hm:=Ad hm;obtain⟨v17,l178_1,rfl,hm⟩:=hm
  replace hm:=AC hm;obtain⟨rfl,hm⟩:=hm
  replace hm:=Ai hm;obtain⟨x10,rfl,hm⟩:=hm
  replace hm:=Ai hm;obtain⟨x12,rfl,hm⟩:=hm
  refine .reg (eC 2 ((oo (pu 27 [(.agg ⟨[zI x7,zI x9,zI x11,Sl.v 1 s13]⟩),Sl.v 1 s17]) none fun v=>some (v,(hT 3 [(oC [zI x7,zI x9,zI x11,Sl.v 1 s13]),(oC [zI x7,zI x9,zI x11,Sl.v 1 s13])])))) (AB h3) (eE)) ?_
  refine .ghs (fr 90 [(2,Sl.v 1 s17),(7,pt 1 0),(8,zI x0),(9,zI x1),(10,zI x2),(11,zI x3),(12,zI x4),(13,zI x5),(14,zI x6),(15,zI x8),(16,zI x10),(17,zI x12)]) (hT 2 [(oC [zI x7,zI x9,zI x11,Sl.v 1 s13])]) (.k0 [false] [.tmp 7 false] [2,7,8,9,10,11,12,13,14,15,16,17]) ?_
  refine .then ?_
  replace hm:=Ab hm;obtain⟨v18,h4,hm⟩:=hm
  replace hm:=Ch hm;obtain⟨l5,rfl,hm⟩:=hm
  replace hm:=Ad hm;obtain⟨v19,l198_0,rfl,hm⟩:=hm
  replace hm:=Ad hm;obtain⟨v20,l198_1,rfl,hm⟩:=hm
  replace hm:=AC hm;obtain⟨rfl,hm⟩:=hm
  replace hm:=Ai hm;obtain⟨x13,rfl,hm⟩:=hm
  replace hm:=Ai hm;obtain⟨x14,rfl,hm⟩:=hm
  refine .reg (eC 2 ((oo (pu 28 [(.agg ⟨[zI x7,zI x9,zI x11,Sl.v 1 s13]⟩),Sl.v 1 s17]) none fun v=>some (v,(hT 2 [(oC [zI x7,zI x9,zI x11,Sl.v 1 s13])])))) (AB h4) (eE)) ?_
  refine .ghs (fr 90 [(8,zI x0),(9,zI x1),(10,zI x2),(11,zI x3),(12,zI x4),(13,zI x5),(14,zI x6),(15,zI x8),(16,zI x10),(17,zI x12),(18,zI x13),(19,zI x14)]) Ap (.k0 [false] [] [8,9,10,11,12,13,14,15,16,17,18,19]) ?_
  refine .join (v:=v) (fun y:Bool=>((fr 90 [(6,zB y)]),Ap)) (fun y=>Pq pu n y) ?_ ?_
  ·rintro b0 hm
   exact AjB pu n b0 hm
  ·replace hm := Ag hm; rcases hm with ⟨h5, hm⟩ | ⟨h5, hm⟩
   ·replace hm := Ag hm; rcases hm with ⟨h6, hm⟩ | ⟨h6, hm⟩
    ·replace hm := Ag hm; rcases hm with ⟨h7, hm⟩ | ⟨h7, hm⟩
     ·replace hm := Ag hm; rcases hm with ⟨h8, hm⟩ | ⟨h8, hm⟩
      ·replace hm := Ag hm; rcases hm with ⟨h9, hm⟩ | ⟨h9, hm⟩
       ·replace hm := Ag hm; rcases hm with ⟨h10, hm⟩ | ⟨h10, hm⟩
        ·replace hm := oB hm; obtain ⟨b1, h11, hm⟩ := hm
         refine .reg (eN 12 (Fr.puts (fr 90 [(8,zI x0),(9,zI x1),(10,zI x2),(11,zI x3),(12,zI x4),(13,zI x5),(14,zI x6),(15,zI x8),(16,zI x10),(17,zI x12),(18,zI x13),(19,zI x14)]) [(59,zI x0),(60,zI x2),(61,zB true),(62,zB true),(63,zI x1),(64,zI x3),(65,zB true),(66,zB true),(67,zB true),(68,zI x4),(69,zI x6),(70,zB true)]) Ap (eC 2 (some ((zB (Bd x0 x2)),Ap)) (show _=some ((zB true),_) from (by rw[show (Bd x0 x2)=true from h5])) (eC 3 (some ((zB (Bd x1 x3)),Ap)) (show _=some ((zB true),_) from (by rw[show (Bd x1 x3)=true from h6])) (eC 4 (some ((zB (Bd x4 x6)),Ap)) (show _=some ((zB true),_) from (by rw[show (Bd x4 x6)=true from h7])) (by kernel_rfl)))) (eC 4 (some ((zB (Bd x5 x8)),Ap)) (show _=some ((zB true),_) from (by rw[show (Bd x5 x8)=true from h8])) (eC 4 (some ((zB (Bd x10 x13)),Ap)) (show _=some ((zB true),_) from (by rw[show (Bd x10 x13)=true from h9])) (eC 4 (some ((zB (Bd x12 x14)),Ap)) (show _=some ((zB true),_) from (by rw[show (Bd x12 x14)=true from h10])) (eC 2 ((oo (pu 10 []) none fun v=>some (v,Ap))) (AB h11) (eE)))))) ?_
         exact⟨b1,hm,(.k0 [false] [] [6])⟩
        ·refine .reg (eN 12 (Fr.puts (fr 90 [(8, zI x0), (9, zI x1), (10, zI x2), (11, zI x3), (12, zI x4), (13, zI x5), (14, zI x6), (15, zI x8), (16, zI x10), (17, zI x12), (18, zI x13), (19, zI x14)]) [(59, zI x0), (60, zI x2), (61, zB true), (62, zB true), (63, zI x1), (64, zI x3), (65, zB true), (66, zB true), (67, zB true), (68, zI x4), (69, zI x6), (70, zB true)]) Ap (eC 2 (some ((zB (Bd x0 x2)), Ap)) (show _ = some ((zB true), _) from (by rw [show (Bd x0 x2) = true from h5])) (eC 3 (some ((zB (Bd x1 x3)), Ap)) (show _ = some ((zB true), _) from (by rw [show (Bd x1 x3) = true from h6])) (eC 4 (some ((zB (Bd x4 x6)), Ap)) (show _ = some ((zB true), _) from (by rw [show (Bd x4 x6) = true from h7])) (by kernel_rfl)))) (eC 4 (some ((zB (Bd x5 x8)), Ap)) (show _ = some ((zB true), _) from (by rw [show (Bd x5 x8) = true from h8])) (eC 4 (some ((zB (Bd x10 x13)), Ap)) (show _ = some ((zB true), _) from (by rw [show (Bd x10 x13) = true from h9])) (eC 4 (some ((zB (Bd x12 x14)), Ap)) (show _ = some ((zB false), _) from (by rw [show (Bd x12 x14) = false from h10])) (eE))))) ?_
         exact⟨false,hm,(.k0 [false] [] [6])⟩
       ·refine .reg (eC 2 (some ((zB (Bd x0 x2)), Ap)) (show _ = some ((zB true), _) from (by rw [show (Bd x0 x2) = true from h5])) (eC 3 (some ((zB (Bd x1 x3)), Ap)) (show _ = some ((zB true), _) from (by rw [show (Bd x1 x3) = true from h6])) (eC 4 (some ((zB (Bd x4 x6)), Ap)) (show _ = some ((zB true), _) from (by rw [show (Bd x4 x6) = true from h7])) (eC 4 (some ((zB (Bd x5 x8)), Ap)) (show _ = some ((zB true), _) from (by rw [show (Bd x5 x8) = true from h8])) (eC 4 (some ((zB (Bd x10 x13)), Ap)) (show _ = some ((zB false), _) from (by rw [show (Bd x10 x13) = false from h9])) (eE)))))) ?_
        exact⟨false,hm,(.k0 [false] [] [6])⟩
      ·refine .reg (eC 2 (some ((zB (Bd x0 x2)), Ap)) (show _ = some ((zB true), _) from (by rw [show (Bd x0 x2) = true from h5])) (eC 3 (some ((zB (Bd x1 x3)), Ap)) (show _ = some ((zB true), _) from (by rw [show (Bd x1 x3) = true from h6])) (eC 4 (some ((zB (Bd x4 x6)), Ap)) (show _ = some ((zB true), _) from (by rw [show (Bd x4 x6) = true from h7])) (eC 4 (some ((zB (Bd x5 x8)), Ap)) (show _ = some ((zB false), _) from (by rw [show (Bd x5 x8) = false from h8])) (eE))))) ?_
       exact⟨false,hm,(.k0 [false] [] [6])⟩
     ·refine .reg (eC 2 (some ((zB (Bd x0 x2)), Ap)) (show _ = some ((zB true), _) from (by rw [show (Bd x0 x2) = true from h5])) (eC 3 (some ((zB (Bd x1 x3)), Ap)) (show _ = some ((zB true), _) from (by rw [show (Bd x1 x3) = true from h6])) (eC 4 (some ((zB (Bd x4 x6)), Ap)) (show _ = some ((zB false), _) from (by rw [show (Bd x4 x6) = false from h7])) (eE)))) ?_
      exact⟨false,hm,(.k0 [false] [] [6])⟩
    ·refine .reg (eC 2 (some ((zB (Bd x0 x2)), Ap)) (show _ = some ((zB true), _) from (by rw [show (Bd x0 x2) = true from h5])) (eC 3 (some ((zB (Bd x1 x3)), Ap)) (show _ = some ((zB false), _) from (by rw [show (Bd x1 x3) = false from h6])) (eE))) ?_
     exact⟨false,hm,(.k0 [false] [] [6])⟩
   ·refine .reg (eC 2 (some ((zB (Bd x0 x2)), Ap)) (show _ = some ((zB false), _) from (by rw [show (Bd x0 x2) = false from h5])) (eE)) ?_
    exact⟨false,hm,(.k0 [false] [] [6])⟩

def TZ (pu:Af) (n:Nat) (x0 x1 x2:Int) (s0:Sl) (x3:Int):OV:=
 (oo (pu 55 [(.agg ⟨[.int .i64 x0,.int .i64 x1,.int .i64 x2,Sl.v 1 s0]⟩)]) none fun v0=>(oo (CQ v0) none fun l0=>(ll l0 none fun v1 l0=>(ll l0 none fun v2 l0=>(ll l0 (bb (isS (Pv v1)) (oo (Pv v1) none fun p0=>(oo (Bi .i64 v2) none fun x4=>(bb (nt (Bd x4 (0:Int))) (some (.tuple ⟨[(.int .i64 (0:Int)),.int .i64 x4]⟩)) (oo (AL (Db.cs p0) (((Db.off p0)+0)+3)) none fun v3=>(oo (Bj 1 v3) none fun s1=>(oo (pu 44 [Sl.v 1 s1,.int .i64 x3]) none fun v4=>(oo (Bi .i64 v4) none fun x5=>(bb (AY x5 (0:Int)) (some (.tuple ⟨[(.int .i64 (0:Int)),(.int .i64 (2:Int))]⟩)) (oo (pu 56 [(Cv (Db.off p0) (Db.cs p0)),.int .i64 x5]) none fun v5=>(oo (Bi .i64 v5) none fun x6=>(some (.tuple ⟨[.int .i64 x6,(.int .i64 (0:Int))]⟩)))))))))))) (bb (U0 v1) (oo (Bi .i64 v2) none fun x7=>(bb (nt (Bd x7 (0:Int))) (some (.tuple ⟨[(.int .i64 (0:Int)),.int .i64 x7]⟩)) none)) none)) fun _ _=>none)))))
def m23 (pu:Af) (n:Nat) (args:LV):OV:=
 (ll args none fun a0 args=>(ll args none fun a1 args=>(ll args (oo (Bt a0) none fun l0=>(ll l0 none fun v0 l0=>(ll l0 none fun v1 l0=>(ll l0 none fun v2 l0=>(ll l0 none fun v3 l0=>(ll l0 (oo (Bi .i64 v0) none fun x0=>(oo (Bi .i64 v1) none fun x1=>(oo (Bi .i64 v2) none fun x2=>(oo (Bj 1 v3) none fun s0=>(oo (Bi .i64 a1) none fun x3=>(TZ pu n x0 x1 x2 s0 x3)))))) fun _ _=>none)))))) fun _ _=>none)))
theorem r23 {call:A8} (pu:Af) (n:Nat) (hcall:call=Bb tabs isP pu (inl pu)) {args:LV} {v:Value} (hm:m23 pu n args=some v) (_:∀ x∈args,closed2 x=true):args.length≤29∧BN tt call 1 QK (Fr.made 29 args) (Ao tabs) (Fin tt 1 [.tmp 4,.tmp 5] v):=by
 subst hcall
 unfold m23 at hm
 replace hm:=Ad hm;obtain⟨a0,args_0,rfl,hm⟩:=hm
 replace hm:=Ad hm;obtain⟨a1,args_1,rfl,hm⟩:=hm
 replace hm:=AC hm;obtain⟨rfl,hm⟩:=hm
 replace hm:=BG hm;obtain⟨l0,rfl,hm⟩:=hm
 replace hm:=Ad hm;obtain⟨v0,l267_0,rfl,hm⟩:=hm
 replace hm:=Ad hm;obtain⟨v1,l267_1,rfl,hm⟩:=hm
 replace hm:=Ad hm;obtain⟨v2,l267_2,rfl,hm⟩:=hm
 replace hm:=Ad hm;obtain⟨v3,l267_3,rfl,hm⟩:=hm
 replace hm:=AC hm;obtain⟨rfl,hm⟩:=hm
 replace hm:=Ai hm;obtain⟨x0,rfl,hm⟩:=hm
 replace hm:=Ai hm;obtain⟨x1,rfl,hm⟩:=hm
 replace hm:=Ai hm;obtain⟨x2,rfl,hm⟩:=hm
 replace hm:=Al hm;obtain⟨s0,rfl,hm⟩:=hm
 replace hm:=Ai hm;obtain⟨x3,rfl,hm⟩:=hm
 unfold TZ at hm
 refine⟨by simp,?_⟩
 refine .same (F':=(fr 29 [(0,(.agg ⟨[zI x0,zI x1,zI x2,Sl.v 1 s0]⟩)),(1,zI x3)])) (H':=Ap) (by kernel_rfl) (by kernel_rfl) ?_
 refine .then (.rK (.ghs (fr 29 [(1,zI x3),(2,pt 1 0)]) (hT 2 [(oC [zI x0,zI x1,zI x2,Sl.v 1 s0])]) (.k0 [false] [.tmp 2 false] [1,2]) ?_))
 refine .then ?_
 replace hm:=Ab hm;obtain⟨v4,h0,hm⟩:=hm
 replace hm:=Ch hm;obtain⟨l1,rfl,hm⟩:=hm
 replace hm:=Ad hm;obtain⟨v5,l296_0,rfl,hm⟩:=hm
 replace hm:=Ad hm;obtain⟨v6,l296_1,rfl,hm⟩:=hm
 replace hm:=AC hm;obtain⟨rfl,hm⟩:=hm
 replace hm:=Ag hm;rcases hm with⟨h1,hm⟩ | ⟨h1,hm⟩
 ·replace hm := Ab hm; obtain ⟨p0, h2, hm⟩ := hm
  obtain rfl:=F7 h2
  replace hm:=Ai hm;obtain⟨x4,rfl,hm⟩:=hm
  refine .reg (eC 1 ((oo (pu 55 [(.agg ⟨[zI x0,zI x1,zI x2,Sl.v 1 s0]⟩)]) none fun v=>some (v,(hT 2 [(oC [zI x0,zI x1,zI x2,Sl.v 1 s0])])))) (AB h0) (eE)) ?_
  refine .ghs (fr 29 [(1,zI x3),(6,(Cv (Db.off p0) (Db.cs p0))),(7,zI x4)]) Ap (.k0 [false] [] [1,6,7]) ?_
  refine .then (.then (.rK (.ghs (fr 29 [(1,zI x3),(6,(Cv (Db.off p0) (Db.cs p0))),(7,zI x4),(15,(zB (nt (Bd x4 (0:Int)))))]) Ap (.k0 [false] [] [1,6,7,15]) ?_)))
  replace hm:=Ag hm;rcases hm with⟨h3,hm⟩ | ⟨h3,hm⟩
  ·refine Bq (nt (Bd x4 (0 : Int))) h3 ?_
   refine .then (.rK (.ghs (fr 29 [(4,(zI (0:Int))),(5,zI x4)]) Ap (.k0 [false] [] [4,5]) ?_))
   refine .ret ?_
   exact Ay (.tuple ⟨[(zI (0:Int)),zI x4]⟩) hm
  ·refine BB (nt (Bd x4 (0 : Int))) h3 ?_
   refine .skip (.ghs (fr 29 [(1,zI x3),(6,(Cv (Db.off p0) (Db.cs p0)))]) Ap (.k0 [false] [] [1,6]) ?_)
   refine .then ?_
   replace hm:=oS hm;obtain⟨s1,h4,hm⟩:=hm
   replace hm:=oI hm;obtain⟨x5,h5,hm⟩:=hm
   refine .reg (eC 4 (keep Ap (AL (Db.cs p0) (((Db.off p0)+0)+3))) (AZ h4) (eC 1 ((oo (pu 44 [Sl.v 1 s1,zI x3]) none fun v=>some (v,Ap))) (AB h5) (eE))) ?_
   refine .ghs (fr 29 [(6,(Cv (Db.off p0) (Db.cs p0))),(8,zI x5)]) Ap (.k0 [false] [] [6,8]) ?_
   refine .then (.then (.rK (.ghs (fr 29 [(6,(Cv (Db.off p0) (Db.cs p0))),(8,zI x5),(25,(zB (AY x5 (0:Int))))]) Ap (.k0 [false] [] [6,8,25]) ?_)))
   replace hm:=Ag hm;rcases hm with⟨h6,hm⟩ | ⟨h6,hm⟩
   ·refine Bq (AY x5 (0 : Int)) h6 ?_
    refine .then (.rK (.ghs (fr 29 [(4,(zI (0:Int))),(5,(zI (2:Int)))]) Ap (.k0 [false] [] [4,5]) ?_))
    refine .ret ?_
    exact Ay (.tuple ⟨[(zI (0:Int)),(zI (2:Int))]⟩) hm
   ·refine BB (AY x5 (0 : Int)) h6 ?_
    refine .skip (.ghs (fr 29 [(6,(Cv (Db.off p0) (Db.cs p0))),(8,zI x5)]) Ap (.k0 [false] [] [6,8]) ?_)
    refine .then ?_
    replace hm:=oI hm;obtain⟨x6,h7,hm⟩:=hm
    refine .reg (eC 2 ((oo (pu 56 [(Cv (Db.off p0) (Db.cs p0)),zI x5]) none fun v=>some (v,Ap))) (AB h7) (eE)) ?_
    refine .ghs (fr 29 [(4,zI x6),(5,(zI (0:Int)))]) Ap (.k0 [false] [] [4,5]) ?_
    refine .ret ?_
    exact Ay (.tuple ⟨[zI x6,(zI (0:Int))]⟩) hm
 ·replace hm := Ae hm; obtain ⟨h8, hm⟩ := hm
  obtain rfl:=MS h8
  replace hm:=Ai hm;obtain⟨x7,rfl,hm⟩:=hm
  refine .reg (eC 1 ((oo (pu 55 [(.agg ⟨[zI x0,zI x1,zI x2,Sl.v 1 s0]⟩)]) none fun v=>some (v,(hT 2 [(oC [zI x0,zI x1,zI x2,Sl.v 1 s0])])))) (AB h0) (eE)) ?_
  refine .ghs (fr 29 [(1,zI x3),(6,(.pointer none)),(7,zI x7)]) Ap (.k0 [false] [] [1,6,7]) ?_
  refine .then (.then (.rK (.ghs (fr 29 [(1,zI x3),(6,(.pointer none)),(7,zI x7),(15,(zB (nt (Bd x7 (0:Int)))))]) Ap (.k0 [false] [] [1,6,7,15]) ?_)))
  replace hm:=Ag hm;rcases hm with⟨h9,hm⟩ | ⟨h9,hm⟩
  ·refine Bq (nt (Bd x7 (0 : Int))) h9 ?_
   refine .then (.rK (.ghs (fr 29 [(4,(zI (0:Int))),(5,zI x7)]) Ap (.k0 [false] [] [4,5]) ?_))
   refine .ret ?_
   exact Ay (.tuple ⟨[(zI (0:Int)),zI x7]⟩) hm
  ·refine BB (nt (Bd x7 (0 : Int))) h9 ?_
   refine .skip (.ghs (fr 29 [(1,zI x3),(6,(.pointer none))]) Ap (.k0 [false] [] [1,6]) ?_)
   refine .then ?_
   cases hm
def MF (pu:Af) (n:Nat) (z0 z1 z2 z3 z4:Int) (s0:Sl):OV:=
 (bb (nt (Bd z1 (0:Int))) (some (.tuple ⟨[(.int .i64 (0:Int)),.int .i64 z1]⟩)) (oo (pu 58 [(.agg ⟨[.int .i64 z2,.int .i64 z3,.int .i64 z4,Sl.v 1 s0]⟩),.int .i64 z0]) none fun v0=>(oo (Bj 1 v0) none fun s1=>(oo (pu 57 [.int .i64 z4,(.int .i64 (Int.ofNat (Sl.n s1)))]) none fun v1=>(oo (Bi .i64 v1) none fun x0=>(some (.tuple ⟨[.int .i64 x0,(.int .i64 (0:Int))]⟩)))))))
def Ou (pu:Af) (n:Nat) (z0 z1:Int) (b0:Bool) (z2 z3 z4:Int) (s0:Sl):OV:=
 (bb b0 (MF pu n z0 (2:Int) z2 z3 z4 s0) (MF pu n z0 z1 z2 z3 z4 s0))
def T9 (pu:Af) (n:Nat) (x0 x1 x2:Int) (s0:Sl) (x3:Int):OV:=
 (oo (pu 36 [(.agg ⟨[.int .i64 x0,.int .i64 x1,.int .i64 x2,Sl.v 1 s0]⟩)]) none fun v0=>(oo (Bi .i64 v0) none fun x4=>(bb (Bd x4 (0:Int)) (oo (pu 47 [Sl.v 1 s0,.int .i64 x3]) none fun v1=>(oo (Bf v1) none fun b0=>(Ou pu n x3 x4 (nt b0) x0 x1 x2 s0))) (Ou pu n x3 x4 false x0 x1 x2 s0))))
def m24 (pu:Af) (n:Nat) (args:LV):OV:=
 (ll args none fun a0 args=>(ll args none fun a1 args=>(ll args (oo (Bt a0) none fun l0=>(ll l0 none fun v0 l0=>(ll l0 none fun v1 l0=>(ll l0 none fun v2 l0=>(ll l0 none fun v3 l0=>(ll l0 (oo (Bi .i64 v0) none fun x0=>(oo (Bi .i64 v1) none fun x1=>(oo (Bi .i64 v2) none fun x2=>(oo (Bj 1 v3) none fun s0=>(oo (Bi .i64 a1) none fun x3=>(T9 pu n x0 x1 x2 s0 x3)))))) fun _ _=>none)))))) fun _ _=>none)))
theorem Afr (pu:Af) (n:Nat) (z0 z1 z2 z3 z4:Int) (s0:Sl) {v:Value} (hm:MF pu n z0 z1 z2 z3 z4 s0=some v):BN tt (Bb tabs isP pu (inl pu)) 1 ZR (fr 28 [(1,zI z0),(2,pt 1 0),(6,zI z1)]) (hT 2 [(oC [zI z2,zI z3,zI z4,Sl.v 1 s0])]) (Fin tt 1 [.tmp 4,.tmp 5] v):=by
 unfold MF at hm
 refine .then (.then (.rK (.ghs (fr 28 [(1,zI z0),(2,pt 1 0),(6,zI z1),(19,(zB (nt (Bd z1 (0:Int)))))]) (hT 2 [(oC [zI z2,zI z3,zI z4,Sl.v 1 s0])]) (.k0 [false] [.tmp 2 false] [1,2,6,19]) ?_)))
 replace hm:=Ag hm;rcases hm with⟨h0,hm⟩ | ⟨h0,hm⟩
 ·refine Bq (nt (Bd z1 (0 : Int))) h0 ?_
  refine .then (.rK (.ghs (fr 28 [(4,(zI (0:Int))),(5,zI z1)]) Ap (.k0 [false] [] [4,5]) ?_))
  refine .ret ?_
  exact Ay (.tuple ⟨[(zI (0:Int)),zI z1]⟩) hm
 ·refine BB (nt (Bd z1 (0 : Int))) h0 ?_
  refine .skip (.ghs (fr 28 [(1,zI z0),(2,pt 1 0)]) (hT 2 [(oC [zI z2,zI z3,zI z4,Sl.v 1 s0])]) (.k0 [false] [.tmp 2 false] [1,2]) ?_)
  refine .then ?_
  replace hm:=oS hm;obtain⟨s1,h1,hm⟩:=hm
  replace hm:=oI hm;obtain⟨x0,h2,hm⟩:=hm
  refine .reg (eC 4 ((oo (pu 58 [(.agg ⟨[zI z2,zI z3,zI z4,Sl.v 1 s0]⟩),zI z0]) none fun v=>some (v,(hT 2 [(oC [zI z2,zI z3,zI z4,Sl.v 1 s0])])))) (AB h1) (eC 1 ((oo (pu 57 [zI z4,(zI (Int.ofNat (Sl.n s1)))]) none fun v=>some (v,(hT 2 [(oC [zI z2,zI z3,zI z4,Sl.v 1 s0])])))) (AB h2) (eE))) ?_
  refine .ghs (fr 28 [(4,zI x0),(5,(zI (0:Int)))]) Ap (.k0 [false] [] [4,5]) ?_
  refine .ret ?_
  exact Ay (.tuple ⟨[zI x0,(zI (0:Int))]⟩) hm
theorem r24 {call:A8} (pu:Af) (n:Nat) (hcall:call=Bb tabs isP pu (inl pu)) {args:LV} {v:Value} (hm:m24 pu n args=some v) (_:∀ x∈args,closed2 x=true):args.length≤28∧BN tt call 1 QL (Fr.made 28 args) (Ao tabs) (Fin tt 1 [.tmp 4,.tmp 5] v):=by
 subst hcall
 unfold m24 at hm
 replace hm:=Ad hm;obtain⟨a0,args_0,rfl,hm⟩:=hm
 replace hm:=Ad hm;obtain⟨a1,args_1,rfl,hm⟩:=hm
 replace hm:=AC hm;obtain⟨rfl,hm⟩:=hm
 replace hm:=BG hm;obtain⟨l0,rfl,hm⟩:=hm
 replace hm:=Ad hm;obtain⟨v0,l332_0,rfl,hm⟩:=hm
 replace hm:=Ad hm;obtain⟨v1,l332_1,rfl,hm⟩:=hm
 replace hm:=Ad hm;obtain⟨v2,l332_2,rfl,hm⟩:=hm
 replace hm:=Ad hm;obtain⟨v3,l332_3,rfl,hm⟩:=hm
 replace hm:=AC hm;obtain⟨rfl,hm⟩:=hm
 replace hm:=Ai hm;obtain⟨x0,rfl,hm⟩:=hm
 replace hm:=Ai hm;obtain⟨x1,rfl,hm⟩:=hm
 replace hm:=Ai hm;obtain⟨x2,rfl,hm⟩:=hm
 replace hm:=Al hm;obtain⟨s0,rfl,hm⟩:=hm
 replace hm:=Ai hm;obtain⟨x3,rfl,hm⟩:=hm
 unfold T9 at hm
 refine⟨by simp,?_⟩
 refine .same (F':=(fr 28 [(0,(.agg ⟨[zI x0,zI x1,zI x2,Sl.v 1 s0]⟩)),(1,zI x3)])) (H':=Ap) (by kernel_rfl) (by kernel_rfl) ?_
 refine .then (.rK (.ghs (fr 28 [(1,zI x3),(2,pt 1 0)]) (hT 2 [(oC [zI x0,zI x1,zI x2,Sl.v 1 s0])]) (.k0 [false] [.tmp 2 false] [1,2]) ?_))
 refine .then ?_
 replace hm:=oI hm;obtain⟨x4,h0,hm⟩:=hm
 refine .reg (eC 1 ((oo (pu 36 [(.agg ⟨[zI x0,zI x1,zI x2,Sl.v 1 s0]⟩)]) none fun v=>some (v,(hT 2 [(oC [zI x0,zI x1,zI x2,Sl.v 1 s0])])))) (AB h0) (eE)) ?_
 refine .ghs (fr 28 [(1,zI x3),(2,pt 1 0),(6,zI x4)]) (hT 2 [(oC [zI x0,zI x1,zI x2,Sl.v 1 s0])]) (.k0 [false] [.tmp 2 false] [1,2,6]) ?_
 refine .join (v:=v) (fun y:Int×Int×Int×Int×Int×Sl=>((fr 28 [(1,(zI y.1)),(2,pt 1 0),(6,(zI y.2.1))]),(hT 2 [(oC [(zI y.2.2.1),(zI y.2.2.2.1),(zI y.2.2.2.2.1),(Sl.v 1 y.2.2.2.2.2)])]))) (fun y=>MF pu n y.1 y.2.1 y.2.2.1 y.2.2.2.1 y.2.2.2.2.1 y.2.2.2.2.2) ?_ ?_
 ·rintro ⟨z0, z1, z2, z3, z4, s1⟩ hm
  exact Afr pu n z0 z1 z2 z3 z4 s1 hm
 ·refine .join (v := v) (fun y : Int × Int × Bool × Int × Int × Int × Sl => ((fr 28 [(1, (zI y.1)), (2, pt 1 0), (6, (zI y.2.1)), (17, (zB y.2.2.1))]), (hT 2 [(oC [(zI y.2.2.2.1), (zI y.2.2.2.2.1), (zI y.2.2.2.2.2.1), (Sl.v 1 y.2.2.2.2.2.2)])]))) (fun y => Ou pu n y.1 y.2.1 y.2.2.1 y.2.2.2.1 y.2.2.2.2.1 y.2.2.2.2.2.1 y.2.2.2.2.2.2) ?_ ?_
  ·rintro ⟨z5, z6, b0, z7, z8, z9, s2⟩ hm
   unfold Ou at hm
   replace hm:=Ag hm;rcases hm with⟨h1,hm⟩ | ⟨h1,hm⟩
   ·refine .ifT b0 (by kernel_rfl) h1 ?_
    refine .rK ?_
    exact⟨(z5,(2:Int),z7,z8,z9,s2),hm,(.k0 [false] [.tmp 2 false] [1,2,6])⟩
   ·refine .ifF b0 (by kernel_rfl) h1 ?_
    refine .skip ?_
    exact⟨(z5,z6,z7,z8,z9,s2),hm,(.k0 [false] [.tmp 2 false] [1,2,6])⟩
  ·replace hm := Ag hm; rcases hm with ⟨h2, hm⟩ | ⟨h2, hm⟩
   ·replace hm := oB hm; obtain ⟨b1, h3, hm⟩ := hm
    refine .reg (eC 1 (some ((zB (Bd x4 (0:Int))),(hT 2 [(oC [zI x0,zI x1,zI x2,Sl.v 1 s0])]))) (show _=some ((zB true),_) from (by rw[show (Bd x4 (0:Int))=true from h2])) (eC 4 ((oo (pu 47 [Sl.v 1 s0,zI x3]) none fun v=>some (v,(hT 2 [(oC [zI x0,zI x1,zI x2,Sl.v 1 s0])])))) (AB h3) (eE))) ?_
    exact⟨(x3,x4,(nt b1),x0,x1,x2,s0),hm,(.k0 [false] [.tmp 2 false] [1,2,6,17])⟩
   ·refine .reg (eC 1 (some ((zB (Bd x4 (0 : Int))), (hT 2 [(oC [zI x0, zI x1, zI x2, Sl.v 1 s0])]))) (show _ = some ((zB false), _) from (by rw [show (Bd x4 (0 : Int)) = false from h2])) (eE)) ?_
    exact⟨(x3,x4,false,x0,x1,x2,s0),hm,(.k0 [false] [.tmp 2 false] [1,2,6,17])⟩
def Ua (pu:Af) (n n0:Nat) (q0:LV) (z0:Int):OV:=
 (oo (AL q0 ((n0+0)+3)) none fun v0=>(oo (Bj 1 v0) none fun s0=>(bb (nt (Bd (Int.ofNat (Sl.n s0)) (0:Int))) (some (.tuple ⟨[(.int .i64 (Aj .i64 (Int.tdiv z0 (Int.ofNat (Sl.n s0))))),(.int .i64 (0:Int))]⟩)) none)))
def Ov (pu:Af) (n:Nat) (ih0:Nat→LV→Int→Int→Int→OV) (n0:Nat) (q0:LV) (z0 z1 z2:Int):OV:=
 (bb (AY z2 z1) (oo (pu 56 [(Cv n0 q0),.int .i64 z2]) none fun v0=>(oo (Bi .i64 v0) none fun x0=>(ih0 n0 q0 (Aj .i64 (Int.add z0 x0)) z1 (Aj .i64 (Int.add z2 (1:Int)))))) (Ua pu n n0 q0 z0))
def PN (pu:Af) (n w:Nat):Nat→LV→Int→Int→Int→OV:=
 Nat.rec (motive:=fun _=>Nat→LV→Int→Int→Int→OV) (fun _ _ _ _ _=>none) (fun _ ih0=>Ov pu n ih0) w
def Yx (pu:Af) (n:Nat) (x0 x1 x2:Int) (s0:Sl):OV:=
 (oo (pu 55 [(.agg ⟨[.int .i64 x0,.int .i64 x1,.int .i64 x2,Sl.v 1 s0]⟩)]) none fun v0=>(oo (CQ v0) none fun l0=>(ll l0 none fun v1 l0=>(ll l0 none fun v2 l0=>(ll l0 (bb (isS (Pv v1)) (oo (Pv v1) none fun p0=>(oo (Bi .i64 v2) none fun x3=>(bb (nt (Bd x3 (0:Int))) (some (.tuple ⟨[(.int .i64 (0:Int)),.int .i64 x3]⟩)) (oo (AL (Db.cs p0) (((Db.off p0)+0)+3)) none fun v3=>(oo (Bj 1 v3) none fun s1=>(PN pu n n (Db.off p0) (Db.cs p0) (0:Int) (Int.ofNat (Sl.n s1)) (0:Int))))))) (bb (U0 v1) (oo (Bi .i64 v2) none fun x4=>(bb (nt (Bd x4 (0:Int))) (some (.tuple ⟨[(.int .i64 (0:Int)),.int .i64 x4]⟩)) none)) none)) fun _ _=>none)))))
def m25 (pu:Af) (n:Nat) (args:LV):OV:=
 (ll args none fun a0 args=>(ll args (oo (Bt a0) none fun l0=>(ll l0 none fun v0 l0=>(ll l0 none fun v1 l0=>(ll l0 none fun v2 l0=>(ll l0 none fun v3 l0=>(ll l0 (oo (Bi .i64 v0) none fun x0=>(oo (Bi .i64 v1) none fun x1=>(oo (Bi .i64 v2) none fun x2=>(oo (Bj 1 v3) none fun s0=>(Yx pu n x0 x1 x2 s0))))) fun _ _=>none)))))) fun _ _=>none))
theorem Afu (pu:Af) (n n0:Nat) (q0:LV) (z0:Int) {v:Value} (hm:Ua pu n n0 q0 z0=some v):BN tt (Bb tabs isP pu (inl pu)) 1 ZT (fr 39 [(4,(Cv n0 q0)),(6,zI z0)]) Ap (Fin tt 1 [.tmp 2,.tmp 3] v):=by
 unfold Ua at hm
 refine .then ?_
 replace hm:=oS hm;obtain⟨s0,h0,hm⟩:=hm
 replace hm:=Ae hm;obtain⟨h1,hm⟩:=hm
 refine .reg (eC 5 (keep Ap (AL q0 ((n0+0)+3))) (AZ h0) (eC 1 (keep Ap (bb (Bd (Int.ofNat (Sl.n s0)) (0:Int)) none (some (zI (Aj .i64 (Int.tdiv z0 (Int.ofNat (Sl.n s0)))))))) (XH h1) (eE))) ?_
 refine .ghs (fr 39 [(2,(zI (Aj .i64 (Int.tdiv z0 (Int.ofNat (Sl.n s0)))))),(3,(zI (0:Int)))]) Ap (.k0 [false] [] [2,3]) ?_
 refine .ret ?_
 exact Ay (.tuple ⟨[(zI (Aj .i64 (Int.tdiv z0 (Int.ofNat (Sl.n s0))))),(zI (0:Int))]⟩) hm
theorem r25 {call:A8} (pu:Af) (n:Nat) (hcall:call=Bb tabs isP pu (inl pu)) {args:LV} {v:Value} (hm:m25 pu n args=some v) (_:∀ x∈args,closed2 x=true):args.length≤39∧BN tt call 1 QM (Fr.made 39 args) (Ao tabs) (Fin tt 1 [.tmp 2,.tmp 3] v):=by
 subst hcall
 unfold m25 at hm
 replace hm:=Ad hm;obtain⟨a0,args_0,rfl,hm⟩:=hm
 replace hm:=AC hm;obtain⟨rfl,hm⟩:=hm
 replace hm:=BG hm;obtain⟨l0,rfl,hm⟩:=hm
 replace hm:=Ad hm;obtain⟨v0,l493_0,rfl,hm⟩:=hm
 replace hm:=Ad hm;obtain⟨v1,l493_1,rfl,hm⟩:=hm
 replace hm:=Ad hm;obtain⟨v2,l493_2,rfl,hm⟩:=hm
 replace hm:=Ad hm;obtain⟨v3,l493_3,rfl,hm⟩:=hm
 replace hm:=AC hm;obtain⟨rfl,hm⟩:=hm
 replace hm:=Ai hm;obtain⟨x0,rfl,hm⟩:=hm
 replace hm:=Ai hm;obtain⟨x1,rfl,hm⟩:=hm
 replace hm:=Ai hm;obtain⟨x2,rfl,hm⟩:=hm
 replace hm:=Al hm;obtain⟨s0,rfl,hm⟩:=hm
 unfold Yx at hm
 refine⟨by simp,?_⟩
 refine .same (F':=(fr 39 [(0,(.agg ⟨[zI x0,zI x1,zI x2,Sl.v 1 s0]⟩))])) (H':=Ap) (by kernel_rfl) (by kernel_rfl) ?_
 refine .then (.rK (.ghs (fr 39 [(1,pt 1 0)]) (hT 2 [(oC [zI x0,zI x1,zI x2,Sl.v 1 s0])]) (.k0 [false] [.tmp 1 false] [1]) ?_))
 refine .then ?_
 replace hm:=Ab hm;obtain⟨v4,h0,hm⟩:=hm
 replace hm:=Ch hm;obtain⟨l1,rfl,hm⟩:=hm
 replace hm:=Ad hm;obtain⟨v5,l520_0,rfl,hm⟩:=hm
 replace hm:=Ad hm;obtain⟨v6,l520_1,rfl,hm⟩:=hm
 replace hm:=AC hm;obtain⟨rfl,hm⟩:=hm
 replace hm:=Ag hm;rcases hm with⟨h1,hm⟩ | ⟨h1,hm⟩
 ·replace hm := Ab hm; obtain ⟨p0, h2, hm⟩ := hm
  obtain rfl:=F7 h2
  replace hm:=Ai hm;obtain⟨x3,rfl,hm⟩:=hm
  refine .reg (eC 1 ((oo (pu 55 [(.agg ⟨[zI x0,zI x1,zI x2,Sl.v 1 s0]⟩)]) none fun v=>some (v,(hT 2 [(oC [zI x0,zI x1,zI x2,Sl.v 1 s0])])))) (AB h0) (eE)) ?_
  refine .ghs (fr 39 [(4,(Cv (Db.off p0) (Db.cs p0))),(5,zI x3)]) Ap (.k0 [false] [] [4,5]) ?_
  refine .then (.then (.rK (.ghs (fr 39 [(4,(Cv (Db.off p0) (Db.cs p0))),(5,zI x3),(14,(zB (nt (Bd x3 (0:Int)))))]) Ap (.k0 [false] [] [4,5,14]) ?_)))
  replace hm:=Ag hm;rcases hm with⟨h3,hm⟩ | ⟨h3,hm⟩
  ·refine Bq (nt (Bd x3 (0 : Int))) h3 ?_
   refine .then (.rK (.ghs (fr 39 [(2,(zI (0:Int))),(3,zI x3)]) Ap (.k0 [false] [] [2,3]) ?_))
   refine .ret ?_
   exact Ay (.tuple ⟨[(zI (0:Int)),zI x3]⟩) hm
  ·refine BB (nt (Bd x3 (0 : Int))) h3 ?_
   refine .skip (.ghs (fr 39 [(4,(Cv (Db.off p0) (Db.cs p0)))]) Ap (.k0 [false] [] [4]) ?_)
   refine .then (.rK (.ghs (fr 39 [(4,(Cv (Db.off p0) (Db.cs p0))),(6,(zI (0:Int)))]) Ap (.k0 [false] [] [4,6]) ?_))
   refine .join (v:=v) (fun y:Nat×LV×Int=>((fr 39 [(4,(Cv y.1 y.2.1)),(6,(zI y.2.2))]),Ap)) (fun y=>Ua pu n y.1 y.2.1 y.2.2) ?_ ?_
   ·rintro ⟨n0, q0, z0⟩ hm
    exact Afu pu n n0 q0 z0 hm
   ·refine .then ?_
    replace hm:=oS hm;obtain⟨s1,h4,hm⟩:=hm
    refine .reg (eC 4 (keep Ap (AL (Db.cs p0) (((Db.off p0)+0)+3))) (AZ h4) (eE)) ?_
    refine .ghs (fr 39 [(4,(Cv (Db.off p0) (Db.cs p0))),(6,(zI (0:Int))),(21,(zI (Int.ofNat (Sl.n s1)))),(22,(zI (0:Int)))]) Ap (.k0 [false] [] [4,6,21,22]) ?_
    refine .block (.loopM (v:=v) (fun y:Nat×LV×Int×Int×Int=>((fr 39 [(4,(Cv y.1 y.2.1)),(6,(zI y.2.2.1)),(21,(zI y.2.2.2.1)),(22,(zI y.2.2.2.2))]),Ap)) (fun w y=>PN pu n w y.1 y.2.1 y.2.2.1 y.2.2.2.1 y.2.2.2.2) n ⟨((Db.off p0),(Db.cs p0),(0:Int),(Int.ofNat (Sl.n s1)),(0:Int)),hm,(.k0 [false] [] [4,6,21,22])⟩ (fun _=>rfl) ?_)
    rintro w0 ⟨n1,q1,z1,z2,z3⟩ hm
    replace hm:Ov pu n (PN pu n w0) n1 q1 z1 z2 z3=some v:=hm
    unfold Ov at hm
    refine .then (.rK (.ghs (fr 39 [(4,(Cv n1 q1)),(6,zI z1),(21,zI z2),(22,zI z3),(23,(zB (AY z3 z2)))]) Ap (.k0 [false] [] [4,6,21,22,23]) ?_))
    refine .then ?_
    replace hm:=Ag hm;rcases hm with⟨h5,hm⟩ | ⟨h5,hm⟩
    ·refine Bq (AY z3 z2) h5 ?_
     refine .skip (.ghs (fr 39 [(4,(Cv n1 q1)),(6,zI z1),(21,zI z2),(22,zI z3)]) Ap (.k0 [false] [] [4,6,21,22]) ?_)
     refine .then (.block (.then (.rK (.ghs (fr 39 [(4,(Cv n1 q1)),(6,zI z1),(7,zI z3),(21,zI z2),(22,zI z3)]) Ap (.k0 [false] [] [4,6,7,21,22]) ?_))))
     replace hm:=oI hm;obtain⟨x4,h6,hm⟩:=hm
     refine .reg (eC 3 ((oo (pu 56 [(Cv n1 q1),zI z3]) none fun v=>some (v,Ap))) (AB h6) (eE)) ?_
     refine .ghs (fr 39 [(4,(Cv n1 q1)),(6,(zI (Aj .i64 (Int.add z1 x4)))),(21,zI z2),(22,zI z3)]) Ap (.k0 [false] [] [4,6,21,22]) ?_
     refine .rK ?_
     exact⟨(n1,q1,(Aj .i64 (Int.add z1 x4)),z2,(Aj .i64 (Int.add z3 (1:Int)))),hm,(.k0 [false] [] [4,6,21,22])⟩
    ·refine BB (AY z3 z2) h5 ?_
     refine .exit ?_
     exact⟨(n1,q1,z1),hm,(.k0 [false] [] [4,6])⟩
 ·replace hm := Ae hm; obtain ⟨h7, hm⟩ := hm
  obtain rfl:=MS h7
  replace hm:=Ai hm;obtain⟨x5,rfl,hm⟩:=hm
  refine .reg (eC 1 ((oo (pu 55 [(.agg ⟨[zI x0,zI x1,zI x2,Sl.v 1 s0]⟩)]) none fun v=>some (v,(hT 2 [(oC [zI x0,zI x1,zI x2,Sl.v 1 s0])])))) (AB h0) (eE)) ?_
  refine .ghs (fr 39 [(4,(.pointer none)),(5,zI x5)]) Ap (.k0 [false] [] [4,5]) ?_
  refine .then (.then (.rK (.ghs (fr 39 [(4,(.pointer none)),(5,zI x5),(14,(zB (nt (Bd x5 (0:Int)))))]) Ap (.k0 [false] [] [4,5,14]) ?_)))
  replace hm:=Ag hm;rcases hm with⟨h8,hm⟩ | ⟨h8,hm⟩
  ·refine Bq (nt (Bd x5 (0 : Int))) h8 ?_
   refine .then (.rK (.ghs (fr 39 [(2,(zI (0:Int))),(3,zI x5)]) Ap (.k0 [false] [] [2,3]) ?_))
   refine .ret ?_
   exact Ay (.tuple ⟨[(zI (0:Int)),zI x5]⟩) hm
  ·refine BB (nt (Bd x5 (0 : Int))) h8 ?_
   refine .skip (.ghs (fr 39 [(4,(.pointer none))]) Ap (.k0 [false] [] [4]) ?_)
   refine .then (.rK (.ghs (fr 39 [(4,(.pointer none)),(6,(zI (0:Int)))]) Ap (.k0 [false] [] [4,6]) ?_))
   refine .then (.then ?_)
   cases hm
def Ub (pu:Af) (n:Nat) (z0 z1 z2 z3:Int) (s0:Sl):OV:=
 (bb (nt (Bd (Int.ofNat (Sl.n s0)) (0:Int))) (some (.tuple ⟨[(.int .i64 (Aj .i64 (Int.tdiv z0 (Int.ofNat (Sl.n s0))))),(.int .i64 (0:Int))]⟩)) none)
def Ow (pu:Af) (n:Nat) (ih0:Int→Int→Int→Int→Int→Sl→OV) (z0 z1 z2 z3 z4:Int) (s0:Sl):OV:=
 (bb (AY z1 (Int.ofNat (Sl.n s0))) (oo (EA z1) none fun k1=>(bb (an (Nat.blt k1 (Sl.n s0)) true) (oo (AL (Sl.cs s0) (k1*1)) none fun v0=>(oo (Bi .i64 v0) none fun x0=>(oo (pu 58 [(.agg ⟨[.int .i64 z2,.int .i64 z3,.int .i64 z4,Sl.v 1 s0]⟩),.int .i64 x0]) none fun v1=>(oo (Bj 1 v1) none fun s1=>(oo (pu 57 [.int .i64 z4,(.int .i64 (Int.ofNat (Sl.n s1)))]) none fun v2=>(oo (Bi .i64 v2) none fun x1=>(ih0 (Aj .i64 (Int.add z0 x1)) (Aj .i64 (Int.add (Int.ofNat k1) (1:Int))) z2 z3 z4 s0))))))) none)) (Ub pu n z0 z2 z3 z4 s0))
def PO (pu:Af) (n w:Nat):Int→Int→Int→Int→Int→Sl→OV:=
 Nat.rec (motive:=fun _=>Int→Int→Int→Int→Int→Sl→OV) (fun _ _ _ _ _ _=>none) (fun _ ih0=>Ow pu n ih0) w
def Yy (pu:Af) (n:Nat) (x0 x1 x2:Int) (s0:Sl):OV:=
 (oo (pu 36 [(.agg ⟨[.int .i64 x0,.int .i64 x1,.int .i64 x2,Sl.v 1 s0]⟩)]) none fun v0=>(oo (Bi .i64 v0) none fun x3=>(bb (nt (Bd x3 (0:Int))) (some (.tuple ⟨[(.int .i64 (0:Int)),.int .i64 x3]⟩)) (PO pu n n (0:Int) (0:Int) x0 x1 x2 s0))))
def m26 (pu:Af) (n:Nat) (args:LV):OV:=
 (ll args none fun a0 args=>(ll args (oo (Bt a0) none fun l0=>(ll l0 none fun v0 l0=>(ll l0 none fun v1 l0=>(ll l0 none fun v2 l0=>(ll l0 none fun v3 l0=>(ll l0 (oo (Bi .i64 v0) none fun x0=>(oo (Bi .i64 v1) none fun x1=>(oo (Bi .i64 v2) none fun x2=>(oo (Bj 1 v3) none fun s0=>(Yy pu n x0 x1 x2 s0))))) fun _ _=>none)))))) fun _ _=>none))
theorem Afw (pu:Af) (n:Nat) (z0 z1 z2 z3:Int) (s0:Sl) {v:Value} (hm:Ub pu n z0 z1 z2 z3 s0=some v):BN tt (Bb tabs isP pu (inl pu)) 1 bI (fr 37 [(1,pt 1 0),(5,zI z0)]) (hT 2 [(oC [zI z1,zI z2,zI z3,Sl.v 1 s0])]) (Fin tt 1 [.tmp 2,.tmp 3] v):=by
 unfold Ub at hm
 refine .then ?_
 replace hm:=Ae hm;obtain⟨h0,hm⟩:=hm
 refine .reg (eC 4 (keep (hT 2 [(oC [zI z1,zI z2,zI z3,Sl.v 1 s0])]) (bb (Bd (Int.ofNat (Sl.n s0)) (0:Int)) none (some (zI (Aj .i64 (Int.tdiv z0 (Int.ofNat (Sl.n s0)))))))) (XH h0) (eE)) ?_
 refine .ghs (fr 37 [(2,(zI (Aj .i64 (Int.tdiv z0 (Int.ofNat (Sl.n s0)))))),(3,(zI (0:Int)))]) Ap (.k0 [false] [] [2,3]) ?_
 refine .ret ?_
 exact Ay (.tuple ⟨[(zI (Aj .i64 (Int.tdiv z0 (Int.ofNat (Sl.n s0))))),(zI (0:Int))]⟩) hm
theorem r26 {call:A8} (pu:Af) (n:Nat) (hcall:call=Bb tabs isP pu (inl pu)) {args:LV} {v:Value} (hm:m26 pu n args=some v) (_:∀ x∈args,closed2 x=true):args.length≤37∧BN tt call 1 QN (Fr.made 37 args) (Ao tabs) (Fin tt 1 [.tmp 2,.tmp 3] v):=by
 subst hcall
 unfold m26 at hm
 replace hm:=Ad hm;obtain⟨a0,args_0,rfl,hm⟩:=hm
 replace hm:=AC hm;obtain⟨rfl,hm⟩:=hm
 replace hm:=BG hm;obtain⟨l0,rfl,hm⟩:=hm
 replace hm:=Ad hm;obtain⟨v0,l610_0,rfl,hm⟩:=hm
 replace hm:=Ad hm;obtain⟨v1,l610_1,rfl,hm⟩:=hm
 replace hm:=Ad hm;obtain⟨v2,l610_2,rfl,hm⟩:=hm
 replace hm:=Ad hm;obtain⟨v3,l610_3,rfl,hm⟩:=hm
 replace hm:=AC hm;obtain⟨rfl,hm⟩:=hm
 replace hm:=Ai hm;obtain⟨x0,rfl,hm⟩:=hm
 replace hm:=Ai hm;obtain⟨x1,rfl,hm⟩:=hm
 replace hm:=Ai hm;obtain⟨x2,rfl,hm⟩:=hm
 replace hm:=Al hm;obtain⟨s0,rfl,hm⟩:=hm
 unfold Yy at hm
 refine⟨by simp,?_⟩
 refine .same (F':=(fr 37 [(0,(.agg ⟨[zI x0,zI x1,zI x2,Sl.v 1 s0]⟩))])) (H':=Ap) (by kernel_rfl) (by kernel_rfl) ?_
 refine .then (.rK (.ghs (fr 37 [(1,pt 1 0)]) (hT 2 [(oC [zI x0,zI x1,zI x2,Sl.v 1 s0])]) (.k0 [false] [.tmp 1 false] [1]) ?_))
 refine .then ?_
 replace hm:=oI hm;obtain⟨x3,h0,hm⟩:=hm
 refine .reg (eC 1 ((oo (pu 36 [(.agg ⟨[zI x0,zI x1,zI x2,Sl.v 1 s0]⟩)]) none fun v=>some (v,(hT 2 [(oC [zI x0,zI x1,zI x2,Sl.v 1 s0])])))) (AB h0) (eE)) ?_
 refine .ghs (fr 37 [(1,pt 1 0),(4,zI x3)]) (hT 2 [(oC [zI x0,zI x1,zI x2,Sl.v 1 s0])]) (.k0 [false] [.tmp 1 false] [1,4]) ?_
 refine .then (.then (.rK (.ghs (fr 37 [(1,pt 1 0),(4,zI x3),(10,(zB (nt (Bd x3 (0:Int)))))]) (hT 2 [(oC [zI x0,zI x1,zI x2,Sl.v 1 s0])]) (.k0 [false] [.tmp 1 false] [1,4,10]) ?_)))
 replace hm:=Ag hm;rcases hm with⟨h1,hm⟩ | ⟨h1,hm⟩
 ·refine Bq (nt (Bd x3 (0 : Int))) h1 ?_
  refine .then (.rK (.ghs (fr 37 [(2,(zI (0:Int))),(3,zI x3)]) Ap (.k0 [false] [] [2,3]) ?_))
  refine .ret ?_
  exact Ay (.tuple ⟨[(zI (0:Int)),zI x3]⟩) hm
 ·refine BB (nt (Bd x3 (0 : Int))) h1 ?_
  refine .skip (.ghs (fr 37 [(1,pt 1 0)]) (hT 2 [(oC [zI x0,zI x1,zI x2,Sl.v 1 s0])]) (.k0 [false] [.tmp 1 false] [1]) ?_)
  refine .then (.rK (.ghs (fr 37 [(1,pt 1 0),(5,(zI (0:Int)))]) (hT 2 [(oC [zI x0,zI x1,zI x2,Sl.v 1 s0])]) (.k0 [false] [.tmp 1 false] [1,5]) ?_))
  refine .join (v:=v) (fun y:Int×Int×Int×Int×Sl=>((fr 37 [(1,pt 1 0),(5,(zI y.1))]),(hT 2 [(oC [(zI y.2.1),(zI y.2.2.1),(zI y.2.2.2.1),(Sl.v 1 y.2.2.2.2)])]))) (fun y=>Ub pu n y.1 y.2.1 y.2.2.1 y.2.2.2.1 y.2.2.2.2) ?_ ?_
  ·rintro ⟨z0, z1, z2, z3, s1⟩ hm
   exact Afw pu n z0 z1 z2 z3 s1 hm
  ·refine .then (.rK (.ghs (fr 37 [(1, pt 1 0), (5, (zI (0 : Int))), (6, (zI (0 : Int)))]) (hT 2 [(oC [zI x0, zI x1, zI x2, Sl.v 1 s0])]) (.k0 [false] [.tmp 1 false] [1, 5, 6]) ?_))
   refine .block (.loopM (v:=v) (fun y:Int×Int×Int×Int×Int×Sl=>((fr 37 [(1,pt 1 0),(5,(zI y.1)),(6,(zI y.2.1))]),(hT 2 [(oC [(zI y.2.2.1),(zI y.2.2.2.1),(zI y.2.2.2.2.1),(Sl.v 1 y.2.2.2.2.2)])]))) (fun w y=>PO pu n w y.1 y.2.1 y.2.2.1 y.2.2.2.1 y.2.2.2.2.1 y.2.2.2.2.2) n ⟨((0:Int),(0:Int),x0,x1,x2,s0),hm,(.k0 [false] [.tmp 1 false] [1,5,6])⟩ (fun _=>rfl) ?_)
   rintro w0 ⟨z4,z5,z6,z7,z8,s2⟩ hm
   replace hm:Ow pu n (PO pu n w0) z4 z5 z6 z7 z8 s2=some v:=hm
   unfold Ow at hm
   refine .then (.then (.rK (.ghs (fr 37 [(1,pt 1 0),(5,zI z4),(6,zI z5),(16,(zB (AY z5 (Int.ofNat (Sl.n s2)))))]) (hT 2 [(oC [zI z6,zI z7,zI z8,Sl.v 1 s2])]) (.k0 [false] [.tmp 1 false] [1,5,6,16]) ?_)))
   replace hm:=Ag hm;rcases hm with⟨h2,hm⟩ | ⟨h2,hm⟩
   ·refine Bq (AY z5 (Int.ofNat (Sl.n s2))) h2 ?_
    refine .skip (.ghs (fr 37 [(1,pt 1 0),(5,zI z4),(6,zI z5)]) (hT 2 [(oC [zI z6,zI z7,zI z8,Sl.v 1 s2])]) (.k0 [false] [.tmp 1 false] [1,5,6]) ?_)
    refine .then (.block ?_)
    replace hm:=Ab hm;obtain⟨k1,h3,hm⟩:=hm
    obtain rfl:=AR h3
    replace hm:=Ae hm;obtain⟨h4,hm⟩:=hm
    replace hm:=oI hm;obtain⟨x4,h5,hm⟩:=hm
    replace hm:=oS hm;obtain⟨s3,h6,hm⟩:=hm
    replace hm:=oI hm;obtain⟨x5,h7,hm⟩:=hm
    refine .reg (eC 7 (keep (hT 2 [(oC [zI z6,zI z7,zI z8,Sl.v 1 s2])]) (bb (an (Nat.blt k1 (Sl.n s2)) true) (some (Cv (k1*1) (Sl.cs s2))) none)) (AX h4) (eD (keep (hT 2 [(oC [zI z6,zI z7,zI z8,Sl.v 1 s2])]) (AL (Sl.cs s2) (k1*1))) (AZ h5) (eD ((oo (pu 58 [(.agg ⟨[zI z6,zI z7,zI z8,Sl.v 1 s2]⟩),zI x4]) none fun v=>some (v,(hT 2 [(oC [zI z6,zI z7,zI z8,Sl.v 1 s2])])))) (AB h6) (eC 1 ((oo (pu 57 [zI z8,(zI (Int.ofNat (Sl.n s3)))]) none fun v=>some (v,(hT 2 [(oC [zI z6,zI z7,zI z8,Sl.v 1 s2])])))) (AB h7) (eE))))) ?_
    refine .ghs (fr 37 [(1,pt 1 0),(5,(zI (Aj .i64 (Int.add z4 x5)))),(6,(zI (Int.ofNat k1)))]) (hT 2 [(oC [zI z6,zI z7,zI z8,Sl.v 1 s2])]) (.k0 [false] [.tmp 1 false] [1,5,6]) ?_
    refine .rK ?_
    exact⟨((Aj .i64 (Int.add z4 x5)),(Aj .i64 (Int.add (Int.ofNat k1) (1:Int))),z6,z7,z8,s2),hm,(.k0 [false] [.tmp 1 false] [1,5,6])⟩
   ·refine BB (AY z5 (Int.ofNat (Sl.n s2))) h2 ?_
    refine .exit ?_
    exact⟨(z4,z6,z7,z8,s2),hm,(.k0 [false] [.tmp 1 false] [1,5])⟩
end
end Go.BkUM
