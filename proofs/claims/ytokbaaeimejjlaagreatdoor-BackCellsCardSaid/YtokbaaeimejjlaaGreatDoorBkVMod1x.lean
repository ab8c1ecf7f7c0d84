/- Made from wip. -/
import Derived.Test.YtokbaaeimejjlaaGreatDoorBkVInlx

set_option maxRecDepth 100000
set_option maxHeartbeats 20000000
set_option linter.unusedVariables false
namespace Go.BkVM
open Go.Sp Go.BkV
noncomputable section
def RQ:List Value:=[.int .u8 0,.int .u8 1,.int .u8 28,.int .u8 2,.int .u8 29,.int .u8 14,.int .u8 24,.int .u8 3,.int .u8 30,.int .u8 22,.int .u8 20,.int .u8 15,.int .u8 25,.int .u8 17,.int .u8 4,.int .u8 8,.int .u8 31,.int .u8 27,.int .u8 13,.int .u8 23,.int .u8 21,.int .u8 19,.int .u8 16,.int .u8 7,.int .u8 26,.int .u8 12,.int .u8 18,.int .u8 6,.int .u8 11,.int .u8 5,.int .u8 10,.int .u8 9]
def tabs:List (List Value):=[RQ]
theorem A7 {tt:TT} {n0:Nat} {rs:List ResultVar} {v:Value} {F:Fr} {H:Aa} (r:Value) (hm:some r=some v) (h:DV tt F H rs=some r:=by kernel_rfl) (hc:Fe r=true:=by kernel_rfl):Fin tt n0 rs v .ret F H:=kI r h hc hm
theorem Gt {α:Type} {k:IntKind} {o:Option Value} {s:Int→Option α} {w:α} (h:oo o none (fun v=>oo (Bi k v) none s)=some w):∃ x,o=some (.int k x)∧s x=some w:=by
 obtain⟨v,h1,h2⟩:=Ab h
 obtain⟨x,hx,h3⟩:=Ab h2
 obtain rfl:=Eh hx
 exact⟨x,h1,h3⟩
theorem fE {α:Type} {k:Nat} {o:Option Value} {s:Sl→Option α} {w:α} (h:oo o none (fun v=>oo (Bj k v) none s)=some w):∃ x,o=some (Sl.v k x)∧s x=some w:=by
 obtain⟨v,h1,h2⟩:=Ab h
 obtain⟨x,hx,h3⟩:=Ab h2
 obtain rfl:=Qh hx
 exact⟨x,h1,h3⟩
theorem OT {α:Type} {o:Option Value} {s:Bool→Option α} {w:α} (h:oo o none (fun v=>oo (Bf v) none s)=some w):∃ x,o=some (.bool x)∧s x=some w:=by
 obtain⟨v,h1,h2⟩:=Ab h
 obtain⟨x,hx,h3⟩:=Ab h2
 obtain rfl:=BV hx
 exact⟨x,h1,h3⟩
theorem Bq {tt:TT} {call:A8} {n0:Nat} {c:Operand} {a b:RC} {F:Fr} {H:Aa} {Q:Ex→Fr→Aa→Prop} (e:Bool) (hb:e=true) (h:BN tt call n0 a F H Q) (he:Bf (F.eval c)=some e:=by kernel_rfl):BN tt call n0 (.cond c a b) F H Q:=.ifT e he hb h
theorem BB {tt:TT} {call:A8} {n0:Nat} {c:Operand} {a b:RC} {F:Fr} {H:Aa} {Q:Ex→Fr→Aa→Prop} (e:Bool) (hb:e=false) (h:BN tt call n0 b F H Q) (he:Bf (F.eval c)=some e:=by kernel_rfl):BN tt call n0 (.cond c a b) F H Q:=.ifF e he hb h
abbrev AO:Aa:=hp 1 [oT RQ]
abbrev hT (n:Nat) (l:List AJ):Aa:=hp n (oT RQ::l)
theorem FD {a b:Bool} (h:b=true) (e:a=b:=by kernel_rfl):a=true:=e.trans h
abbrev OV:=Option Value
abbrev LV:=List Value
def VM:List Nat:=[6,9,10,17,29,30,31,32,34,36,46,47,50,51,55,59,62,70,71,72,74,75,76,77,80,81,84,90,91,92,93,101]
def isP:FuncId→Bool:=fun g=>ED g VM
def inl (pu:Af):A8:=fun g args H=>bb (Nat.beq g 68) (sortedF 89 args H) (bb (Nat.beq g 98) (Hr tabs 1 (pu 98) args H) (bb (Nat.beq g 43) (Hr tabs 1 (pu 43) args H) (bb (Nat.beq g 65) (EK tabs [[some 1],[none],[none],[none],[none],[none],[none]] 7 [.tmp 2 false,.tmp 3 false,.tmp 4 false,.tmp 5 false,.tmp 6 true] [false,false,false,false,true] (pu 10650) args H) (bb (Nat.beq g 66) (EK tabs [[some 1],[none]] 2 [.cap 1 0 false] [false] (pu 10660) args H) (bb (Nat.beq g 86) (EK tabs [[some 1],[none]] 2 [.cap 1 0 false] [false] (pu 10860) args H) (bb (Nat.beq g 67) (EK tabs [[none],[none]] 2 [.tmp 1 false] [false] (pu 10670) args H) (bb (Nat.beq g 69) (EK tabs [[some 1]] 1 [] [false] (pu 10690) args H) (bb (Nat.beq g 73) (EK tabs [[none],[none],[some 1]] 3 [] [] (pu 10730) args H) (bb (Nat.beq g 48) (bb (an (oo (AL args 1) false (fun v=>isS (IA v))) true) (EK tabs [[none,none,none,some 1],[none],[none]] 3 [.tmp 1 false] [false] (pu 10480) args H) (EK tabs [[none,none,none,some 1],[some 1],[none]] 3 [] [] (pu 10481) args H)) (none))))))))))
end
end Go.BkVM
set_option maxRecDepth 100000
set_option maxHeartbeats 20000000
set_option linter.unusedVariables false
namespace Go.BkVM
open Go.Sp Go.BkV
noncomputable section
def VU (pu:Af) (n:Nat) (b0:Bool):OV:=
 (some (.bool b0))
def m6_ (pu:Af) (n:Nat) (x7 x9 x11:Int) (s13 s15 s17:Sl):OV:=
 (oo (pu 9 [(.agg ⟨[.int .i64 x7,.int .i64 x9,.int .i64 x11,Sl.v 1 s13]⟩),Sl.v 1 s15,Sl.v 1 s17]) none fun v23=>(oo (Bf v23) none fun b25=>(bb b25 (oo (pu 10 []) none fun v32=>(oo (Bf v32) none fun b34=>(some (.bool b34)))) (oo (pu 29 [(.agg ⟨[.int .i64 x7,.int .i64 x9,.int .i64 x11,Sl.v 1 s13]⟩),Sl.v 1 s15]) none fun v46=>(oo (CQ v46) none fun l48=>(ll l48 none fun v50 l48=>(ll l48 none fun v51 l48=>(ll l48 (oo (Bj 1 v50) none fun s52=>(oo (Bi .i64 v51) none fun x54=>(oo (pu 30 [(.agg ⟨[.int .i64 x7,.int .i64 x9,.int .i64 x11,Sl.v 1 s13]⟩),Sl.v 1 s15]) none fun v66=>(oo (CQ v66) none fun l68=>(ll l68 none fun v70 l68=>(ll l68 none fun v71 l68=>(ll l68 (oo (Bj 1 v70) none fun s72=>(oo (Bi .i64 v71) none fun x74=>(oo (pu 17 [Sl.v 1 s52,Sl.v 1 s72]) none fun v0=>(oo (Bf v0) none fun b0=>(bb b0 (bb (Bd x54 x74) (oo (pu 31 [(.agg ⟨[.int .i64 x7,.int .i64 x9,.int .i64 x11,Sl.v 1 s13]⟩),Sl.v 1 s15,Sl.v 1 s17]) none fun v1=>(oo (Bi .i64 v1) none fun x0=>(oo (pu 32 [(.agg ⟨[.int .i64 x7,.int .i64 x9,.int .i64 x11,Sl.v 1 s13]⟩),Sl.v 1 s15,Sl.v 1 s17]) none fun v2=>(oo (Bi .i64 v2) none fun x1=>(bb (Bd x0 x1) (oo (pu 10 []) none fun v3=>(oo (Bf v3) none fun b1=>(VU pu n b1))) (VU pu n false)))))) (VU pu n false)) (VU pu n false)))))) fun _ _=>none))))))) fun _ _=>none))))))))
def m6 (pu:Af) (n:Nat) (args:LV):OV:=
 (ll args none fun a0 args=>(ll args none fun a1 args=>(ll args none fun a2 args=>(ll args (oo (Bt a0) none fun l1=>(ll l1 none fun v3 l1=>(ll l1 none fun v4 l1=>(ll l1 none fun v5 l1=>(ll l1 none fun v6 l1=>(ll l1 (oo (Bi .i64 v3) none fun x7=>(oo (Bi .i64 v4) none fun x9=>(oo (Bi .i64 v5) none fun x11=>(oo (Bj 1 v6) none fun s13=>(oo (Bj 1 a1) none fun s15=>(oo (Bj 1 a2) none fun s17=>(m6_ pu n x7 x9 x11 s13 s15 s17))))))) fun _ _=>none)))))) fun _ _=>none))))
theorem Ajg (pu:Af) (n:Nat) (b0:Bool) {v:Value} (hm:VU pu n b0=some v):BN tt (Bb tabs isP pu (inl pu)) 1 .ret (fr 52 [(6,zB b0)]) AO (Fin tt 1 [.tmp 6] v):=by
 unfold VU at hm
 refine .ret ?_
 exact A7 (zB b0) hm
theorem r6 {call:A8} (pu:Af) (n:Nat) (hcall:call=Bb tabs isP pu (inl pu)) {args:LV} {v:Value} (hm:m6 pu n args=some v) (_:∀ x∈args,closed2 x=true):args.length≤52∧BN tt call 1 XT (Fr.made 52 args) (Ao tabs) (Fin tt 1 [.tmp 6] v):=by
 subst hcall
 unfold m6 at hm
 replace hm:=Ad hm;obtain⟨a0,args_0,rfl,hm⟩:=hm
 replace hm:=Ad hm;obtain⟨a1,args_1,rfl,hm⟩:=hm
 replace hm:=Ad hm;obtain⟨a2,args_2,rfl,hm⟩:=hm
 replace hm:=AC hm;obtain⟨rfl,hm⟩:=hm
 replace hm:=BG hm;obtain⟨l1,rfl,hm⟩:=hm
 replace hm:=Ad hm;obtain⟨v3,l1_0,rfl,hm⟩:=hm
 replace hm:=Ad hm;obtain⟨v4,l1_1,rfl,hm⟩:=hm
 replace hm:=Ad hm;obtain⟨v5,l1_2,rfl,hm⟩:=hm
 replace hm:=Ad hm;obtain⟨v6,l1_3,rfl,hm⟩:=hm
 replace hm:=AC hm;obtain⟨rfl,hm⟩:=hm
 replace hm:=Ai hm;obtain⟨x7,rfl,hm⟩:=hm
 replace hm:=Ai hm;obtain⟨x9,rfl,hm⟩:=hm
 replace hm:=Ai hm;obtain⟨x11,rfl,hm⟩:=hm
 replace hm:=Al hm;obtain⟨s13,rfl,hm⟩:=hm
 replace hm:=Al hm;obtain⟨s15,rfl,hm⟩:=hm
 replace hm:=Al hm;obtain⟨s17,rfl,hm⟩:=hm
 unfold m6_ at hm
 refine⟨by simp,?_⟩
 refine .same (F':=(fr 52 [(0,(.agg ⟨[zI x7,zI x9,zI x11,Sl.v 1 s13]⟩)),(1,Sl.v 1 s15),(2,Sl.v 1 s17)])) (H':=AO) (by kernel_rfl) (by kernel_rfl) ?_
 refine .then (.rK (.ghs (fr 52 [(1,Sl.v 1 s15),(2,Sl.v 1 s17),(3,pt 1 0)]) (hT 2 [(oC [zI x7,zI x9,zI x11,Sl.v 1 s13])]) (.k0 [false] [.tmp 3 false] [1,2,3]) ?_))
 refine .then (.then ?_)
 replace hm:=OT hm;obtain⟨b25,h24,hm⟩:=hm
 refine .reg (eC 3 ((oo (pu 9 [(.agg ⟨[zI x7,zI x9,zI x11,Sl.v 1 s13]⟩),Sl.v 1 s15,Sl.v 1 s17]) none fun v=>some (v,(hT 2 [(oC [zI x7,zI x9,zI x11,Sl.v 1 s13])])))) (AB h24) (eE)) ?_
 refine .ghs (fr 52 [(1,Sl.v 1 s15),(2,Sl.v 1 s17),(3,pt 1 0),(15,zB b25)]) (hT 2 [(oC [zI x7,zI x9,zI x11,Sl.v 1 s13])]) (.k0 [false] [.tmp 3 false] [1,2,3,15]) ?_
 replace hm:=Ag hm;rcases hm with⟨h27,hm⟩ | ⟨h27,hm⟩
 ·refine .ifT b25 (by kernel_rfl) h27 ?_
  refine .then ?_
  replace hm:=OT hm;obtain⟨b34,h33,hm⟩:=hm
  refine .reg (eD ((oo (pu 10 []) none fun v=>some (v,(hT 2 [(oC [zI x7,zI x9,zI x11,Sl.v 1 s13])])))) (AB h33) (eE)) ?_
  refine .ghs (fr 52 [(6,zB b34)]) AO (.k0 [false] [] [6]) ?_
  refine .ret ?_
  exact A7 (zB b34) hm
 ·refine .ifF b25 (by kernel_rfl) h27 ?_
  refine .skip (.ghs (fr 52 [(1,Sl.v 1 s15),(2,Sl.v 1 s17),(3,pt 1 0)]) (hT 2 [(oC [zI x7,zI x9,zI x11,Sl.v 1 s13])]) (.k0 [false] [.tmp 3 false] [1,2,3]) ?_)
  refine .then (.rK (.ghs (fr 52 [(1,Sl.v 1 s15),(2,Sl.v 1 s17),(3,pt 1 0),(7,(pt 2 0))]) (hT 3 [(oC [zI x7,zI x9,zI x11,Sl.v 1 s13]),(oC [zI x7,zI x9,zI x11,Sl.v 1 s13])]) (.k0 [false] [.tmp 3 false,.tmp 7 false] [1,2,3,7]) ?_))
  refine .then ?_
  replace hm:=Ab hm;obtain⟨v46,h47,hm⟩:=hm
  replace hm:=Ch hm;obtain⟨l48,rfl,hm⟩:=hm
  replace hm:=Ad hm;obtain⟨v50,l48_0,rfl,hm⟩:=hm
  replace hm:=Ad hm;obtain⟨v51,l48_1,rfl,hm⟩:=hm
  replace hm:=AC hm;obtain⟨rfl,hm⟩:=hm
  replace hm:=Al hm;obtain⟨s52,rfl,hm⟩:=hm
  replace hm:=Ai hm;obtain⟨x54,rfl,hm⟩:=hm
  refine .reg (eC 2 ((oo (pu 29 [(.agg ⟨[zI x7,zI x9,zI x11,Sl.v 1 s13]⟩),Sl.v 1 s15]) none fun v=>some (v,(hT 3 [(oC [zI x7,zI x9,zI x11,Sl.v 1 s13]),(oC [zI x7,zI x9,zI x11,Sl.v 1 s13])])))) (AB h47) (eE)) ?_
  refine .ghs (fr 52 [(1,Sl.v 1 s15),(2,Sl.v 1 s17),(3,pt 1 0),(7,(pt 2 0)),(8,Sl.v 1 s52),(9,zI x54)]) (hT 3 [(oC [zI x7,zI x9,zI x11,Sl.v 1 s13]),(oC [zI x7,zI x9,zI x11,Sl.v 1 s13])]) (.k0 [false] [.tmp 3 false,.tmp 7 false] [1,2,3,7,8,9]) ?_
  refine .then ?_
  replace hm:=Ab hm;obtain⟨v66,h67,hm⟩:=hm
  replace hm:=Ch hm;obtain⟨l68,rfl,hm⟩:=hm
  replace hm:=Ad hm;obtain⟨v70,l68_0,rfl,hm⟩:=hm
  replace hm:=Ad hm;obtain⟨v71,l68_1,rfl,hm⟩:=hm
  replace hm:=AC hm;obtain⟨rfl,hm⟩:=hm
  replace hm:=Al hm;obtain⟨s72,rfl,hm⟩:=hm
  replace hm:=Ai hm;obtain⟨x74,rfl,hm⟩:=hm
  refine .reg (eC 2 ((oo (pu 30 [(.agg ⟨[zI x7,zI x9,zI x11,Sl.v 1 s13]⟩),Sl.v 1 s15]) none fun v=>some (v,(hT 3 [(oC [zI x7,zI x9,zI x11,Sl.v 1 s13]),(oC [zI x7,zI x9,zI x11,Sl.v 1 s13])])))) (AB h67) (eE)) ?_
  refine .ghs (fr 52 [(1,Sl.v 1 s15),(2,Sl.v 1 s17),(3,pt 1 0),(7,(pt 2 0)),(8,Sl.v 1 s52),(9,zI x54),(10,Sl.v 1 s72),(11,zI x74)]) (hT 3 [(oC [zI x7,zI x9,zI x11,Sl.v 1 s13]),(oC [zI x7,zI x9,zI x11,Sl.v 1 s13])]) (.k0 [false] [.tmp 3 false,.tmp 7 false] [1,2,3,7,8,9,10,11]) ?_
  refine .join (v:=v) (fun y:Bool=>((fr 52 [(6,zB y)]),AO)) (fun y=>VU pu n y) ?_ ?_
  ·rintro b0 hm
   exact Ajg pu n b0 hm
  ·replace hm:=OT hm;obtain⟨b1,h0,hm⟩:=hm
   replace hm:=Ag hm;rcases hm with⟨h1,hm⟩ | ⟨h1,hm⟩
   ·replace hm:=Ag hm;rcases hm with⟨h2,hm⟩ | ⟨h2,hm⟩
    ·replace hm:=Gt hm;obtain⟨x0,h3,hm⟩:=hm
     replace hm:=Gt hm;obtain⟨x1,h4,hm⟩:=hm
     replace hm:=Ag hm;rcases hm with⟨h5,hm⟩ | ⟨h5,hm⟩
     ·replace hm:=OT hm;obtain⟨b2,h6,hm⟩:=hm
      refine .reg (eN 16 (Fr.puts (fr 52 [(1,Sl.v 1 s15),(2,Sl.v 1 s17),(3,pt 1 0),(7,(pt 2 0)),(8,Sl.v 1 s52),(9,zI x54),(10,Sl.v 1 s72),(11,zI x74)]) [(30,Sl.v 1 s52),(31,Sl.v 1 s72),(32,zB true),(33,zB true),(34,zI x54),(35,zI x74),(36,zB true),(37,zB true),(38,zB true),(39,(.agg ⟨[zI x7,zI x9,zI x11,Sl.v 1 s13]⟩)),(40,Sl.v 1 s15),(41,Sl.v 1 s17),(43,(.agg ⟨[zI x7,zI x9,zI x11,Sl.v 1 s13]⟩)),(44,Sl.v 1 s15),(45,Sl.v 1 s17),(42,zI x0)]) (hT 3 [(oC [zI x7,zI x9,zI x11,Sl.v 1 s13]),(oC [zI x7,zI x9,zI x11,Sl.v 1 s13])]) (eC 2 ((oo (pu 17 [Sl.v 1 s52,Sl.v 1 s72]) none fun v=>some (v,(hT 3 [(oC [zI x7,zI x9,zI x11,Sl.v 1 s13]),(oC [zI x7,zI x9,zI x11,Sl.v 1 s13])])))) (show _=some ((zB true),_) from (by have hz:(oo (pu 17 [Sl.v 1 s52,Sl.v 1 s72]) none fun v=>some (v,(hT 3 [(oC [zI x7,zI x9,zI x11,Sl.v 1 s13]),(oC [zI x7,zI x9,zI x11,Sl.v 1 s13])])))=some ((zB b1),(hT 3 [(oC [zI x7,zI x9,zI x11,Sl.v 1 s13]),(oC [zI x7,zI x9,zI x11,Sl.v 1 s13])])):=(AB h0);rw[h1] at hz;exact hz)) (eC 3 (some ((zB (Bd x54 x74)),(hT 3 [(oC [zI x7,zI x9,zI x11,Sl.v 1 s13]),(oC [zI x7,zI x9,zI x11,Sl.v 1 s13])]))) (show _=some ((zB true),_) from (by rw[show (Bd x54 x74)=true from h2])) (eC 8 ((oo (pu 31 [(.agg ⟨[zI x7,zI x9,zI x11,Sl.v 1 s13]⟩),Sl.v 1 s15,Sl.v 1 s17]) none fun v=>some (v,(hT 3 [(oC [zI x7,zI x9,zI x11,Sl.v 1 s13]),(oC [zI x7,zI x9,zI x11,Sl.v 1 s13])])))) (AB h3) (by kernel_rfl)))) (eD ((oo (pu 32 [(.agg ⟨[zI x7,zI x9,zI x11,Sl.v 1 s13]⟩),Sl.v 1 s15,Sl.v 1 s17]) none fun v=>some (v,(hT 3 [(oC [zI x7,zI x9,zI x11,Sl.v 1 s13]),(oC [zI x7,zI x9,zI x11,Sl.v 1 s13])])))) (AB h4) (eD (some ((zB (Bd x0 x1)),(hT 3 [(oC [zI x7,zI x9,zI x11,Sl.v 1 s13]),(oC [zI x7,zI x9,zI x11,Sl.v 1 s13])]))) (show _=some ((zB true),_) from (by rw[show (Bd x0 x1)=true from h5])) (eC 2 ((oo (pu 10 []) none fun v=>some (v,(hT 3 [(oC [zI x7,zI x9,zI x11,Sl.v 1 s13]),(oC [zI x7,zI x9,zI x11,Sl.v 1 s13])])))) (AB h6) (eE))))) ?_
      exact⟨b2,hm,(.k0 [false] [] [6])⟩
     ·refine .reg (eC 2 ((oo (pu 17 [Sl.v 1 s52,Sl.v 1 s72]) none fun v=>some (v,(hT 3 [(oC [zI x7,zI x9,zI x11,Sl.v 1 s13]),(oC [zI x7,zI x9,zI x11,Sl.v 1 s13])])))) (show _=some ((zB true),_) from (by have hz:(oo (pu 17 [Sl.v 1 s52,Sl.v 1 s72]) none fun v=>some (v,(hT 3 [(oC [zI x7,zI x9,zI x11,Sl.v 1 s13]),(oC [zI x7,zI x9,zI x11,Sl.v 1 s13])])))=some ((zB b1),(hT 3 [(oC [zI x7,zI x9,zI x11,Sl.v 1 s13]),(oC [zI x7,zI x9,zI x11,Sl.v 1 s13])])):=(AB h0);rw[h1] at hz;exact hz)) (eC 3 (some ((zB (Bd x54 x74)),(hT 3 [(oC [zI x7,zI x9,zI x11,Sl.v 1 s13]),(oC [zI x7,zI x9,zI x11,Sl.v 1 s13])]))) (show _=some ((zB true),_) from (by rw[show (Bd x54 x74)=true from h2])) (eC 8 ((oo (pu 31 [(.agg ⟨[zI x7,zI x9,zI x11,Sl.v 1 s13]⟩),Sl.v 1 s15,Sl.v 1 s17]) none fun v=>some (v,(hT 3 [(oC [zI x7,zI x9,zI x11,Sl.v 1 s13]),(oC [zI x7,zI x9,zI x11,Sl.v 1 s13])])))) (AB h3) (eD ((oo (pu 32 [(.agg ⟨[zI x7,zI x9,zI x11,Sl.v 1 s13]⟩),Sl.v 1 s15,Sl.v 1 s17]) none fun v=>some (v,(hT 3 [(oC [zI x7,zI x9,zI x11,Sl.v 1 s13]),(oC [zI x7,zI x9,zI x11,Sl.v 1 s13])])))) (AB h4) (eD (some ((zB (Bd x0 x1)),(hT 3 [(oC [zI x7,zI x9,zI x11,Sl.v 1 s13]),(oC [zI x7,zI x9,zI x11,Sl.v 1 s13])]))) (show _=some ((zB false),_) from (by rw[show (Bd x0 x1)=false from h5])) (eE)))))) ?_
      exact⟨false,hm,(.k0 [false] [] [6])⟩
    ·refine .reg (eC 2 ((oo (pu 17 [Sl.v 1 s52,Sl.v 1 s72]) none fun v=>some (v,(hT 3 [(oC [zI x7,zI x9,zI x11,Sl.v 1 s13]),(oC [zI x7,zI x9,zI x11,Sl.v 1 s13])])))) (show _=some ((zB true),_) from (by have hz:(oo (pu 17 [Sl.v 1 s52,Sl.v 1 s72]) none fun v=>some (v,(hT 3 [(oC [zI x7,zI x9,zI x11,Sl.v 1 s13]),(oC [zI x7,zI x9,zI x11,Sl.v 1 s13])])))=some ((zB b1),(hT 3 [(oC [zI x7,zI x9,zI x11,Sl.v 1 s13]),(oC [zI x7,zI x9,zI x11,Sl.v 1 s13])])):=(AB h0);rw[h1] at hz;exact hz)) (eC 3 (some ((zB (Bd x54 x74)),(hT 3 [(oC [zI x7,zI x9,zI x11,Sl.v 1 s13]),(oC [zI x7,zI x9,zI x11,Sl.v 1 s13])]))) (show _=some ((zB false),_) from (by rw[show (Bd x54 x74)=false from h2])) (eE))) ?_
     exact⟨false,hm,(.k0 [false] [] [6])⟩
   ·refine .reg (eC 2 ((oo (pu 17 [Sl.v 1 s52,Sl.v 1 s72]) none fun v=>some (v,(hT 3 [(oC [zI x7,zI x9,zI x11,Sl.v 1 s13]),(oC [zI x7,zI x9,zI x11,Sl.v 1 s13])])))) (show _=some ((zB false),_) from (by have hz:(oo (pu 17 [Sl.v 1 s52,Sl.v 1 s72]) none fun v=>some (v,(hT 3 [(oC [zI x7,zI x9,zI x11,Sl.v 1 s13]),(oC [zI x7,zI x9,zI x11,Sl.v 1 s13])])))=some ((zB b1),(hT 3 [(oC [zI x7,zI x9,zI x11,Sl.v 1 s13]),(oC [zI x7,zI x9,zI x11,Sl.v 1 s13])])):=(AB h0);rw[h1] at hz;exact hz)) (eE)) ?_
    exact⟨false,hm,(.k0 [false] [] [6])⟩
def ZL (pu:Af) (n:Nat) (b0:Bool):OV:=
 (some (.bool b0))
def m9_ (pu:Af) (n:Nat) (x0 x1 x2:Int) (s0 s1 s2:Sl):OV:=
 (bb (AY (30:Int) (Int.ofNat (Sl.n s0))) (ZL pu n true) (bb (AY (60:Int) (Int.ofNat (Sl.n s1))) (ZL pu n true) (ZL pu n (AY (60:Int) (Int.ofNat (Sl.n s2))))))
def m9 (pu:Af) (n:Nat) (args:LV):OV:=
 (ll args none fun a0 args=>(ll args none fun a1 args=>(ll args none fun a2 args=>(ll args (oo (Bt a0) none fun l0=>(ll l0 none fun v0 l0=>(ll l0 none fun v1 l0=>(ll l0 none fun v2 l0=>(ll l0 none fun v3 l0=>(ll l0 (oo (Bi .i64 v0) none fun x0=>(oo (Bi .i64 v1) none fun x1=>(oo (Bi .i64 v2) none fun x2=>(oo (Bj 1 v3) none fun s0=>(oo (Bj 1 a1) none fun s1=>(oo (Bj 1 a2) none fun s2=>(m9_ pu n x0 x1 x2 s0 s1 s2))))))) fun _ _=>none)))))) fun _ _=>none))))
theorem Ajh (pu:Af) (n:Nat) (b0:Bool) {v:Value} (hm:ZL pu n b0=some v):BN tt (Bb tabs isP pu (inl pu)) 1 .ret (fr 21 [(6,zB b0)]) AO (Fin tt 1 [.tmp 6] v):=by
 unfold ZL at hm
 refine .ret ?_
 exact A7 (zB b0) hm
theorem r9 {call:A8} (pu:Af) (n:Nat) (hcall:call=Bb tabs isP pu (inl pu)) {args:LV} {v:Value} (hm:m9 pu n args=some v) (_:∀ x∈args,closed2 x=true):args.length≤21∧BN tt call 1 lT (Fr.made 21 args) (Ao tabs) (Fin tt 1 [.tmp 6] v):=by
 subst hcall
 unfold m9 at hm
 replace hm:=Ad hm;obtain⟨a0,args_0,rfl,hm⟩:=hm
 replace hm:=Ad hm;obtain⟨a1,args_1,rfl,hm⟩:=hm
 replace hm:=Ad hm;obtain⟨a2,args_2,rfl,hm⟩:=hm
 replace hm:=AC hm;obtain⟨rfl,hm⟩:=hm
 replace hm:=BG hm;obtain⟨l0,rfl,hm⟩:=hm
 replace hm:=Ad hm;obtain⟨v0,l191_0,rfl,hm⟩:=hm
 replace hm:=Ad hm;obtain⟨v1,l191_1,rfl,hm⟩:=hm
 replace hm:=Ad hm;obtain⟨v2,l191_2,rfl,hm⟩:=hm
 replace hm:=Ad hm;obtain⟨v3,l191_3,rfl,hm⟩:=hm
 replace hm:=AC hm;obtain⟨rfl,hm⟩:=hm
 replace hm:=Ai hm;obtain⟨x0,rfl,hm⟩:=hm
 replace hm:=Ai hm;obtain⟨x1,rfl,hm⟩:=hm
 replace hm:=Ai hm;obtain⟨x2,rfl,hm⟩:=hm
 replace hm:=Al hm;obtain⟨s0,rfl,hm⟩:=hm
 replace hm:=Al hm;obtain⟨s1,rfl,hm⟩:=hm
 replace hm:=Al hm;obtain⟨s2,rfl,hm⟩:=hm
 unfold m9_ at hm
 refine⟨by simp,?_⟩
 refine .same (F':=(fr 21 [(0,(.agg ⟨[zI x0,zI x1,zI x2,Sl.v 1 s0]⟩)),(1,Sl.v 1 s1),(2,Sl.v 1 s2)])) (H':=AO) (by kernel_rfl) (by kernel_rfl) ?_
 refine .then (.rK (.ghs (fr 21 [(1,Sl.v 1 s1),(2,Sl.v 1 s2),(3,pt 1 0)]) (hT 2 [(oC [zI x0,zI x1,zI x2,Sl.v 1 s0])]) (.k0 [false] [.tmp 3 false] [1,2,3]) ?_))
 refine .join (v:=v) (fun y:Bool=>((fr 21 [(6,zB y)]),AO)) (fun y=>ZL pu n y) ?_ ?_
 ·rintro b0 hm
  exact Ajh pu n b0 hm
 ·replace hm:=Ag hm;rcases hm with⟨h0,hm⟩ | ⟨h0,hm⟩
  ·refine .reg (eC 3 (some ((zB (AY (30:Int) (Int.ofNat (Sl.n s0)))),(hT 2 [(oC [zI x0,zI x1,zI x2,Sl.v 1 s0])]))) (show _=some ((zB true),_) from (by rw[show (AY (30:Int) (Int.ofNat (Sl.n s0)))=true from h0])) (eE)) ?_
   exact⟨true,hm,(.k0 [false] [] [6])⟩
  ·replace hm:=Ag hm;rcases hm with⟨h1,hm⟩ | ⟨h1,hm⟩
   ·refine .reg (eC 3 (some ((zB (AY (30:Int) (Int.ofNat (Sl.n s0)))),(hT 2 [(oC [zI x0,zI x1,zI x2,Sl.v 1 s0])]))) (show _=some ((zB false),_) from (by rw[show (AY (30:Int) (Int.ofNat (Sl.n s0)))=false from h0])) (eC 3 (some ((zB (AY (60:Int) (Int.ofNat (Sl.n s1)))),(hT 2 [(oC [zI x0,zI x1,zI x2,Sl.v 1 s0])]))) (show _=some ((zB true),_) from (by rw[show (AY (60:Int) (Int.ofNat (Sl.n s1)))=true from h1])) (eE))) ?_
    exact⟨true,hm,(.k0 [false] [] [6])⟩
   ·refine .reg (eC 3 (some ((zB (AY (30:Int) (Int.ofNat (Sl.n s0)))),(hT 2 [(oC [zI x0,zI x1,zI x2,Sl.v 1 s0])]))) (show _=some ((zB false),_) from (by rw[show (AY (30:Int) (Int.ofNat (Sl.n s0)))=false from h0])) (eC 3 (some ((zB (AY (60:Int) (Int.ofNat (Sl.n s1)))),(hT 2 [(oC [zI x0,zI x1,zI x2,Sl.v 1 s0])]))) (show _=some ((zB false),_) from (by rw[show (AY (60:Int) (Int.ofNat (Sl.n s1)))=false from h1])) (eE))) ?_
    exact⟨(AY (60:Int) (Int.ofNat (Sl.n s2))),hm,(.k0 [false] [] [6])⟩
def X6 (pu:Af) (n:Nat):OV:=
 (some (.bool true))
def Ps (pu:Af) (n:Nat) (ih0:Sl→Sl→Int→OV) (s0 s1:Sl) (z0:Int):OV:=
 (bb (AY z0 (Int.ofNat (Sl.n s0))) (oo (EA z0) none fun k1=>(bb (an (Nat.blt k1 (Sl.n s0)) true) (oo (AL (Sl.cs s0) (k1*1)) none fun v0=>(oo (Bi .i64 v0) none fun x0=>(bb (an (Nat.blt k1 (Sl.n s1)) true) (oo (AL (Sl.cs s1) (k1*1)) none fun v1=>(oo (Bi .i64 v1) none fun x1=>(bb (nt (Bd x0 x1)) (some (.bool false)) (ih0 s0 s1 (Aj .i64 (Int.add (Int.ofNat k1) (1:Int))))))) none))) none)) (X6 pu n))
def Pt (pu:Af) (n w:Nat):Sl→Sl→Int→OV:=
 Nat.rec (motive:=fun _=>Sl→Sl→Int→OV) (fun _ _ _=>none) (fun _ ih0=>Ps pu n ih0) w
def AfW (pu:Af) (n:Nat) (s0 s1:Sl):OV:=
 (bb (nt (Bd (Int.ofNat (Sl.n s0)) (Int.ofNat (Sl.n s1)))) (some (.bool false)) (Pt pu n n s0 s1 (0:Int)))
def m17 (pu:Af) (n:Nat) (args:LV):OV:=
 (ll args none fun a0 args=>(ll args none fun a1 args=>(ll args (oo (Bj 1 a0) none fun s0=>(oo (Bj 1 a1) none fun s1=>(AfW pu n s0 s1))) fun _ _=>none)))
theorem AfY (pu:Af) (n:Nat) {v:Value} (hm:X6 pu n=some v):BN tt (Bb tabs isP pu (inl pu)) 1 dB (fr 26 []) AO (Fin tt 1 [.tmp 4] v):=by
 unfold X6 at hm
 refine .then (.rK (.ghs (fr 26 [(4,zB true)]) AO (.k0 [false] [] [4]) ?_))
 refine .ret ?_
 exact A7 (zB true) hm
theorem r17 {call:A8} (pu:Af) (n:Nat) (hcall:call=Bb tabs isP pu (inl pu)) {args:LV} {v:Value} (hm:m17 pu n args=some v) (_:∀ x∈args,closed2 x=true):args.length≤26∧BN tt call 1 TZ (Fr.made 26 args) (Ao tabs) (Fin tt 1 [.tmp 4] v):=by
 subst hcall
 unfold m17 at hm
 replace hm:=Ad hm;obtain⟨a0,args_0,rfl,hm⟩:=hm
 replace hm:=Ad hm;obtain⟨a1,args_1,rfl,hm⟩:=hm
 replace hm:=AC hm;obtain⟨rfl,hm⟩:=hm
 replace hm:=Al hm;obtain⟨s0,rfl,hm⟩:=hm
 replace hm:=Al hm;obtain⟨s1,rfl,hm⟩:=hm
 unfold AfW at hm
 refine⟨by simp,?_⟩
 refine .same (F':=(fr 26 [(0,Sl.v 1 s0),(1,Sl.v 1 s1)])) (H':=AO) (by kernel_rfl) (by kernel_rfl) ?_
 refine .then (.rK (.ghs (fr 26 [(0,Sl.v 1 s0),(1,Sl.v 1 s1)]) AO (.k0 [false] [] [0,1]) ?_))
 refine .then (.then (.rK (.ghs (fr 26 [(0,Sl.v 1 s0),(1,Sl.v 1 s1),(10,(zB (nt (Bd (Int.ofNat (Sl.n s0)) (Int.ofNat (Sl.n s1))))))]) AO (.k0 [false] [] [0,1,10]) ?_)))
 replace hm:=Ag hm;rcases hm with⟨h0,hm⟩ | ⟨h0,hm⟩
 ·refine Bq (nt (Bd (Int.ofNat (Sl.n s0)) (Int.ofNat (Sl.n s1)))) h0 ?_
  refine .then (.rK (.ghs (fr 26 [(4,zB false)]) AO (.k0 [false] [] [4]) ?_))
  refine .ret ?_
  exact A7 (zB false) hm
 ·refine BB (nt (Bd (Int.ofNat (Sl.n s0)) (Int.ofNat (Sl.n s1)))) h0 ?_
  refine .skip (.ghs (fr 26 [(0,Sl.v 1 s0),(1,Sl.v 1 s1)]) AO (.k0 [false] [] [0,1]) ?_)
  refine .join (v:=v) (fun y:Unit=>((fr 26 []),AO)) (fun y=>X6 pu n) ?_ ?_
  ·rintro _ hm
   exact AfY pu n hm
  ·refine .then (.rK (.ghs (fr 26 [(0,Sl.v 1 s0),(1,Sl.v 1 s1),(5,(zI (0:Int)))]) AO (.k0 [false] [] [0,1,5]) ?_))
   refine .block (.loopM (v:=v) (fun y:Sl×Sl×Int=>((fr 26 [(0,(Sl.v 1 y.1)),(1,(Sl.v 1 y.2.1)),(5,(zI y.2.2))]),AO)) (fun w y=>Pt pu n w y.1 y.2.1 y.2.2) n ⟨(s0,s1,(0:Int)),hm,(.k0 [false] [] [0,1,5])⟩ (fun _=>rfl) ?_)
   rintro w0 ⟨s2,s3,z0⟩ hm
   replace hm:Ps pu n (Pt pu n w0) s2 s3 z0=some v:=hm
   unfold Ps at hm
   refine .then (.then (.rK (.ghs (fr 26 [(0,Sl.v 1 s2),(1,Sl.v 1 s3),(5,zI z0),(14,(zB (AY z0 (Int.ofNat (Sl.n s2)))))]) AO (.k0 [false] [] [0,1,5,14]) ?_)))
   replace hm:=Ag hm;rcases hm with⟨h1,hm⟩ | ⟨h1,hm⟩
   ·refine Bq (AY z0 (Int.ofNat (Sl.n s2))) h1 ?_
    refine .skip (.ghs (fr 26 [(0,Sl.v 1 s2),(1,Sl.v 1 s3),(5,zI z0)]) AO (.k0 [false] [] [0,1,5]) ?_)
    refine .then (.block (.then ?_))
    replace hm:=Ab hm;obtain⟨k1,h2,hm⟩:=hm
    obtain rfl:=AR h2
    replace hm:=Ae hm;obtain⟨h3,hm⟩:=hm
    replace hm:=Gt hm;obtain⟨x0,h4,hm⟩:=hm
    replace hm:=Ae hm;obtain⟨h5,hm⟩:=hm
    replace hm:=Gt hm;obtain⟨x1,h6,hm⟩:=hm
    refine .reg (eC 2 (keep AO (bb (an (Nat.blt k1 (Sl.n s2)) true) (some (Cv (k1*1) (Sl.cs s2))) none)) (AX h3) (eD (keep AO (AL (Sl.cs s2) (k1*1))) (AZ h4) (eC 2 (keep AO (bb (an (Nat.blt k1 (Sl.n s3)) true) (some (Cv (k1*1) (Sl.cs s3))) none)) (AX h5) (eD (keep AO (AL (Sl.cs s3) (k1*1))) (AZ h6) (eE))))) ?_
    refine .ghs (fr 26 [(0,Sl.v 1 s2),(1,Sl.v 1 s3),(5,(zI (Int.ofNat k1))),(25,(zB (nt (Bd x0 x1))))]) AO (.k0 [false] [] [0,1,5,25]) ?_
    replace hm:=Ag hm;rcases hm with⟨h7,hm⟩ | ⟨h7,hm⟩
    ·refine Bq (nt (Bd x0 x1)) h7 ?_
     refine .then (.rK (.ghs (fr 26 [(4,zB false)]) AO (.k0 [false] [] [4]) ?_))
     refine .ret ?_
     exact A7 (zB false) hm
    ·refine BB (nt (Bd x0 x1)) h7 ?_
     refine .skip (.ghs (fr 26 [(0,Sl.v 1 s2),(1,Sl.v 1 s3),(5,(zI (Int.ofNat k1)))]) AO (.k0 [false] [] [0,1,5]) ?_)
     refine .rK ?_
     exact⟨(s2,s3,(Aj .i64 (Int.add (Int.ofNat k1) (1:Int)))),hm,(.k0 [false] [] [0,1,5])⟩
   ·refine BB (AY z0 (Int.ofNat (Sl.n s2))) h1 ?_
    refine .exit ?_
    exact⟨(),hm,(.k0 [false] [] [])⟩

def ZM (pu:Af) (n:Nat) (x0 x1 x2:Int) (s0 s1:Sl):OV:=
 (oo (pu 43 [(.agg ⟨[.int .i64 x0,.int .i64 x1,.int .i64 x2,Sl.v 1 s0]⟩),(Sl.v 1 (Sl.mk 1 0 (Aq (1*1) (Am 0 ([Sl.v 1 s1]:LV)))))]) none fun v0=>(oo (CQ v0) none fun l0=>(ll l0 none fun v1 l0=>(ll l0 none fun v2 l0=>(ll l0 (bb (isS (Pv v1)) (oo (Pv v1) none fun p0=>(oo (Bi .i64 v2) none fun x3=>(bb (nt (Bd x3 (0:Int))) (some (.tuple ⟨[(Sl.v 1 (Sl.mk 0 2 [])),.int .i64 x3]⟩)) (oo (pu 10650 [(Sl.v 1 (Sl.mk 0 2 [])),(.int .i64 (0:Int)),(.pointer (some ⟨1,0,none⟩)),(.pointer (some ⟨2,0,none⟩)),(.pointer (some ⟨3,0,none⟩)),(.pointer (some ⟨4,0,none⟩)),(.pointer (some ⟨5,0,none⟩)),(.agg ⟨[(Cv (Db.off p0) (Db.cs p0))]⟩),(.agg ⟨[Sl.v 1 s1]⟩),(.agg ⟨[(.int .i64 (64:Int))]⟩),(.agg ⟨[(Sl.v 1 (Sl.mk 0 2 []))]⟩),(.agg ⟨[(.func (.func 65) ⟨[]⟩ ⟨[(.pointer (some ⟨1,0,none⟩)),(.pointer (some ⟨2,0,none⟩)),(.pointer (some ⟨3,0,none⟩)),(.pointer (some ⟨4,0,none⟩)),(.pointer (some ⟨5,0,none⟩))]⟩)]⟩)]) none fun v3=>(oo (CQ v3) none fun l1=>(ll l1 none fun v4 l1=>(ll l1 none fun v5 l1=>(ll l1 none fun v6 l1=>(ll l1 none fun v7 l1=>(ll l1 none fun v8 l1=>(ll l1 none fun v9 l1=>(ll l1 (bb (MC v4) (oo (Bt v5) none fun l2=>(ll l2 none fun v10 l2=>(ll l2 (oo (Pv v10) none fun p1=>(oo (Bt v6) none fun l3=>(ll l3 none fun v11 l3=>(ll l3 (oo (Bj 1 v11) none fun s2=>(oo (Bt v7) none fun l4=>(ll l4 none fun v12 l4=>(ll l4 (oo (Bi .i64 v12) none fun x4=>(oo (Bt v8) none fun l5=>(ll l5 none fun v13 l5=>(ll l5 (oo (Bj 1 v13) none fun s3=>(oo (Bt v9) none fun l6=>(ll l6 none fun v14 l6=>(ll l6 (oo (Om 65 0 v14) none fun l7=>(ll l7 none fun v15 l7=>(ll l7 none fun v16 l7=>(ll l7 none fun v17 l7=>(ll l7 none fun v18 l7=>(ll l7 none fun v19 l7=>(ll l7 (bb (MK v15 1 0) (bb (MK v16 2 0) (bb (MK v17 3 0) (bb (MK v18 4 0) (bb (MK v19 5 0) (some (.tuple ⟨[Sl.v 1 s3,(.int .i64 (0:Int))]⟩)) none) none) none) none) none) fun _ _=>none))))))) fun _ _=>none)))) fun _ _=>none)))) fun _ _=>none)))) fun _ _=>none)))) fun _ _=>none))) none) fun _ _=>none)))))))))))) (bb (WQ v1) (oo (Bi .i64 v2) none fun x5=>(bb (nt (Bd x5 (0:Int))) (some (.tuple ⟨[(Sl.v 1 (Sl.mk 0 2 [])),.int .i64 x5]⟩)) none)) none)) fun _ _=>none)))))
def m29 (pu:Af) (n:Nat) (args:LV):OV:=
 (ll args none fun a0 args=>(ll args none fun a1 args=>(ll args (oo (Bt a0) none fun l0=>(ll l0 none fun v0 l0=>(ll l0 none fun v1 l0=>(ll l0 none fun v2 l0=>(ll l0 none fun v3 l0=>(ll l0 (oo (Bi .i64 v0) none fun x0=>(oo (Bi .i64 v1) none fun x1=>(oo (Bi .i64 v2) none fun x2=>(oo (Bj 1 v3) none fun s0=>(oo (Bj 1 a1) none fun s1=>(ZM pu n x0 x1 x2 s0 s1)))))) fun _ _=>none)))))) fun _ _=>none)))
theorem r29 {call:A8} (pu:Af) (n:Nat) (hcall:call=Bb tabs isP pu (inl pu)) {args:LV} {v:Value} (hm:m29 pu n args=some v) (_:∀ x∈args,closed2 x=true):args.length≤25∧BN tt call 1 T9 (Fr.made 25 args) (Ao tabs) (Fin tt 1 [.tmp 4,.tmp 5] v):=by
 subst hcall
 unfold m29 at hm
 replace hm:=Ad hm;obtain⟨a0,args_0,rfl,hm⟩:=hm
 replace hm:=Ad hm;obtain⟨a1,args_1,rfl,hm⟩:=hm
 replace hm:=AC hm;obtain⟨rfl,hm⟩:=hm
 replace hm:=BG hm;obtain⟨l0,rfl,hm⟩:=hm
 replace hm:=Ad hm;obtain⟨v0,l314_0,rfl,hm⟩:=hm
 replace hm:=Ad hm;obtain⟨v1,l314_1,rfl,hm⟩:=hm
 replace hm:=Ad hm;obtain⟨v2,l314_2,rfl,hm⟩:=hm
 replace hm:=Ad hm;obtain⟨v3,l314_3,rfl,hm⟩:=hm
 replace hm:=AC hm;obtain⟨rfl,hm⟩:=hm
 replace hm:=Ai hm;obtain⟨x0,rfl,hm⟩:=hm
 replace hm:=Ai hm;obtain⟨x1,rfl,hm⟩:=hm
 replace hm:=Ai hm;obtain⟨x2,rfl,hm⟩:=hm
 replace hm:=Al hm;obtain⟨s0,rfl,hm⟩:=hm
 replace hm:=Al hm;obtain⟨s1,rfl,hm⟩:=hm
 unfold ZM at hm
 refine⟨by simp,?_⟩
 refine .same (F':=(fr 25 [(0,(.agg ⟨[zI x0,zI x1,zI x2,Sl.v 1 s0]⟩)),(1,Sl.v 1 s1)])) (H':=AO) (by kernel_rfl) (by kernel_rfl) ?_
 refine .then (.rK (.ghs (fr 25 [(2,pt 1 0),(3,(pt 2 0))]) (hT 3 [(oC [zI x0,zI x1,zI x2,Sl.v 1 s0]),(oC [Sl.v 1 s1])]) (.k0 [false] [.tmp 2 false,.tmp 3 false] [2,3]) ?_))
 refine .then ?_
 replace hm:=Ab hm;obtain⟨v4,h0,hm⟩:=hm
 replace hm:=Ch hm;obtain⟨l1,rfl,hm⟩:=hm
 replace hm:=Ad hm;obtain⟨v5,l343_0,rfl,hm⟩:=hm
 replace hm:=Ad hm;obtain⟨v6,l343_1,rfl,hm⟩:=hm
 replace hm:=AC hm;obtain⟨rfl,hm⟩:=hm
 replace hm:=Ag hm;rcases hm with⟨h1,hm⟩ | ⟨h1,hm⟩
 ·replace hm:=Ab hm;obtain⟨p0,h2,hm⟩:=hm
  obtain rfl:=F7 h2
  replace hm:=Ai hm;obtain⟨x3,rfl,hm⟩:=hm
  refine .reg (eC 3 (Hr tabs 1 (pu 43) [(.agg ⟨[zI x0,zI x1,zI x2,Sl.v 1 s0]⟩),sc 3 0 1 1 3] (hT 4 [(oC [zI x0,zI x1,zI x2,Sl.v 1 s0]),(oC [Sl.v 1 s1]),(oC [Sl.v 1 s1])])) (KI (DZ (CV (z:=1) (v:=(.agg ⟨[zI x0,zI x1,zI x2,Sl.v 1 s0]⟩)) (H:=(hT 4 [(oC [zI x0,zI x1,zI x2,Sl.v 1 s0]),(oC [Sl.v 1 s1]),(oC [Sl.v 1 s1])])) (by kernel_rfl) (by kernel_rfl) (by kernel_rfl)) (DZ (show ER 1 (sc 3 0 1 1 3) (hT 4 [(oC [zI x0,zI x1,zI x2,Sl.v 1 s0]),(oC [Sl.v 1 s1]),(oC [Sl.v 1 s1])])=some ((Sl.v 1 (Sl.mk 1 0 (Aq (1*1) (Am 0 ([Sl.v 1 s1]:LV))))),(hT 4 [(oC [zI x0,zI x1,zI x2,Sl.v 1 s0]),(oC [Sl.v 1 s1]),.dead])) from KH 3 0 1 1 3 ([Sl.v 1 s1]:LV) [] (by kernel_rfl) (by kernel_rfl) (by kernel_rfl)) Jt)) (by kernel_rfl) h0) (eE)) ?_
  refine .ghs (fr 25 [(3,pt 1 0),(6,(pt 2 0)),(7,zI x3)]) (hT 3 [(oC [Sl.v 1 s1]),(oC [(Cv (Db.off p0) (Db.cs p0))])]) (.k0 [false] [.tmp 3 false,.tmp 6 false] [3,6,7]) ?_
  refine .then (.then (.rK (.ghs (fr 25 [(3,pt 1 0),(6,(pt 2 0)),(7,zI x3),(19,(zB (nt (Bd x3 (0:Int)))))]) (hT 3 [(oC [Sl.v 1 s1]),(oC [(Cv (Db.off p0) (Db.cs p0))])]) (.k0 [false] [.tmp 3 false,.tmp 6 false] [3,6,7,19]) ?_)))
  replace hm:=Ag hm;rcases hm with⟨h3,hm⟩ | ⟨h3,hm⟩
  ·refine Bq (nt (Bd x3 (0:Int))) h3 ?_
   refine .then (.rK (.ghs (fr 25 [(4,(.slice none 0 0)),(5,zI x3)]) AO (.k0 [false] [] [4,5]) ?_))
   refine .ghs (Fr.puts (fr 25 [(4,(.slice none 0 0)),(5,zI x3)]) [(4,(Sl.v 1 (Sl.mk 0 2 [])))]) AO (.freeze 1 4 1 (by kernel_rfl) (by kernel_rfl) (E9.id _ _)) ?_
   refine .ret ?_
   exact A7 (.tuple ⟨[(Sl.v 1 (Sl.mk 0 2 [])),zI x3]⟩) hm
  ·refine BB (nt (Bd x3 (0:Int))) h3 ?_
   refine .skip (.ghs (fr 25 [(3,pt 1 0),(6,(pt 2 0))]) (hT 3 [(oC [Sl.v 1 s1]),(oC [(Cv (Db.off p0) (Db.cs p0))])]) (.k0 [false] [.tmp 3 false,.tmp 6 false] [3,6]) ?_)
   refine .then (.rG (NY.seg 1 (Fr.puts (fr 25 [(3,pt 1 0),(6,(pt 2 0))]) [(8,(pt 3 0))]) (hT 4 [(oC [Sl.v 1 s1]),(oC [(Cv (Db.off p0) (Db.cs p0))]),(oC [(.slice none 0 0)])]) (by kernel_rfl) (NY.ghs (Fr.puts (fr 25 [(3,pt 1 0),(6,(pt 2 0))]) [(8,(pt 3 0))]) (hT 4 [(oC [Sl.v 1 s1]),(oC [(Cv (Db.off p0) (Db.cs p0))]),(oC [(Sl.v 1 (Sl.mk 0 2 []))])]) (.nilC 3 0 1 [(.slice none 0 0)] (imm:=false) (spent:=false) (anc:=[]) (by kernel_rfl) (by kernel_rfl) (by kernel_rfl) (E9.id _ _)) (NY.fin eE))) ?_)
   refine .ghs (fr 25 [(3,pt 1 0),(6,(pt 2 0)),(8,(pt 3 0))]) (hT 4 [(oC [Sl.v 1 s1]),(oC [(Cv (Db.off p0) (Db.cs p0))]),(oC [(Sl.v 1 (Sl.mk 0 2 []))])]) (.k0 [false] [.tmp 3 false,.tmp 6 false,.tmp 8 false] [3,6,8]) ?_
   refine .then (.rK (.ghs (fr 25 [(3,pt 1 0),(6,(pt 2 0)),(8,(pt 3 0)),(9,(pt 4 0))]) (hT 5 [(oC [Sl.v 1 s1]),(oC [(Cv (Db.off p0) (Db.cs p0))]),(oC [(Sl.v 1 (Sl.mk 0 2 []))]),(oC [(zI (64:Int))])]) (.k0 [false] [.tmp 3 false,.tmp 6 false,.tmp 8 false,.tmp 9 false] [3,6,8,9]) ?_))
   refine .then (.rK (.ghs (fr 25 [(3,pt 1 0),(6,(pt 2 0)),(8,(pt 3 0)),(9,(pt 4 0)),(10,(pt 5 0))]) (hT 6 [(oC [Sl.v 1 s1]),(oC [(Cv (Db.off p0) (Db.cs p0))]),(oC [(Sl.v 1 (Sl.mk 0 2 []))]),(oC [(zI (64:Int))]),(oC [.nilFunc])]) (.k0 [false] [.tmp 3 false,.tmp 6 false,.tmp 8 false,.tmp 9 false,.tmp 10 false] [3,6,8,9,10]) ?_))
   refine .then (.rK (.ghs (fr 25 [(8,pt 1 0),(10,(pt 2 0))]) (hT 6 [(oC [(Sl.v 1 (Sl.mk 0 2 []))]),(oC [(.func (.func 65) ⟨[]⟩ ⟨[(pt 3 0),(pt 4 0),(pt 5 0),pt 1 0,(pt 2 0)]⟩)]),(oC [(Cv (Db.off p0) (Db.cs p0))]),(oC [Sl.v 1 s1]),(oC [(zI (64:Int))])]) (.k0 [false] [.tmp 8 false,.tmp 10 true,.ccap 2 0 0 false,.ccap 2 0 1 false,.ccap 2 0 2 false] [8,10]) ?_))
   refine .then ?_
   replace hm:=Ab hm;obtain⟨v7,h4,hm⟩:=hm
   replace hm:=Ch hm;obtain⟨l2,rfl,hm⟩:=hm
   replace hm:=Ad hm;obtain⟨v8,l1422_0,rfl,hm⟩:=hm
   replace hm:=Ad hm;obtain⟨v9,l1422_1,rfl,hm⟩:=hm
   replace hm:=Ad hm;obtain⟨v10,l1422_2,rfl,hm⟩:=hm
   replace hm:=Ad hm;obtain⟨v11,l1422_3,rfl,hm⟩:=hm
   replace hm:=Ad hm;obtain⟨v12,l1422_4,rfl,hm⟩:=hm
   replace hm:=Ad hm;obtain⟨v13,l1422_5,rfl,hm⟩:=hm
   replace hm:=AC hm;obtain⟨rfl,hm⟩:=hm
   replace hm:=Ae hm;obtain⟨h5,hm⟩:=hm
   obtain rfl:=Oo h5
   replace hm:=BG hm;obtain⟨l3,rfl,hm⟩:=hm
   replace hm:=Ad hm;obtain⟨v14,l1431_0,rfl,hm⟩:=hm
   replace hm:=AC hm;obtain⟨rfl,hm⟩:=hm
   replace hm:=Ab hm;obtain⟨p1,h6,hm⟩:=hm
   obtain rfl:=F7 h6
   replace hm:=BG hm;obtain⟨l4,rfl,hm⟩:=hm
   replace hm:=Ad hm;obtain⟨v15,l1436_0,rfl,hm⟩:=hm
   replace hm:=AC hm;obtain⟨rfl,hm⟩:=hm
   replace hm:=Al hm;obtain⟨s2,rfl,hm⟩:=hm
   replace hm:=BG hm;obtain⟨l5,rfl,hm⟩:=hm
   replace hm:=Ad hm;obtain⟨v16,l1441_0,rfl,hm⟩:=hm
   replace hm:=AC hm;obtain⟨rfl,hm⟩:=hm
   replace hm:=Ai hm;obtain⟨x4,rfl,hm⟩:=hm
   replace hm:=BG hm;obtain⟨l6,rfl,hm⟩:=hm
   replace hm:=Ad hm;obtain⟨v17,l1446_0,rfl,hm⟩:=hm
   replace hm:=AC hm;obtain⟨rfl,hm⟩:=hm
   replace hm:=Al hm;obtain⟨s3,rfl,hm⟩:=hm
   replace hm:=BG hm;obtain⟨l7,rfl,hm⟩:=hm
   replace hm:=Ad hm;obtain⟨v18,l1451_0,rfl,hm⟩:=hm
   replace hm:=AC hm;obtain⟨rfl,hm⟩:=hm
   replace hm:=Ab hm;obtain⟨l8,h7,hm⟩:=hm
   obtain rfl:=Hu h7
   replace hm:=Ad hm;obtain⟨v19,l1454_0,rfl,hm⟩:=hm
   replace hm:=Ad hm;obtain⟨v20,l1454_1,rfl,hm⟩:=hm
   replace hm:=Ad hm;obtain⟨v21,l1454_2,rfl,hm⟩:=hm
   replace hm:=Ad hm;obtain⟨v22,l1454_3,rfl,hm⟩:=hm
   replace hm:=Ad hm;obtain⟨v23,l1454_4,rfl,hm⟩:=hm
   replace hm:=AC hm;obtain⟨rfl,hm⟩:=hm
   replace hm:=Ae hm;obtain⟨h8,hm⟩:=hm
   obtain rfl:=KR h8
   replace hm:=Ae hm;obtain⟨h9,hm⟩:=hm
   obtain rfl:=KR h9
   replace hm:=Ae hm;obtain⟨h10,hm⟩:=hm
   obtain rfl:=KR h10
   replace hm:=Ae hm;obtain⟨h11,hm⟩:=hm
   obtain rfl:=KR h11
   replace hm:=Ae hm;obtain⟨h12,hm⟩:=hm
   obtain rfl:=KR h12
   refine .reg (eC 1 (EK tabs [[some 1],[none],[none],[none],[none],[none],[none]] 7 [.tmp 2 false,.tmp 3 false,.tmp 4 false,.tmp 5 false,.tmp 6 true] [false,false,false,false,true] (pu 10650) [(.slice none 0 0),(zI (0:Int)),(pt 3 0),(pt 4 0),(pt 5 0),pt 1 0,(pt 2 0)] (hT 6 [(oC [(Sl.v 1 (Sl.mk 0 2 []))]),(oC [(.func (.func 65) ⟨[]⟩ ⟨[(pt 3 0),(pt 4 0),(pt 5 0),pt 1 0,(pt 2 0)]⟩)]),(oC [(Cv (Db.off p0) (Db.cs p0))]),(oC [Sl.v 1 s1]),(oC [(zI (64:Int))])])) (EL (as:=[(Sl.v 1 (Sl.mk 0 2 [])),(zI (0:Int)),(pt 3 0),(pt 4 0),(pt 5 0),pt 1 0,(pt 2 0)]) (H1:=(hT 6 [(oC [(Sl.v 1 (Sl.mk 0 2 []))]),(oC [(.func (.func 65) ⟨[]⟩ ⟨[(pt 3 0),(pt 4 0),(pt 5 0),pt 1 0,(pt 2 0)]⟩)]),(oC [(Cv (Db.off p0) (Db.cs p0))]),(oC [Sl.v 1 s1]),(oC [(zI (64:Int))])])) (BS (Dm (KQ (Ju (z:=1) (H:=(hT 6 [(oC [(Sl.v 1 (Sl.mk 0 2 []))]),(oC [(.func (.func 65) ⟨[]⟩ ⟨[(pt 3 0),(pt 4 0),(pt 5 0),pt 1 0,(pt 2 0)]⟩)]),(oC [(Cv (Db.off p0) (Db.cs p0))]),(oC [Sl.v 1 s1]),(oC [(zI (64:Int))])]))))) (BS (Dm Dk) (BS (Dm Dk) (BS (Dm Dk) (BS (Dm Dk) (BS (Dm Dk) (BS (Dm Dk) Gj))))))) (EI (H2:=(hT 6 [(oC [Sl.v 1 s3]),(oC [(.func (.func 65) ⟨[]⟩ ⟨[(pt 3 0),(pt 4 0),(pt 5 0),pt 1 0,(pt 2 0)]⟩)]),(oC [(Cv (Db.off p1) (Db.cs p1))]),(oC [Sl.v 1 s2]),(oC [zI x4])])) (v:=(.tuple ⟨[]⟩)) (v':=(.tuple ⟨[]⟩)) [some 0,some 3,some 4,some 5,some 1,some 2] [(false,some 3),(false,some 4),(false,some 5),(false,some 1),(true,some 2)] [(oC [(Cv (Db.off p0) (Db.cs p0))]),(oC [Sl.v 1 s1]),(oC [(zI (64:Int))]),(oC [(Sl.v 1 (Sl.mk 0 2 []))]),(oC [(.func (.func 65) ⟨[]⟩ ⟨[pt 1 0,(pt 2 0),(pt 3 0),(pt 4 0),(pt 5 0)]⟩)])] [(Sl.v 1 (Sl.mk 0 2 [])),(zI (0:Int)),pt 1 0,(pt 2 0),(pt 3 0),(pt 4 0),(pt 5 0)] [(.agg ⟨[(Cv (Db.off p1) (Db.cs p1))]⟩),(.agg ⟨[Sl.v 1 s2]⟩),(.agg ⟨[zI x4]⟩),(.agg ⟨[Sl.v 1 s3]⟩),(.agg ⟨[(.func (.func 65) ⟨[]⟩ ⟨[pt 1 0,(pt 2 0),(pt 3 0),(pt 4 0),(pt 5 0)]⟩)]⟩)] [(oC [(Cv (Db.off p1) (Db.cs p1))]),(oC [Sl.v 1 s2]),(oC [zI x4]),(oC [Sl.v 1 s3]),(oC [(.func (.func 65) ⟨[]⟩ ⟨[pt 1 0,(pt 2 0),(pt 3 0),(pt 4 0),(pt 5 0)]⟩)])] [some 0,some 4,some 5,some 1,some 2,some 3] [(false,(oC [(Cv (Db.off p1) (Db.cs p1))])),(false,(oC [Sl.v 1 s2])),(false,(oC [zI x4])),(false,(oC [Sl.v 1 s3])),(true,(oC [(.func (.func 65) ⟨[]⟩ ⟨[pt 1 0,(pt 2 0),(pt 3 0),(pt 4 0),(pt 5 0)]⟩)]))] [(oC [(Cv (Db.off p1) (Db.cs p1))]),(oC [Sl.v 1 s2]),(oC [zI x4]),(oC [Sl.v 1 s3]),(oC [(.func (.func 65) ⟨[]⟩ ⟨[(pt 3 0),(pt 4 0),(pt 5 0),pt 1 0,(pt 2 0)]⟩)])] (by kernel_rfl) (En (by kernel_rfl) (En (by kernel_rfl) (En (by kernel_rfl) (En (by kernel_rfl) (En (by kernel_rfl) BX))))) (Eq.trans (by kernel_rfl) h4) (En rfl (En rfl (En rfl (En rfl (En rfl BX))))) (En (by kernel_rfl) (En (by kernel_rfl) (En (by kernel_rfl) (En (by kernel_rfl) (En (by kernel_rfl) BX))))))) (eE)) ?_
   refine .ghs (fr 25 [(8,pt 1 0)]) (hT 2 [(oC [Sl.v 1 s3])]) (.k0 [false] [.tmp 8 false] [8]) ?_
   refine .then (.rK (.ghs (fr 25 [(4,Sl.v 1 s3),(5,(zI (0:Int)))]) AO (.k0 [false] [] [4,5]) ?_))
   refine .ret ?_
   exact A7 (.tuple ⟨[Sl.v 1 s3,(zI (0:Int))]⟩) hm
 ·replace hm:=Ae hm;obtain⟨h13,hm⟩:=hm
  obtain rfl:=TY h13
  replace hm:=Ai hm;obtain⟨x5,rfl,hm⟩:=hm
  refine .reg (eC 3 (Hr tabs 1 (pu 43) [(.agg ⟨[zI x0,zI x1,zI x2,Sl.v 1 s0]⟩),sc 3 0 1 1 3] (hT 4 [(oC [zI x0,zI x1,zI x2,Sl.v 1 s0]),(oC [Sl.v 1 s1]),(oC [Sl.v 1 s1])])) (KI (DZ (CV (z:=1) (v:=(.agg ⟨[zI x0,zI x1,zI x2,Sl.v 1 s0]⟩)) (H:=(hT 4 [(oC [zI x0,zI x1,zI x2,Sl.v 1 s0]),(oC [Sl.v 1 s1]),(oC [Sl.v 1 s1])])) (by kernel_rfl) (by kernel_rfl) (by kernel_rfl)) (DZ (show ER 1 (sc 3 0 1 1 3) (hT 4 [(oC [zI x0,zI x1,zI x2,Sl.v 1 s0]),(oC [Sl.v 1 s1]),(oC [Sl.v 1 s1])])=some ((Sl.v 1 (Sl.mk 1 0 (Aq (1*1) (Am 0 ([Sl.v 1 s1]:LV))))),(hT 4 [(oC [zI x0,zI x1,zI x2,Sl.v 1 s0]),(oC [Sl.v 1 s1]),.dead])) from KH 3 0 1 1 3 ([Sl.v 1 s1]:LV) [] (by kernel_rfl) (by kernel_rfl) (by kernel_rfl)) Jt)) (by kernel_rfl) h0) (eE)) ?_
  refine .ghs (fr 25 [(3,pt 1 0),(6,(pt 2 0)),(7,zI x5)]) (hT 3 [(oC [Sl.v 1 s1]),(oC [(.pointer none)])]) (.k0 [false] [.tmp 3 false,.tmp 6 false] [3,6,7]) ?_
  refine .then (.then (.rK (.ghs (fr 25 [(3,pt 1 0),(6,(pt 2 0)),(7,zI x5),(19,(zB (nt (Bd x5 (0:Int)))))]) (hT 3 [(oC [Sl.v 1 s1]),(oC [(.pointer none)])]) (.k0 [false] [.tmp 3 false,.tmp 6 false] [3,6,7,19]) ?_)))
  replace hm:=Ag hm;rcases hm with⟨h14,hm⟩ | ⟨h14,hm⟩
  ·refine Bq (nt (Bd x5 (0:Int))) h14 ?_
   refine .then (.rK (.ghs (fr 25 [(4,(.slice none 0 0)),(5,zI x5)]) AO (.k0 [false] [] [4,5]) ?_))
   refine .ghs (Fr.puts (fr 25 [(4,(.slice none 0 0)),(5,zI x5)]) [(4,(Sl.v 1 (Sl.mk 0 2 [])))]) AO (.freeze 1 4 1 (by kernel_rfl) (by kernel_rfl) (E9.id _ _)) ?_
   refine .ret ?_
   exact A7 (.tuple ⟨[(Sl.v 1 (Sl.mk 0 2 [])),zI x5]⟩) hm
  ·refine BB (nt (Bd x5 (0:Int))) h14 ?_
   refine .skip (.ghs (fr 25 [(3,pt 1 0),(6,(pt 2 0))]) (hT 3 [(oC [Sl.v 1 s1]),(oC [(.pointer none)])]) (.k0 [false] [.tmp 3 false,.tmp 6 false] [3,6]) ?_)
   refine .then (.rG (NY.seg 1 (Fr.puts (fr 25 [(3,pt 1 0),(6,(pt 2 0))]) [(8,(pt 3 0))]) (hT 4 [(oC [Sl.v 1 s1]),(oC [(.pointer none)]),(oC [(.slice none 0 0)])]) (by kernel_rfl) (NY.ghs (Fr.puts (fr 25 [(3,pt 1 0),(6,(pt 2 0))]) [(8,(pt 3 0))]) (hT 4 [(oC [Sl.v 1 s1]),(oC [(.pointer none)]),(oC [(Sl.v 1 (Sl.mk 0 2 []))])]) (.nilC 3 0 1 [(.slice none 0 0)] (imm:=false) (spent:=false) (anc:=[]) (by kernel_rfl) (by kernel_rfl) (by kernel_rfl) (E9.id _ _)) (NY.fin eE))) ?_)
   refine .ghs (fr 25 [(3,pt 1 0),(6,(pt 2 0)),(8,(pt 3 0))]) (hT 4 [(oC [Sl.v 1 s1]),(oC [(.pointer none)]),(oC [(Sl.v 1 (Sl.mk 0 2 []))])]) (.k0 [false] [.tmp 3 false,.tmp 6 false,.tmp 8 false] [3,6,8]) ?_
   refine .then (.rK (.ghs (fr 25 [(3,pt 1 0),(6,(pt 2 0)),(8,(pt 3 0)),(9,(pt 4 0))]) (hT 5 [(oC [Sl.v 1 s1]),(oC [(.pointer none)]),(oC [(Sl.v 1 (Sl.mk 0 2 []))]),(oC [(zI (64:Int))])]) (.k0 [false] [.tmp 3 false,.tmp 6 false,.tmp 8 false,.tmp 9 false] [3,6,8,9]) ?_))
   refine .then (.rK (.ghs (fr 25 [(3,pt 1 0),(6,(pt 2 0)),(8,(pt 3 0)),(9,(pt 4 0)),(10,(pt 5 0))]) (hT 6 [(oC [Sl.v 1 s1]),(oC [(.pointer none)]),(oC [(Sl.v 1 (Sl.mk 0 2 []))]),(oC [(zI (64:Int))]),(oC [.nilFunc])]) (.k0 [false] [.tmp 3 false,.tmp 6 false,.tmp 8 false,.tmp 9 false,.tmp 10 false] [3,6,8,9,10]) ?_))
   refine .then (.rK (.ghs (fr 25 [(8,pt 1 0),(10,(pt 2 0))]) (hT 6 [(oC [(Sl.v 1 (Sl.mk 0 2 []))]),(oC [(.func (.func 65) ⟨[]⟩ ⟨[(pt 3 0),(pt 4 0),(pt 5 0),pt 1 0,(pt 2 0)]⟩)]),(oC [(.pointer none)]),(oC [Sl.v 1 s1]),(oC [(zI (64:Int))])]) (.k0 [false] [.tmp 8 false,.tmp 10 true,.ccap 2 0 0 false,.ccap 2 0 1 false,.ccap 2 0 2 false] [8,10]) ?_))
   refine .then ?_
   cases hm
def R5 (pu:Af) (n:Nat) (ih0:Sl→Int→Int→Int→Int→Sl→OV) (s0:Sl) (z0 z1 z2 z3:Int) (s1:Sl):OV:=
 (ih0 s0 (Aj .i64 (Int.add z0 (1:Int))) z1 z2 z3 s1)
def PI (pu:Af) (n:Nat) (ih0:Sl→Int→Int→Int→Int→Sl→OV) (ih1:Sl→Int→Sl→Int→Int→Int→Int→Sl→OV) (s0:Sl) (z0:Int) (s1:Sl) (z1 z2 z3 z4:Int) (s2:Sl):OV:=
 (bb (AY z1 (Int.ofNat (Sl.n s1))) (oo (EA z1) none fun k1=>(bb (an (Nat.blt k1 (Sl.n s1)) true) (oo (AL (Sl.cs s1) (k1*1)) none fun v0=>(oo (Bj 1 v0) none fun s3=>(oo (pu 74 [(.agg ⟨[.int .i64 z2,.int .i64 z3,.int .i64 z4,Sl.v 1 s2]⟩),Sl.v 1 s0,Sl.v 1 s3]) none fun v1=>(oo (Bf v1) none fun b0=>(bb b0 (bb (an (Nat.blt k1 (Sl.n s1)) true) (oo (AL (Sl.cs s1) (k1*1)) none fun v2=>(oo (Bj 1 v2) none fun s4=>(some (.tuple ⟨[Sl.v 1 s4,(.int .i64 (0:Int))]⟩)))) none) (ih1 s0 z0 s1 (Aj .i64 (Int.add (Int.ofNat k1) (1:Int))) z2 z3 z4 s2)))))) none)) (R5 pu n ih0 s0 z0 z2 z3 z4 s2))
def R6 (pu:Af) (n:Nat) (ih0:Sl→Int→Int→Int→Int→Sl→OV) (w:Nat):Sl→Int→Sl→Int→Int→Int→Int→Sl→OV:=
 Nat.rec (motive:=fun _=>Sl→Int→Sl→Int→Int→Int→Int→Sl→OV) (fun _ _ _ _ _ _ _ _=>none) (fun _ ih1=>PI pu n ih0 ih1) w
def VV (pu:Af) (n:Nat) (ih0:Sl→Int→Int→Int→Int→Sl→OV) (s0:Sl) (z0 z1 z2 z3:Int) (s1:Sl):OV:=
 (oo (pu 10730 [.int .i64 z0,(.int .i64 (Int.ofNat (Sl.n s0))),(Sl.v 1 (Sl.mk 0 2 []))]) none fun v0=>(oo (CQ v0) none fun l0=>(ll l0 none fun v1 l0=>(ll l0 (oo (Bj 1 v1) none fun s2=>(R6 pu n ih0 n s0 z0 s2 (0:Int) z1 z2 z3 s1)) fun _ _=>none))))
def KU (pu:Af) (n w:Nat):Sl→Int→Int→Int→Int→Sl→OV:=
 Nat.rec (motive:=fun _=>Sl→Int→Int→Int→Int→Sl→OV) (fun _ _ _ _ _ _=>none) (fun _ ih0=>VV pu n ih0) w
def ZN (pu:Af) (n:Nat) (x0 x1 x2:Int) (s0 s1:Sl):OV:=
 (oo (pu 46 [(.agg ⟨[.int .i64 x0,.int .i64 x1,.int .i64 x2,Sl.v 1 s0]⟩),Sl.v 1 s1]) none fun v0=>(oo (Bi .i64 v0) none fun x3=>(bb (nt (Bd x3 (0:Int))) (some (.tuple ⟨[(Sl.v 1 (Sl.mk 0 2 [])),.int .i64 x3]⟩)) (KU pu n n s1 (0:Int) x0 x1 x2 s0))))
def m30 (pu:Af) (n:Nat) (args:LV):OV:=
 (ll args none fun a0 args=>(ll args none fun a1 args=>(ll args (oo (Bt a0) none fun l0=>(ll l0 none fun v0 l0=>(ll l0 none fun v1 l0=>(ll l0 none fun v2 l0=>(ll l0 none fun v3 l0=>(ll l0 (oo (Bi .i64 v0) none fun x0=>(oo (Bi .i64 v1) none fun x1=>(oo (Bi .i64 v2) none fun x2=>(oo (Bj 1 v3) none fun s0=>(oo (Bj 1 a1) none fun s1=>(ZN pu n x0 x1 x2 s0 s1)))))) fun _ _=>none)))))) fun _ _=>none)))
theorem r30 {call:A8} (pu:Af) (n:Nat) (hcall:call=Bb tabs isP pu (inl pu)) {args:LV} {v:Value} (hm:m30 pu n args=some v) (_:∀ x∈args,closed2 x=true):args.length≤39∧BN tt call 1 Ua (Fr.made 39 args) (Ao tabs) (Fin tt 1 [.tmp 4,.tmp 5] v):=by
 subst hcall
 unfold m30 at hm
 replace hm:=Ad hm;obtain⟨a0,args_0,rfl,hm⟩:=hm
 replace hm:=Ad hm;obtain⟨a1,args_1,rfl,hm⟩:=hm
 replace hm:=AC hm;obtain⟨rfl,hm⟩:=hm
 replace hm:=BG hm;obtain⟨l0,rfl,hm⟩:=hm
 replace hm:=Ad hm;obtain⟨v0,l1477_0,rfl,hm⟩:=hm
 replace hm:=Ad hm;obtain⟨v1,l1477_1,rfl,hm⟩:=hm
 replace hm:=Ad hm;obtain⟨v2,l1477_2,rfl,hm⟩:=hm
 replace hm:=Ad hm;obtain⟨v3,l1477_3,rfl,hm⟩:=hm
 replace hm:=AC hm;obtain⟨rfl,hm⟩:=hm
 replace hm:=Ai hm;obtain⟨x0,rfl,hm⟩:=hm
 replace hm:=Ai hm;obtain⟨x1,rfl,hm⟩:=hm
 replace hm:=Ai hm;obtain⟨x2,rfl,hm⟩:=hm
 replace hm:=Al hm;obtain⟨s0,rfl,hm⟩:=hm
 replace hm:=Al hm;obtain⟨s1,rfl,hm⟩:=hm
 unfold ZN at hm
 refine⟨by simp,?_⟩
 refine .same (F':=(fr 39 [(0,(.agg ⟨[zI x0,zI x1,zI x2,Sl.v 1 s0]⟩)),(1,Sl.v 1 s1)])) (H':=AO) (by kernel_rfl) (by kernel_rfl) ?_
 refine .then (.rK (.ghs (fr 39 [(1,Sl.v 1 s1),(2,pt 1 0)]) (hT 2 [(oC [zI x0,zI x1,zI x2,Sl.v 1 s0])]) (.k0 [false] [.tmp 2 false] [1,2]) ?_))
 refine .then ?_
 replace hm:=Gt hm;obtain⟨x3,h0,hm⟩:=hm
 refine .reg (eC 2 ((oo (pu 46 [(.agg ⟨[zI x0,zI x1,zI x2,Sl.v 1 s0]⟩),Sl.v 1 s1]) none fun v=>some (v,(hT 2 [(oC [zI x0,zI x1,zI x2,Sl.v 1 s0])])))) (AB h0) (eE)) ?_
 refine .ghs (fr 39 [(1,Sl.v 1 s1),(2,pt 1 0),(6,zI x3)]) (hT 2 [(oC [zI x0,zI x1,zI x2,Sl.v 1 s0])]) (.k0 [false] [.tmp 2 false] [1,2,6]) ?_
 refine .then (.then (.rK (.ghs (fr 39 [(1,Sl.v 1 s1),(2,pt 1 0),(6,zI x3),(14,(zB (nt (Bd x3 (0:Int)))))]) (hT 2 [(oC [zI x0,zI x1,zI x2,Sl.v 1 s0])]) (.k0 [false] [.tmp 2 false] [1,2,6,14]) ?_)))
 replace hm:=Ag hm;rcases hm with⟨h1,hm⟩ | ⟨h1,hm⟩
 ·refine Bq (nt (Bd x3 (0:Int))) h1 ?_
  refine .then (.rK (.ghs (fr 39 [(4,(.slice none 0 0)),(5,zI x3)]) AO (.k0 [false] [] [4,5]) ?_))
  refine .ghs (Fr.puts (fr 39 [(4,(.slice none 0 0)),(5,zI x3)]) [(4,(Sl.v 1 (Sl.mk 0 2 [])))]) AO (.freeze 1 4 1 (by kernel_rfl) (by kernel_rfl) (E9.id _ _)) ?_
  refine .ret ?_
  exact A7 (.tuple ⟨[(Sl.v 1 (Sl.mk 0 2 [])),zI x3]⟩) hm
 ·refine BB (nt (Bd x3 (0:Int))) h1 ?_
  refine .skip (.ghs (fr 39 [(1,Sl.v 1 s1),(2,pt 1 0)]) (hT 2 [(oC [zI x0,zI x1,zI x2,Sl.v 1 s0])]) (.k0 [false] [.tmp 2 false] [1,2]) ?_)
  refine .then (.rK (.ghs (fr 39 [(1,Sl.v 1 s1),(2,pt 1 0),(7,(zI (0:Int)))]) (hT 2 [(oC [zI x0,zI x1,zI x2,Sl.v 1 s0])]) (.k0 [false] [.tmp 2 false] [1,2,7]) ?_))
  refine .block (.loopM (v:=v) (fun y:Sl×Int×Int×Int×Int×Sl=>((fr 39 [(1,(Sl.v 1 y.1)),(2,pt 1 0),(7,(zI y.2.1))]),(hT 2 [(oC [(zI y.2.2.1),(zI y.2.2.2.1),(zI y.2.2.2.2.1),(Sl.v 1 y.2.2.2.2.2)])]))) (fun w y=>KU pu n w y.1 y.2.1 y.2.2.1 y.2.2.2.1 y.2.2.2.2.1 y.2.2.2.2.2) n ⟨(s1,(0:Int),x0,x1,x2,s0),hm,(.k0 [false] [.tmp 2 false] [1,2,7])⟩ (fun _=>rfl) ?_)
  rintro w0 ⟨s2,z0,z1,z2,z3,s3⟩ hm
  replace hm:VV pu n (KU pu n w0) s2 z0 z1 z2 z3 s3=some v:=hm
  unfold VV at hm
  refine .join (v:=v) (fun y:Sl×Int×Int×Int×Int×Sl=>((fr 39 [(1,(Sl.v 1 y.1)),(2,pt 1 0),(7,(zI y.2.1))]),(hT 2 [(oC [(zI y.2.2.1),(zI y.2.2.2.1),(zI y.2.2.2.2.1),(Sl.v 1 y.2.2.2.2.2)])]))) (fun y=>R5 pu n (KU pu n w0) y.1 y.2.1 y.2.2.1 y.2.2.2.1 y.2.2.2.2.1 y.2.2.2.2.2) ?_ ?_
  ·rintro⟨s4,z4,z5,z6,z7,s5⟩ hm
   unfold R5 at hm
   refine .rK ?_
   exact⟨(s4,(Aj .i64 (Int.add z4 (1:Int))),z5,z6,z7,s5),hm,(.k0 [false] [.tmp 2 false] [1,2,7])⟩
  ·refine .block (.then ?_)
   replace hm:=Ab hm;obtain⟨v4,h2,hm⟩:=hm
   replace hm:=Ch hm;obtain⟨l1,rfl,hm⟩:=hm
   replace hm:=Ad hm;obtain⟨v5,l1845_0,rfl,hm⟩:=hm
   replace hm:=AC hm;obtain⟨rfl,hm⟩:=hm
   replace hm:=Al hm;obtain⟨s6,rfl,hm⟩:=hm
   refine .reg (eC 3 (EK tabs [[none],[none],[some 1]] 3 [] [] (pu 10730) [zI z0,(zI (Int.ofNat (Sl.n s2))),(.slice none 0 0)] (hT 2 [(oC [zI z1,zI z2,zI z3,Sl.v 1 s3])])) (EL (as:=[zI z0,(zI (Int.ofNat (Sl.n s2))),(Sl.v 1 (Sl.mk 0 2 []))]) (H1:=(hT 2 [(oC [zI z1,zI z2,zI z3,Sl.v 1 s3])])) (BS (Dm Dk) (BS (Dm Dk) (BS (Dm (KQ (Ju (z:=1) (H:=(hT 2 [(oC [zI z1,zI z2,zI z3,Sl.v 1 s3])]))))) Gj))) (EI (H2:=(hT 2 [(oC [zI z1,zI z2,zI z3,Sl.v 1 s3])])) (v:=(Sl.v 1 s6)) (v':=(Sl.v 1 s6)) [some 0] [] [] [zI z0,(zI (Int.ofNat (Sl.n s2))),(Sl.v 1 (Sl.mk 0 2 []))] [] [] [some 0,none] [] [] (by kernel_rfl) BX (Eq.trans (by kernel_rfl) h2) BX BX)) (eE)) ?_
   refine .ghs (fr 39 [(1,Sl.v 1 s2),(2,pt 1 0),(7,zI z0),(8,Sl.v 1 s6)]) (hT 2 [(oC [zI z1,zI z2,zI z3,Sl.v 1 s3])]) (.k0 [false] [.tmp 2 false] [1,2,7,8]) ?_
   refine .then (.rK (.ghs (fr 39 [(1,Sl.v 1 s2),(2,pt 1 0),(7,zI z0),(8,Sl.v 1 s6),(9,(zI (0:Int)))]) (hT 2 [(oC [zI z1,zI z2,zI z3,Sl.v 1 s3])]) (.k0 [false] [.tmp 2 false] [1,2,7,8,9]) ?_))
   refine .block (.loopM (v:=v) (fun y:Sl×Int×Sl×Int×Int×Int×Int×Sl=>((fr 39 [(1,(Sl.v 1 y.1)),(2,pt 1 0),(7,(zI y.2.1)),(8,(Sl.v 1 y.2.2.1)),(9,(zI y.2.2.2.1))]),(hT 2 [(oC [(zI y.2.2.2.2.1),(zI y.2.2.2.2.2.1),(zI y.2.2.2.2.2.2.1),(Sl.v 1 y.2.2.2.2.2.2.2)])]))) (fun w y=>R6 pu n (KU pu n w0) w y.1 y.2.1 y.2.2.1 y.2.2.2.1 y.2.2.2.2.1 y.2.2.2.2.2.1 y.2.2.2.2.2.2.1 y.2.2.2.2.2.2.2) n ⟨(s2,z0,s6,(0:Int),z1,z2,z3,s3),hm,(.k0 [false] [.tmp 2 false] [1,2,7,8,9])⟩ (fun _=>rfl) ?_)
   rintro w1 ⟨s7,z8,s8,z9,z10,z11,z12,s9⟩ hm
   replace hm:PI pu n (KU pu n w0) (R6 pu n (KU pu n w0) w1) s7 z8 s8 z9 z10 z11 z12 s9=some v:=hm
   unfold PI at hm
   refine .then (.then (.rK (.ghs (fr 39 [(1,Sl.v 1 s7),(2,pt 1 0),(7,zI z8),(8,Sl.v 1 s8),(9,zI z9),(25,(zB (AY z9 (Int.ofNat (Sl.n s8)))))]) (hT 2 [(oC [zI z10,zI z11,zI z12,Sl.v 1 s9])]) (.k0 [false] [.tmp 2 false] [1,2,7,8,9,25]) ?_)))
   replace hm:=Ag hm;rcases hm with⟨h3,hm⟩ | ⟨h3,hm⟩
   ·refine Bq (AY z9 (Int.ofNat (Sl.n s8))) h3 ?_
    refine .skip (.ghs (fr 39 [(1,Sl.v 1 s7),(2,pt 1 0),(7,zI z8),(8,Sl.v 1 s8),(9,zI z9)]) (hT 2 [(oC [zI z10,zI z11,zI z12,Sl.v 1 s9])]) (.k0 [false] [.tmp 2 false] [1,2,7,8,9]) ?_)
    refine .then (.block (.then ?_))
    replace hm:=Ab hm;obtain⟨k1,h4,hm⟩:=hm
    obtain rfl:=AR h4
    replace hm:=Ae hm;obtain⟨h5,hm⟩:=hm
    replace hm:=fE hm;obtain⟨s10,h6,hm⟩:=hm
    replace hm:=OT hm;obtain⟨b0,h7,hm⟩:=hm
    refine .reg (eC 4 (keep (hT 2 [(oC [zI z10,zI z11,zI z12,Sl.v 1 s9])]) (bb (an (Nat.blt k1 (Sl.n s8)) true) (some (Cv (k1*1) (Sl.cs s8))) none)) (AX h5) (eD (keep (hT 2 [(oC [zI z10,zI z11,zI z12,Sl.v 1 s9])]) (AL (Sl.cs s8) (k1*1))) (AZ h6) (eD ((oo (pu 74 [(.agg ⟨[zI z10,zI z11,zI z12,Sl.v 1 s9]⟩),Sl.v 1 s7,Sl.v 1 s10]) none fun v=>some (v,(hT 2 [(oC [zI z10,zI z11,zI z12,Sl.v 1 s9])])))) (AB h7) (eE)))) ?_
    refine .ghs (fr 39 [(1,Sl.v 1 s7),(2,pt 1 0),(7,zI z8),(8,Sl.v 1 s8),(9,(zI (Int.ofNat k1))),(34,zB b0)]) (hT 2 [(oC [zI z10,zI z11,zI z12,Sl.v 1 s9])]) (.k0 [false] [.tmp 2 false] [1,2,7,8,9,34]) ?_
    replace hm:=Ag hm;rcases hm with⟨h8,hm⟩ | ⟨h8,hm⟩
    ·refine .ifT b0 (by kernel_rfl) h8 ?_
     refine .then ?_
     replace hm:=Ae hm;obtain⟨h9,hm⟩:=hm
     replace hm:=fE hm;obtain⟨s11,h10,hm⟩:=hm
     refine .reg (eC 2 (keep (hT 2 [(oC [zI z10,zI z11,zI z12,Sl.v 1 s9])]) (bb (an (Nat.blt k1 (Sl.n s8)) true) (some (Cv (k1*1) (Sl.cs s8))) none)) (AX h9) (eD (keep (hT 2 [(oC [zI z10,zI z11,zI z12,Sl.v 1 s9])]) (AL (Sl.cs s8) (k1*1))) (AZ h10) (eE))) ?_
     refine .ghs (fr 39 [(4,Sl.v 1 s11),(5,(zI (0:Int)))]) AO (.k0 [false] [] [4,5]) ?_
     refine .ret ?_
     exact A7 (.tuple ⟨[Sl.v 1 s11,(zI (0:Int))]⟩) hm
    ·refine .ifF b0 (by kernel_rfl) h8 ?_
     refine .skip (.ghs (fr 39 [(1,Sl.v 1 s7),(2,pt 1 0),(7,zI z8),(8,Sl.v 1 s8),(9,(zI (Int.ofNat k1)))]) (hT 2 [(oC [zI z10,zI z11,zI z12,Sl.v 1 s9])]) (.k0 [false] [.tmp 2 false] [1,2,7,8,9]) ?_)
     refine .rK ?_
     exact⟨(s7,z8,s8,(Aj .i64 (Int.add (Int.ofNat k1) (1:Int))),z10,z11,z12,s9),hm,(.k0 [false] [.tmp 2 false] [1,2,7,8,9])⟩
   ·refine BB (AY z9 (Int.ofNat (Sl.n s8))) h3 ?_
    refine .exit ?_
    exact⟨(s7,z8,z10,z11,z12,s9),hm,(.k0 [false] [.tmp 2 false] [1,2,7])⟩
end
end Go.BkVM
