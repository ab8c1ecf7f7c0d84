/- Words for the models. -/
import Derived.Test.YtciohfkjabeooaaGreatDoorBkCellsx
import Derived.Test.YtciohfkjabeooaaGreatDoorBaACode
import Derived.KernelRfl

set_option maxRecDepth 100000
namespace Go.BaAM
open Go.Sp Go.BaA
noncomputable section
def bU:List Value→Option Value:=Go.BkQ.trueF
def UB:List Value→Option Value:=Go.BkQ.cellsM
def UC:List Value→Option Value:=fun _=>none
end
end Go.BaAM
set_option maxRecDepth 100000
set_option maxHeartbeats 20000000
set_option linter.unusedVariables false
namespace Go.BaAM
open Go.Sp Go.BaA
noncomputable section
def Yf:List Value:=[.int .u8 0,.int .u8 1,.int .u8 28,.int .u8 2,.int .u8 29,.int .u8 14,.int .u8 24,.int .u8 3,.int .u8 30,.int .u8 22,.int .u8 20,.int .u8 15,.int .u8 25,.int .u8 17,.int .u8 4,.int .u8 8,.int .u8 31,.int .u8 27,.int .u8 13,.int .u8 23,.int .u8 21,.int .u8 19,.int .u8 16,.int .u8 7,.int .u8 26,.int .u8 12,.int .u8 18,.int .u8 6,.int .u8 11,.int .u8 5,.int .u8 10,.int .u8 9]
def tabs:List (List Value):=[Yf]
theorem Ay {tt:TT} {n0:Nat} {rs:List ResultVar} {v:Value} {F:Fr} {H:Aa} (r:Value) (hm:some r=some v) (h:DV tt F H rs=some r:=by kernel_rfl) (hc:Fe r=true:=by kernel_rfl):Fin tt n0 rs v .ret F H:=kI r h hc hm
theorem Kc {α:Type} {k:IntKind} {o:Option Value} {s:Int→Option α} {w:α} (h:oo o none (fun v=>oo (Bi k v) none s)=some w):∃ x,o=some (.int k x)∧s x=some w:=by
 obtain⟨v,h1,h2⟩:=Ab h
 obtain⟨x,hx,h3⟩:=Ab h2
 obtain rfl:=Eh hx
 exact⟨x,h1,h3⟩
theorem ZC {α:Type} {k:Nat} {o:Option Value} {s:Sl→Option α} {w:α} (h:oo o none (fun v=>oo (Bj k v) none s)=some w):∃ x,o=some (Sl.v k x)∧s x=some w:=by
 obtain⟨v,h1,h2⟩:=Ab h
 obtain⟨x,hx,h3⟩:=Ab h2
 obtain rfl:=Qh hx
 exact⟨x,h1,h3⟩
theorem QF {α:Type} {o:Option Value} {s:Bool→Option α} {w:α} (h:oo o none (fun v=>oo (Bf v) none s)=some w):∃ x,o=some (.bool x)∧s x=some w:=by
 obtain⟨v,h1,h2⟩:=Ab h
 obtain⟨x,hx,h3⟩:=Ab h2
 obtain rfl:=BV hx
 exact⟨x,h1,h3⟩
theorem C8 {tt:TT} {call:A8} {n0:Nat} {c:Operand} {a b:RC} {F:Fr} {H:Aa} {Q:Ex→Fr→Aa→Prop} (e:Bool) (hb:e=true) (h:BN tt call n0 a F H Q) (he:Bf (F.eval c)=some e:=by kernel_rfl):BN tt call n0 (.cond c a b) F H Q:=.ifT e he hb h
theorem Dn {tt:TT} {call:A8} {n0:Nat} {c:Operand} {a b:RC} {F:Fr} {H:Aa} {Q:Ex→Fr→Aa→Prop} (e:Bool) (hb:e=false) (h:BN tt call n0 b F H Q) (he:Bf (F.eval c)=some e:=by kernel_rfl):BN tt call n0 (.cond c a b) F H Q:=.ifF e he hb h
abbrev AO:Aa:=hp 1 [oT Yf]
abbrev hT (n:Nat) (l:List AJ):Aa:=hp n (oT Yf::l)
theorem BO {a b:Bool} (h:b=true) (e:a=b:=by kernel_rfl):a=true:=e.trans h
abbrev OV:=Option Value
abbrev LV:=List Value
def UD:List Nat:=[3,5,6,7,8,22,25,27,30,31,32,34,35,36,37,53,54,55,56,57,58,71,72,80]
def isP:FuncId→Bool:=fun g=>ED g UD
def inl (pu:Af):A8:=fun g args H=>bb (Nat.beq g 28) (frzP tabs 1 (pu 28) args H) (bb (Nat.beq g 29) (frzP tabs 1 (pu 29) args H) (bb (Nat.beq g 33) (frzP tabs 1 (pu 33) args H) (bb (Nat.beq g 70) (Hr tabs 1 (pu 70) args H) (bb (Nat.beq g 4) (Jg tabs [[none,none,none,some 1],[some 1],[some 1]] 3 [] [] (pu 10040) args H) (bb (Nat.beq g 26) (bb (an (oo (AL args 0) false (fun v=>nt (isS (IA v)))) true) (Jg tabs [[some 1],[none],[none],[none]] 4 [.tmp 1 false,.tmp 2 true,.tmp 3 true,.cell 2 0 false] [false,true,true,false,false] (pu 10260) args H) (Jg tabs [[none],[none],[none],[none]] 4 [.tmp 0 false,.tmp 1 false,.tmp 2 true,.tmp 3 true,.cell 3 0 false] [false,false,true,true,false,false] (pu 10261) args H)) (bb (Nat.beq g 59) (Jg tabs [[none,none,none,some 1],[some 1],[none]] 3 [] [] (pu 10590) args H) (none)))))))
end
end Go.BaAM
set_option maxRecDepth 100000
set_option maxHeartbeats 20000000
set_option linter.unusedVariables false
namespace Go.BaAM
open Go.Sp Go.BaA
noncomputable section
def Yg (pu:Af) (n:Nat) (b0:Bool):OV:=
 (some (.bool b0))
def m3_ (pu:Af) (n:Nat) (x7 x9 x11:Int) (s13:Sl):OV:=
 (oo (pu 10040 [(.agg ⟨[.int .i64 x7,.int .i64 x9,.int .i64 x11,Sl.v 1 s13]⟩),(Sl.v 1 (Sl.mk 0 2 [])),(Sl.v 1 (Sl.mk 0 2 []))]) none fun v66=>(oo (CQ v66) none fun l68=>(ll l68 none fun v70 l68=>(ll l68 (oo (Bf v70) none fun jK=>(bb jK (oo (pu 5 []) none fun v78=>(oo (Bf v78) none fun zJ=>(some (.bool zJ)))) (oo (pu 6 [(.agg ⟨[.int .i64 x7,.int .i64 x9,.int .i64 x11,Sl.v 1 s13]⟩)]) none fun v92=>(oo (CQ v92) none fun l94=>(ll l94 none fun v96 l94=>(ll l94 none fun v97 l94=>(ll l94 (oo (Bj 1 v96) none fun s98=>(oo (Bi .i64 v97) none fun x0=>(oo (pu 7 [(.agg ⟨[.int .i64 x7,.int .i64 x9,.int .i64 x11,Sl.v 1 s13]⟩)]) none fun v0=>(oo (CQ v0) none fun l0=>(ll l0 none fun v1 l0=>(ll l0 none fun v2 l0=>(ll l0 (oo (Bj 1 v1) none fun s0=>(oo (Bi .i64 v2) none fun x1=>(oo (pu 8 [Sl.v 1 s98,Sl.v 1 s0]) none fun v3=>(oo (Bf v3) none fun b0=>(bb b0 (bb (Bd x0 x1) (oo (pu 5 []) none fun v4=>(oo (Bf v4) none fun b1=>(Yg pu n b1))) (Yg pu n false)) (Yg pu n false)))))) fun _ _=>none))))))) fun _ _=>none))))))) fun _ _=>none))))
def m3 (pu:Af) (n:Nat) (args:LV):OV:=
 (ll args none fun a0 args=>(ll args (oo (Bt a0) none fun l1=>(ll l1 none fun v3 l1=>(ll l1 none fun v4 l1=>(ll l1 none fun v5 l1=>(ll l1 none fun v6 l1=>(ll l1 (oo (Bi .i64 v3) none fun x7=>(oo (Bi .i64 v4) none fun x9=>(oo (Bi .i64 v5) none fun x11=>(oo (Bj 1 v6) none fun s13=>(m3_ pu n x7 x9 x11 s13))))) fun _ _=>none)))))) fun _ _=>none))
theorem Ahs (pu:Af) (n:Nat) (b0:Bool) {v:Value} (hm:Yg pu n b0=some v):BN tt (Bb tabs isP pu (inl pu)) 1 .ret (fr 31 [(2,zB b0)]) AO (Fin tt 1 [.tmp 2] v):=by
 unfold Yg at hm
 refine .ret ?_
 exact Ay (zB b0) hm
theorem r3 {call:A8} (pu:Af) (n:Nat) (hcall:call=Bb tabs isP pu (inl pu)) {args:LV} {v:Value} (hm:m3 pu n args=some v) (_:∀ x∈args,closed2 x=true):args.length≤31∧BN tt call 1 WO (Fr.made 31 args) (Ao tabs) (Fin tt 1 [.tmp 2] v):=by
 subst hcall
 unfold m3 at hm
 replace hm:=Ad hm;obtain⟨a0,args_0,rfl,hm⟩:=hm
 replace hm:=AC hm;obtain⟨rfl,hm⟩:=hm
 replace hm:=BG hm;obtain⟨l1,rfl,hm⟩:=hm
 replace hm:=Ad hm;obtain⟨v3,l1_0,rfl,hm⟩:=hm
 replace hm:=Ad hm;obtain⟨v4,l1_1,rfl,hm⟩:=hm
 replace hm:=Ad hm;obtain⟨v5,l1_2,rfl,hm⟩:=hm
 replace hm:=Ad hm;obtain⟨v6,l1_3,rfl,hm⟩:=hm
 replace hm:=AC hm;obtain⟨rfl,hm⟩:=hm
 replace hm:=Ai hm;obtain⟨x7,rfl,hm⟩:=hm
 replace hm:=Ai hm;obtain⟨x9,rfl,hm⟩:=hm
 replace hm:=Ai hm;obtain⟨x11,rfl,hm⟩:=hm
 replace hm:=Al hm;obtain⟨s13,rfl,hm⟩:=hm
 unfold m3_ at hm
 refine⟨by simp,?_⟩
 refine .same (F':=(fr 31 [(0,(.agg ⟨[zI x7,zI x9,zI x11,Sl.v 1 s13]⟩))])) (H':=AO) (by kernel_rfl) (by kernel_rfl) ?_
 refine .then (.rK (.ghs (fr 31 [(1,pt 1 0)]) (hT 2 [(oC [zI x7,zI x9,zI x11,Sl.v 1 s13])]) (.k0 [false] [.tmp 1 false] [1]) ?_))
 refine .then (.then ?_)
 replace hm:=Ab hm;obtain⟨v66,h67,hm⟩:=hm
 replace hm:=Ch hm;obtain⟨l68,rfl,hm⟩:=hm
 replace hm:=Ad hm;obtain⟨v70,l68_0,rfl,hm⟩:=hm
 replace hm:=AC hm;obtain⟨rfl,hm⟩:=hm
 replace hm:=Be hm;obtain⟨jK,rfl,hm⟩:=hm
 refine .reg (eC 1 (Jg tabs [[none,none,none,some 1],[some 1],[some 1]] 3 [] [] (pu 10040) [(.agg ⟨[zI x7,zI x9,zI x11,Sl.v 1 s13]⟩),(.slice none 0 0),(.slice none 0 0)] (hT 2 [(oC [zI x7,zI x9,zI x11,Sl.v 1 s13])])) (Hy (as:=[(.agg ⟨[zI x7,zI x9,zI x11,Sl.v 1 s13]⟩),(Sl.v 1 (Sl.mk 0 2 [])),(Sl.v 1 (Sl.mk 0 2 []))]) (H1:=(hT 2 [(oC [zI x7,zI x9,zI x11,Sl.v 1 s13])])) (Cs (QO (FX FL (FX FL (FX FL (FX (Ni (CV (z:=1) (v:=(Sl.v 1 s13)) (H:=(hT 2 [(oC [zI x7,zI x9,zI x11,Sl.v 1 s13])])) (by kernel_rfl) (by kernel_rfl) (by kernel_rfl))) QN))))) (Cs (Fp (Ni (Ju (z:=1) (H:=(hT 2 [(oC [zI x7,zI x9,zI x11,Sl.v 1 s13])]))))) (Cs (Fp (Ni (Ju (z:=1) (H:=(hT 2 [(oC [zI x7,zI x9,zI x11,Sl.v 1 s13])]))))) JN))) (Hw (H2:=(hT 2 [(oC [zI x7,zI x9,zI x11,Sl.v 1 s13])])) (v:=(zB jK)) (v':=(zB jK)) [some 0] [] [] [(.agg ⟨[zI x7,zI x9,zI x11,Sl.v 1 s13]⟩),(Sl.v 1 (Sl.mk 0 2 [])),(Sl.v 1 (Sl.mk 0 2 []))] [] [] [some 0,none] [] [] (by kernel_rfl) Dy (Eq.trans (by kernel_rfl) h67) Dy Dy)) (eE)) ?_
 refine .ghs (fr 31 [(1,pt 1 0),(8,zB jK)]) (hT 2 [(oC [zI x7,zI x9,zI x11,Sl.v 1 s13])]) (.k0 [false] [.tmp 1 false] [1,8]) ?_
 replace hm:=Ag hm;rcases hm with⟨h73,hm⟩ | ⟨h73,hm⟩
 ·refine .ifT jK (by kernel_rfl) h73 ?_
  refine .then ?_
  replace hm:=QF hm;obtain⟨zJ,h79,hm⟩:=hm
  refine .reg (eD ((oo (pu 5 []) none fun v=>some (v,(hT 2 [(oC [zI x7,zI x9,zI x11,Sl.v 1 s13])])))) (AB h79) (eE)) ?_
  refine .ghs (fr 31 [(2,zB zJ)]) AO (.k0 [false] [] [2]) ?_
  refine .ret ?_
  exact Ay (zB zJ) hm
 ·refine .ifF jK (by kernel_rfl) h73 ?_
  refine .skip (.ghs (fr 31 [(1,pt 1 0)]) (hT 2 [(oC [zI x7,zI x9,zI x11,Sl.v 1 s13])]) (.k0 [false] [.tmp 1 false] [1]) ?_)
  refine .then ?_
  replace hm:=Ab hm;obtain⟨v92,h93,hm⟩:=hm
  replace hm:=Ch hm;obtain⟨l94,rfl,hm⟩:=hm
  replace hm:=Ad hm;obtain⟨v96,l94_0,rfl,hm⟩:=hm
  replace hm:=Ad hm;obtain⟨v97,l94_1,rfl,hm⟩:=hm
  replace hm:=AC hm;obtain⟨rfl,hm⟩:=hm
  replace hm:=Al hm;obtain⟨s98,rfl,hm⟩:=hm
  replace hm:=Ai hm;obtain⟨x0,rfl,hm⟩:=hm
  refine .reg (eC 1 ((oo (pu 6 [(.agg ⟨[zI x7,zI x9,zI x11,Sl.v 1 s13]⟩)]) none fun v=>some (v,(hT 2 [(oC [zI x7,zI x9,zI x11,Sl.v 1 s13])])))) (AB h93) (eE)) ?_
  refine .ghs (fr 31 [(1,pt 1 0),(3,Sl.v 1 s98),(4,zI x0)]) (hT 2 [(oC [zI x7,zI x9,zI x11,Sl.v 1 s13])]) (.k0 [false] [.tmp 1 false] [1,3,4]) ?_
  refine .then ?_
  replace hm:=Ab hm;obtain⟨v0,h0,hm⟩:=hm
  replace hm:=Ch hm;obtain⟨l0,rfl,hm⟩:=hm
  replace hm:=Ad hm;obtain⟨v1,l114_0,rfl,hm⟩:=hm
  replace hm:=Ad hm;obtain⟨v2,l114_1,rfl,hm⟩:=hm
  replace hm:=AC hm;obtain⟨rfl,hm⟩:=hm
  replace hm:=Al hm;obtain⟨s0,rfl,hm⟩:=hm
  replace hm:=Ai hm;obtain⟨x1,rfl,hm⟩:=hm
  refine .reg (eC 1 ((oo (pu 7 [(.agg ⟨[zI x7,zI x9,zI x11,Sl.v 1 s13]⟩)]) none fun v=>some (v,(hT 2 [(oC [zI x7,zI x9,zI x11,Sl.v 1 s13])])))) (AB h0) (eE)) ?_
  refine .ghs (fr 31 [(3,Sl.v 1 s98),(4,zI x0),(5,Sl.v 1 s0),(6,zI x1)]) AO (.k0 [false] [] [3,4,5,6]) ?_
  refine .join (v:=v) (fun y:Bool=>((fr 31 [(2,zB y)]),AO)) (fun y=>Yg pu n y) ?_ ?_
  ·rintro b0 hm
   exact Ahs pu n b0 hm
  ·replace hm:=QF hm;obtain⟨b1,h1,hm⟩:=hm
   replace hm:=Ag hm;rcases hm with⟨h2,hm⟩ | ⟨h2,hm⟩
   ·replace hm:=Ag hm;rcases hm with⟨h3,hm⟩ | ⟨h3,hm⟩
    ·replace hm:=QF hm;obtain⟨b2,h4,hm⟩:=hm
     refine .reg (eC 2 ((oo (pu 8 [Sl.v 1 s98,Sl.v 1 s0]) none fun v=>some (v,AO))) (show _=some ((zB true),_) from (by have hz:(oo (pu 8 [Sl.v 1 s98,Sl.v 1 s0]) none fun v=>some (v,AO))=some ((zB b1),AO):=(AB h1);rw[h2] at hz;exact hz)) (eC 3 (some ((zB (Bd x0 x1)),AO)) (show _=some ((zB true),_) from (by rw[show (Bd x0 x1)=true from h3])) (eC 2 ((oo (pu 5 []) none fun v=>some (v,AO))) (AB h4) (eE)))) ?_
     exact⟨b2,hm,(.k0 [false] [] [2])⟩
    ·refine .reg (eC 2 ((oo (pu 8 [Sl.v 1 s98,Sl.v 1 s0]) none fun v=>some (v,AO))) (show _=some ((zB true),_) from (by have hz:(oo (pu 8 [Sl.v 1 s98,Sl.v 1 s0]) none fun v=>some (v,AO))=some ((zB b1),AO):=(AB h1);rw[h2] at hz;exact hz)) (eC 3 (some ((zB (Bd x0 x1)),AO)) (show _=some ((zB false),_) from (by rw[show (Bd x0 x1)=false from h3])) (eE))) ?_
     exact⟨false,hm,(.k0 [false] [] [2])⟩
   ·refine .reg (eC 2 ((oo (pu 8 [Sl.v 1 s98,Sl.v 1 s0]) none fun v=>some (v,AO))) (show _=some ((zB false),_) from (by have hz:(oo (pu 8 [Sl.v 1 s98,Sl.v 1 s0]) none fun v=>some (v,AO))=some ((zB b1),AO):=(AB h1);rw[h2] at hz;exact hz)) (eE)) ?_
    exact⟨false,hm,(.k0 [false] [] [2])⟩
def Wp (pu:Af) (n:Nat) (z0:Int) (n0:Nat) (q0:LV):OV:=
 (bb (AY (4096:Int) z0) (some (.tuple ⟨[(Sl.v 1 (Sl.mk 0 2 [])),(.int .i64 (16:Int))]⟩)) (bb (Dp (Nat.ble 2 0) (MQ ([]:LV))) (bb (Au Ah ([]:LV)) (oo (pu 10260 [(Sl.v 1 (Sl.mk 0 2 [])),(.pointer (some ⟨1,0,none⟩)),(.pointer (some ⟨2,0,none⟩)),(.pointer (some ⟨3,0,none⟩)),(.agg ⟨[(Cv n0 q0)]⟩),(.agg ⟨[(.slice (some ⟨4,0,some 1⟩) 0 0)]⟩),(.agg ⟨[(.func (.func 26) ⟨[]⟩ ⟨[(.pointer (some ⟨1,0,none⟩)),(.pointer (some ⟨2,0,none⟩)),(.pointer (some ⟨3,0,none⟩))]⟩)]⟩),(.agg ⟨([]:LV)⟩)]) none fun v0=>(oo (CQ v0) none fun l0=>(ll l0 none fun v1 l0=>(ll l0 none fun v2 l0=>(ll l0 none fun v3 l0=>(ll l0 none fun v4 l0=>(ll l0 none fun v5 l0=>(ll l0 none fun v6 l0=>(ll l0 (bb (QM v1) (oo (Bt v2) none fun l1=>(ll l1 none fun v7 l1=>(ll l1 (oo (Pv v7) none fun p0=>(oo (Bt v3) none fun l2=>(ll l2 none fun v8 l2=>(ll l2 (oo (OJ 5 0 1 v8) none fun y0=>(oo (Bt v4) none fun l3=>(ll l3 none fun v9 l3=>(ll l3 (oo (O6 26 0 v9) none fun l4=>(ll l4 none fun v10 l4=>(ll l4 none fun v11 l4=>(ll l4 none fun v12 l4=>(ll l4 (bb (FD v10 1 0) (bb (FD v11 2 0) (bb (FD v12 3 0) (bb (Nq v5) (oo (Bt v6) none fun q1=>(bb (Au Ah q1) (bb (Au Ah q1) (bb (an (Nat.ble (0+(NC.n y0)*1) (len q1)) (Au Ah (Aq ((NC.n y0)*1) (Am 0 q1)))) (some (.tuple ⟨[(Sl.v 1 (Sl.mk (NC.n y0) 0 (Aq ((NC.n y0)*1) (Am 0 q1)))),(.int .i64 (0:Int))]⟩)) none) none) none)) none) none) none) none) fun _ _=>none))))) fun _ _=>none)))) fun _ _=>none)))) fun _ _=>none))) none) fun _ _=>none))))))))) none) none))
def Wq (pu:Af) (n:Nat) (ih0:Int→Int→Int→Nat→LV→OV) (z0 z1 z2:Int) (n0:Nat) (q0:LV):OV:=
 (bb (AY z2 z1) (oo (AL q0 ((n0+0)+2)) none fun v0=>(oo (Bi .i64 v0) none fun x0=>(ih0 (Aj .i64 (Int.mul z0 x0)) z1 (Aj .i64 (Int.add z2 (1:Int))) n0 q0))) (Wp pu n z0 n0 q0))
def Yh (pu:Af) (n w:Nat):Int→Int→Int→Nat→LV→OV:=
 Nat.rec (motive:=fun _=>Int→Int→Int→Nat→LV→OV) (fun _ _ _ _ _=>none) (fun _ ih0=>Wq pu n ih0) w
def zD (pu:Af) (n:Nat) (x0 x1 x2:Int) (s0:Sl):OV:=
 (oo (pu 25 [(.agg ⟨[.int .i64 x0,.int .i64 x1,.int .i64 x2,Sl.v 1 s0]⟩)]) none fun v0=>(oo (CQ v0) none fun l0=>(ll l0 none fun v1 l0=>(ll l0 none fun v2 l0=>(ll l0 (bb (isS (Pv v1)) (oo (Pv v1) none fun p0=>(oo (Bi .i64 v2) none fun x3=>(bb (nt (Bd x3 (0:Int))) (some (.tuple ⟨[(Sl.v 1 (Sl.mk 0 2 [])),.int .i64 x3]⟩)) (oo (AL (Db.cs p0) (((Db.off p0)+0)+0)) none fun v3=>(oo (Bi .i64 v3) none fun x4=>(oo (AL (Db.cs p0) (((Db.off p0)+0)+1)) none fun v4=>(oo (Bi .i64 v4) none fun x5=>(Yh pu n n (1:Int) (Aj .i64 (Int.mul x4 x5)) (0:Int) (Db.off p0) (Db.cs p0))))))))) (bb (iZ v1) (oo (Bi .i64 v2) none fun x6=>(bb (nt (Bd x6 (0:Int))) (some (.tuple ⟨[(Sl.v 1 (Sl.mk 0 2 [])),.int .i64 x6]⟩)) none)) none)) fun _ _=>none)))))
def m6 (pu:Af) (n:Nat) (args:LV):OV:=
 (ll args none fun a0 args=>(ll args (oo (Bt a0) none fun l0=>(ll l0 none fun v0 l0=>(ll l0 none fun v1 l0=>(ll l0 none fun v2 l0=>(ll l0 none fun v3 l0=>(ll l0 (oo (Bi .i64 v0) none fun x0=>(oo (Bi .i64 v1) none fun x1=>(oo (Bi .i64 v2) none fun x2=>(oo (Bj 1 v3) none fun s0=>(zD pu n x0 x1 x2 s0))))) fun _ _=>none)))))) fun _ _=>none))
theorem Aht (pu:Af) (n:Nat) (z0:Int) (n0:Nat) (q0:LV) {v:Value} (hm:Wp pu n z0 n0 q0=some v):BN tt (Bb tabs isP pu (inl pu)) 1 lT (fr 44 [(4,pt 1 0),(6,zI z0)]) (hT 2 [(oC [(Cv n0 q0)])]) (Fin tt 1 [.tmp 2,.tmp 3] v):=by
 unfold Wp at hm
 refine .then (.then (.rK (.ghs (fr 44 [(4,pt 1 0),(39,(zB (AY (4096:Int) z0)))]) (hT 2 [(oC [(Cv n0 q0)])]) (.k0 [false] [.tmp 4 false] [4,39]) ?_)))
 replace hm:=Ag hm;rcases hm with⟨h0,hm⟩ | ⟨h0,hm⟩
 ·refine C8 (AY (4096:Int) z0) h0 ?_
  refine .then (.rK (.ghs (fr 44 [(2,(.slice none 0 0)),(3,(zI (16:Int)))]) AO (.k0 [false] [] [2,3]) ?_))
  refine .ghs (Fr.puts (fr 44 [(2,(.slice none 0 0)),(3,(zI (16:Int)))]) [(2,(Sl.v 1 (Sl.mk 0 2 [])))]) AO (.freeze 1 2 1 (by kernel_rfl) (by kernel_rfl) (E9.id _ _)) ?_
  refine .ret ?_
  exact Ay (.tuple ⟨[(Sl.v 1 (Sl.mk 0 2 [])),(zI (16:Int))]⟩) hm
 ·refine Dn (AY (4096:Int) z0) h0 ?_
  refine .skip (.ghs (fr 44 [(4,pt 1 0)]) (hT 2 [(oC [(Cv n0 q0)])]) (.k0 [false] [.tmp 4 false] [4]) ?_)
  refine .then (.rK (.ghs (fr 44 [(4,pt 1 0),(7,(pt 2 0))]) (hT 3 [(oC [(Cv n0 q0)]),(oC [(.slice none 0 0)])]) (.k0 [false] [.tmp 4 false,.tmp 7 false] [4,7]) ?_))
  refine .then (.rK (.ghs (fr 44 [(4,pt 1 0),(7,(pt 2 0)),(8,(pt 3 0))]) (hT 4 [(oC [(Cv n0 q0)]),(oC [(.slice none 0 0)]),(oC [.nilFunc])]) (.k0 [false] [.tmp 4 false,.tmp 7 false,.tmp 8 false] [4,7,8]) ?_))
  refine .then (.rK (.ghs (fr 44 [(7,pt 1 0),(8,(pt 2 0))]) (hT 4 [(oC [(.slice none 0 0)]),(oC [(.func (.func 26) ⟨[]⟩ ⟨[(pt 3 0),pt 1 0,(pt 2 0)]⟩)]),(oC [(Cv n0 q0)])]) (.k0 [false] [.tmp 7 false,.tmp 8 true,.ccap 2 0 0 false] [7,8]) ?_))
  refine .then (.ghs (fr 44 [(7,pt 1 0),(8,(pt 2 0))]) (hT 5 [(oC [sc 4 0 1 0 0]),(oC [(.func (.func 26) ⟨[]⟩ ⟨[(pt 3 0),pt 1 0,(pt 2 0)]⟩)]),(oC [(Cv n0 q0)]),(oC [])]) (.thawC 1 0 1 [(.slice none 0 0)] (imm:=false) (spent:=false) (anc:=[]) (by kernel_rfl) (by kernel_rfl) (by kernel_rfl) (by kernel_rfl) (E9.id _ _)) ?_)
  replace hm:=Ae hm;obtain⟨h1,hm⟩:=hm
  replace hm:=Ae hm;obtain⟨h2,hm⟩:=hm
  replace hm:=Ab hm;obtain⟨v0,h3,hm⟩:=hm
  replace hm:=Ch hm;obtain⟨l0,rfl,hm⟩:=hm
  replace hm:=Ad hm;obtain⟨v1,l1666_0,rfl,hm⟩:=hm
  replace hm:=Ad hm;obtain⟨v2,l1666_1,rfl,hm⟩:=hm
  replace hm:=Ad hm;obtain⟨v3,l1666_2,rfl,hm⟩:=hm
  replace hm:=Ad hm;obtain⟨v4,l1666_3,rfl,hm⟩:=hm
  replace hm:=Ad hm;obtain⟨v5,l1666_4,rfl,hm⟩:=hm
  replace hm:=Ad hm;obtain⟨v6,l1666_5,rfl,hm⟩:=hm
  replace hm:=AC hm;obtain⟨rfl,hm⟩:=hm
  replace hm:=Ae hm;obtain⟨h4,hm⟩:=hm
  obtain rfl:=Pj h4
  replace hm:=BG hm;obtain⟨l1,rfl,hm⟩:=hm
  replace hm:=Ad hm;obtain⟨v7,l1675_0,rfl,hm⟩:=hm
  replace hm:=AC hm;obtain⟨rfl,hm⟩:=hm
  replace hm:=Ab hm;obtain⟨p0,h5,hm⟩:=hm
  obtain rfl:=F7 h5
  replace hm:=BG hm;obtain⟨l2,rfl,hm⟩:=hm
  replace hm:=Ad hm;obtain⟨v8,l1680_0,rfl,hm⟩:=hm
  replace hm:=AC hm;obtain⟨rfl,hm⟩:=hm
  replace hm:=Ab hm;obtain⟨y0,h6,hm⟩:=hm
  obtain rfl:=I9 h6
  replace hm:=BG hm;obtain⟨l3,rfl,hm⟩:=hm
  replace hm:=Ad hm;obtain⟨v9,l1685_0,rfl,hm⟩:=hm
  replace hm:=AC hm;obtain⟨rfl,hm⟩:=hm
  replace hm:=Ab hm;obtain⟨l4,h7,hm⟩:=hm
  obtain rfl:=Jb h7
  replace hm:=Ad hm;obtain⟨v10,l1688_0,rfl,hm⟩:=hm
  replace hm:=Ad hm;obtain⟨v11,l1688_1,rfl,hm⟩:=hm
  replace hm:=Ad hm;obtain⟨v12,l1688_2,rfl,hm⟩:=hm
  replace hm:=AC hm;obtain⟨rfl,hm⟩:=hm
  replace hm:=Ae hm;obtain⟨h8,hm⟩:=hm
  obtain rfl:=DT h8
  replace hm:=Ae hm;obtain⟨h9,hm⟩:=hm
  obtain rfl:=DT h9
  replace hm:=Ae hm;obtain⟨h10,hm⟩:=hm
  obtain rfl:=DT h10
  replace hm:=Ae hm;obtain⟨h11,hm⟩:=hm
  replace hm:=BG hm;obtain⟨q1,rfl,hm⟩:=hm
  replace hm:=Ae hm;obtain⟨h12,hm⟩:=hm
  refine .reg (eC 1 (Jg tabs [[some 1],[none],[none],[none]] 4 [.tmp 1 false,.tmp 2 true,.tmp 3 true,.cell 2 0 false] [false,true,true,false,false] (pu 10260) [(.slice none 0 0),(pt 3 0),pt 1 0,(pt 2 0)] (hT 5 [(oC [sc 4 0 1 0 0]),(oC [(.func (.func 26) ⟨[]⟩ ⟨[(pt 3 0),pt 1 0,(pt 2 0)]⟩)]),(oC [(Cv n0 q0)]),(oC [])])) (Hy (as:=[(Sl.v 1 (Sl.mk 0 2 [])),(pt 3 0),pt 1 0,(pt 2 0)]) (H1:=(hT 5 [(oC [sc 4 0 1 0 0]),(oC [(.func (.func 26) ⟨[]⟩ ⟨[(pt 3 0),pt 1 0,(pt 2 0)]⟩)]),(oC [(Cv n0 q0)]),(oC ([]:LV))])) (Cs (Fp (Ni (Ju (z:=1) (H:=(hT 5 [(oC [sc 4 0 1 0 0]),(oC [(.func (.func 26) ⟨[]⟩ ⟨[(pt 3 0),pt 1 0,(pt 2 0)]⟩)]),(oC [(Cv n0 q0)]),(oC ([]:LV))]))))) (Cs (Fp FL) (Cs (Fp FL) (Cs (Fp FL) JN)))) (Hw (H2:=(hT 6 [(oC [(sc 5 0 1 (NC.n y0) (NC.c y0))]),(oC [(.func (.func 26) ⟨[]⟩ ⟨[(pt 3 0),pt 1 0,(pt 2 0)]⟩)]),(oC [(Cv (Db.off p0) (Db.cs p0))]),.dead,oC q1])) (v:=(.tuple ⟨[]⟩)) (v':=(.tuple ⟨[]⟩)) [some 0,some 3,some 1,some 2,some 4] [(false,some 3),(true,some 1),(true,some 2),(false,some 4)] [(oC [(Cv n0 q0)]),(oC [sc 4 0 1 0 0]),(oC [(.func (.func 26) ⟨[]⟩ ⟨[pt 1 0,(pt 2 0),(pt 3 0)]⟩)]),(oC ([]:LV))] [(Sl.v 1 (Sl.mk 0 2 [])),pt 1 0,(pt 2 0),(pt 3 0)] [(.agg ⟨[(Cv (Db.off p0) (Db.cs p0))]⟩),(.agg ⟨[(sc 5 0 1 (NC.n y0) (NC.c y0))]⟩),(.agg ⟨[(.func (.func 26) ⟨[]⟩ ⟨[pt 1 0,(pt 2 0),(pt 3 0)]⟩)]⟩),v5,(.agg ⟨q1⟩)] [(oC [(Cv (Db.off p0) (Db.cs p0))]),(oC [(sc 5 0 1 (NC.n y0) (NC.c y0))]),(oC [(.func (.func 26) ⟨[]⟩ ⟨[pt 1 0,(pt 2 0),(pt 3 0)]⟩)]),.dead,oC q1] [some 0,some 2,some 3,some 1,some 4,some 5] [(false,(oC [(Cv (Db.off p0) (Db.cs p0))])),(true,(oC [(sc 5 0 1 (NC.n y0) (NC.c y0))])),(true,(oC [(.func (.func 26) ⟨[]⟩ ⟨[pt 1 0,(pt 2 0),(pt 3 0)]⟩)])),(false,.dead),(false,oC q1)] [(oC [(Cv (Db.off p0) (Db.cs p0))]),(oC [(sc 5 0 1 (NC.n y0) (NC.c y0))]),(oC [(.func (.func 26) ⟨[]⟩ ⟨[(pt 3 0),pt 1 0,(pt 2 0)]⟩)]),.dead,oC q1] (sF (by kernel_rfl) (Pi h1 rfl)) (A7 (by kernel_rfl) (A7 (by kernel_rfl) (A7 (by kernel_rfl) (A7 (KU (anc:=[]) h2) Dy)))) (Eq.trans (by kernel_rfl) h3) (A7 rfl (A7 rfl (A7 rfl (A7 (Nh h11) (A7 rfl Dy))))) (A7 (by kernel_rfl) (A7 (by kernel_rfl) (A7 (by kernel_rfl) (A7 (by kernel_rfl) (A7 (KW h12) Dy))))))) (eE)) ?_
  replace hm:=Ae hm;obtain⟨h13,hm⟩:=hm
  refine .ghs (fr 44 [(7,pt 1 0)]) (hT 3 [(oC [(sc 2 0 1 (NC.n y0) (NC.c y0))]),oC q1]) (.k [5] [false] [.tmp 7 true,.cell 1 0 false] [7] ⟨BO h13,trivial⟩) ?_
  refine .then (.rK (.ghs (fr 44 [(2,(sc 1 0 1 (NC.n y0) (NC.c y0))),(3,(zI (0:Int)))]) (hT 2 [oC q1]) (.k [2] [false] [.tmp 2 false] [2,3] ⟨BO h13,trivial⟩) ?_))
  replace hm:=Ae hm;obtain⟨h14,hm⟩:=hm
  refine .ghs (Fr.puts (fr 44 [(2,(sc 1 0 1 (NC.n y0) (NC.c y0))),(3,(zI (0:Int)))]) [(2,(Sl.v 1 (Sl.mk (NC.n y0) 0 (Aq ((NC.n y0)*1) (Am 0 q1)))))]) (hT 2 [.dead]) (.freezeC 1 2 1 (an (Nat.ble (0+(NC.n y0)*1) (len q1)) (Au Ah (Aq ((NC.n y0)*1) (Am 0 q1)))) (F1:=(Fr.puts (fr 44 [(2,(sc 1 0 1 (NC.n y0) (NC.c y0))),(3,(zI (0:Int)))]) [(2,(Sl.v 1 (Sl.mk (NC.n y0) 0 (Aq ((NC.n y0)*1) (Am 0 q1)))))])) (H1:=(hT 2 [.dead])) (by kernel_rfl) (by kernel_rfl) h14 (E9.id _ _)) ?_
  refine .ret ?_
  exact Ay (.tuple ⟨[(Sl.v 1 (Sl.mk (NC.n y0) 0 (Aq ((NC.n y0)*1) (Am 0 q1)))),(zI (0:Int))]⟩) hm
theorem r6 {call:A8} (pu:Af) (n:Nat) (hcall:call=Bb tabs isP pu (inl pu)) {args:LV} {v:Value} (hm:m6 pu n args=some v) (_:∀ x∈args,closed2 x=true):args.length≤44∧BN tt call 1 WP (Fr.made 44 args) (Ao tabs) (Fin tt 1 [.tmp 2,.tmp 3] v):=by
 subst hcall
 unfold m6 at hm
 replace hm:=Ad hm;obtain⟨a0,args_0,rfl,hm⟩:=hm
 replace hm:=AC hm;obtain⟨rfl,hm⟩:=hm
 replace hm:=BG hm;obtain⟨l0,rfl,hm⟩:=hm
 replace hm:=Ad hm;obtain⟨v0,l183_0,rfl,hm⟩:=hm
 replace hm:=Ad hm;obtain⟨v1,l183_1,rfl,hm⟩:=hm
 replace hm:=Ad hm;obtain⟨v2,l183_2,rfl,hm⟩:=hm
 replace hm:=Ad hm;obtain⟨v3,l183_3,rfl,hm⟩:=hm
 replace hm:=AC hm;obtain⟨rfl,hm⟩:=hm
 replace hm:=Ai hm;obtain⟨x0,rfl,hm⟩:=hm
 replace hm:=Ai hm;obtain⟨x1,rfl,hm⟩:=hm
 replace hm:=Ai hm;obtain⟨x2,rfl,hm⟩:=hm
 replace hm:=Al hm;obtain⟨s0,rfl,hm⟩:=hm
 unfold zD at hm
 refine⟨by simp,?_⟩
 refine .same (F':=(fr 44 [(0,(.agg ⟨[zI x0,zI x1,zI x2,Sl.v 1 s0]⟩))])) (H':=AO) (by kernel_rfl) (by kernel_rfl) ?_
 refine .then (.rK (.ghs (fr 44 [(1,pt 1 0)]) (hT 2 [(oC [zI x0,zI x1,zI x2,Sl.v 1 s0])]) (.k0 [false] [.tmp 1 false] [1]) ?_))
 refine .then ?_
 replace hm:=Ab hm;obtain⟨v4,h0,hm⟩:=hm
 replace hm:=Ch hm;obtain⟨l1,rfl,hm⟩:=hm
 replace hm:=Ad hm;obtain⟨v5,l210_0,rfl,hm⟩:=hm
 replace hm:=Ad hm;obtain⟨v6,l210_1,rfl,hm⟩:=hm
 replace hm:=AC hm;obtain⟨rfl,hm⟩:=hm
 replace hm:=Ag hm;rcases hm with⟨h1,hm⟩ | ⟨h1,hm⟩
 ·replace hm:=Ab hm;obtain⟨p0,h2,hm⟩:=hm
  obtain rfl:=F7 h2
  replace hm:=Ai hm;obtain⟨x3,rfl,hm⟩:=hm
  refine .reg (eC 1 ((oo (pu 25 [(.agg ⟨[zI x0,zI x1,zI x2,Sl.v 1 s0]⟩)]) none fun v=>some (v,(hT 2 [(oC [zI x0,zI x1,zI x2,Sl.v 1 s0])])))) (AB h0) (eE)) ?_
  refine .ghs (fr 44 [(4,pt 1 0),(5,zI x3)]) (hT 2 [(oC [(Cv (Db.off p0) (Db.cs p0))])]) (.k0 [false] [.tmp 4 false] [4,5]) ?_
  refine .then (.then (.rK (.ghs (fr 44 [(4,pt 1 0),(5,zI x3),(15,(zB (nt (Bd x3 (0:Int)))))]) (hT 2 [(oC [(Cv (Db.off p0) (Db.cs p0))])]) (.k0 [false] [.tmp 4 false] [4,5,15]) ?_)))
  replace hm:=Ag hm;rcases hm with⟨h3,hm⟩ | ⟨h3,hm⟩
  ·refine C8 (nt (Bd x3 (0:Int))) h3 ?_
   refine .then (.rK (.ghs (fr 44 [(2,(.slice none 0 0)),(3,zI x3)]) AO (.k0 [false] [] [2,3]) ?_))
   refine .ghs (Fr.puts (fr 44 [(2,(.slice none 0 0)),(3,zI x3)]) [(2,(Sl.v 1 (Sl.mk 0 2 [])))]) AO (.freeze 1 2 1 (by kernel_rfl) (by kernel_rfl) (E9.id _ _)) ?_
   refine .ret ?_
   exact Ay (.tuple ⟨[(Sl.v 1 (Sl.mk 0 2 [])),zI x3]⟩) hm
  ·refine Dn (nt (Bd x3 (0:Int))) h3 ?_
   refine .skip (.ghs (fr 44 [(4,pt 1 0)]) (hT 2 [(oC [(Cv (Db.off p0) (Db.cs p0))])]) (.k0 [false] [.tmp 4 false] [4]) ?_)
   refine .then (.rK (.ghs (fr 44 [(4,pt 1 0),(6,(zI (1:Int)))]) (hT 2 [(oC [(Cv (Db.off p0) (Db.cs p0))])]) (.k0 [false] [.tmp 4 false] [4,6]) ?_))
   refine .join (v:=v) (fun y:Int×Nat×LV=>((fr 44 [(4,pt 1 0),(6,(zI y.1))]),(hT 2 [(oC [(Cv y.2.1 y.2.2)])]))) (fun y=>Wp pu n y.1 y.2.1 y.2.2) ?_ ?_
   ·rintro⟨z0,n0,q0⟩ hm
    exact Aht pu n z0 n0 q0 hm
   ·refine .then ?_
    replace hm:=Kc hm;obtain⟨x4,h4,hm⟩:=hm
    replace hm:=Kc hm;obtain⟨x5,h5,hm⟩:=hm
    refine .reg (eC 4 (keep (hT 2 [(oC [(Cv (Db.off p0) (Db.cs p0))])]) (AL (Db.cs p0) (((Db.off p0)+0)+0))) (AZ h4) (eC 4 (keep (hT 2 [(oC [(Cv (Db.off p0) (Db.cs p0))])]) (AL (Db.cs p0) (((Db.off p0)+0)+1))) (AZ h5) (eE))) ?_
    refine .ghs (fr 44 [(4,pt 1 0),(6,(zI (1:Int))),(27,(zI (Aj .i64 (Int.mul x4 x5)))),(28,(zI (0:Int)))]) (hT 2 [(oC [(Cv (Db.off p0) (Db.cs p0))])]) (.k0 [false] [.tmp 4 false] [4,6,27,28]) ?_
    refine .block (.loopM (v:=v) (fun y:Int×Int×Int×Nat×LV=>((fr 44 [(4,pt 1 0),(6,(zI y.1)),(27,(zI y.2.1)),(28,(zI y.2.2.1))]),(hT 2 [(oC [(Cv y.2.2.2.1 y.2.2.2.2)])]))) (fun w y=>Yh pu n w y.1 y.2.1 y.2.2.1 y.2.2.2.1 y.2.2.2.2) n ⟨((1:Int),(Aj .i64 (Int.mul x4 x5)),(0:Int),(Db.off p0),(Db.cs p0)),hm,(.k0 [false] [.tmp 4 false] [4,6,27,28])⟩ (fun _=>rfl) ?_)
    rintro w0 ⟨z1,z2,z3,n1,q1⟩ hm
    replace hm:Wq pu n (Yh pu n w0) z1 z2 z3 n1 q1=some v:=hm
    unfold Wq at hm
    refine .then (.rK (.ghs (fr 44 [(4,pt 1 0),(6,zI z1),(27,zI z2),(28,zI z3),(29,(zB (AY z3 z2)))]) (hT 2 [(oC [(Cv n1 q1)])]) (.k0 [false] [.tmp 4 false] [4,6,27,28,29]) ?_))
    refine .then ?_
    replace hm:=Ag hm;rcases hm with⟨h6,hm⟩ | ⟨h6,hm⟩
    ·refine C8 (AY z3 z2) h6 ?_
     refine .skip (.ghs (fr 44 [(4,pt 1 0),(6,zI z1),(27,zI z2),(28,zI z3)]) (hT 2 [(oC [(Cv n1 q1)])]) (.k0 [false] [.tmp 4 false] [4,6,27,28]) ?_)
     refine .then (.block ?_)
     replace hm:=Kc hm;obtain⟨x6,h7,hm⟩:=hm
     refine .reg (eC 5 (keep (hT 2 [(oC [(Cv n1 q1)])]) (AL q1 ((n1+0)+2))) (AZ h7) (eE)) ?_
     refine .ghs (fr 44 [(4,pt 1 0),(6,(zI (Aj .i64 (Int.mul z1 x6)))),(27,zI z2),(28,zI z3)]) (hT 2 [(oC [(Cv n1 q1)])]) (.k0 [false] [.tmp 4 false] [4,6,27,28]) ?_
     refine .rK ?_
     exact⟨((Aj .i64 (Int.mul z1 x6)),z2,(Aj .i64 (Int.add z3 (1:Int))),n1,q1),hm,(.k0 [false] [.tmp 4 false] [4,6,27,28])⟩
    ·refine Dn (AY z3 z2) h6 ?_
     refine .exit ?_
     exact⟨(z1,n1,q1),hm,(.k0 [false] [.tmp 4 false] [4,6])⟩
 ·replace hm:=Ae hm;obtain⟨h8,hm⟩:=hm
  obtain rfl:=jA h8
  replace hm:=Ai hm;obtain⟨x7,rfl,hm⟩:=hm
  refine .reg (eC 1 ((oo (pu 25 [(.agg ⟨[zI x0,zI x1,zI x2,Sl.v 1 s0]⟩)]) none fun v=>some (v,(hT 2 [(oC [zI x0,zI x1,zI x2,Sl.v 1 s0])])))) (AB h0) (eE)) ?_
  refine .ghs (fr 44 [(4,pt 1 0),(5,zI x7)]) (hT 2 [(oC [(.pointer none)])]) (.k0 [false] [.tmp 4 false] [4,5]) ?_
  refine .then (.then (.rK (.ghs (fr 44 [(4,pt 1 0),(5,zI x7),(15,(zB (nt (Bd x7 (0:Int)))))]) (hT 2 [(oC [(.pointer none)])]) (.k0 [false] [.tmp 4 false] [4,5,15]) ?_)))
  replace hm:=Ag hm;rcases hm with⟨h9,hm⟩ | ⟨h9,hm⟩
  ·refine C8 (nt (Bd x7 (0:Int))) h9 ?_
   refine .then (.rK (.ghs (fr 44 [(2,(.slice none 0 0)),(3,zI x7)]) AO (.k0 [false] [] [2,3]) ?_))
   refine .ghs (Fr.puts (fr 44 [(2,(.slice none 0 0)),(3,zI x7)]) [(2,(Sl.v 1 (Sl.mk 0 2 [])))]) AO (.freeze 1 2 1 (by kernel_rfl) (by kernel_rfl) (E9.id _ _)) ?_
   refine .ret ?_
   exact Ay (.tuple ⟨[(Sl.v 1 (Sl.mk 0 2 [])),zI x7]⟩) hm
  ·refine Dn (nt (Bd x7 (0:Int))) h9 ?_
   refine .skip (.ghs (fr 44 [(4,pt 1 0)]) (hT 2 [(oC [(.pointer none)])]) (.k0 [false] [.tmp 4 false] [4]) ?_)
   refine .then (.rK (.ghs (fr 44 [(4,pt 1 0),(6,(zI (1:Int)))]) (hT 2 [(oC [(.pointer none)])]) (.k0 [false] [.tmp 4 false] [4,6]) ?_))
   refine .then (.then ?_)
   cases hm
def bV (pu:Af) (n:Nat) (ih0:Nat→Nat→Nat→Nat→Int→Int→Int→Sl→LV→LV→OV) (n0 c0 n1 c1:Nat) (z0 z1 z2 z3:Int) (s0:Sl) (q0:LV) (q1:LV):OV:=
 (bb (Au Ah q0) (bb (Au Ah q1) (bb (AY z0 (0:Int)) (bb (an (Nat.ble (0+n0*1) (len q0)) (Au Ah (Aq (n0*1) (Am 0 q0)))) (some (.tuple ⟨[(Sl.v 1 (Sl.mk n0 0 (Aq (n0*1) (Am 0 q0)))),(.int .i64 (0:Int))]⟩)) none) (oo (EA z0) none fun k1=>(bb (an (Nat.blt k1 n1) true) (oo (AL q1 (0+k1*1)) none fun v0=>(oo (Bi .i64 v0) none fun x0=>(bb (an (Nat.blt k1 n1) true) (bb (an (Nat.ble ((0+k1*1)+1) (len q1)) true) (bb (Au Ah (BM ([(.int .i64 (Aj .i64 (Int.add x0 (1:Int))))]:LV) (0+k1*1) q1)) (ih0 n0 c0 n1 c1 z1 z2 z3 s0 q0 (BM ([(.int .i64 (Aj .i64 (Int.add x0 (1:Int))))]:LV) (0+k1*1) q1)) none) none) none))) none))) none) none)
def Ws (pu:Af) (n:Nat) (ih0:Nat→Nat→Nat→Nat→Int→Int→Int→Sl→LV→LV→OV) (ih1:Nat→Nat→Nat→Nat→Int→Int→Int→Int→Sl→LV→LV→OV) (n0 c0 n1 c1:Nat) (z0:Int) (b0:Bool) (z1 z2 z3:Int) (s0:Sl) (q0:LV) (q1:LV):OV:=
 (bb b0 (bb (Au Ah q0) (bb (Au Ah q1) (oo (EA z0) none fun k1=>(bb (an (Nat.blt k1 n1) true) (bb (an (Nat.ble ((0+k1*1)+1) (len q1)) true) (bb (Au Ah (BM ([(.int .i64 (0:Int))]:LV) (0+k1*1) q1)) (ih1 n0 c0 n1 c1 (Aj .i64 (Int.sub (Int.ofNat k1) (1:Int))) z1 z2 z3 s0 q0 (BM ([(.int .i64 (0:Int))]:LV) (0+k1*1) q1)) none) none) none)) none) none) (bb (Au Ah q0) (bb (Au Ah q1) (bV pu n ih0 n0 c0 n1 c1 z0 z1 z2 z3 s0 q0 q1) none) none))
def Ua (pu:Af) (n:Nat) (ih0:Nat→Nat→Nat→Nat→Int→Int→Int→Sl→LV→LV→OV) (ih1:Nat→Nat→Nat→Nat→Int→Int→Int→Int→Sl→LV→LV→OV) (n0 c0 n1 c1:Nat) (z0 z1 z2 z3:Int) (s0:Sl) (q0:LV) (q1:LV):OV:=
 (bb (nt (AY z0 (0:Int))) (oo (EA z0) none fun k1=>(bb (an (Nat.blt k1 n1) true) (oo (AL q1 (0+k1*1)) none fun v0=>(oo (Bi .i64 v0) none fun x0=>(bb (Au Ah q0) (bb (Au Ah q1) (Ws pu n ih0 ih1 n0 c0 n1 c1 (Int.ofNat k1) (Bd x0 (Aj .i64 (Int.sub z3 (1:Int)))) z1 z2 z3 s0 q0 q1) none) none))) none)) (bb (Au Ah q0) (bb (Au Ah q1) (Ws pu n ih0 ih1 n0 c0 n1 c1 z0 false z1 z2 z3 s0 q0 q1) none) none))
def M9 (pu:Af) (n:Nat) (ih0:Nat→Nat→Nat→Nat→Int→Int→Int→Sl→LV→LV→OV) (w:Nat):Nat→Nat→Nat→Nat→Int→Int→Int→Int→Sl→LV→LV→OV:=
 Nat.rec (motive:=fun _=>Nat→Nat→Nat→Nat→Int→Int→Int→Int→Sl→LV→LV→OV) (fun _ _ _ _ _ _ _ _ _ _ _=>none) (fun _ ih1=>Ua pu n ih0 ih1) w
def Ub (pu:Af) (n:Nat) (ih0:Nat→Nat→Nat→Nat→Int→Int→Int→Sl→LV→LV→OV) (n0 c0 n1 c1:Nat) (z0 z1 z2:Int) (s0:Sl) (q0:LV) (q1:LV):OV:=
 (bb (Au Ah q0) (bb (Au Ah q1) (M9 pu n ih0 n n0 c0 n1 c1 (Aj .i64 (Int.sub (Int.ofNat n1) (1:Int))) z0 z1 z2 s0 q0 q1) none) none)
def bW (pu:Af) (n:Nat) (ih0:Nat→Nat→Nat→Nat→Int→Int→Int→Sl→LV→LV→OV) (n0 c0 n1 c1:Nat) (z0 z1 z2:Int) (s0:Sl) (q0:LV) (q1:LV):OV:=
 (bb (an (Nat.ble (0+n1*1) (len q1)) (Au Ah (Aq (n1*1) (Am 0 q1)))) (oo (pu 33 [(.agg ⟨[.int .i64 z0,.int .i64 z1,.int .i64 z2,Sl.v 1 s0]⟩),(Sl.v 1 (Sl.mk n1 0 (Aq (n1*1) (Am 0 q1))))]) none fun v0=>(oo (Bj 1 v0) none fun s1=>(bb (Au RH (Sl.cs s1)) (bb (an (Nat.ble (0+(Sl.n s1)*1) (len (Sl.cs s1))) (Au Ah (Aq ((Sl.n s1)*1) (Am 0 (Sl.cs s1))))) (bb (an (Nat.ble (0+n1*1) (len q1)) (Au Ah (Aq (n1*1) (Am 0 q1)))) (oo (pu 32 [(Sl.v 1 (Sl.mk (Sl.n s1) 0 (Aq ((Sl.n s1)*1) (Am 0 (Sl.cs s1))))),(Sl.v 1 (Sl.mk n1 0 (Aq (n1*1) (Am 0 q1))))]) none fun v1=>(oo (Bf v1) none fun b0=>(bb (Au Ah q0) (bb (Au Ah q1) (bb b0 (bb (Nat.ble (0+n1*1) (len q1)) (bb (Nat.beq (Sl.n (Sl.mk n1 0 (Aq (n1*1) (Am 0 q1)))) 0) (bb (GV 1 24 n0 c0 1 q0) (bb (Au Ah (Br (Am 0 q0) [(Sl.v 1 (Sl.mk 0 0 (Aq (0*1) (Am 0 ([]:LV)))))])) (Ub pu n ih0 (n0+1) (2*(n0+1)+bb false 1 0) n1 c1 z0 z1 z2 s0 (Br (Am 0 q0) [(Sl.v 1 (Sl.mk 0 0 (Aq (0*1) (Am 0 ([]:LV)))))]) q1) none) none) (bb (EQ (0+(Sl.n (Sl.mk n1 0 (Aq (n1*1) (Am 0 q1))))) 8) (bb (an (Nat.ble (0+(0+(Sl.n (Sl.mk n1 0 (Aq (n1*1) (Am 0 q1)))))*1) (len (Aq ((Sl.n (Sl.mk n1 0 (Aq (n1*1) (Am 0 q1))))*1) (Sl.cs (Sl.mk n1 0 (Aq (n1*1) (Am 0 q1))))))) (Au Ah (Aq ((0+(Sl.n (Sl.mk n1 0 (Aq (n1*1) (Am 0 q1)))))*1) (Am 0 (Aq ((Sl.n (Sl.mk n1 0 (Aq (n1*1) (Am 0 q1))))*1) (Sl.cs (Sl.mk n1 0 (Aq (n1*1) (Am 0 q1))))))))) (bb (GV 1 24 n0 c0 1 q0) (bb (Au Ah (Br (Am 0 q0) [(Sl.v 1 (Sl.mk (0+(Sl.n (Sl.mk n1 0 (Aq (n1*1) (Am 0 q1))))) 0 (Aq ((0+(Sl.n (Sl.mk n1 0 (Aq (n1*1) (Am 0 q1)))))*1) (Am 0 (Aq ((Sl.n (Sl.mk n1 0 (Aq (n1*1) (Am 0 q1))))*1) (Sl.cs (Sl.mk n1 0 (Aq (n1*1) (Am 0 q1)))))))))])) (Ub pu n ih0 (n0+1) (2*(n0+1)+bb false 1 0) n1 c1 z0 z1 z2 s0 (Br (Am 0 q0) [(Sl.v 1 (Sl.mk (0+(Sl.n (Sl.mk n1 0 (Aq (n1*1) (Am 0 q1))))) 0 (Aq ((0+(Sl.n (Sl.mk n1 0 (Aq (n1*1) (Am 0 q1)))))*1) (Am 0 (Aq ((Sl.n (Sl.mk n1 0 (Aq (n1*1) (Am 0 q1))))*1) (Sl.cs (Sl.mk n1 0 (Aq (n1*1) (Am 0 q1)))))))))]) q1) none) none) none) none)) none) (Ub pu n ih0 n0 c0 n1 c1 z0 z1 z2 s0 q0 q1)) none) none))) none) none) none))) none)
def KZ (pu:Af) (n w:Nat):Nat→Nat→Nat→Nat→Int→Int→Int→Sl→LV→LV→OV:=
 Nat.rec (motive:=fun _=>Nat→Nat→Nat→Nat→Int→Int→Int→Sl→LV→LV→OV) (fun _ _ _ _ _ _ _ _ _ _=>none) (fun _ ih0=>bW pu n ih0) w
def Ud (pu:Af) (n:Nat) (z0 z1 z2 z3:Int) (s0:Sl):OV:=
 (bb (nt (Bd z0 (0:Int))) (some (.tuple ⟨[(Sl.v 1 (Sl.mk 0 2 [])),.int .i64 z0]⟩)) (oo (EA (Aj .i64 (Int.mul z1 z2))) none fun k1=>(bb (an (Nat.ble k1 k1) (an (Nat.ble (k1*8) 1099511627776) (an (Nat.ble k1 1099511627776) true))) (bb (Au Ah (AF ([(.int .i64 (0:Int))]:LV) k1)) (KZ pu n n 0 0 k1 (2*k1+bb true 1 0) z1 z2 z3 s0 ([]:LV) (AF ([(.int .i64 (0:Int))]:LV) k1)) none) none)))
def Yi (pu:Af) (n:Nat) (z0:Int) (b0:Bool) (z1 z2 z3:Int) (s0:Sl):OV:=
 (bb b0 (Ud pu n (16:Int) z1 z2 z3 s0) (Ud pu n z0 z1 z2 z3 s0))
def zF (pu:Af) (n:Nat) (x0 x1 x2:Int) (s0:Sl):OV:=
 (oo (pu 30 [(.agg ⟨[.int .i64 x0,.int .i64 x1,.int .i64 x2,Sl.v 1 s0]⟩)]) none fun v0=>(oo (Bi .i64 v0) none fun x3=>(bb (Bd x3 (0:Int)) (oo (pu 31 [.int .i64 x2,(.int .i64 (Aj .i64 (Int.mul x0 x1)))]) none fun v1=>(oo (Bi .i64 v1) none fun x4=>(Yi pu n x3 (AY (4096:Int) x4) x0 x1 x2 s0))) (Yi pu n x3 false x0 x1 x2 s0))))
def m7 (pu:Af) (n:Nat) (args:LV):OV:=
 (ll args none fun a0 args=>(ll args (oo (Bt a0) none fun l0=>(ll l0 none fun v0 l0=>(ll l0 none fun v1 l0=>(ll l0 none fun v2 l0=>(ll l0 none fun v3 l0=>(ll l0 (oo (Bi .i64 v0) none fun x0=>(oo (Bi .i64 v1) none fun x1=>(oo (Bi .i64 v2) none fun x2=>(oo (Bj 1 v3) none fun s0=>(zF pu n x0 x1 x2 s0))))) fun _ _=>none)))))) fun _ _=>none))
theorem Ahu (pu:Af) (n:Nat) (z0 z1 z2 z3:Int) (s0:Sl) {v:Value} (hm:Ud pu n z0 z1 z2 z3 s0=some v):BN tt (Bb tabs isP pu (inl pu)) 1 lU (fr 72 [(1,pt 1 0),(4,zI z0)]) (hT 2 [(oC [zI z1,zI z2,zI z3,Sl.v 1 s0])]) (Fin tt 1 [.tmp 2,.tmp 3] v):=by
 unfold Ud at hm
 refine .then (.then (.rK (.ghs (fr 72 [(1,pt 1 0),(4,zI z0),(24,(zB (nt (Bd z0 (0:Int)))))]) (hT 2 [(oC [zI z1,zI z2,zI z3,Sl.v 1 s0])]) (.k0 [false] [.tmp 1 false] [1,4,24]) ?_)))
 replace hm:=Ag hm;rcases hm with⟨h0,hm⟩ | ⟨h0,hm⟩
 ·refine C8 (nt (Bd z0 (0:Int))) h0 ?_
  refine .then (.rK (.ghs (fr 72 [(2,(.slice none 0 0)),(3,zI z0)]) AO (.k0 [false] [] [2,3]) ?_))
  refine .ghs (Fr.puts (fr 72 [(2,(.slice none 0 0)),(3,zI z0)]) [(2,(Sl.v 1 (Sl.mk 0 2 [])))]) AO (.freeze 1 2 1 (by kernel_rfl) (by kernel_rfl) (E9.id _ _)) ?_
  refine .ret ?_
  exact Ay (.tuple ⟨[(Sl.v 1 (Sl.mk 0 2 [])),zI z0]⟩) hm
 ·refine Dn (nt (Bd z0 (0:Int))) h0 ?_
  refine .skip (.ghs (fr 72 [(1,pt 1 0)]) (hT 2 [(oC [zI z1,zI z2,zI z3,Sl.v 1 s0])]) (.k0 [false] [.tmp 1 false] [1]) ?_)
  refine .then (.rK (.ghs (fr 72 [(1,pt 1 0),(5,(.slice none 0 0))]) (hT 2 [(oC [zI z1,zI z2,zI z3,Sl.v 1 s0])]) (.k0 [false] [.tmp 1 false] [1,5]) ?_))
  refine .then ?_
  replace hm:=Ab hm;obtain⟨k1,h1,hm⟩:=hm
  replace hm:=Ae hm;obtain⟨h2,hm⟩:=hm
  refine .reg (eC 4 (some ((zI (Aj .i64 (Int.mul z1 z2))),(hT 2 [(oC [zI z1,zI z2,zI z3,Sl.v 1 s0])]))) (show _=some ((zI (Int.ofNat k1)),_) from (by rw[AR h1])) (eD (bb (an (Nat.ble k1 k1) (an (Nat.ble (k1*8) 1099511627776) (an (Nat.ble k1 1099511627776) true))) (some ((sc 2 0 1 k1 (2*k1+bb true 1 0)),(hT 3 [(oC [zI z1,zI z2,zI z3,Sl.v 1 s0]),(oC (AF ([(zI (0:Int))]:LV) k1))]))) none) (kH h2) (eE))) ?_
  replace hm:=Ae hm;obtain⟨h3,hm⟩:=hm
  refine .ghs (fr 72 [(1,pt 1 0),(5,(.slice none 0 0)),(6,(sc 2 0 1 k1 (2*k1+bb true 1 0)))]) (hT 3 [(oC [zI z1,zI z2,zI z3,Sl.v 1 s0]),(oC (AF ([(zI (0:Int))]:LV) k1))]) (.k [2] [false] [.tmp 1 false,.tmp 6 false] [1,5,6] ⟨BO h3,trivial⟩) ?_
  refine .block (.loopM (v:=v) (fun y:Nat×Nat×Nat×Nat×Int×Int×Int×Sl×LV×LV=>((fr 72 [(1,pt 1 0),(5,(sc 2 0 1 y.1 y.2.1)),(6,(sc 3 0 1 y.2.2.1 y.2.2.2.1))]),(hT 4 [(oC [(zI y.2.2.2.2.1),(zI y.2.2.2.2.2.1),(zI y.2.2.2.2.2.2.1),(Sl.v 1 y.2.2.2.2.2.2.2.1)]),(oC y.2.2.2.2.2.2.2.2.1),(oC y.2.2.2.2.2.2.2.2.2)]))) (fun w y=>KZ pu n w y.1 y.2.1 y.2.2.1 y.2.2.2.1 y.2.2.2.2.1 y.2.2.2.2.2.1 y.2.2.2.2.2.2.1 y.2.2.2.2.2.2.2.1 y.2.2.2.2.2.2.2.2.1 y.2.2.2.2.2.2.2.2.2) n ⟨(0,0,k1,(2*k1+bb true 1 0),z1,z2,z3,s0,([]:LV),(AF ([(zI (0:Int))]:LV) k1)),hm,(.thaw 5 1 (by kernel_rfl) (.k [2] [false] [.tmp 1 false,.tmp 5 false,.tmp 6 false] [1,5,6] ⟨BO h3,trivial⟩))⟩ (fun _=>rfl) ?_)
  rintro w0 ⟨n0,c0,n1,c1,z4,z5,z6,s1,q0,q1⟩ hm
  replace hm:bW pu n (KZ pu n w0) n0 c0 n1 c1 z4 z5 z6 s1 q0 q1=some v:=hm
  unfold bW at hm
  refine .block (.join (v:=v) (fun y:Nat×Nat×Nat×Nat×Int×Int×Int×Sl×LV×LV=>((fr 72 [(1,pt 1 0),(5,(sc 2 0 1 y.1 y.2.1)),(6,(sc 3 0 1 y.2.2.1 y.2.2.2.1))]),(hT 4 [(oC [(zI y.2.2.2.2.1),(zI y.2.2.2.2.2.1),(zI y.2.2.2.2.2.2.1),(Sl.v 1 y.2.2.2.2.2.2.2.1)]),(oC y.2.2.2.2.2.2.2.2.1),(oC y.2.2.2.2.2.2.2.2.2)]))) (fun y=>Ub pu n (KZ pu n w0) y.1 y.2.1 y.2.2.1 y.2.2.2.1 y.2.2.2.2.1 y.2.2.2.2.2.1 y.2.2.2.2.2.2.1 y.2.2.2.2.2.2.2.1 y.2.2.2.2.2.2.2.2.1 y.2.2.2.2.2.2.2.2.2) ?_ ?_)
  ·rintro⟨n2,c2,n3,c70,z7,z8,z9,s2,q2,q3⟩ hm
   unfold Ub at hm
   refine .then (.rK ?_)
   replace hm:=Ae hm;obtain⟨h4,hm⟩:=hm
   replace hm:=Ae hm;obtain⟨h5,hm⟩:=hm
   refine .ghs (fr 72 [(1,pt 1 0),(5,sc 2 0 1 n2 c2),(6,sc 3 0 1 n3 c70),(7,(zI (Aj .i64 (Int.sub (Int.ofNat n3) (1:Int)))))]) (hT 4 [(oC [zI z7,zI z8,zI z9,Sl.v 1 s2]),oC q2,oC q3]) (.k [2,3] [false] [.tmp 1 false,.tmp 5 false,.tmp 6 false] [1,5,6,7] ⟨BO h4,BO h5,trivial⟩) ?_
   refine .join (v:=v) (fun y:Nat×Nat×Nat×Nat×Int×Int×Int×Int×Sl×LV×LV=>((fr 72 [(1,pt 1 0),(5,(sc 2 0 1 y.1 y.2.1)),(6,(sc 3 0 1 y.2.2.1 y.2.2.2.1)),(7,(zI y.2.2.2.2.1))]),(hT 4 [(oC [(zI y.2.2.2.2.2.1),(zI y.2.2.2.2.2.2.1),(zI y.2.2.2.2.2.2.2.1),(Sl.v 1 y.2.2.2.2.2.2.2.2.1)]),(oC y.2.2.2.2.2.2.2.2.2.1),(oC y.2.2.2.2.2.2.2.2.2.2)]))) (fun y=>bV pu n (KZ pu n w0) y.1 y.2.1 y.2.2.1 y.2.2.2.1 y.2.2.2.2.1 y.2.2.2.2.2.1 y.2.2.2.2.2.2.1 y.2.2.2.2.2.2.2.1 y.2.2.2.2.2.2.2.2.1 y.2.2.2.2.2.2.2.2.2.1 y.2.2.2.2.2.2.2.2.2.2) ?_ ?_
   ·rintro⟨n4,c77,n5,c79,z10,z11,z12,z13,s3,q4,q5⟩ hm
    unfold bV at hm
    refine .then (.then (.rK ?_))
    replace hm:=Ae hm;obtain⟨h6,hm⟩:=hm
    replace hm:=Ae hm;obtain⟨h7,hm⟩:=hm
    refine .ghs (fr 72 [(1,pt 1 0),(5,sc 2 0 1 n4 c77),(6,sc 3 0 1 n5 c79),(7,zI z10),(64,(zB (AY z10 (0:Int))))]) (hT 4 [(oC [zI z11,zI z12,zI z13,Sl.v 1 s3]),oC q4,oC q5]) (.k [2,3] [false] [.tmp 1 false,.tmp 5 false,.tmp 6 false] [1,5,6,7,64] ⟨BO h6,BO h7,trivial⟩) ?_
    replace hm:=Ag hm;rcases hm with⟨h8,hm⟩ | ⟨h8,hm⟩
    ·refine C8 (AY z10 (0:Int)) h8 ?_
     refine .then (.rK (.ghs (fr 72 [(2,sc 1 0 1 n4 c77),(3,(zI (0:Int)))]) (hT 2 [oC q4]) (.k [2] [false] [.tmp 2 false] [2,3] ⟨BO h6,trivial⟩) ?_))
     replace hm:=Ae hm;obtain⟨h9,hm⟩:=hm
     refine .ghs (Fr.puts (fr 72 [(2,sc 1 0 1 n4 c77),(3,(zI (0:Int)))]) [(2,(Sl.v 1 (Sl.mk n4 0 (Aq (n4*1) (Am 0 q4)))))]) (hT 2 [.dead]) (.freezeC 1 2 1 (an (Nat.ble (0+n4*1) (len q4)) (Au Ah (Aq (n4*1) (Am 0 q4)))) (F1:=(Fr.puts (fr 72 [(2,sc 1 0 1 n4 c77),(3,(zI (0:Int)))]) [(2,(Sl.v 1 (Sl.mk n4 0 (Aq (n4*1) (Am 0 q4)))))])) (H1:=(hT 2 [.dead])) (by kernel_rfl) (by kernel_rfl) h9 (E9.id _ _)) ?_
     refine .ret ?_
     exact Ay (.tuple ⟨[(Sl.v 1 (Sl.mk n4 0 (Aq (n4*1) (Am 0 q4)))),(zI (0:Int))]⟩) hm
    ·refine Dn (AY z10 (0:Int)) h8 ?_
     refine .skip (.ghs (fr 72 [(1,pt 1 0),(5,sc 2 0 1 n4 c77),(6,sc 3 0 1 n5 c79),(7,zI z10)]) (hT 4 [(oC [zI z11,zI z12,zI z13,Sl.v 1 s3]),oC q4,oC q5]) (.k [2,3] [false] [.tmp 1 false,.tmp 5 false,.tmp 6 false] [1,5,6,7] ⟨BO h6,BO h7,trivial⟩) ?_)
     replace hm:=Ab hm;obtain⟨k2,h10,hm⟩:=hm
     obtain rfl:=AR h10
     replace hm:=Ae hm;obtain⟨h11,hm⟩:=hm
     replace hm:=Kc hm;obtain⟨x0,h12,hm⟩:=hm
     replace hm:=Ae hm;obtain⟨h13,hm⟩:=hm
     replace hm:=Ae hm;obtain⟨h14,hm⟩:=hm
     refine .reg (eC 2 (keep (hT 4 [(oC [zI z11,zI z12,zI z13,Sl.v 1 s3]),oC q4,oC q5]) (bb (an (Nat.blt k2 n5) true) (some (.pointer (some ⟨3,(0+k2*1),none⟩))) none)) (AX h11) (eD (keep (hT 4 [(oC [zI z11,zI z12,zI z13,Sl.v 1 s3]),oC q4,oC q5]) (AL q5 (0+k2*1))) (AZ h12) (eC 1 (keep (hT 4 [(oC [zI z11,zI z12,zI z13,Sl.v 1 s3]),oC q4,oC q5]) (bb (an (Nat.blt k2 n5) true) (some (.pointer (some ⟨3,(0+k2*1),none⟩))) none)) (AX h13) (eD (done (bb (an (Nat.ble ((0+k2*1)+1) (len q5)) true) (some (hT 4 [(oC [zI z11,zI z12,zI z13,Sl.v 1 s3]),oC q4,(oC (BM ([(zI (Aj .i64 (Int.add x0 (1:Int))))]:LV) (0+k2*1) q5))])) none) undef) (Js h14) (eE))))) ?_
     replace hm:=Ae hm;obtain⟨h15,hm⟩:=hm
     exact⟨(n4,c77,n5,c79,z11,z12,z13,s3,q4,(BM ([(zI (Aj .i64 (Int.add x0 (1:Int))))]:LV) (0+k2*1) q5)),hm,(.k [2,3] [false] [.tmp 1 false,.tmp 5 false,.tmp 6 false] [1,5,6] ⟨BO h6,BO h15,trivial⟩)⟩
   ·refine .block (.loopM (v:=v) (fun y:Nat×Nat×Nat×Nat×Int×Int×Int×Int×Sl×LV×LV=>((fr 72 [(1,pt 1 0),(5,(sc 2 0 1 y.1 y.2.1)),(6,(sc 3 0 1 y.2.2.1 y.2.2.2.1)),(7,(zI y.2.2.2.2.1))]),(hT 4 [(oC [(zI y.2.2.2.2.2.1),(zI y.2.2.2.2.2.2.1),(zI y.2.2.2.2.2.2.2.1),(Sl.v 1 y.2.2.2.2.2.2.2.2.1)]),(oC y.2.2.2.2.2.2.2.2.2.1),(oC y.2.2.2.2.2.2.2.2.2.2)]))) (fun w y=>M9 pu n (KZ pu n w0) w y.1 y.2.1 y.2.2.1 y.2.2.2.1 y.2.2.2.2.1 y.2.2.2.2.2.1 y.2.2.2.2.2.2.1 y.2.2.2.2.2.2.2.1 y.2.2.2.2.2.2.2.2.1 y.2.2.2.2.2.2.2.2.2.1 y.2.2.2.2.2.2.2.2.2.2) n ⟨(n2,c2,n3,c70,(Aj .i64 (Int.sub (Int.ofNat n3) (1:Int))),z7,z8,z9,s2,q2,q3),hm,(.k [2,3] [false] [.tmp 1 false,.tmp 5 false,.tmp 6 false] [1,5,6,7] ⟨BO h4,BO h5,trivial⟩)⟩ (fun _=>rfl) ?_)
    rintro w1 ⟨n6,c100,n7,c111,z14,z15,z16,z17,s4,q6,q7⟩ hm
    replace hm:Ua pu n (KZ pu n w0) (M9 pu n (KZ pu n w0) w1) n6 c100 n7 c111 z14 z15 z16 z17 s4 q6 q7=some v:=hm
    unfold Ua at hm
    refine .then (.join (v:=v) (fun y:Nat×Nat×Nat×Nat×Int×Bool×Int×Int×Int×Sl×LV×LV=>((fr 72 [(1,pt 1 0),(5,(sc 2 0 1 y.1 y.2.1)),(6,(sc 3 0 1 y.2.2.1 y.2.2.2.1)),(7,(zI y.2.2.2.2.1)),(57,(zB y.2.2.2.2.2.1))]),(hT 4 [(oC [(zI y.2.2.2.2.2.2.1),(zI y.2.2.2.2.2.2.2.1),(zI y.2.2.2.2.2.2.2.2.1),(Sl.v 1 y.2.2.2.2.2.2.2.2.2.1)]),(oC y.2.2.2.2.2.2.2.2.2.2.1),(oC y.2.2.2.2.2.2.2.2.2.2.2)]))) (fun y=>Ws pu n (KZ pu n w0) (M9 pu n (KZ pu n w0) w1) y.1 y.2.1 y.2.2.1 y.2.2.2.1 y.2.2.2.2.1 y.2.2.2.2.2.1 y.2.2.2.2.2.2.1 y.2.2.2.2.2.2.2.1 y.2.2.2.2.2.2.2.2.1 y.2.2.2.2.2.2.2.2.2.1 y.2.2.2.2.2.2.2.2.2.2.1 y.2.2.2.2.2.2.2.2.2.2.2) ?_ ?_)
    ·rintro⟨n8,c112,n9,c113,z18,b0,z19,z20,z21,s5,q8,q9⟩ hm
     unfold Ws at hm
     replace hm:=Ag hm;rcases hm with⟨h16,hm⟩ | ⟨h16,hm⟩
     ·refine .ifT b0 (by kernel_rfl) h16 ?_
      refine .skip ?_
      replace hm:=Ae hm;obtain⟨h17,hm⟩:=hm
      replace hm:=Ae hm;obtain⟨h18,hm⟩:=hm
      refine .ghs (fr 72 [(1,pt 1 0),(5,sc 2 0 1 n8 c112),(6,sc 3 0 1 n9 c113),(7,zI z18)]) (hT 4 [(oC [zI z19,zI z20,zI z21,Sl.v 1 s5]),oC q8,oC q9]) (.k [2,3] [false] [.tmp 1 false,.tmp 5 false,.tmp 6 false] [1,5,6,7] ⟨BO h17,BO h18,trivial⟩) ?_
      refine .block (.then ?_)
      replace hm:=Ab hm;obtain⟨k3,h19,hm⟩:=hm
      obtain rfl:=AR h19
      replace hm:=Ae hm;obtain⟨h20,hm⟩:=hm
      replace hm:=Ae hm;obtain⟨h21,hm⟩:=hm
      refine .reg (eC 2 (keep (hT 4 [(oC [zI z19,zI z20,zI z21,Sl.v 1 s5]),oC q8,oC q9]) (bb (an (Nat.blt k3 n9) true) (some (.pointer (some ⟨3,(0+k3*1),none⟩))) none)) (AX h20) (eD (done (bb (an (Nat.ble ((0+k3*1)+1) (len q9)) true) (some (hT 4 [(oC [zI z19,zI z20,zI z21,Sl.v 1 s5]),oC q8,(oC (BM ([(zI (0:Int))]:LV) (0+k3*1) q9))])) none) undef) (Js h21) (eE))) ?_
      replace hm:=Ae hm;obtain⟨h22,hm⟩:=hm
      refine .ghs (fr 72 [(1,pt 1 0),(5,sc 2 0 1 n8 c112),(6,sc 3 0 1 n9 c113),(7,(zI (Int.ofNat k3)))]) (hT 4 [(oC [zI z19,zI z20,zI z21,Sl.v 1 s5]),oC q8,(oC (BM ([(zI (0:Int))]:LV) (0+k3*1) q9))]) (.k [2,3] [false] [.tmp 1 false,.tmp 5 false,.tmp 6 false] [1,5,6,7] ⟨BO h17,BO h22,trivial⟩) ?_
      refine .rK ?_
      exact⟨(n8,c112,n9,c113,(Aj .i64 (Int.sub (Int.ofNat k3) (1:Int))),z19,z20,z21,s5,q8,(BM ([(zI (0:Int))]:LV) (0+k3*1) q9)),hm,(.k [2,3] [false] [.tmp 1 false,.tmp 5 false,.tmp 6 false] [1,5,6,7] ⟨BO h17,BO h22,trivial⟩)⟩
     ·refine .ifF b0 (by kernel_rfl) h16 ?_
      refine .exit ?_
      replace hm:=Ae hm;obtain⟨h23,hm⟩:=hm
      replace hm:=Ae hm;obtain⟨h24,hm⟩:=hm
      exact⟨(n8,c112,n9,c113,z18,z19,z20,z21,s5,q8,q9),hm,(.k [2,3] [false] [.tmp 1 false,.tmp 5 false,.tmp 6 false] [1,5,6,7] ⟨BO h23,BO h24,trivial⟩)⟩
    ·replace hm:=Ag hm;rcases hm with⟨h25,hm⟩ | ⟨h25,hm⟩
     ·replace hm:=Ab hm;obtain⟨k4,h26,hm⟩:=hm
      obtain rfl:=AR h26
      replace hm:=Ae hm;obtain⟨h27,hm⟩:=hm
      replace hm:=Kc hm;obtain⟨x1,h28,hm⟩:=hm
      refine .reg (eC 1 (some ((zB (nt (AY (Int.ofNat k4) (0:Int)))),(hT 4 [(oC [zI z15,zI z16,zI z17,Sl.v 1 s4]),oC q6,oC q7]))) (show _=some ((zB true),_) from (by rw[show (nt (AY (Int.ofNat k4) (0:Int)))=true from h25])) (eC 3 (keep (hT 4 [(oC [zI z15,zI z16,zI z17,Sl.v 1 s4]),oC q6,oC q7]) (bb (an (Nat.blt k4 n7) true) (some (.pointer (some ⟨3,(0+k4*1),none⟩))) none)) (AX h27) (eD (keep (hT 4 [(oC [zI z15,zI z16,zI z17,Sl.v 1 s4]),oC q6,oC q7]) (AL q7 (0+k4*1))) (AZ h28) (eE)))) ?_
      replace hm:=Ae hm;obtain⟨h29,hm⟩:=hm
      replace hm:=Ae hm;obtain⟨h30,hm⟩:=hm
      exact⟨(n6,c100,n7,c111,(Int.ofNat k4),(Bd x1 (Aj .i64 (Int.sub z17 (1:Int)))),z15,z16,z17,s4,q6,q7),hm,(.k [2,3] [false] [.tmp 1 false,.tmp 5 false,.tmp 6 false] [1,5,6,7,57] ⟨BO h29,BO h30,trivial⟩)⟩
     ·refine .reg (eC 1 (some ((zB (nt (AY z14 (0:Int)))),(hT 4 [(oC [zI z15,zI z16,zI z17,Sl.v 1 s4]),oC q6,oC q7]))) (show _=some ((zB false),_) from (by rw[show (nt (AY z14 (0:Int)))=false from h25])) (eE)) ?_
      replace hm:=Ae hm;obtain⟨h31,hm⟩:=hm
      replace hm:=Ae hm;obtain⟨h32,hm⟩:=hm
      exact⟨(n6,c100,n7,c111,z14,false,z15,z16,z17,s4,q6,q7),hm,(.k [2,3] [false] [.tmp 1 false,.tmp 5 false,.tmp 6 false] [1,5,6,7,57] ⟨BO h31,BO h32,trivial⟩)⟩
  ·refine .then ?_
   replace hm:=Ae hm;obtain⟨h33,hm⟩:=hm
   replace hm:=ZC hm;obtain⟨s6,h34,hm⟩:=hm
   replace hm:=Ae hm;obtain⟨h35,hm⟩:=hm
   replace hm:=Ae hm;obtain⟨h36,hm⟩:=hm
   replace hm:=Ae hm;obtain⟨h37,hm⟩:=hm
   replace hm:=QF hm;obtain⟨b1,h38,hm⟩:=hm
   refine .reg (eC 2 (frzP tabs 1 (pu 33) [(.agg ⟨[zI z4,zI z5,zI z6,Sl.v 1 s1]⟩),sc 3 0 1 n1 c1] (hT 4 [(oC [zI z4,zI z5,zI z6,Sl.v 1 s1]),oC q0,oC q1])) (Ov (s:=s6) (H2:=(hT 5 [(oC [zI z4,zI z5,zI z6,Sl.v 1 s1]),oC q0,oC q1,.dead])) (v:=(Sl.v 1 (Sl.mk (Sl.n s6) 0 (Aq ((Sl.n s6)*1) (Am 0 (Sl.cs s6)))))) (DL (iY (DL (Gp (by kernel_rfl) (by kernel_rfl)) (DL (Gp (by kernel_rfl) (by kernel_rfl)) (DL (Gp (by kernel_rfl) (by kernel_rfl)) (DL (Gp (by kernel_rfl) (by kernel_rfl)) Jj))))) (DL (FY (by kernel_rfl) (Oi 3 0 1 n1 c1 q1 false false [] (by kernel_rfl) (by kernel_rfl) h33)) Jj)) h34 h35 h36) (eC 1 (oo (CG (RG (hT 5 [(oC [zI z4,zI z5,zI z6,Sl.v 1 s1]),oC q0,oC q1,.dead])) [(Sl.v 1 (Sl.mk (Sl.n s6) 0 (Aq ((Sl.n s6)*1) (Am 0 (Sl.cs s6))))),sc 3 0 1 n1 c1]) none (fun l1=>oo (pu 32 l1) none fun v=>bb (RH v) (some (v,(hT 5 [(oC [zI z4,zI z5,zI z6,Sl.v 1 s1]),oC q0,oC q1,.dead]))) none)) (Uy (f:=pu 32) (DL (FY (by kernel_rfl) (Gp (by kernel_rfl) (by kernel_rfl))) (DL (FY (by kernel_rfl) (Oi 3 0 1 n1 c1 q1 false false [] (by kernel_rfl) (by kernel_rfl) h37)) Jj)) h38 (by kernel_rfl)) (eE))) ?_
   replace hm:=Ae hm;obtain⟨h39,hm⟩:=hm
   replace hm:=Ae hm;obtain⟨h40,hm⟩:=hm
   refine .ghs (fr 72 [(1,pt 1 0),(5,sc 2 0 1 n0 c0),(6,sc 3 0 1 n1 c1),(36,zB b1)]) (hT 4 [(oC [zI z4,zI z5,zI z6,Sl.v 1 s1]),oC q0,oC q1]) (.k [2,3] [false] [.tmp 1 false,.tmp 5 false,.tmp 6 false] [1,5,6,36] ⟨BO h39,BO h40,trivial⟩) ?_
   replace hm:=Ag hm;rcases hm with⟨h41,hm⟩ | ⟨h41,hm⟩
   ·refine .ifT b1 (by kernel_rfl) h41 ?_
    replace hm:=Ae hm;obtain⟨h42,hm⟩:=hm
    replace hm:=Ag hm;rcases hm with⟨h43,hm⟩ | ⟨h43,hm⟩
    ·replace hm:=Ae hm;obtain⟨h44,hm⟩:=hm
     refine .rG (NY.seg 4 (Fr.puts (fr 72 [(1,pt 1 0),(5,sc 2 0 1 n0 c0),(6,sc 3 0 1 n1 c1),(36,zB b1)]) [(37,sc 2 0 1 n0 c0),(38,sc 4 0 1 0 1),(39,sc 3 0 1 n1 c1),(40,sc 4 0 1 0 1)]) (hT 5 [(oC [zI z4,zI z5,zI z6,Sl.v 1 s1]),oC q0,oC q1,(oC [])]) (eC 3 (TV (hT 5 [(oC [zI z4,zI z5,zI z6,Sl.v 1 s1]),oC q0,oC q1,(oC [])]) 1 8 (sc 4 0 1 0 1) n1 (sc 3 0 1 n1 c1)) ((Ux (imm:=false) (sp:=false) (anc:=[]) h42).trans (Ze h43)) (by kernel_rfl)) (NY.ghs (Fr.puts (fr 72 [(1,pt 1 0),(5,sc 2 0 1 n0 c0),(6,sc 3 0 1 n1 c1),(36,zB b1)]) [(37,sc 2 0 1 n0 c0),(38,sc 4 0 1 0 1),(39,sc 3 0 1 n1 c1),(40,(Sl.v 1 (Sl.mk 0 0 (Aq (0*1) (Am 0 ([]:LV))))))]) (hT 5 [(oC [zI z4,zI z5,zI z6,Sl.v 1 s1]),oC q0,oC q1,.dead]) (.freeze 1 40 1 (by kernel_rfl) (by kernel_rfl) (E9.id _ _)) (NY.fin (eC 1 (Oc 1 24 n0 c0 1 2 q0 [(Sl.v 1 (Sl.mk 0 0 (Aq (0*1) (Am 0 ([]:LV)))))] [] (hT 6 [(oC [zI z4,zI z5,zI z6,Sl.v 1 s1]),oC q0,oC q1,.dead,(oC [(Sl.v 1 (Sl.mk 0 0 (Aq (0*1) (Am 0 ([]:LV)))))])])) (I1 h44) (eE))))) ?_
     replace hm:=Ae hm;obtain⟨h45,hm⟩:=hm
     exact⟨((n0+1),(d2 (n0+1)),n1,c1,z4,z5,z6,s1,(Br (Am 0 q0) [(Sl.v 1 (Sl.mk 0 0 (Aq (0*1) (Am 0 ([]:LV)))))]),q1),hm,(.k [6,3] [false] [.tmp 1 false,.tmp 5 false,.tmp 6 false] [1,5,6] ⟨BO h45,BO h40,trivial⟩)⟩
    ·replace hm:=Ae hm;obtain⟨h44,hm⟩:=hm
     replace hm:=Ae hm;obtain⟨h46,hm⟩:=hm
     replace hm:=Ae hm;obtain⟨h47,hm⟩:=hm
     refine .rG (NY.seg 4 (Fr.puts (fr 72 [(1,pt 1 0),(5,sc 2 0 1 n0 c0),(6,sc 3 0 1 n1 c1),(36,zB b1)]) [(37,sc 2 0 1 n0 c0),(38,sc 4 0 1 0 1),(39,sc 3 0 1 n1 c1),(40,(sc 5 0 1 (0+(Sl.n (Sl.mk n1 0 (Aq (n1*1) (Am 0 q1))))) (d2 (0+(Sl.n (Sl.mk n1 0 (Aq (n1*1) (Am 0 q1))))))))]) (hT 6 [(oC [zI z4,zI z5,zI z6,Sl.v 1 s1]),oC q0,oC q1,(oC []),(oC (Aq ((Sl.n (Sl.mk n1 0 (Aq (n1*1) (Am 0 q1))))*1) (Sl.cs (Sl.mk n1 0 (Aq (n1*1) (Am 0 q1))))))]) (eC 3 (TV (hT 5 [(oC [zI z4,zI z5,zI z6,Sl.v 1 s1]),oC q0,oC q1,(oC [])]) 1 8 (sc 4 0 1 0 1) n1 (sc 3 0 1 n1 c1)) ((Ux (imm:=false) (sp:=false) (anc:=[]) h42).trans (Zf h43 h44 (by kernel_rfl))) (by kernel_rfl)) (NY.ghs (Fr.puts (fr 72 [(1,pt 1 0),(5,sc 2 0 1 n0 c0),(6,sc 3 0 1 n1 c1),(36,zB b1)]) [(37,sc 2 0 1 n0 c0),(38,sc 4 0 1 0 1),(39,sc 3 0 1 n1 c1),(40,(Sl.v 1 (Sl.mk (0+(Sl.n (Sl.mk n1 0 (Aq (n1*1) (Am 0 q1))))) 0 (Aq ((0+(Sl.n (Sl.mk n1 0 (Aq (n1*1) (Am 0 q1)))))*1) (Am 0 (Aq ((Sl.n (Sl.mk n1 0 (Aq (n1*1) (Am 0 q1))))*1) (Sl.cs (Sl.mk n1 0 (Aq (n1*1) (Am 0 q1))))))))))]) (hT 6 [(oC [zI z4,zI z5,zI z6,Sl.v 1 s1]),oC q0,oC q1,(oC []),.dead]) (.freezeC 1 40 1 (an (Nat.ble (0+(0+(Sl.n (Sl.mk n1 0 (Aq (n1*1) (Am 0 q1)))))*1) (len (Aq ((Sl.n (Sl.mk n1 0 (Aq (n1*1) (Am 0 q1))))*1) (Sl.cs (Sl.mk n1 0 (Aq (n1*1) (Am 0 q1))))))) (Au Ah (Aq ((0+(Sl.n (Sl.mk n1 0 (Aq (n1*1) (Am 0 q1)))))*1) (Am 0 (Aq ((Sl.n (Sl.mk n1 0 (Aq (n1*1) (Am 0 q1))))*1) (Sl.cs (Sl.mk n1 0 (Aq (n1*1) (Am 0 q1))))))))) (F1:=(Fr.puts (fr 72 [(1,pt 1 0),(5,sc 2 0 1 n0 c0),(6,sc 3 0 1 n1 c1),(36,zB b1)]) [(37,sc 2 0 1 n0 c0),(38,sc 4 0 1 0 1),(39,sc 3 0 1 n1 c1),(40,(Sl.v 1 (Sl.mk (0+(Sl.n (Sl.mk n1 0 (Aq (n1*1) (Am 0 q1))))) 0 (Aq ((0+(Sl.n (Sl.mk n1 0 (Aq (n1*1) (Am 0 q1)))))*1) (Am 0 (Aq ((Sl.n (Sl.mk n1 0 (Aq (n1*1) (Am 0 q1))))*1) (Sl.cs (Sl.mk n1 0 (Aq (n1*1) (Am 0 q1))))))))))])) (H1:=(hT 6 [(oC [zI z4,zI z5,zI z6,Sl.v 1 s1]),oC q0,oC q1,(oC []),.dead])) (by kernel_rfl) (by kernel_rfl) h46 (E9.id _ _)) (NY.fin (eC 1 (Oc 1 24 n0 c0 1 2 q0 [(Sl.v 1 (Sl.mk (0+(Sl.n (Sl.mk n1 0 (Aq (n1*1) (Am 0 q1))))) 0 (Aq ((0+(Sl.n (Sl.mk n1 0 (Aq (n1*1) (Am 0 q1)))))*1) (Am 0 (Aq ((Sl.n (Sl.mk n1 0 (Aq (n1*1) (Am 0 q1))))*1) (Sl.cs (Sl.mk n1 0 (Aq (n1*1) (Am 0 q1)))))))))] [] (hT 7 [(oC [zI z4,zI z5,zI z6,Sl.v 1 s1]),oC q0,oC q1,(oC []),.dead,(oC [(Sl.v 1 (Sl.mk (0+(Sl.n (Sl.mk n1 0 (Aq (n1*1) (Am 0 q1))))) 0 (Aq ((0+(Sl.n (Sl.mk n1 0 (Aq (n1*1) (Am 0 q1)))))*1) (Am 0 (Aq ((Sl.n (Sl.mk n1 0 (Aq (n1*1) (Am 0 q1))))*1) (Sl.cs (Sl.mk n1 0 (Aq (n1*1) (Am 0 q1)))))))))])])) (I1 h47) (eE))))) ?_
     replace hm:=Ae hm;obtain⟨h48,hm⟩:=hm
     exact⟨((n0+1),(d2 (n0+1)),n1,c1,z4,z5,z6,s1,(Br (Am 0 q0) [(Sl.v 1 (Sl.mk (0+(Sl.n (Sl.mk n1 0 (Aq (n1*1) (Am 0 q1))))) 0 (Aq ((0+(Sl.n (Sl.mk n1 0 (Aq (n1*1) (Am 0 q1)))))*1) (Am 0 (Aq ((Sl.n (Sl.mk n1 0 (Aq (n1*1) (Am 0 q1))))*1) (Sl.cs (Sl.mk n1 0 (Aq (n1*1) (Am 0 q1)))))))))]),q1),hm,(.k [7,3] [false] [.tmp 1 false,.tmp 5 false,.tmp 6 false] [1,5,6] ⟨BO h48,BO h40,trivial⟩)⟩
   ·refine .ifF b1 (by kernel_rfl) h41 ?_
    refine .skip ?_
    exact⟨(n0,c0,n1,c1,z4,z5,z6,s1,q0,q1),hm,(.k [2,3] [false] [.tmp 1 false,.tmp 5 false,.tmp 6 false] [1,5,6] ⟨BO h39,BO h40,trivial⟩)⟩
theorem r7 {call:A8} (pu:Af) (n:Nat) (hcall:call=Bb tabs isP pu (inl pu)) {args:LV} {v:Value} (hm:m7 pu n args=some v) (_:∀ x∈args,closed2 x=true):args.length≤72∧BN tt call 1 WQ (Fr.made 72 args) (Ao tabs) (Fin tt 1 [.tmp 2,.tmp 3] v):=by
 subst hcall
 unfold m7 at hm
 replace hm:=Ad hm;obtain⟨a0,args_0,rfl,hm⟩:=hm
 replace hm:=AC hm;obtain⟨rfl,hm⟩:=hm
 replace hm:=BG hm;obtain⟨l0,rfl,hm⟩:=hm
 replace hm:=Ad hm;obtain⟨v0,l1733_0,rfl,hm⟩:=hm
 replace hm:=Ad hm;obtain⟨v1,l1733_1,rfl,hm⟩:=hm
 replace hm:=Ad hm;obtain⟨v2,l1733_2,rfl,hm⟩:=hm
 replace hm:=Ad hm;obtain⟨v3,l1733_3,rfl,hm⟩:=hm
 replace hm:=AC hm;obtain⟨rfl,hm⟩:=hm
 replace hm:=Ai hm;obtain⟨x0,rfl,hm⟩:=hm
 replace hm:=Ai hm;obtain⟨x1,rfl,hm⟩:=hm
 replace hm:=Ai hm;obtain⟨x2,rfl,hm⟩:=hm
 replace hm:=Al hm;obtain⟨s0,rfl,hm⟩:=hm
 unfold zF at hm
 refine⟨by simp,?_⟩
 refine .same (F':=(fr 72 [(0,(.agg ⟨[zI x0,zI x1,zI x2,Sl.v 1 s0]⟩))])) (H':=AO) (by kernel_rfl) (by kernel_rfl) ?_
 refine .then (.rK (.ghs (fr 72 [(1,pt 1 0)]) (hT 2 [(oC [zI x0,zI x1,zI x2,Sl.v 1 s0])]) (.k0 [false] [.tmp 1 false] [1]) ?_))
 refine .then ?_
 replace hm:=Kc hm;obtain⟨x3,h0,hm⟩:=hm
 refine .reg (eC 1 ((oo (pu 30 [(.agg ⟨[zI x0,zI x1,zI x2,Sl.v 1 s0]⟩)]) none fun v=>some (v,(hT 2 [(oC [zI x0,zI x1,zI x2,Sl.v 1 s0])])))) (AB h0) (eE)) ?_
 refine .ghs (fr 72 [(1,pt 1 0),(4,zI x3)]) (hT 2 [(oC [zI x0,zI x1,zI x2,Sl.v 1 s0])]) (.k0 [false] [.tmp 1 false] [1,4]) ?_
 refine .join (v:=v) (fun y:Int×Int×Int×Int×Sl=>((fr 72 [(1,pt 1 0),(4,(zI y.1))]),(hT 2 [(oC [(zI y.2.1),(zI y.2.2.1),(zI y.2.2.2.1),(Sl.v 1 y.2.2.2.2)])]))) (fun y=>Ud pu n y.1 y.2.1 y.2.2.1 y.2.2.2.1 y.2.2.2.2) ?_ ?_
 ·rintro⟨z0,z1,z2,z3,s1⟩ hm
  exact Ahu pu n z0 z1 z2 z3 s1 hm
 ·refine .join (v:=v) (fun y:Int×Bool×Int×Int×Int×Sl=>((fr 72 [(1,pt 1 0),(4,(zI y.1)),(22,(zB y.2.1))]),(hT 2 [(oC [(zI y.2.2.1),(zI y.2.2.2.1),(zI y.2.2.2.2.1),(Sl.v 1 y.2.2.2.2.2)])]))) (fun y=>Yi pu n y.1 y.2.1 y.2.2.1 y.2.2.2.1 y.2.2.2.2.1 y.2.2.2.2.2) ?_ ?_
  ·rintro⟨z4,b0,z5,z6,z7,s2⟩ hm
   unfold Yi at hm
   replace hm:=Ag hm;rcases hm with⟨h1,hm⟩ | ⟨h1,hm⟩
   ·refine .ifT b0 (by kernel_rfl) h1 ?_
    refine .rK ?_
    exact⟨((16:Int),z5,z6,z7,s2),hm,(.k0 [false] [.tmp 1 false] [1,4])⟩
   ·refine .ifF b0 (by kernel_rfl) h1 ?_
    refine .skip ?_
    exact⟨(z4,z5,z6,z7,s2),hm,(.k0 [false] [.tmp 1 false] [1,4])⟩
  ·replace hm:=Ag hm;rcases hm with⟨h2,hm⟩ | ⟨h2,hm⟩
   ·replace hm:=Kc hm;obtain⟨x4,h3,hm⟩:=hm
    refine .reg (eC 1 (some ((zB (Bd x3 (0:Int))),(hT 2 [(oC [zI x0,zI x1,zI x2,Sl.v 1 s0])]))) (show _=some ((zB true),_) from (by rw[show (Bd x3 (0:Int))=true from h2])) (eC 8 ((oo (pu 31 [zI x2,(zI (Aj .i64 (Int.mul x0 x1)))]) none fun v=>some (v,(hT 2 [(oC [zI x0,zI x1,zI x2,Sl.v 1 s0])])))) (AB h3) (eE))) ?_
    exact⟨(x3,(AY (4096:Int) x4),x0,x1,x2,s0),hm,(.k0 [false] [.tmp 1 false] [1,4,22])⟩
   ·refine .reg (eC 1 (some ((zB (Bd x3 (0:Int))),(hT 2 [(oC [zI x0,zI x1,zI x2,Sl.v 1 s0])]))) (show _=some ((zB false),_) from (by rw[show (Bd x3 (0:Int))=false from h2])) (eE)) ?_
    exact⟨(x3,false,x0,x1,x2,s0),hm,(.k0 [false] [.tmp 1 false] [1,4,22])⟩
end
end Go.BaAM
