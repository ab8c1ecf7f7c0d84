/- Words for the models of TopMoved. -/
import Derived.Test.YtflonlkiajhhjaaGreatDoorTpDNodesx
import Derived.Test.YtflonlkiajhhjaaGreatDoorTpDCode
import Derived.KernelRfl


set_option maxRecDepth 100000
namespace Go.TpDM
open Go.Sp Go.TpD
noncomputable section
def OA:List Value→Option Value:=Go.BkQ.cellsM
def OB:List Value→Option Value:=fun _=>none
def QL:List Value→Option Value:=fun _=>none
end
end Go.TpDM
set_option maxRecDepth 100000
set_option maxHeartbeats 20000000
set_option linter.unusedVariables false
namespace Go.TpDM
open Go.Sp Go.TpD
noncomputable section
def Ps:List Value:=[.int .u8 0,.int .u8 1,.int .u8 28,.int .u8 2,.int .u8 29,.int .u8 14,.int .u8 24,.int .u8 3,.int .u8 30,.int .u8 22,.int .u8 20,.int .u8 15,.int .u8 25,.int .u8 17,.int .u8 4,.int .u8 8,.int .u8 31,.int .u8 27,.int .u8 13,.int .u8 23,.int .u8 21,.int .u8 19,.int .u8 16,.int .u8 7,.int .u8 26,.int .u8 12,.int .u8 18,.int .u8 6,.int .u8 11,.int .u8 5,.int .u8 10,.int .u8 9]
def Ay:List Value:=[.int .u8 0,.int .u8 1,.int .u8 56,.int .u8 2,.int .u8 57,.int .u8 49,.int .u8 28,.int .u8 3,.int .u8 61,.int .u8 58,.int .u8 42,.int .u8 50,.int .u8 38,.int .u8 29,.int .u8 17,.int .u8 4,.int .u8 62,.int .u8 47,.int .u8 59,.int .u8 36,.int .u8 45,.int .u8 43,.int .u8 51,.int .u8 22,.int .u8 53,.int .u8 39,.int .u8 33,.int .u8 30,.int .u8 24,.int .u8 18,.int .u8 12,.int .u8 5,.int .u8 63,.int .u8 55,.int .u8 48,.int .u8 27,.int .u8 60,.int .u8 41,.int .u8 37,.int .u8 16,.int .u8 46,.int .u8 35,.int .u8 44,.int .u8 21,.int .u8 52,.int .u8 32,.int .u8 23,.int .u8 11,.int .u8 54,.int .u8 26,.int .u8 40,.int .u8 15,.int .u8 34,.int .u8 20,.int .u8 31,.int .u8 10,.int .u8 25,.int .u8 14,.int .u8 19,.int .u8 9,.int .u8 13,.int .u8 8,.int .u8 7,.int .u8 6]
def tabs:List (List Value):=[Ps,Ay]
theorem BB {tt:TT} {n0:Nat} {rs:List ResultVar} {v:Value} {F:Fr} {H:Aa} (r:Value) (hm:some r=some v) (h:DV tt F H rs=some r:=by kernel_rfl) (hc:Fe r=true:=by kernel_rfl):Fin tt n0 rs v .ret F H:=kI r h hc hm
theorem FK {α:Type} {k:IntKind} {o:Option Value} {s:Int→Option α} {w:α} (h:oo o none (fun v=>oo (Bi k v) none s)=some w):∃ x,o=some (.int k x)∧s x=some w:=by
 obtain⟨v,h1,h2⟩:=Ab h
 obtain⟨x,hx,h3⟩:=Ab h2
 obtain rfl:=Eh hx
 exact⟨x,h1,h3⟩
theorem oQS {α:Type} {k:Nat} {o:Option Value} {s:Sl→Option α} {w:α} (h:oo o none (fun v=>oo (Bj k v) none s)=some w):∃ x,o=some (Sl.v k x)∧s x=some w:=by
 obtain⟨v,h1,h2⟩:=Ab h
 obtain⟨x,hx,h3⟩:=Ab h2
 obtain rfl:=Qh hx
 exact⟨x,h1,h3⟩
theorem zT {α:Type} {o:Option Value} {s:Bool→Option α} {w:α} (h:oo o none (fun v=>oo (Bf v) none s)=some w):∃ x,o=some (.bool x)∧s x=some w:=by
 obtain⟨v,h1,h2⟩:=Ab h
 obtain⟨x,hx,h3⟩:=Ab h2
 obtain rfl:=BV hx
 exact⟨x,h1,h3⟩
theorem Dr {tt:TT} {call:A8} {n0:Nat} {c:Operand} {a b:RC} {F:Fr} {H:Aa} {Q:Ex→Fr→Aa→Prop} (e:Bool) (hb:e=true) (h:BN tt call n0 a F H Q) (he:Bf (F.eval c)=some e:=by kernel_rfl):BN tt call n0 (.cond c a b) F H Q:=.ifT e he hb h
theorem Dy {tt:TT} {call:A8} {n0:Nat} {c:Operand} {a b:RC} {F:Fr} {H:Aa} {Q:Ex→Fr→Aa→Prop} (e:Bool) (hb:e=false) (h:BN tt call n0 b F H Q) (he:Bf (F.eval c)=some e:=by kernel_rfl):BN tt call n0 (.cond c a b) F H Q:=.ifF e he hb h
abbrev h1T:Aa:=hp 1 [oT Ps]
abbrev hT (n:Nat) (l:List AJ):Aa:=hp n (oT Ps::l)
theorem AO {a b:Bool} (h:b=true) (e:a=b:=by kernel_rfl):a=true:=e.trans h
abbrev OV:=Option Value
abbrev LV:=List Value
def O9:List Nat:=[3,10,11,13,14,45,47,48,49,80,90,104,105,106,107,157,158,165,197]
def isP:FuncId→Bool:=fun g=>ED g O9
def inl (pu:Af):A8:=fun g args H=>bb (Nat.beq g 204) (Hr tabs 1 (pu 204) args H) (bb (Nat.beq g 12) (Gs tabs [[none,some 1,some 1]] 1 [] [] (pu 10120) args H) (bb (Nat.beq g 46) (Gs tabs [[none]] 1 [.tmp 0 false] [false] (pu 10460) args H) (bb (Nat.beq g 108) (Gs tabs [[none,some 1,some 1]] 1 [] [true,false] (pu 11080) args H) (bb (Nat.beq g 109) (Gs tabs [[none],[none]] 2 [.tmp 0 true,.cell 2 3 false] [true,false] (pu 11090) args H) (bb (Nat.beq g 252) (Gs tabs [[none],[none]] 2 [.tmp 0 true,.tmp 1 false,.cell 2 1 false,.cell 2 2 false] [true,false,false,false] (pu 12520) args H) (none))))))
def ZT:List UInt8:=[0,1,1,2,1,2,2,3,1,2,2,3,2,3,3,4,1,2,2,3,2,3,3,4,2,3,3,4,3,4,4,5,1,2,2,3,2,3,3,4,2,3,3,4,3,4,4,5,2,3,3,4,3,4,4,5,3,4,4,5,4,5,5,6,1,2,2,3,2,3,3,4,2,3,3,4,3,4,4,5,2,3,3,4,3,4,4,5,3,4,4,5,4,5,5,6,2,3,3,4,3,4,4,5,3,4,4,5,4,5,5,6,3,4,4,5,4,5,5,6,4,5,5,6,5,6,6,7,1,2,2,3,2,3,3,4,2,3,3,4,3,4,4,5,2,3,3,4,3,4,4,5,3,4,4,5,4,5,5,6,2,3,3,4,3,4,4,5,3,4,4,5,4,5,5,6,3,4,4,5,4,5,5,6,4,5,5,6,5,6,6,7,2,3,3,4,3,4,4,5,3,4,4,5,4,5,5,6,3,4,4,5,4,5,5,6,4,5,5,6,5,6,6,7,3,4,4,5,4,5,5,6,4,5,5,6,5,6,6,7,4,5,5,6,5,6,6,7,5,6,6,7,6,7,7,8]
end
end Go.TpDM
set_option maxRecDepth 100000
set_option maxHeartbeats 20000000
set_option linter.unusedVariables false
namespace Go.TpDM
open Go.Sp Go.TpD
noncomputable section
def MF (pu:Af) (n:Nat) (b0:Bool):OV:=
 (some (.bool b0))
def bI (pu:Af) (n:Nat) (s35:Sl) (n36 c37:Nat) (q38:LV):OV:=
 (bb (Au Ah q38) (oo (pu 11 [Sl.v 1 s35]) none fun v50=>(oo (CQ v50) none fun l52=>(ll l52 none fun v54 l52=>(ll l52 none fun v55 l52=>(ll l52 (oo (Bj 1 v54) none fun s56=>(oo (Bi .i64 v55) none fun x58=>(bb (an (Nat.ble (0+n36*1) (len q38)) (Au Ah (Aq (n36*1) (Am 0 q38)))) (oo (pu 10120 [(.agg ⟨[(.int .i64 (Int.ofNat (Sl.n s35))),Sl.v 1 s35,(Sl.v 1 (Sl.mk n36 0 (Aq (n36*1) (Am 0 q38))))]⟩)]) none fun v0=>(oo (CQ v0) none fun l0=>(ll l0 none fun v1 l0=>(ll l0 (oo (CQ v1) none fun l1=>(ll l1 none fun v2 l1=>(ll l1 none fun v3 l1=>(ll l1 (oo (Bi .i64 v2) none fun x0=>(oo (Bi .i64 v3) none fun x1=>(oo (pu 13 [(.agg ⟨[(.int .i64 (Int.ofNat (Sl.n s35))),Sl.v 1 s35,(Sl.v 1 (Sl.mk n36 0 (Aq (n36*1) (Am 0 q38))))]⟩)]) none fun v4=>(oo (CQ v4) none fun l2=>(ll l2 none fun v5 l2=>(ll l2 none fun v6 l2=>(ll l2 (oo (Bi .i64 v5) none fun x2=>(oo (Bi .i64 v6) none fun x3=>(bb (Bd x58 (0:Int)) (bb (Bd x1 (0:Int)) (bb (Bd x3 (0:Int)) (bb (nt (AY x0 (Int.ofNat (Sl.n s56)))) (bb (nt (AY (Aj .i64 (Int.mul (2:Int) x2)) (Int.ofNat (Sl.n s56)))) (bb (bq true (bq (Bd (Int.ofNat (Sl.n s56)) (0:Int)) (Bd x2 (0:Int)))) (oo (pu 14 []) none fun v7=>(oo (Bf v7) none fun b0=>(MF pu n b0))) (MF pu n false)) (MF pu n false)) (MF pu n false)) (MF pu n false)) (MF pu n false)) (MF pu n false)))) fun _ _=>none))))))) fun _ _=>none)))) fun _ _=>none)))) none))) fun _ _=>none))))) none)
def uG (pu:Af) (n:Nat) (ih0:Sl→Nat→Nat→Int→Int→LV→OV) (s0:Sl) (n0 c0:Nat) (z0 z1:Int) (q0:LV):OV:=
 (bb (Au Ah q0) (bb (AY z1 z0) (bb (GV 1 8 n0 c0 1 q0) (bb (Au Ah (Br (Am 0 q0) [.int .i64 z1])) (ih0 s0 (n0+1) (2*(n0+1)+bb false 1 0) z0 (Aj .i64 (Int.add z1 (1:Int))) (Br (Am 0 q0) [.int .i64 z1])) none) none) (bI pu n s0 n0 c0 q0)) none)
def Ul (pu:Af) (n w:Nat):Sl→Nat→Nat→Int→Int→LV→OV:=
 Nat.rec (motive:=fun _=>Sl→Nat→Nat→Int→Int→LV→OV) (fun _ _ _ _ _ _=>none) (fun _ ih0=>uG pu n ih0) w
def m3_ (pu:Af) (n:Nat) (x1:Int) (s3:Sl):OV:=
 (oo (pu 10 [(.int .i64 (Aj .i64 (Int.add (1:Int) (Int.tmod (Aj .i64 x1) (5:Int))))),Sl.v 1 s3]) none fun v9=>(oo (Bj 1 v9) none fun s11=>(Ul pu n n s11 0 0 (Int.ofNat (Sl.n s11)) (0:Int) ([]:LV))))
def m3 (pu:Af) (n:Nat) (args:LV):OV:=
 (ll args none fun a0 args=>(ll args none fun a1 args=>(ll args (oo (Bi .u8 a0) none fun x1=>(oo (Bj 1 a1) none fun s3=>(m3_ pu n x1 s3))) fun _ _=>none)))
theorem AdI (pu:Af) (n:Nat) (b0:Bool) {v:Value} (hm:MF pu n b0=some v):BN tt (Bb tabs isP pu (inl pu)) 2 .ret (fr 85 [(4,zB b0)]) (hT 2 [(.cells Ay true false [])]) (Fin tt 2 [.tmp 4] v):=by
 unfold MF at hm
 refine .ret ?_
 exact BB (zB b0) hm
theorem AdJ (pu:Af) (n:Nat) (s35:Sl) (n36 c37:Nat) (q38:LV) {v:Value} (hm:bI pu n s35 n36 c37 q38=some v):BN tt (Bb tabs isP pu (inl pu)) 2 fM (fr 85 [(5,Sl.v 1 s35),(6,sc 2 0 1 n36 c37)]) (hT 3 [(.cells Ay true false []),oC q38]) (Fin tt 2 [.tmp 4] v):=by
 unfold bI at hm
 refine .then (.rK ?_)
 replace hm:=Ae hm;obtain⟨h39,hm⟩:=hm
 refine .ghs (fr 85 [(5,Sl.v 1 s35),(8,(pt 2 0))]) (hT 4 [(.cells Ay true false []),(oC [(zI (Int.ofNat (Sl.n s35))),Sl.v 1 s35,sc 3 0 1 n36 c37]),oC q38]) (.k [2] [false,false] [.tmp 8 true,.cell 2 2 false] [5,8] ⟨AO h39,trivial⟩) ?_
 refine .then ?_
 replace hm:=Ab hm;obtain⟨v50,h51,hm⟩:=hm
 replace hm:=Ch hm;obtain⟨l52,rfl,hm⟩:=hm
 replace hm:=Ad hm;obtain⟨v54,l52_0,rfl,hm⟩:=hm
 replace hm:=Ad hm;obtain⟨v55,l52_1,rfl,hm⟩:=hm
 replace hm:=AC hm;obtain⟨rfl,hm⟩:=hm
 replace hm:=Al hm;obtain⟨s56,rfl,hm⟩:=hm
 replace hm:=Ai hm;obtain⟨x58,rfl,hm⟩:=hm
 refine .reg (eC 1 ((oo (pu 11 [Sl.v 1 s35]) none fun v=>some (v,(hT 4 [(.cells Ay true false []),(oC [(zI (Int.ofNat (Sl.n s35))),Sl.v 1 s35,sc 3 0 1 n36 c37]),oC q38])))) (AB h51) (eE)) ?_
 refine .ghs (fr 85 [(8,(pt 2 0)),(9,Sl.v 1 s56),(10,zI x58)]) (hT 4 [(.cells Ay true false []),(oC [(zI (Int.ofNat (Sl.n s35))),Sl.v 1 s35,sc 3 0 1 n36 c37]),oC q38]) (.k [3] [false,false] [.tmp 8 true,.cell 2 2 false] [8,9,10] ⟨AO h39,trivial⟩) ?_
 refine .then ?_
 replace hm:=Ae hm;obtain⟨h60,hm⟩:=hm
 refine .ghs (fr 85 [(8,(pt 2 0)),(9,Sl.v 1 s56),(10,zI x58)]) (hT 4 [(.cells Ay true false []),(oC [(zI (Int.ofNat (Sl.n s35))),Sl.v 1 s35,(Sl.v 1 (Sl.mk n36 0 (Aq (n36*1) (Am 0 q38))))]),.dead]) (.frzC 2 2 2 [(zI (Int.ofNat (Sl.n s35))),Sl.v 1 s35,sc 3 0 1 n36 c37] (an (Nat.ble (0+n36*1) (len q38)) (Au Ah (Aq (n36*1) (Am 0 q38)))) (v:=(sc 3 0 1 n36 c37)) (v':=(Sl.v 1 (Sl.mk n36 0 (Aq (n36*1) (Am 0 q38))))) (H1:=(hT 4 [(.cells Ay true false []),(oC [(zI (Int.ofNat (Sl.n s35))),Sl.v 1 s35,sc 3 0 1 n36 c37]),.dead])) (imm:=false) (spent:=false) (anc:=[]) h60 (E9.id _ _)) ?_
 replace hm:=Ab hm;obtain⟨v0,h0,hm⟩:=hm
 replace hm:=Ch hm;obtain⟨l0,rfl,hm⟩:=hm
 replace hm:=Ad hm;obtain⟨v1,l922_0,rfl,hm⟩:=hm
 replace hm:=AC hm;obtain⟨rfl,hm⟩:=hm
 replace hm:=Ch hm;obtain⟨l1,rfl,hm⟩:=hm
 replace hm:=Ad hm;obtain⟨v2,l925_0,rfl,hm⟩:=hm
 replace hm:=Ad hm;obtain⟨v3,l925_1,rfl,hm⟩:=hm
 replace hm:=AC hm;obtain⟨rfl,hm⟩:=hm
 replace hm:=Ai hm;obtain⟨x0,rfl,hm⟩:=hm
 replace hm:=Ai hm;obtain⟨x1,rfl,hm⟩:=hm
 refine .reg (eC 1 (Gs tabs [[none,some 1,some 1]] 1 [] [] (pu 10120) [(.agg ⟨[(zI (Int.ofNat (Sl.n s35))),Sl.v 1 s35,(Sl.v 1 (Sl.mk n36 0 (Aq (n36*1) (Am 0 q38))))]⟩)] (hT 4 [(.cells Ay true false []),(oC [(zI (Int.ofNat (Sl.n s35))),Sl.v 1 s35,(Sl.v 1 (Sl.mk n36 0 (Aq (n36*1) (Am 0 q38))))]),.dead])) (HV (as:=[(.agg ⟨[(zI (Int.ofNat (Sl.n s35))),Sl.v 1 s35,(Sl.v 1 (Sl.mk n36 0 (Aq (n36*1) (Am 0 q38))))]⟩)]) (H1:=(hT 4 [(.cells Ay true false []),(oC [(zI (Int.ofNat (Sl.n s35))),Sl.v 1 s35,(Sl.v 1 (Sl.mk n36 0 (Aq (n36*1) (Am 0 q38))))]),.dead])) (G9 (fK (MH Pp (MH (WG (CV (z:=1) (v:=(Sl.v 1 s35)) (H:=(hT 4 [(.cells Ay true false []),(oC [(zI (Int.ofNat (Sl.n s35))),Sl.v 1 s35,(Sl.v 1 (Sl.mk n36 0 (Aq (n36*1) (Am 0 q38))))]),.dead])) (by kernel_rfl) (by kernel_rfl) (by kernel_rfl))) (MH (WG (CV (z:=1) (v:=(Sl.v 1 (Sl.mk n36 0 (Aq (n36*1) (Am 0 q38))))) (H:=(hT 4 [(.cells Ay true false []),(oC [(zI (Int.ofNat (Sl.n s35))),Sl.v 1 s35,(Sl.v 1 (Sl.mk n36 0 (Aq (n36*1) (Am 0 q38))))]),.dead])) (by kernel_rfl) (by kernel_rfl) (by kernel_rfl))) fI)))) KJ) (Ha (H2:=(hT 4 [(.cells Ay true false []),(oC [(zI (Int.ofNat (Sl.n s35))),Sl.v 1 s35,(Sl.v 1 (Sl.mk n36 0 (Aq (n36*1) (Am 0 q38))))]),.dead])) (v:=(.tuple ⟨[zI x0,zI x1]⟩)) (v':=(.tuple ⟨[zI x0,zI x1]⟩)) [some 0,some 1] [] [] [(.agg ⟨[(zI (Int.ofNat (Sl.n s35))),Sl.v 1 s35,(Sl.v 1 (Sl.mk n36 0 (Aq (n36*1) (Am 0 q38))))]⟩)] [] [] [some 0,some 1,none,none] [] [] (by kernel_rfl) Eb (Eq.trans (by kernel_rfl) h0) Eb Eb)) (eE)) ?_
 refine .ghs (fr 85 [(8,(pt 2 0)),(9,Sl.v 1 s56),(10,zI x58),(11,zI x0),(12,zI x1)]) (hT 3 [(.cells Ay true false []),(oC [(zI (Int.ofNat (Sl.n s35))),Sl.v 1 s35,(Sl.v 1 (Sl.mk n36 0 (Aq (n36*1) (Am 0 q38))))])]) (.k0 [false,false] [.tmp 8 false] [8,9,10,11,12]) ?_
 refine .then ?_
 replace hm:=Ab hm;obtain⟨v4,h1,hm⟩:=hm
 replace hm:=Ch hm;obtain⟨l2,rfl,hm⟩:=hm
 replace hm:=Ad hm;obtain⟨v5,l945_0,rfl,hm⟩:=hm
 replace hm:=Ad hm;obtain⟨v6,l945_1,rfl,hm⟩:=hm
 replace hm:=AC hm;obtain⟨rfl,hm⟩:=hm
 replace hm:=Ai hm;obtain⟨x2,rfl,hm⟩:=hm
 replace hm:=Ai hm;obtain⟨x3,rfl,hm⟩:=hm
 refine .reg (eC 1 ((oo (pu 13 [(.agg ⟨[(zI (Int.ofNat (Sl.n s35))),Sl.v 1 s35,(Sl.v 1 (Sl.mk n36 0 (Aq (n36*1) (Am 0 q38))))]⟩)]) none fun v=>some (v,(hT 3 [(.cells Ay true false []),(oC [(zI (Int.ofNat (Sl.n s35))),Sl.v 1 s35,(Sl.v 1 (Sl.mk n36 0 (Aq (n36*1) (Am 0 q38))))])])))) (AB h1) (eE)) ?_
 refine .ghs (fr 85 [(9,Sl.v 1 s56),(10,zI x58),(11,zI x0),(12,zI x1),(13,zI x2),(14,zI x3)]) (hT 2 [(.cells Ay true false [])]) (.k0 [false,false] [] [9,10,11,12,13,14]) ?_
 refine .join (v:=v) (fun y:Bool=>((fr 85 [(4,zB y)]),(hT 2 [(.cells Ay true false [])]))) (fun y=>MF pu n y) ?_ ?_
 ·rintro b0 hm
  exact AdI pu n b0 hm
 ·replace hm:=Ag hm;rcases hm with⟨h2,hm⟩ | ⟨h2,hm⟩
  ·replace hm:=Ag hm;rcases hm with⟨h3,hm⟩ | ⟨h3,hm⟩
   ·replace hm:=Ag hm;rcases hm with⟨h4,hm⟩ | ⟨h4,hm⟩
    ·replace hm:=Ag hm;rcases hm with⟨h5,hm⟩ | ⟨h5,hm⟩
     ·replace hm:=Ag hm;rcases hm with⟨h6,hm⟩ | ⟨h6,hm⟩
      ·replace hm:=Ag hm;rcases hm with⟨h7,hm⟩ | ⟨h7,hm⟩
       ·replace hm:=zT hm;obtain⟨b1,h8,hm⟩:=hm
        refine .reg (eN 9 (Fr.puts (fr 85 [(9,Sl.v 1 s56),(10,zI x58),(11,zI x0),(12,zI x1),(13,zI x2),(14,zI x3)]) [(51,zI x58),(52,zB true),(53,zB true),(54,zI x1),(55,zB true),(56,zB true),(57,zB true),(58,zI x3),(59,zB true)]) (hT 2 [(.cells Ay true false [])]) (eC 1 (some ((zB (Bd x58 (0:Int))),(hT 2 [(.cells Ay true false [])]))) (show _=some ((zB true),_) from (by rw[show (Bd x58 (0:Int))=true from h2])) (eC 2 (some ((zB (Bd x1 (0:Int))),(hT 2 [(.cells Ay true false [])]))) (show _=some ((zB true),_) from (by rw[show (Bd x1 (0:Int))=true from h3])) (eC 3 (some ((zB (Bd x3 (0:Int))),(hT 2 [(.cells Ay true false [])]))) (show _=some ((zB true),_) from (by rw[show (Bd x3 (0:Int))=true from h4])) (by kernel_rfl)))) (eC 5 (some ((zB (nt (AY x0 (Int.ofNat (Sl.n s56))))),(hT 2 [(.cells Ay true false [])]))) (show _=some ((zB true),_) from (by rw[show (nt (AY x0 (Int.ofNat (Sl.n s56))))=true from h5])) (eC 6 (some ((zB (nt (AY (Aj .i64 (Int.mul (2:Int) x2)) (Int.ofNat (Sl.n s56))))),(hT 2 [(.cells Ay true false [])]))) (show _=some ((zB true),_) from (by rw[show (nt (AY (Aj .i64 (Int.mul (2:Int) x2)) (Int.ofNat (Sl.n s56))))=true from h6])) (eC 7 (some ((zB (bq true (bq (Bd (Int.ofNat (Sl.n s56)) (0:Int)) (Bd x2 (0:Int))))),(hT 2 [(.cells Ay true false [])]))) (show _=some ((zB true),_) from (by rw[show (bq true (bq (Bd (Int.ofNat (Sl.n s56)) (0:Int)) (Bd x2 (0:Int))))=true from h7])) (eC 2 ((oo (pu 14 []) none fun v=>some (v,(hT 2 [(.cells Ay true false [])])))) (AB h8) (eE)))))) ?_
        exact⟨b1,hm,(.k0 [false,false] [] [4])⟩
       ·refine .reg (eN 9 (Fr.puts (fr 85 [(9,Sl.v 1 s56),(10,zI x58),(11,zI x0),(12,zI x1),(13,zI x2),(14,zI x3)]) [(51,zI x58),(52,zB true),(53,zB true),(54,zI x1),(55,zB true),(56,zB true),(57,zB true),(58,zI x3),(59,zB true)]) (hT 2 [(.cells Ay true false [])]) (eC 1 (some ((zB (Bd x58 (0:Int))),(hT 2 [(.cells Ay true false [])]))) (show _=some ((zB true),_) from (by rw[show (Bd x58 (0:Int))=true from h2])) (eC 2 (some ((zB (Bd x1 (0:Int))),(hT 2 [(.cells Ay true false [])]))) (show _=some ((zB true),_) from (by rw[show (Bd x1 (0:Int))=true from h3])) (eC 3 (some ((zB (Bd x3 (0:Int))),(hT 2 [(.cells Ay true false [])]))) (show _=some ((zB true),_) from (by rw[show (Bd x3 (0:Int))=true from h4])) (by kernel_rfl)))) (eC 5 (some ((zB (nt (AY x0 (Int.ofNat (Sl.n s56))))),(hT 2 [(.cells Ay true false [])]))) (show _=some ((zB true),_) from (by rw[show (nt (AY x0 (Int.ofNat (Sl.n s56))))=true from h5])) (eC 6 (some ((zB (nt (AY (Aj .i64 (Int.mul (2:Int) x2)) (Int.ofNat (Sl.n s56))))),(hT 2 [(.cells Ay true false [])]))) (show _=some ((zB true),_) from (by rw[show (nt (AY (Aj .i64 (Int.mul (2:Int) x2)) (Int.ofNat (Sl.n s56))))=true from h6])) (eC 7 (some ((zB (bq true (bq (Bd (Int.ofNat (Sl.n s56)) (0:Int)) (Bd x2 (0:Int))))),(hT 2 [(.cells Ay true false [])]))) (show _=some ((zB false),_) from (by rw[show (bq true (bq (Bd (Int.ofNat (Sl.n s56)) (0:Int)) (Bd x2 (0:Int))))=false from h7])) (eE))))) ?_
        exact⟨false,hm,(.k0 [false,false] [] [4])⟩
      ·refine .reg (eC 1 (some ((zB (Bd x58 (0:Int))),(hT 2 [(.cells Ay true false [])]))) (show _=some ((zB true),_) from (by rw[show (Bd x58 (0:Int))=true from h2])) (eC 2 (some ((zB (Bd x1 (0:Int))),(hT 2 [(.cells Ay true false [])]))) (show _=some ((zB true),_) from (by rw[show (Bd x1 (0:Int))=true from h3])) (eC 3 (some ((zB (Bd x3 (0:Int))),(hT 2 [(.cells Ay true false [])]))) (show _=some ((zB true),_) from (by rw[show (Bd x3 (0:Int))=true from h4])) (eC 5 (some ((zB (nt (AY x0 (Int.ofNat (Sl.n s56))))),(hT 2 [(.cells Ay true false [])]))) (show _=some ((zB true),_) from (by rw[show (nt (AY x0 (Int.ofNat (Sl.n s56))))=true from h5])) (eC 6 (some ((zB (nt (AY (Aj .i64 (Int.mul (2:Int) x2)) (Int.ofNat (Sl.n s56))))),(hT 2 [(.cells Ay true false [])]))) (show _=some ((zB false),_) from (by rw[show (nt (AY (Aj .i64 (Int.mul (2:Int) x2)) (Int.ofNat (Sl.n s56))))=false from h6])) (eE)))))) ?_
       exact⟨false,hm,(.k0 [false,false] [] [4])⟩
     ·refine .reg (eC 1 (some ((zB (Bd x58 (0:Int))),(hT 2 [(.cells Ay true false [])]))) (show _=some ((zB true),_) from (by rw[show (Bd x58 (0:Int))=true from h2])) (eC 2 (some ((zB (Bd x1 (0:Int))),(hT 2 [(.cells Ay true false [])]))) (show _=some ((zB true),_) from (by rw[show (Bd x1 (0:Int))=true from h3])) (eC 3 (some ((zB (Bd x3 (0:Int))),(hT 2 [(.cells Ay true false [])]))) (show _=some ((zB true),_) from (by rw[show (Bd x3 (0:Int))=true from h4])) (eC 5 (some ((zB (nt (AY x0 (Int.ofNat (Sl.n s56))))),(hT 2 [(.cells Ay true false [])]))) (show _=some ((zB false),_) from (by rw[show (nt (AY x0 (Int.ofNat (Sl.n s56))))=false from h5])) (eE))))) ?_
      exact⟨false,hm,(.k0 [false,false] [] [4])⟩
    ·refine .reg (eC 1 (some ((zB (Bd x58 (0:Int))),(hT 2 [(.cells Ay true false [])]))) (show _=some ((zB true),_) from (by rw[show (Bd x58 (0:Int))=true from h2])) (eC 2 (some ((zB (Bd x1 (0:Int))),(hT 2 [(.cells Ay true false [])]))) (show _=some ((zB true),_) from (by rw[show (Bd x1 (0:Int))=true from h3])) (eC 3 (some ((zB (Bd x3 (0:Int))),(hT 2 [(.cells Ay true false [])]))) (show _=some ((zB false),_) from (by rw[show (Bd x3 (0:Int))=false from h4])) (eE)))) ?_
     exact⟨false,hm,(.k0 [false,false] [] [4])⟩
   ·refine .reg (eC 1 (some ((zB (Bd x58 (0:Int))),(hT 2 [(.cells Ay true false [])]))) (show _=some ((zB true),_) from (by rw[show (Bd x58 (0:Int))=true from h2])) (eC 2 (some ((zB (Bd x1 (0:Int))),(hT 2 [(.cells Ay true false [])]))) (show _=some ((zB false),_) from (by rw[show (Bd x1 (0:Int))=false from h3])) (eE))) ?_
    exact⟨false,hm,(.k0 [false,false] [] [4])⟩
  ·refine .reg (eC 1 (some ((zB (Bd x58 (0:Int))),(hT 2 [(.cells Ay true false [])]))) (show _=some ((zB false),_) from (by rw[show (Bd x58 (0:Int))=false from h2])) (eE)) ?_
   exact⟨false,hm,(.k0 [false,false] [] [4])⟩
theorem r3 {call:A8} (pu:Af) (n:Nat) (hcall:call=Bb tabs isP pu (inl pu)) {args:LV} {v:Value} (hm:m3 pu n args=some v) (_:∀ x∈args,closed2 x=true):args.length≤85∧BN tt call 2 Qw (Fr.made 85 args) (Ao tabs) (Fin tt 2 [.tmp 4] v):=by
 subst hcall
 unfold m3 at hm
 replace hm:=Ad hm;obtain⟨a0,args_0,rfl,hm⟩:=hm
 replace hm:=Ad hm;obtain⟨a1,args_1,rfl,hm⟩:=hm
 replace hm:=AC hm;obtain⟨rfl,hm⟩:=hm
 replace hm:=Ai hm;obtain⟨x1,rfl,hm⟩:=hm
 replace hm:=Al hm;obtain⟨s3,rfl,hm⟩:=hm
 unfold m3_ at hm
 refine⟨by simp,?_⟩
 refine .same (F':=(fr 85 [(0,(zY x1)),(1,Sl.v 1 s3)])) (H':=(hT 2 [(.cells Ay true false [])])) (by kernel_rfl) (by kernel_rfl) ?_
 refine .then (.rK (.ghs (fr 85 [(0,(zY x1)),(1,Sl.v 1 s3)]) (hT 2 [(.cells Ay true false [])]) (.k0 [false,false] [] [0,1]) ?_))
 refine .then ?_
 replace hm:=oQS hm;obtain⟨s11,h10,hm⟩:=hm
 refine .reg (eC 5 ((oo (pu 10 [(zI (Aj .i64 (Int.add (1:Int) (Int.tmod (Aj .i64 x1) (5:Int))))),Sl.v 1 s3]) none fun v=>some (v,(hT 2 [(.cells Ay true false [])])))) (AB h10) (eE)) ?_
 refine .ghs (fr 85 [(5,Sl.v 1 s11)]) (hT 2 [(.cells Ay true false [])]) (.k0 [false,false] [] [5]) ?_
 refine .then (.rK (.ghs (fr 85 [(5,Sl.v 1 s11),(6,(.slice none 0 0))]) (hT 2 [(.cells Ay true false [])]) (.k0 [false,false] [] [5,6]) ?_))
 refine .join (v:=v) (fun y:Sl×Nat×Nat×LV=>((fr 85 [(5,(Sl.v 1 y.1)),(6,(sc 2 0 1 y.2.1 y.2.2.1))]),(hT 3 [(.cells Ay true false []),(oC y.2.2.2)]))) (fun y=>bI pu n y.1 y.2.1 y.2.2.1 y.2.2.2) ?_ ?_
 ·rintro⟨s35,n36,c37,q38⟩ hm
  exact AdJ pu n s35 n36 c37 q38 hm
 ·refine .then (.rK (.ghs (fr 85 [(5,Sl.v 1 s11),(6,(.slice none 0 0)),(22,(zI (Int.ofNat (Sl.n s11)))),(23,(zI (0:Int)))]) (hT 2 [(.cells Ay true false [])]) (.k0 [false,false] [] [5,6,22,23]) ?_))
  refine .block (.loopM (v:=v) (fun y:Sl×Nat×Nat×Int×Int×LV=>((fr 85 [(5,(Sl.v 1 y.1)),(6,(sc 2 0 1 y.2.1 y.2.2.1)),(22,(zI y.2.2.2.1)),(23,(zI y.2.2.2.2.1))]),(hT 3 [(.cells Ay true false []),(oC y.2.2.2.2.2)]))) (fun w y=>Ul pu n w y.1 y.2.1 y.2.2.1 y.2.2.2.1 y.2.2.2.2.1 y.2.2.2.2.2) n ⟨(s11,0,0,(Int.ofNat (Sl.n s11)),(0:Int),([]:LV)),hm,(.thaw 6 1 (by kernel_rfl) (.k0 [false,false] [.tmp 6 false] [5,6,22,23]))⟩ (fun _=>rfl) ?_)
  rintro w0 ⟨s0,n0,c0,z0,z1,q0⟩ hm
  replace hm:uG pu n (Ul pu n w0) s0 n0 c0 z0 z1 q0=some v:=hm
  unfold uG at hm
  refine .then (.rK ?_)
  replace hm:=Ae hm;obtain⟨h0,hm⟩:=hm
  refine .ghs (fr 85 [(5,Sl.v 1 s0),(6,sc 2 0 1 n0 c0),(22,zI z0),(23,zI z1),(24,(zB (AY z1 z0)))]) (hT 3 [(.cells Ay true false []),oC q0]) (.k [2] [false,false] [.tmp 6 false] [5,6,22,23,24] ⟨AO h0,trivial⟩) ?_
  refine .then ?_
  replace hm:=Ag hm;rcases hm with⟨h1,hm⟩ | ⟨h1,hm⟩
  ·refine Dr (AY z1 z0) h1 ?_
   refine .skip (.ghs (fr 85 [(5,Sl.v 1 s0),(6,sc 2 0 1 n0 c0),(22,zI z0),(23,zI z1)]) (hT 3 [(.cells Ay true false []),oC q0]) (.k [2] [false,false] [.tmp 6 false] [5,6,22,23] ⟨AO h0,trivial⟩) ?_)
   refine .then (.block (.then (.rK (.ghs (fr 85 [(5,Sl.v 1 s0),(6,sc 2 0 1 n0 c0),(7,zI z1),(22,zI z0),(23,zI z1)]) (hT 3 [(.cells Ay true false []),oC q0]) (.k [2] [false,false] [.tmp 6 false] [5,6,7,22,23] ⟨AO h0,trivial⟩) ?_))))
   replace hm:=Ae hm;obtain⟨h2,hm⟩:=hm
   refine .reg (eC 3 (Oc 1 8 n0 c0 1 2 q0 [zI z1] [] (hT 4 [(.cells Ay true false []),oC q0,(oC [zI z1])])) (I1 h2) (eE)) ?_
   replace hm:=Ae hm;obtain⟨h3,hm⟩:=hm
   refine .ghs (fr 85 [(5,Sl.v 1 s0),(6,(sc 2 0 1 (n0+1) (d2 (n0+1)))),(22,zI z0),(23,zI z1)]) (hT 3 [(.cells Ay true false []),(oC (Br (Am 0 q0) [zI z1]))]) (.k [4] [false,false] [.tmp 6 false] [5,6,22,23] ⟨AO h3,trivial⟩) ?_
   refine .rK ?_
   exact⟨(s0,(n0+1),(d2 (n0+1)),z0,(Aj .i64 (Int.add z1 (1:Int))),(Br (Am 0 q0) [zI z1])),hm,(.k [2] [false,false] [.tmp 6 false] [5,6,22,23] ⟨AO h3,trivial⟩)⟩
  ·refine Dy (AY z1 z0) h1 ?_
   refine .exit ?_
   exact⟨(s0,n0,c0,q0),hm,(.k [2] [false,false] [.tmp 6 false] [5,6] ⟨AO h0,trivial⟩)⟩
def QM (pu:Af) (n n0 c0:Nat) (q0:LV):OV:=
 (bb (Au Ah q0) (bb (an (Nat.ble (0+n0*1) (len q0)) (Au Ah (Aq (n0*1) (Am 0 q0)))) (some (Sl.v 1 (Sl.mk n0 0 (Aq (n0*1) (Am 0 q0))))) none) none)
def BI (pu:Af) (n:Nat) (ih0:Sl→Nat→Nat→Nat→Nat→Int→LV→LV→OV) (s0:Sl) (n0 c0 n1 c1:Nat) (z0 z1:Int) (q0:LV) (q1:LV):OV:=
 (oo (EA z1) none fun k1=>(bb (an (Nat.blt k1 n0) true) (oo (AL q0 (0+k1*1)) none fun v0=>(oo (Bi .i64 v0) none fun x0=>(bb (GV 1 8 n1 c1 1 q1) (bb (Au Ah q0) (bb (Au Ah (Br (Am 0 q1) [.int .i64 x0])) (bb (Nat.ble k1 (c0 / 2)) (oo (EA (Aj .i64 (Int.add (Int.ofNat k1) (1:Int)))) none fun k2=>(bb (Nat.ble k2 n0) (bb (Nat.ble (0+k1*1) (len q0)) (bb (Nat.beq (Sl.n (Sl.mk k1 0 (Aq (k1*1) (Am 0 q0)))) 0) (bb (Nat.ble ((0+k2*1)+(n0 - k2)*1) (len q0)) (bb (Nat.beq (Sl.n (Sl.mk (n0 - k2) 0 (Aq ((n0 - k2)*1) (Am (0+k2*1) q0)))) 0) (ih0 s0 0 1 (n1+1) (2*(n1+1)+bb false 1 0) (Aj .i64 (Int.add z0 (1:Int))) ([]:LV) (Br (Am 0 q1) [.int .i64 x0])) (bb (EQ (0+(Sl.n (Sl.mk (n0 - k2) 0 (Aq ((n0 - k2)*1) (Am (0+k2*1) q0))))) 8) (bb (Au Ah (Aq ((Sl.n (Sl.mk (n0 - k2) 0 (Aq ((n0 - k2)*1) (Am (0+k2*1) q0))))*1) (Sl.cs (Sl.mk (n0 - k2) 0 (Aq ((n0 - k2)*1) (Am (0+k2*1) q0)))))) (ih0 s0 (0+(Sl.n (Sl.mk (n0 - k2) 0 (Aq ((n0 - k2)*1) (Am (0+k2*1) q0))))) (2*(0+(Sl.n (Sl.mk (n0 - k2) 0 (Aq ((n0 - k2)*1) (Am (0+k2*1) q0)))))+bb false 1 0) (n1+1) (2*(n1+1)+bb false 1 0) (Aj .i64 (Int.add z0 (1:Int))) (Aq ((Sl.n (Sl.mk (n0 - k2) 0 (Aq ((n0 - k2)*1) (Am (0+k2*1) q0))))*1) (Sl.cs (Sl.mk (n0 - k2) 0 (Aq ((n0 - k2)*1) (Am (0+k2*1) q0))))) (Br (Am 0 q1) [.int .i64 x0])) none) none)) none) (bb (EQ (0+(Sl.n (Sl.mk k1 0 (Aq (k1*1) (Am 0 q0))))) 8) (bb (Nat.ble ((0+k2*1)+(n0 - k2)*1) (len q0)) (bb (Nat.beq (Sl.n (Sl.mk (n0 - k2) 0 (Aq ((n0 - k2)*1) (Am (0+k2*1) q0)))) 0) (bb (Au Ah (Aq ((Sl.n (Sl.mk k1 0 (Aq (k1*1) (Am 0 q0))))*1) (Sl.cs (Sl.mk k1 0 (Aq (k1*1) (Am 0 q0)))))) (ih0 s0 (0+(Sl.n (Sl.mk k1 0 (Aq (k1*1) (Am 0 q0))))) (2*(0+(Sl.n (Sl.mk k1 0 (Aq (k1*1) (Am 0 q0)))))+bb false 1 0) (n1+1) (2*(n1+1)+bb false 1 0) (Aj .i64 (Int.add z0 (1:Int))) (Aq ((Sl.n (Sl.mk k1 0 (Aq (k1*1) (Am 0 q0))))*1) (Sl.cs (Sl.mk k1 0 (Aq (k1*1) (Am 0 q0))))) (Br (Am 0 q1) [.int .i64 x0])) none) (bb (an (Au D6 (Aq ((Sl.n (Sl.mk (n0 - k2) 0 (Aq ((n0 - k2)*1) (Am (0+k2*1) q0))))*1) (Sl.cs (Sl.mk (n0 - k2) 0 (Aq ((n0 - k2)*1) (Am (0+k2*1) q0)))))) (GV 1 8 (0+(Sl.n (Sl.mk k1 0 (Aq (k1*1) (Am 0 q0))))) (2*(0+(Sl.n (Sl.mk k1 0 (Aq (k1*1) (Am 0 q0)))))+bb false 1 0) (Sl.n (Sl.mk (n0 - k2) 0 (Aq ((n0 - k2)*1) (Am (0+k2*1) q0)))) (Aq ((Sl.n (Sl.mk k1 0 (Aq (k1*1) (Am 0 q0))))*1) (Sl.cs (Sl.mk k1 0 (Aq (k1*1) (Am 0 q0))))))) (bb (Au Ah (Br (Am 0 (Aq ((Sl.n (Sl.mk k1 0 (Aq (k1*1) (Am 0 q0))))*1) (Sl.cs (Sl.mk k1 0 (Aq (k1*1) (Am 0 q0)))))) (Aq ((Sl.n (Sl.mk (n0 - k2) 0 (Aq ((n0 - k2)*1) (Am (0+k2*1) q0))))*1) (Sl.cs (Sl.mk (n0 - k2) 0 (Aq ((n0 - k2)*1) (Am (0+k2*1) q0))))))) (ih0 s0 ((0+(Sl.n (Sl.mk k1 0 (Aq (k1*1) (Am 0 q0)))))+(Sl.n (Sl.mk (n0 - k2) 0 (Aq ((n0 - k2)*1) (Am (0+k2*1) q0))))) (2*((0+(Sl.n (Sl.mk k1 0 (Aq (k1*1) (Am 0 q0)))))+(Sl.n (Sl.mk (n0 - k2) 0 (Aq ((n0 - k2)*1) (Am (0+k2*1) q0)))))+bb false 1 0) (n1+1) (2*(n1+1)+bb false 1 0) (Aj .i64 (Int.add z0 (1:Int))) (Br (Am 0 (Aq ((Sl.n (Sl.mk k1 0 (Aq (k1*1) (Am 0 q0))))*1) (Sl.cs (Sl.mk k1 0 (Aq (k1*1) (Am 0 q0)))))) (Aq ((Sl.n (Sl.mk (n0 - k2) 0 (Aq ((n0 - k2)*1) (Am (0+k2*1) q0))))*1) (Sl.cs (Sl.mk (n0 - k2) 0 (Aq ((n0 - k2)*1) (Am (0+k2*1) q0)))))) (Br (Am 0 q1) [.int .i64 x0])) none) none)) none) none)) none) none)) none) none) none) none))) none))
def Eo (pu:Af) (n:Nat) (ih0:Sl→Nat→Nat→Nat→Nat→Int→LV→LV→OV) (s0:Sl) (n0 c0 n1 c1:Nat) (z0:Int) (q0:LV) (q1:LV):OV:=
 (bb (Au Ah q0) (bb (Au Ah q1) (bb (AY (0:Int) (Int.ofNat n0)) (bb (AY z0 (Int.ofNat (Sl.n s0))) (oo (EA z0) none fun k1=>(bb (an (Nat.blt k1 (Sl.n s0)) true) (oo (AL (Sl.cs s0) (k1*1)) none fun v0=>(oo (Bi .u8 v0) none fun x0=>(bb (nt (Bd (Int.ofNat n0) (0:Int))) (BI pu n ih0 s0 n0 c0 n1 c1 (Int.ofNat k1) (Int.tmod (Aj .i64 x0) (Int.ofNat n0)) q0 q1) none))) none)) (BI pu n ih0 s0 n0 c0 n1 c1 z0 (0:Int) q0 q1)) (QM pu n n1 c1 q1)) none) none)
def A7 (pu:Af) (n w:Nat):Sl→Nat→Nat→Nat→Nat→Int→LV→LV→OV:=
 Nat.rec (motive:=fun _=>Sl→Nat→Nat→Nat→Nat→Int→LV→LV→OV) (fun _ _ _ _ _ _ _ _=>none) (fun _ ih0=>Eo pu n ih0) w
def QN (pu:Af) (n:Nat) (s0:Sl) (n0 c0 n1 c1:Nat) (q0:LV) (q1:LV):OV:=
 (bb (Au Ah q0) (bb (Au Ah q1) (A7 pu n n s0 n0 c0 n1 c1 (0:Int) q0 q1) none) none)
def Um (pu:Af) (n:Nat) (ih0:Sl→Nat→Nat→Nat→Nat→Int→Int→LV→LV→OV) (s0:Sl) (n0 c0 n1 c1:Nat) (z0 z1:Int) (q0:LV) (q1:LV):OV:=
 (bb (Au Ah q0) (bb (Au Ah q1) (bb (AY z1 z0) (bb (GV 1 8 n0 c0 1 q0) (bb (Au Ah (Br (Am 0 q0) [.int .i64 z1])) (ih0 s0 (n0+1) (2*(n0+1)+bb false 1 0) n1 c1 z0 (Aj .i64 (Int.add z1 (1:Int))) (Br (Am 0 q0) [.int .i64 z1]) q1) none) none) (QN pu n s0 n0 c0 n1 c1 q0 q1)) none) none)
def Un (pu:Af) (n w:Nat):Sl→Nat→Nat→Nat→Nat→Int→Int→LV→LV→OV:=
 Nat.rec (motive:=fun _=>Sl→Nat→Nat→Nat→Nat→Int→Int→LV→LV→OV) (fun _ _ _ _ _ _ _ _ _=>none) (fun _ ih0=>Um pu n ih0) w
def Pb (pu:Af) (n:Nat) (x0:Int) (s0:Sl):OV:=
 (Un pu n n s0 0 0 0 0 x0 (0:Int) ([]:LV) ([]:LV))
def m10 (pu:Af) (n:Nat) (args:LV):OV:=
 (ll args none fun a0 args=>(ll args none fun a1 args=>(ll args (oo (Bi .i64 a0) none fun x0=>(oo (Bj 1 a1) none fun s0=>(Pb pu n x0 s0))) fun _ _=>none)))
theorem Abs (pu:Af) (n n0 c0:Nat) (q0:LV) {v:Value} (hm:QM pu n n0 c0 q0=some v):BN tt (Bb tabs isP pu (inl pu)) 2 Sz (fr 54 [(6,sc 2 0 1 n0 c0)]) (hT 3 [(.cells Ay true false []),oC q0]) (Fin tt 2 [.tmp 4] v):=by
 unfold QM at hm
 refine .then (.rK ?_)
 replace hm:=Ae hm;obtain⟨h0,hm⟩:=hm
 refine .ghs (fr 54 [(4,sc 2 0 1 n0 c0)]) (hT 3 [(.cells Ay true false []),oC q0]) (.k [2] [false,false] [.tmp 4 false] [4] ⟨AO h0,trivial⟩) ?_
 replace hm:=Ae hm;obtain⟨h1,hm⟩:=hm
 refine .ghs (Fr.puts (fr 54 [(4,sc 2 0 1 n0 c0)]) [(4,(Sl.v 1 (Sl.mk n0 0 (Aq (n0*1) (Am 0 q0)))))]) (hT 3 [(.cells Ay true false []),.dead]) (.freezeC 2 4 1 (an (Nat.ble (0+n0*1) (len q0)) (Au Ah (Aq (n0*1) (Am 0 q0)))) (F1:=(Fr.puts (fr 54 [(4,sc 2 0 1 n0 c0)]) [(4,(Sl.v 1 (Sl.mk n0 0 (Aq (n0*1) (Am 0 q0)))))])) (H1:=(hT 3 [(.cells Ay true false []),.dead])) (by kernel_rfl) (by kernel_rfl) h1 (E9.id _ _)) ?_
 refine .ret ?_
 exact BB (Sl.v 1 (Sl.mk n0 0 (Aq (n0*1) (Am 0 q0)))) hm
theorem Abt (pu:Af) (n:Nat) (s0:Sl) (n0 c0 n1 c1:Nat) (q0:LV) (q1:LV) {v:Value} (hm:QN pu n s0 n0 c0 n1 c1 q0 q1=some v):BN tt (Bb tabs isP pu (inl pu)) 2 SA (fr 54 [(1,Sl.v 1 s0),(5,sc 2 0 1 n0 c0),(6,sc 3 0 1 n1 c1)]) (hT 4 [(.cells Ay true false []),oC q0,oC q1]) (Fin tt 2 [.tmp 4] v):=by
 unfold QN at hm
 refine .join (v:=v) (fun y:Nat×Nat×LV=>((fr 54 [(6,(sc 2 0 1 y.1 y.2.1))]),(hT 3 [(.cells Ay true false []),(oC y.2.2)]))) (fun y=>QM pu n y.1 y.2.1 y.2.2) ?_ ?_
 ·rintro⟨n2,c4,q2⟩ hm
  exact Abs pu n n2 c4 q2 hm
 ·refine .then (.rK ?_)
  replace hm:=Ae hm;obtain⟨h0,hm⟩:=hm
  replace hm:=Ae hm;obtain⟨h1,hm⟩:=hm
  refine .ghs (fr 54 [(1,Sl.v 1 s0),(5,sc 2 0 1 n0 c0),(6,sc 3 0 1 n1 c1),(8,(zI (0:Int)))]) (hT 4 [(.cells Ay true false []),oC q0,oC q1]) (.k [2,3] [false,false] [.tmp 5 false,.tmp 6 false] [1,5,6,8] ⟨AO h0,AO h1,trivial⟩) ?_
  refine .block (.loopM (v:=v) (fun y:Sl×Nat×Nat×Nat×Nat×Int×LV×LV=>((fr 54 [(1,(Sl.v 1 y.1)),(5,(sc 2 0 1 y.2.1 y.2.2.1)),(6,(sc 3 0 1 y.2.2.2.1 y.2.2.2.2.1)),(8,(zI y.2.2.2.2.2.1))]),(hT 4 [(.cells Ay true false []),(oC y.2.2.2.2.2.2.1),(oC y.2.2.2.2.2.2.2)]))) (fun w y=>A7 pu n w y.1 y.2.1 y.2.2.1 y.2.2.2.1 y.2.2.2.2.1 y.2.2.2.2.2.1 y.2.2.2.2.2.2.1 y.2.2.2.2.2.2.2) n ⟨(s0,n0,c0,n1,c1,(0:Int),q0,q1),hm,(.k [2,3] [false,false] [.tmp 5 false,.tmp 6 false] [1,5,6,8] ⟨AO h0,AO h1,trivial⟩)⟩ (fun _=>rfl) ?_)
  rintro w0 ⟨s1,n3,c5,n4,c6,z0,q3,q4⟩ hm
  replace hm:Eo pu n (A7 pu n w0) s1 n3 c5 n4 c6 z0 q3 q4=some v:=hm
  unfold Eo at hm
  refine .then (.then (.rK ?_))
  replace hm:=Ae hm;obtain⟨h2,hm⟩:=hm
  replace hm:=Ae hm;obtain⟨h3,hm⟩:=hm
  refine .ghs (fr 54 [(1,Sl.v 1 s1),(5,sc 2 0 1 n3 c5),(6,sc 3 0 1 n4 c6),(8,zI z0),(21,(zB (AY (0:Int) (Int.ofNat n3))))]) (hT 4 [(.cells Ay true false []),oC q3,oC q4]) (.k [2,3] [false,false] [.tmp 5 false,.tmp 6 false] [1,5,6,8,21] ⟨AO h2,AO h3,trivial⟩) ?_
  replace hm:=Ag hm;rcases hm with⟨h4,hm⟩ | ⟨h4,hm⟩
  ·refine Dr (AY (0:Int) (Int.ofNat n3)) h4 ?_
   refine .skip (.ghs (fr 54 [(1,Sl.v 1 s1),(5,sc 2 0 1 n3 c5),(6,sc 3 0 1 n4 c6),(8,zI z0)]) (hT 4 [(.cells Ay true false []),oC q3,oC q4]) (.k [2,3] [false,false] [.tmp 5 false,.tmp 6 false] [1,5,6,8] ⟨AO h2,AO h3,trivial⟩) ?_)
   refine .then (.block (.then (.rK (.ghs (fr 54 [(1,Sl.v 1 s1),(5,sc 2 0 1 n3 c5),(6,sc 3 0 1 n4 c6),(8,zI z0),(9,(zI (0:Int)))]) (hT 4 [(.cells Ay true false []),oC q3,oC q4]) (.k [2,3] [false,false] [.tmp 5 false,.tmp 6 false] [1,5,6,8,9] ⟨AO h2,AO h3,trivial⟩) ?_))))
   refine .join (v:=v) (fun y:Sl×Nat×Nat×Nat×Nat×Int×Int×LV×LV=>((fr 54 [(1,(Sl.v 1 y.1)),(5,(sc 2 0 1 y.2.1 y.2.2.1)),(6,(sc 3 0 1 y.2.2.2.1 y.2.2.2.2.1)),(8,(zI y.2.2.2.2.2.1)),(9,(zI y.2.2.2.2.2.2.1))]),(hT 4 [(.cells Ay true false []),(oC y.2.2.2.2.2.2.2.1),(oC y.2.2.2.2.2.2.2.2)]))) (fun y=>BI pu n (A7 pu n w0) y.1 y.2.1 y.2.2.1 y.2.2.2.1 y.2.2.2.2.1 y.2.2.2.2.2.1 y.2.2.2.2.2.2.1 y.2.2.2.2.2.2.2.1 y.2.2.2.2.2.2.2.2) ?_ ?_
   ·rintro⟨s2,n5,c7,n6,c8,z1,z2,q5,q6⟩ hm
    unfold BI at hm
    refine .then ?_
    replace hm:=Ab hm;obtain⟨k1,h5,hm⟩:=hm
    obtain rfl:=AR h5
    replace hm:=Ae hm;obtain⟨h6,hm⟩:=hm
    replace hm:=FK hm;obtain⟨x0,h7,hm⟩:=hm
    replace hm:=Ae hm;obtain⟨h8,hm⟩:=hm
    refine .reg (eC 3 (keep (hT 4 [(.cells Ay true false []),oC q5,oC q6]) (bb (an (Nat.blt k1 n5) true) (some (.pointer (some ⟨2,(0+k1*1),none⟩))) none)) (AX h6) (eD (keep (hT 4 [(.cells Ay true false []),oC q5,oC q6]) (AL q5 (0+k1*1))) (AZ h7) (eC 1 (Oc 1 8 n6 c8 1 3 q6 [zI x0] [] (hT 5 [(.cells Ay true false []),oC q5,oC q6,(oC [zI x0])])) (I1 h8) (eE)))) ?_
    replace hm:=Ae hm;obtain⟨h9,hm⟩:=hm
    replace hm:=Ae hm;obtain⟨h10,hm⟩:=hm
    refine .ghs (fr 54 [(1,Sl.v 1 s2),(5,sc 2 0 1 n5 c7),(6,(sc 3 0 1 (n6+1) (d2 (n6+1)))),(8,zI z1),(9,(zI (Int.ofNat k1)))]) (hT 4 [(.cells Ay true false []),oC q5,(oC (Br (Am 0 q6) [zI x0]))]) (.k [2,5] [false,false] [.tmp 5 false,.tmp 6 false] [1,5,6,8,9] ⟨AO h9,AO h10,trivial⟩) ?_
    replace hm:=Ae hm;obtain⟨h11,hm⟩:=hm
    replace hm:=Ab hm;obtain⟨k2,h12,hm⟩:=hm
    replace hm:=Ae hm;obtain⟨h13,hm⟩:=hm
    replace hm:=Ae hm;obtain⟨h14,hm⟩:=hm
    replace hm:=Ag hm;rcases hm with⟨h15,hm⟩ | ⟨h15,hm⟩
    ·replace hm:=Ae hm;obtain⟨h16,hm⟩:=hm
     replace hm:=Ag hm;rcases hm with⟨h17,hm⟩ | ⟨h17,hm⟩
     ·refine .reg (eC 3 (keep (hT 5 [(.cells Ay true false []),oC q5,(oC (Br (Am 0 q6) [zI x0])),(oC [])]) (oo (bb (Nat.ble k1 (c7 / 2)) (some k1) none) none fun h=>some (sliceAt 2 (0+0*1) 1 (h - 0) (c7 / 2 - 0) (Dp false (Nat.beq (c7 % 2) 1))))) (show _=some ((sc 2 0 1 k1 (2*(c7 / 2)+bb (Dp false (Nat.beq (c7 % 2) 1)) 1 0)),(hT 5 [(.cells Ay true false []),oC q5,(oC (Br (Am 0 q6) [zI x0])),(oC [])])) from (RJ h11).trans (by kernel_rfl)) (eC 2 (some ((zI (Aj .i64 (Int.add (Int.ofNat k1) (1:Int)))),(hT 5 [(.cells Ay true false []),oC q5,(oC (Br (Am 0 q6) [zI x0])),(oC [])]))) (show _=some ((zI (Int.ofNat k2)),_) from (by rw[AR h12])) (eD (keep (hT 5 [(.cells Ay true false []),oC q5,(oC (Br (Am 0 q6) [zI x0])),(oC [])]) (oo (bb (Nat.ble k2 n5) (some k2) none) none fun l=>some (sliceAt 2 (0+l*1) 1 (n5 - l) (c7 / 2 - l) (Dp false (Nat.beq (c7 % 2) 1))))) (show _=some ((.slice (some ⟨2,(0+k2*1),some 1⟩) (n5 - k2) (2*(c7 / 2 - k2)+bb (Dp false (Nat.beq (c7 % 2) 1)) 1 0)),(hT 5 [(.cells Ay true false []),oC q5,(oC (Br (Am 0 q6) [zI x0])),(oC [])])) from (RJ h13).trans (by kernel_rfl)) (eD (Gm (hT 5 [(.cells Ay true false []),oC q5,(oC (Br (Am 0 q6) [zI x0])),(oC [])]) 1 8 (sc 4 0 1 0 1) k1 (sc 2 0 1 k1 (2*(c7 / 2)+bb (Dp false (Nat.beq (c7 % 2) 1)) 1 0))) ((FD (imm:=false) (sp:=false) (anc:=[]) h14).trans (Ze h15)) (eD (Gm (hT 5 [(.cells Ay true false []),oC q5,(oC (Br (Am 0 q6) [zI x0])),(oC [])]) 1 8 (sc 4 0 1 0 1) (n5 - k2) (.slice (some ⟨2,(0+k2*1),some 1⟩) (n5 - k2) (2*(c7 / 2 - k2)+bb (Dp false (Nat.beq (c7 % 2) 1)) 1 0))) ((FD (imm:=false) (sp:=false) (anc:=[]) h16).trans (Ze h17)) (eE)))))) ?_
      refine .ghs (fr 54 [(1,Sl.v 1 s2),(5,sc 2 0 1 0 1),(6,(sc 3 0 1 (n6+1) (d2 (n6+1)))),(8,zI z1)]) (hT 4 [(.cells Ay true false []),(oC []),(oC (Br (Am 0 q6) [zI x0]))]) (.k [3] [false,false] [.tmp 5 false,.tmp 6 false] [1,5,6,8] ⟨AO h10,trivial⟩) ?_
      refine .rK ?_
      exact⟨(s2,0,1,(n6+1),(d2 (n6+1)),(Aj .i64 (Int.add z1 (1:Int))),([]:LV),(Br (Am 0 q6) [zI x0])),hm,(.k [3] [false,false] [.tmp 5 false,.tmp 6 false] [1,5,6,8] ⟨AO h10,trivial⟩)⟩
     ·replace hm:=Ae hm;obtain⟨h18,hm⟩:=hm
      refine .reg (eC 3 (keep (hT 5 [(.cells Ay true false []),oC q5,(oC (Br (Am 0 q6) [zI x0])),(oC [])]) (oo (bb (Nat.ble k1 (c7 / 2)) (some k1) none) none fun h=>some (sliceAt 2 (0+0*1) 1 (h - 0) (c7 / 2 - 0) (Dp false (Nat.beq (c7 % 2) 1))))) (show _=some ((sc 2 0 1 k1 (2*(c7 / 2)+bb (Dp false (Nat.beq (c7 % 2) 1)) 1 0)),(hT 5 [(.cells Ay true false []),oC q5,(oC (Br (Am 0 q6) [zI x0])),(oC [])])) from (RJ h11).trans (by kernel_rfl)) (eC 2 (some ((zI (Aj .i64 (Int.add (Int.ofNat k1) (1:Int)))),(hT 5 [(.cells Ay true false []),oC q5,(oC (Br (Am 0 q6) [zI x0])),(oC [])]))) (show _=some ((zI (Int.ofNat k2)),_) from (by rw[AR h12])) (eD (keep (hT 5 [(.cells Ay true false []),oC q5,(oC (Br (Am 0 q6) [zI x0])),(oC [])]) (oo (bb (Nat.ble k2 n5) (some k2) none) none fun l=>some (sliceAt 2 (0+l*1) 1 (n5 - l) (c7 / 2 - l) (Dp false (Nat.beq (c7 % 2) 1))))) (show _=some ((.slice (some ⟨2,(0+k2*1),some 1⟩) (n5 - k2) (2*(c7 / 2 - k2)+bb (Dp false (Nat.beq (c7 % 2) 1)) 1 0)),(hT 5 [(.cells Ay true false []),oC q5,(oC (Br (Am 0 q6) [zI x0])),(oC [])])) from (RJ h13).trans (by kernel_rfl)) (eD (Gm (hT 5 [(.cells Ay true false []),oC q5,(oC (Br (Am 0 q6) [zI x0])),(oC [])]) 1 8 (sc 4 0 1 0 1) k1 (sc 2 0 1 k1 (2*(c7 / 2)+bb (Dp false (Nat.beq (c7 % 2) 1)) 1 0))) ((FD (imm:=false) (sp:=false) (anc:=[]) h14).trans (Ze h15)) (eD (Gm (hT 5 [(.cells Ay true false []),oC q5,(oC (Br (Am 0 q6) [zI x0])),(oC [])]) 1 8 (sc 4 0 1 0 1) (n5 - k2) (.slice (some ⟨2,(0+k2*1),some 1⟩) (n5 - k2) (2*(c7 / 2 - k2)+bb (Dp false (Nat.beq (c7 % 2) 1)) 1 0))) ((FD (imm:=false) (sp:=false) (anc:=[]) h16).trans (Zf h17 h18 (by kernel_rfl))) (eE)))))) ?_
      replace hm:=Ae hm;obtain⟨h19,hm⟩:=hm
      refine .ghs (fr 54 [(1,Sl.v 1 s2),(5,(sc 2 0 1 (0+(Sl.n (Sl.mk (n5 - k2) 0 (Aq ((n5 - k2)*1) (Am (0+k2*1) q5))))) (d2 (0+(Sl.n (Sl.mk (n5 - k2) 0 (Aq ((n5 - k2)*1) (Am (0+k2*1) q5)))))))),(6,(sc 3 0 1 (n6+1) (d2 (n6+1)))),(8,zI z1)]) (hT 4 [(.cells Ay true false []),(oC (Aq ((Sl.n (Sl.mk (n5 - k2) 0 (Aq ((n5 - k2)*1) (Am (0+k2*1) q5))))*1) (Sl.cs (Sl.mk (n5 - k2) 0 (Aq ((n5 - k2)*1) (Am (0+k2*1) q5)))))),(oC (Br (Am 0 q6) [zI x0]))]) (.k [5,3] [false,false] [.tmp 5 false,.tmp 6 false] [1,5,6,8] ⟨AO h19,AO h10,trivial⟩) ?_
      refine .rK ?_
      exact⟨(s2,(0+(Sl.n (Sl.mk (n5 - k2) 0 (Aq ((n5 - k2)*1) (Am (0+k2*1) q5))))),(d2 (0+(Sl.n (Sl.mk (n5 - k2) 0 (Aq ((n5 - k2)*1) (Am (0+k2*1) q5)))))),(n6+1),(d2 (n6+1)),(Aj .i64 (Int.add z1 (1:Int))),(Aq ((Sl.n (Sl.mk (n5 - k2) 0 (Aq ((n5 - k2)*1) (Am (0+k2*1) q5))))*1) (Sl.cs (Sl.mk (n5 - k2) 0 (Aq ((n5 - k2)*1) (Am (0+k2*1) q5))))),(Br (Am 0 q6) [zI x0])),hm,(.k [2,3] [false,false] [.tmp 5 false,.tmp 6 false] [1,5,6,8] ⟨AO h19,AO h10,trivial⟩)⟩
    ·replace hm:=Ae hm;obtain⟨h16,hm⟩:=hm
     replace hm:=Ae hm;obtain⟨h17,hm⟩:=hm
     replace hm:=Ag hm;rcases hm with⟨h18,hm⟩ | ⟨h18,hm⟩
     ·refine .reg (eC 3 (keep (hT 5 [(.cells Ay true false []),oC q5,(oC (Br (Am 0 q6) [zI x0])),(oC [])]) (oo (bb (Nat.ble k1 (c7 / 2)) (some k1) none) none fun h=>some (sliceAt 2 (0+0*1) 1 (h - 0) (c7 / 2 - 0) (Dp false (Nat.beq (c7 % 2) 1))))) (show _=some ((sc 2 0 1 k1 (2*(c7 / 2)+bb (Dp false (Nat.beq (c7 % 2) 1)) 1 0)),(hT 5 [(.cells Ay true false []),oC q5,(oC (Br (Am 0 q6) [zI x0])),(oC [])])) from (RJ h11).trans (by kernel_rfl)) (eC 2 (some ((zI (Aj .i64 (Int.add (Int.ofNat k1) (1:Int)))),(hT 5 [(.cells Ay true false []),oC q5,(oC (Br (Am 0 q6) [zI x0])),(oC [])]))) (show _=some ((zI (Int.ofNat k2)),_) from (by rw[AR h12])) (eD (keep (hT 5 [(.cells Ay true false []),oC q5,(oC (Br (Am 0 q6) [zI x0])),(oC [])]) (oo (bb (Nat.ble k2 n5) (some k2) none) none fun l=>some (sliceAt 2 (0+l*1) 1 (n5 - l) (c7 / 2 - l) (Dp false (Nat.beq (c7 % 2) 1))))) (show _=some ((.slice (some ⟨2,(0+k2*1),some 1⟩) (n5 - k2) (2*(c7 / 2 - k2)+bb (Dp false (Nat.beq (c7 % 2) 1)) 1 0)),(hT 5 [(.cells Ay true false []),oC q5,(oC (Br (Am 0 q6) [zI x0])),(oC [])])) from (RJ h13).trans (by kernel_rfl)) (eD (Gm (hT 5 [(.cells Ay true false []),oC q5,(oC (Br (Am 0 q6) [zI x0])),(oC [])]) 1 8 (sc 4 0 1 0 1) k1 (sc 2 0 1 k1 (2*(c7 / 2)+bb (Dp false (Nat.beq (c7 % 2) 1)) 1 0))) ((FD (imm:=false) (sp:=false) (anc:=[]) h14).trans (Zf h15 h16 (by kernel_rfl))) (eD (Gm (hT 6 [(.cells Ay true false []),oC q5,(oC (Br (Am 0 q6) [zI x0])),(oC []),(oC (Aq ((Sl.n (Sl.mk k1 0 (Aq (k1*1) (Am 0 q5))))*1) (Sl.cs (Sl.mk k1 0 (Aq (k1*1) (Am 0 q5))))))]) 1 8 (sc 5 0 1 (0+(Sl.n (Sl.mk k1 0 (Aq (k1*1) (Am 0 q5))))) (d2 (0+(Sl.n (Sl.mk k1 0 (Aq (k1*1) (Am 0 q5))))))) (n5 - k2) (.slice (some ⟨2,(0+k2*1),some 1⟩) (n5 - k2) (2*(c7 / 2 - k2)+bb (Dp false (Nat.beq (c7 % 2) 1)) 1 0))) ((FD (imm:=false) (sp:=false) (anc:=[]) h17).trans (Ze h18)) (eE)))))) ?_
      replace hm:=Ae hm;obtain⟨h20,hm⟩:=hm
      refine .ghs (fr 54 [(1,Sl.v 1 s2),(5,(sc 2 0 1 (0+(Sl.n (Sl.mk k1 0 (Aq (k1*1) (Am 0 q5))))) (d2 (0+(Sl.n (Sl.mk k1 0 (Aq (k1*1) (Am 0 q5)))))))),(6,(sc 3 0 1 (n6+1) (d2 (n6+1)))),(8,zI z1)]) (hT 4 [(.cells Ay true false []),(oC (Aq ((Sl.n (Sl.mk k1 0 (Aq (k1*1) (Am 0 q5))))*1) (Sl.cs (Sl.mk k1 0 (Aq (k1*1) (Am 0 q5)))))),(oC (Br (Am 0 q6) [zI x0]))]) (.k [5,3] [false,false] [.tmp 5 false,.tmp 6 false] [1,5,6,8] ⟨AO h20,AO h10,trivial⟩) ?_
      refine .rK ?_
      exact⟨(s2,(0+(Sl.n (Sl.mk k1 0 (Aq (k1*1) (Am 0 q5))))),(d2 (0+(Sl.n (Sl.mk k1 0 (Aq (k1*1) (Am 0 q5)))))),(n6+1),(d2 (n6+1)),(Aj .i64 (Int.add z1 (1:Int))),(Aq ((Sl.n (Sl.mk k1 0 (Aq (k1*1) (Am 0 q5))))*1) (Sl.cs (Sl.mk k1 0 (Aq (k1*1) (Am 0 q5))))),(Br (Am 0 q6) [zI x0])),hm,(.k [2,3] [false,false] [.tmp 5 false,.tmp 6 false] [1,5,6,8] ⟨AO h20,AO h10,trivial⟩)⟩
     ·replace hm:=Ae hm;obtain⟨h21,hm⟩:=hm
      refine .reg (eC 3 (keep (hT 5 [(.cells Ay true false []),oC q5,(oC (Br (Am 0 q6) [zI x0])),(oC [])]) (oo (bb (Nat.ble k1 (c7 / 2)) (some k1) none) none fun h=>some (sliceAt 2 (0+0*1) 1 (h - 0) (c7 / 2 - 0) (Dp false (Nat.beq (c7 % 2) 1))))) (show _=some ((sc 2 0 1 k1 (2*(c7 / 2)+bb (Dp false (Nat.beq (c7 % 2) 1)) 1 0)),(hT 5 [(.cells Ay true false []),oC q5,(oC (Br (Am 0 q6) [zI x0])),(oC [])])) from (RJ h11).trans (by kernel_rfl)) (eC 2 (some ((zI (Aj .i64 (Int.add (Int.ofNat k1) (1:Int)))),(hT 5 [(.cells Ay true false []),oC q5,(oC (Br (Am 0 q6) [zI x0])),(oC [])]))) (show _=some ((zI (Int.ofNat k2)),_) from (by rw[AR h12])) (eD (keep (hT 5 [(.cells Ay true false []),oC q5,(oC (Br (Am 0 q6) [zI x0])),(oC [])]) (oo (bb (Nat.ble k2 n5) (some k2) none) none fun l=>some (sliceAt 2 (0+l*1) 1 (n5 - l) (c7 / 2 - l) (Dp false (Nat.beq (c7 % 2) 1))))) (show _=some ((.slice (some ⟨2,(0+k2*1),some 1⟩) (n5 - k2) (2*(c7 / 2 - k2)+bb (Dp false (Nat.beq (c7 % 2) 1)) 1 0)),(hT 5 [(.cells Ay true false []),oC q5,(oC (Br (Am 0 q6) [zI x0])),(oC [])])) from (RJ h13).trans (by kernel_rfl)) (eD (Gm (hT 5 [(.cells Ay true false []),oC q5,(oC (Br (Am 0 q6) [zI x0])),(oC [])]) 1 8 (sc 4 0 1 0 1) k1 (sc 2 0 1 k1 (2*(c7 / 2)+bb (Dp false (Nat.beq (c7 % 2) 1)) 1 0))) ((FD (imm:=false) (sp:=false) (anc:=[]) h14).trans (Zf h15 h16 (by kernel_rfl))) (eD (Gm (hT 6 [(.cells Ay true false []),oC q5,(oC (Br (Am 0 q6) [zI x0])),(oC []),(oC (Aq ((Sl.n (Sl.mk k1 0 (Aq (k1*1) (Am 0 q5))))*1) (Sl.cs (Sl.mk k1 0 (Aq (k1*1) (Am 0 q5))))))]) 1 8 (sc 5 0 1 (0+(Sl.n (Sl.mk k1 0 (Aq (k1*1) (Am 0 q5))))) (d2 (0+(Sl.n (Sl.mk k1 0 (Aq (k1*1) (Am 0 q5))))))) (n5 - k2) (.slice (some ⟨2,(0+k2*1),some 1⟩) (n5 - k2) (2*(c7 / 2 - k2)+bb (Dp false (Nat.beq (c7 % 2) 1)) 1 0))) ((FD (imm:=false) (sp:=false) (anc:=[]) h17).trans (QI (H:=(hT 6 [(.cells Ay true false []),oC q5,(oC (Br (Am 0 q6) [zI x0])),(oC []),(oC (Aq ((Sl.n (Sl.mk k1 0 (Aq (k1*1) (Am 0 q5))))*1) (Sl.cs (Sl.mk k1 0 (Aq (k1*1) (Am 0 q5))))))])) (id:=5) (n:=(0+(Sl.n (Sl.mk k1 0 (Aq (k1*1) (Am 0 q5)))))) (c2:=(d2 (0+(Sl.n (Sl.mk k1 0 (Aq (k1*1) (Am 0 q5))))))) (xs:=(Aq ((Sl.n (Sl.mk k1 0 (Aq (k1*1) (Am 0 q5))))*1) (Sl.cs (Sl.mk k1 0 (Aq (k1*1) (Am 0 q5)))))) (anc:=[]) h18 (by kernel_rfl) (by kernel_rfl) h21)) (eE)))))) ?_
      replace hm:=Ae hm;obtain⟨h22,hm⟩:=hm
      refine .ghs (fr 54 [(1,Sl.v 1 s2),(5,(sc 2 0 1 ((0+(Sl.n (Sl.mk k1 0 (Aq (k1*1) (Am 0 q5)))))+(Sl.n (Sl.mk (n5 - k2) 0 (Aq ((n5 - k2)*1) (Am (0+k2*1) q5))))) (d2 ((0+(Sl.n (Sl.mk k1 0 (Aq (k1*1) (Am 0 q5)))))+(Sl.n (Sl.mk (n5 - k2) 0 (Aq ((n5 - k2)*1) (Am (0+k2*1) q5)))))))),(6,(sc 3 0 1 (n6+1) (d2 (n6+1)))),(8,zI z1)]) (hT 4 [(.cells Ay true false []),(oC (Br (Am 0 (Aq ((Sl.n (Sl.mk k1 0 (Aq (k1*1) (Am 0 q5))))*1) (Sl.cs (Sl.mk k1 0 (Aq (k1*1) (Am 0 q5)))))) (Aq ((Sl.n (Sl.mk (n5 - k2) 0 (Aq ((n5 - k2)*1) (Am (0+k2*1) q5))))*1) (Sl.cs (Sl.mk (n5 - k2) 0 (Aq ((n5 - k2)*1) (Am (0+k2*1) q5))))))),(oC (Br (Am 0 q6) [zI x0]))]) (.k [6,3] [false,false] [.tmp 5 false,.tmp 6 false] [1,5,6,8] ⟨AO h22,AO h10,trivial⟩) ?_
      refine .rK ?_
      exact⟨(s2,((0+(Sl.n (Sl.mk k1 0 (Aq (k1*1) (Am 0 q5)))))+(Sl.n (Sl.mk (n5 - k2) 0 (Aq ((n5 - k2)*1) (Am (0+k2*1) q5))))),(d2 ((0+(Sl.n (Sl.mk k1 0 (Aq (k1*1) (Am 0 q5)))))+(Sl.n (Sl.mk (n5 - k2) 0 (Aq ((n5 - k2)*1) (Am (0+k2*1) q5)))))),(n6+1),(d2 (n6+1)),(Aj .i64 (Int.add z1 (1:Int))),(Br (Am 0 (Aq ((Sl.n (Sl.mk k1 0 (Aq (k1*1) (Am 0 q5))))*1) (Sl.cs (Sl.mk k1 0 (Aq (k1*1) (Am 0 q5)))))) (Aq ((Sl.n (Sl.mk (n5 - k2) 0 (Aq ((n5 - k2)*1) (Am (0+k2*1) q5))))*1) (Sl.cs (Sl.mk (n5 - k2) 0 (Aq ((n5 - k2)*1) (Am (0+k2*1) q5)))))),(Br (Am 0 q6) [zI x0])),hm,(.k [2,3] [false,false] [.tmp 5 false,.tmp 6 false] [1,5,6,8] ⟨AO h22,AO h10,trivial⟩)⟩
   ·refine .then (.rK (.ghs (fr 54 [(1,Sl.v 1 s1),(5,sc 2 0 1 n3 c5),(6,sc 3 0 1 n4 c6),(8,zI z0),(9,(zI (0:Int))),(27,(zB (AY z0 (Int.ofNat (Sl.n s1)))))]) (hT 4 [(.cells Ay true false []),oC q3,oC q4]) (.k [2,3] [false,false] [.tmp 5 false,.tmp 6 false] [1,5,6,8,9,27] ⟨AO h2,AO h3,trivial⟩) ?_))
    replace hm:=Ag hm;rcases hm with⟨h23,hm⟩ | ⟨h23,hm⟩
    ·refine Dr (AY z0 (Int.ofNat (Sl.n s1))) h23 ?_
     replace hm:=Ab hm;obtain⟨k3,h24,hm⟩:=hm
     obtain rfl:=AR h24
     replace hm:=Ae hm;obtain⟨h25,hm⟩:=hm
     replace hm:=FK hm;obtain⟨x1,h26,hm⟩:=hm
     replace hm:=Ae hm;obtain⟨h27,hm⟩:=hm
     refine .reg (eC 2 (keep (hT 4 [(.cells Ay true false []),oC q3,oC q4]) (bb (an (Nat.blt k3 (Sl.n s1)) true) (some (Cv (k3*1) (Sl.cs s1))) none)) (AX h25) (eD (keep (hT 4 [(.cells Ay true false []),oC q3,oC q4]) (AL (Sl.cs s1) (k3*1))) (AZ h26) (eC 3 (keep (hT 4 [(.cells Ay true false []),oC q3,oC q4]) (bb (Bd (Int.ofNat n3) (0:Int)) none (some (zI (Int.tmod (Aj .i64 x1) (Int.ofNat n3)))))) (XH h27) (eE)))) ?_
     exact⟨(s1,n3,c5,n4,c6,(Int.ofNat k3),(Int.tmod (Aj .i64 x1) (Int.ofNat n3)),q3,q4),hm,(.k [2,3] [false,false] [.tmp 5 false,.tmp 6 false] [1,5,6,8,9] ⟨AO h2,AO h3,trivial⟩)⟩
    ·refine Dy (AY z0 (Int.ofNat (Sl.n s1))) h23 ?_
     refine .skip ?_
     exact⟨(s1,n3,c5,n4,c6,z0,(0:Int),q3,q4),hm,(.k [2,3] [false,false] [.tmp 5 false,.tmp 6 false] [1,5,6,8,9] ⟨AO h2,AO h3,trivial⟩)⟩
  ·refine Dy (AY (0:Int) (Int.ofNat n3)) h4 ?_
   refine .exit ?_
   exact⟨(n4,c6,q4),hm,(.k [3] [false,false] [.tmp 6 false] [6] ⟨AO h3,trivial⟩)⟩
theorem r10 {call:A8} (pu:Af) (n:Nat) (hcall:call=Bb tabs isP pu (inl pu)) {args:LV} {v:Value} (hm:m10 pu n args=some v) (_:∀ x∈args,closed2 x=true):args.length≤54∧BN tt call 2 Nf (Fr.made 54 args) (Ao tabs) (Fin tt 2 [.tmp 4] v):=by
 subst hcall
 unfold m10 at hm
 replace hm:=Ad hm;obtain⟨a0,args_0,rfl,hm⟩:=hm
 replace hm:=Ad hm;obtain⟨a1,args_1,rfl,hm⟩:=hm
 replace hm:=AC hm;obtain⟨rfl,hm⟩:=hm
 replace hm:=Ai hm;obtain⟨x0,rfl,hm⟩:=hm
 replace hm:=Al hm;obtain⟨s0,rfl,hm⟩:=hm
 unfold Pb at hm
 refine⟨by simp,?_⟩
 refine .same (F':=(fr 54 [(0,zI x0),(1,Sl.v 1 s0)])) (H':=(hT 2 [(.cells Ay true false [])])) (by kernel_rfl) (by kernel_rfl) ?_
 refine .then (.rK (.ghs (fr 54 [(0,zI x0),(1,Sl.v 1 s0)]) (hT 2 [(.cells Ay true false [])]) (.k0 [false,false] [] [0,1]) ?_))
 refine .then (.rK (.ghs (fr 54 [(0,zI x0),(1,Sl.v 1 s0),(5,(.slice none 0 0)),(6,(.slice none 0 0))]) (hT 2 [(.cells Ay true false [])]) (.k0 [false,false] [] [0,1,5,6]) ?_))
 refine .join (v:=v) (fun y:Sl×Nat×Nat×Nat×Nat×LV×LV=>((fr 54 [(1,(Sl.v 1 y.1)),(5,(sc 2 0 1 y.2.1 y.2.2.1)),(6,(sc 3 0 1 y.2.2.2.1 y.2.2.2.2.1))]),(hT 4 [(.cells Ay true false []),(oC y.2.2.2.2.2.1),(oC y.2.2.2.2.2.2)]))) (fun y=>QN pu n y.1 y.2.1 y.2.2.1 y.2.2.2.1 y.2.2.2.2.1 y.2.2.2.2.2.1 y.2.2.2.2.2.2) ?_ ?_
 ·rintro⟨s1,n0,c0,n1,c1,q0,q1⟩ hm
  exact Abt pu n s1 n0 c0 n1 c1 q0 q1 hm
 ·refine .then (.rK (.ghs (fr 54 [(1,Sl.v 1 s0),(5,(.slice none 0 0)),(6,(.slice none 0 0)),(10,zI x0),(11,(zI (0:Int)))]) (hT 2 [(.cells Ay true false [])]) (.k0 [false,false] [] [1,5,6,10,11]) ?_))
  refine .block (.loopM (v:=v) (fun y:Sl×Nat×Nat×Nat×Nat×Int×Int×LV×LV=>((fr 54 [(1,(Sl.v 1 y.1)),(5,(sc 2 0 1 y.2.1 y.2.2.1)),(6,(sc 3 0 1 y.2.2.2.1 y.2.2.2.2.1)),(10,(zI y.2.2.2.2.2.1)),(11,(zI y.2.2.2.2.2.2.1))]),(hT 4 [(.cells Ay true false []),(oC y.2.2.2.2.2.2.2.1),(oC y.2.2.2.2.2.2.2.2)]))) (fun w y=>Un pu n w y.1 y.2.1 y.2.2.1 y.2.2.2.1 y.2.2.2.2.1 y.2.2.2.2.2.1 y.2.2.2.2.2.2.1 y.2.2.2.2.2.2.2.1 y.2.2.2.2.2.2.2.2) n ⟨(s0,0,0,0,0,x0,(0:Int),([]:LV),([]:LV)),hm,(.thaw 5 1 (by kernel_rfl) (.thaw 6 1 (by kernel_rfl) (.k0 [false,false] [.tmp 5 false,.tmp 6 false] [1,5,6,10,11])))⟩ (fun _=>rfl) ?_)
  rintro w0 ⟨s2,n2,c2,n3,c4,z0,z1,q2,q3⟩ hm
  replace hm:Um pu n (Un pu n w0) s2 n2 c2 n3 c4 z0 z1 q2 q3=some v:=hm
  unfold Um at hm
  refine .then (.rK ?_)
  replace hm:=Ae hm;obtain⟨h0,hm⟩:=hm
  replace hm:=Ae hm;obtain⟨h1,hm⟩:=hm
  refine .ghs (fr 54 [(1,Sl.v 1 s2),(5,sc 2 0 1 n2 c2),(6,sc 3 0 1 n3 c4),(10,zI z0),(11,zI z1),(12,(zB (AY z1 z0)))]) (hT 4 [(.cells Ay true false []),oC q2,oC q3]) (.k [2,3] [false,false] [.tmp 5 false,.tmp 6 false] [1,5,6,10,11,12] ⟨AO h0,AO h1,trivial⟩) ?_
  refine .then ?_
  replace hm:=Ag hm;rcases hm with⟨h2,hm⟩ | ⟨h2,hm⟩
  ·refine Dr (AY z1 z0) h2 ?_
   refine .skip (.ghs (fr 54 [(1,Sl.v 1 s2),(5,sc 2 0 1 n2 c2),(6,sc 3 0 1 n3 c4),(10,zI z0),(11,zI z1)]) (hT 4 [(.cells Ay true false []),oC q2,oC q3]) (.k [2,3] [false,false] [.tmp 5 false,.tmp 6 false] [1,5,6,10,11] ⟨AO h0,AO h1,trivial⟩) ?_)
   refine .then (.block (.then (.rK (.ghs (fr 54 [(1,Sl.v 1 s2),(5,sc 2 0 1 n2 c2),(6,sc 3 0 1 n3 c4),(7,zI z1),(10,zI z0),(11,zI z1)]) (hT 4 [(.cells Ay true false []),oC q2,oC q3]) (.k [2,3] [false,false] [.tmp 5 false,.tmp 6 false] [1,5,6,7,10,11] ⟨AO h0,AO h1,trivial⟩) ?_))))
   replace hm:=Ae hm;obtain⟨h3,hm⟩:=hm
   refine .reg (eC 3 (Oc 1 8 n2 c2 1 2 q2 [zI z1] [] (hT 5 [(.cells Ay true false []),oC q2,oC q3,(oC [zI z1])])) (I1 h3) (eE)) ?_
   replace hm:=Ae hm;obtain⟨h4,hm⟩:=hm
   refine .ghs (fr 54 [(1,Sl.v 1 s2),(5,(sc 2 0 1 (n2+1) (d2 (n2+1)))),(6,sc 3 0 1 n3 c4),(10,zI z0),(11,zI z1)]) (hT 4 [(.cells Ay true false []),(oC (Br (Am 0 q2) [zI z1])),oC q3]) (.k [5,3] [false,false] [.tmp 5 false,.tmp 6 false] [1,5,6,10,11] ⟨AO h4,AO h1,trivial⟩) ?_
   refine .rK ?_
   exact⟨(s2,(n2+1),(d2 (n2+1)),n3,c4,z0,(Aj .i64 (Int.add z1 (1:Int))),(Br (Am 0 q2) [zI z1]),q3),hm,(.k [2,3] [false,false] [.tmp 5 false,.tmp 6 false] [1,5,6,10,11] ⟨AO h4,AO h1,trivial⟩)⟩
  ·refine Dy (AY z1 z0) h2 ?_
   refine .exit ?_
   exact⟨(s2,n2,c2,n3,c4,q2,q3),hm,(.k [2,3] [false,false] [.tmp 5 false,.tmp 6 false] [1,5,6] ⟨AO h0,AO h1,trivial⟩)⟩
end
end Go.TpDM
