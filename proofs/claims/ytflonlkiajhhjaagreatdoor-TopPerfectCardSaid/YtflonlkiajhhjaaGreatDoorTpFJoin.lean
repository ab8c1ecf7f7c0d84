/- Made from wip. -/
import Derived.Test.YtflonlkiajhhjaaGreatDoorTpFPux
import Derived.Test.YtflonlkiajhhjaaGreatDoorTpFOkx
import Derived.Test.YtflonlkiajhhjaaGreatDoorSpObjx

set_option maxRecDepth 100000
namespace Go.Proofs.YtflonlkiajhhjaaGreatDoor.TpF
open Go Go.Sp Go.TpFM Go.TpF
noncomputable section
theorem fk9:Ar Tryz.prog (List.range tabs.length) 9 ⟨183,QG,[.tmp 4]⟩:=by
 have h:c9=QG:=by kernel_rfl
 rw[←h];exact Ai3
theorem AjC:Ar Tryz.prog (List.range tabs.length) 16 ⟨27,QJ,[.tmp 4]⟩:=by
 have h:c16=QJ:=by kernel_rfl
 rw[←h];exact vT
theorem AjD:Ar Tryz.prog (List.range tabs.length) 18 ⟨17,QK,[.tmp 4]⟩:=by
 have h:c18=QK:=by kernel_rfl
 rw[←h];exact vU
theorem AjE:Ar Tryz.prog (List.range tabs.length) 40 ⟨15,QL,[.tmp 2]⟩:=by
 have h:c40=QL:=by kernel_rfl
 rw[←h];exact vY
theorem AjF:Ar Tryz.prog (List.range tabs.length) 41 ⟨38,QM,[.tmp 4,.tmp 5]⟩:=by
 have h:c41=QM:=by kernel_rfl
 rw[←h];exact vZ
theorem AjG:Ar Tryz.prog (List.range tabs.length) 42 ⟨45,QN,[.tmp 4,.tmp 5]⟩:=by
 have h:c42=QN:=by kernel_rfl
 rw[←h];exact wB
theorem AjH:Ar Tryz.prog (List.range tabs.length) 43 ⟨39,QO,[.cell 4 41,.tmp 5]⟩:=by
 have h:c43=QO:=by kernel_rfl
 rw[←h];exact wC
theorem AjI:Ar Tryz.prog (List.range tabs.length) 54 ⟨16,QR,[.cell 2 99,.tmp 3]⟩:=by
 have h:c54=QR:=by kernel_rfl
 rw[←h];exact wJ
theorem AjJ:Ar Tryz.prog (List.range tabs.length) 56 ⟨15,UT,[.tmp 4]⟩:=by
 have h:c56=UT:=by kernel_rfl
 rw[←h];exact wK
theorem AjK:Ar Tryz.prog (List.range tabs.length) 57 ⟨8,UU,[.cell 2 41]⟩:=by
 have h:c57=UU:=by kernel_rfl
 rw[←h];exact wL
theorem AjL:Ar Tryz.prog (List.range tabs.length) 61 ⟨30,QS,[.cell 4 99]⟩:=by
 have h:c61=QS:=by kernel_rfl
 rw[←h];exact wM
theorem AjM:Ar Tryz.prog (List.range tabs.length) 76 ⟨39,RO,[.tmp 2]⟩:=by
 have h:c76=RO:=by kernel_rfl
 rw[←h];exact wO
theorem AjN:Ar Tryz.prog (List.range tabs.length) 82 ⟨8,UV,[.tmp 2]⟩:=by
 have h:c82=UV:=by kernel_rfl
 rw[←h];exact wP
theorem AjO:Ar Tryz.prog (List.range tabs.length) 99 ⟨11,RP,[.tmp 2]⟩:=by
 have h:c99=RP:=by kernel_rfl
 rw[←h];exact wR
theorem wS:Ar Tryz.prog (List.range tabs.length) 100 ⟨15,RQ,[.tmp 6]⟩:=by
 have h:X5=RQ:=by kernel_rfl
 rw[←h];exact Zw
theorem wT:Ar Tryz.prog (List.range tabs.length) 101 ⟨24,MG,[.tmp 6]⟩:=by
 have h:X6=MG:=by kernel_rfl
 rw[←h];exact Zx
theorem wU:Ar Tryz.prog (List.range tabs.length) 102 ⟨23,MH,[.tmp 4]⟩:=by
 have h:X7=MH:=by kernel_rfl
 rw[←h];exact Zy
theorem wV:Ar Tryz.prog (List.range tabs.length) 114 ⟨42,MR,[.tmp 2]⟩:=by
 have h:Ya=MR:=by kernel_rfl
 rw[←h];exact ZA
theorem wW:Ar Tryz.prog (List.range tabs.length) 115 ⟨24,MU,[.cell 4 99]⟩:=by
 have h:Yb=MU:=by kernel_rfl
 rw[←h];exact ZB
theorem wZ:Ar Tryz.prog (List.range tabs.length) 116 ⟨19,M8,[.tmp 2]⟩:=by
 have h:Yc=M8:=by kernel_rfl
 rw[←h];exact ZC
theorem xA:Ar Tryz.prog (List.range tabs.length) 119 ⟨27,M9,[.tmp 2]⟩:=by
 have h:Yd=M9:=by kernel_rfl
 rw[←h];exact ZE
theorem xB:Ar Tryz.prog (List.range tabs.length) 121 ⟨15,RX,[.tmp 2]⟩:=by
 have h:Ye=RX:=by kernel_rfl
 rw[←h];exact ZF
theorem xC:Ar Tryz.prog (List.range tabs.length) 125 ⟨17,RY,[.tmp 4]⟩:=by
 have h:Yf=RY:=by kernel_rfl
 rw[←h];exact ZG
theorem xD:Ar Tryz.prog (List.range tabs.length) 136 ⟨19,Nc,[.tmp 2]⟩:=by
 have h:Yg=Nc:=by kernel_rfl
 rw[←h];exact ZH
theorem xE:Ar Tryz.prog (List.range tabs.length) 137 ⟨25,Nf,[.tmp 2]⟩:=by
 have h:Yh=Nf:=by kernel_rfl
 rw[←h];exact ZI
theorem xG:Ar Tryz.prog (List.range tabs.length) 169 ⟨11,RZ,[.tmp 4]⟩:=by
 have h:Yj=RZ:=by kernel_rfl
 rw[←h];exact ZM
theorem xI:Ar Tryz.prog (List.range tabs.length) 176 ⟨6,R4,[.tmp 2]⟩:=by
 have h:Yl=R4:=by kernel_rfl
 rw[←h];exact ZO
theorem AjP:Ar Tryz.prog (List.range tabs.length) 44 ⟨11,Uf,[]⟩:=by
 have h:c44=Uf:=by kernel_rfl
 rw[←h];exact wI
theorem xJ:Ar Tryz.prog (List.range tabs.length) 103 ⟨134,Ki,[]⟩:=by
 have h:X9=Ki:=by kernel_rfl
 rw[←h];exact Zz
theorem xK:Ar Tryz.prog (List.range tabs.length) 149 ⟨49,KJ,[]⟩:=by
 have h:Yi=KJ:=by kernel_rfl
 rw[←h];exact ZK
theorem AjQ:Ar Tryz.prog (List.range tabs.length) 22 ⟨26,OC,[.tmp 4]⟩:=by
 have h:c22=OC:=by kernel_rfl
 rw[←h];exact vV
theorem xL:Ar Tryz.prog (List.range tabs.length) 170 ⟨38,KS,[.tmp 2]⟩:=by
 have h:Yk=KS:=by kernel_rfl
 rw[←h];exact ZN
theorem xM:Ar Tryz.prog (List.range tabs.length) 252 ⟨32,KT,[]⟩:=by
 have h:Ym=KT:=by kernel_rfl
 rw[←h];exact ZP
theorem Eb:∀ t∈tabs,t=t:=fun _ _=>rfl
theorem ZQ:tabs.all (fun t=>t.all BR)=true:=by kernel_rfl
theorem Eo:∀ t∈tabs,∀ x∈t,BR x=true:=fun t ht x hx=>List.all_eq_true.1 (List.all_eq_true.1 ZQ t ht) x hx
theorem UD (hm:Tryz.prog.follows .mixedOrders=true) {pu:Af} (h0:BA Tryz.prog tabs 204 (pu 204)) (h1:Cn Tryz.prog tabs 1 1 44 (pu 10440)) (h2:Cn Tryz.prog tabs 4 1 103 (pu 11030)) (h3:Cn Tryz.prog tabs 3 1 149 (pu 11490)) (h4:Cn Tryz.prog tabs 2 0 22 (pu 10220)) (h5:Cn Tryz.prog tabs 1 0 170 (pu 11700)) (h6:Cn Tryz.prog tabs 2 4 252 (pu 12520)):CO Tryz.prog (List.range tabs.length) (inl pu):=fun g args H v H' h=>by
 replace h:bb (Nat.beq g 204) (Hr tabs 1 (pu 204) args H) (bb (Nat.beq g 44) (Gu tabs [[none]] 1 [.tmp 0 false] [false] (pu 10440) args H) (bb (Nat.beq g 103) (Gu tabs [[none],[none],[none],[none]] 4 [.tmp 0 false] [false] (pu 11030) args H) (bb (Nat.beq g 149) (Gu tabs [[none],[none],[none]] 3 [.tmp 0 false] [false] (pu 11490) args H) (bb (Nat.beq g 22) (Gu tabs [[some 1],[some 1]] 2 [] [] (pu 10220) args H) (bb (Nat.beq g 170) (Gu tabs [[none,none]] 1 [] [false] (pu 11700) args H) (bb (Nat.beq g 252) (Gu tabs [[none],[none]] 2 [.tmp 0 true,.tmp 1 false,.cell 2 1 false,.cell 2 2 false] [true,false,false,false] (pu 12520) args H) (none)))))))=some (v,H'):=h
 have hq:=Ag h;clear h;rcases hq with⟨e,h⟩ | ⟨_,h⟩
 ·obtain rfl:=Nat.eq_of_beq_eq_true e
  exact Og Eb Eo h0 h
 have hq:=Ag h;clear h;rcases hq with⟨e,h⟩ | ⟨_,h⟩
 ·obtain rfl:=Nat.eq_of_beq_eq_true e
  exact Jh (rs:=[.tmp 0 false]) Eb Eo h1 h
 have hq:=Ag h;clear h;rcases hq with⟨e,h⟩ | ⟨_,h⟩
 ·obtain rfl:=Nat.eq_of_beq_eq_true e
  exact Jh (rs:=[.tmp 0 false]) Eb Eo h2 h
 have hq:=Ag h;clear h;rcases hq with⟨e,h⟩ | ⟨_,h⟩
 ·obtain rfl:=Nat.eq_of_beq_eq_true e
  exact Jh (rs:=[.tmp 0 false]) Eb Eo h3 h
 have hq:=Ag h;clear h;rcases hq with⟨e,h⟩ | ⟨_,h⟩
 ·obtain rfl:=Nat.eq_of_beq_eq_true e
  exact Jh (rs:=[]) Eb Eo h4 h
 have hq:=Ag h;clear h;rcases hq with⟨e,h⟩ | ⟨_,h⟩
 ·obtain rfl:=Nat.eq_of_beq_eq_true e
  exact Jh (rs:=[]) Eb Eo h5 h
 have hq:=Ag h;clear h;rcases hq with⟨e,h⟩ | ⟨_,h⟩
 ·obtain rfl:=Nat.eq_of_beq_eq_true e
  exact Jh (rs:=[.tmp 0 true,.tmp 1 false,.cell 2 1 false,.cell 2 2 false]) Eb Eo h6 h
 cases h
theorem rY (hm:Tryz.prog.follows .mixedOrders=true) (hw:BA Tryz.prog tabs 165 R5∧BA Tryz.prog tabs 204 R6∧BA Tryz.prog tabs 24 V5) {pu:Af} (hall:(∀ g,isP g=true→BA Tryz.prog tabs g (pu g))∧BA Tryz.prog tabs 204 (pu 204)∧Cn Tryz.prog tabs 1 1 44 (pu 10440)∧Cn Tryz.prog tabs 4 1 103 (pu 11030)∧Cn Tryz.prog tabs 3 1 149 (pu 11490)∧Cn Tryz.prog tabs 2 0 22 (pu 10220)∧Cn Tryz.prog tabs 1 0 170 (pu 11700)∧Cn Tryz.prog tabs 2 4 252 (pu 12520)):(∀ g,isP g=true→BA Tryz.prog tabs g (Sk pu g))∧BA Tryz.prog tabs 204 (Sk pu 204)∧Cn Tryz.prog tabs 1 1 44 (Sk pu 10440)∧Cn Tryz.prog tabs 4 1 103 (Sk pu 11030)∧Cn Tryz.prog tabs 3 1 149 (Sk pu 11490)∧Cn Tryz.prog tabs 2 0 22 (Sk pu 10220)∧Cn Tryz.prog tabs 1 0 170 (Sk pu 11700)∧Cn Tryz.prog tabs 2 4 252 (Sk pu 12520):=by
 obtain⟨hpu,h0,h4,h5,h6,h7,h8,h9⟩:=hall
 have hcall:=TG (P:=Tryz.prog) (tabs:=tabs) Eb Eo (UD hm h0 h4 h5 h6 h7 h8 h9) hpu
 refine⟨fun g hg=>?_,?_,?_,?_,?_,?_,?_,?_⟩
 ·have hg:g∈Ug:=CS.1 hg
  simp only[Ug,List.mem_cons,List.not_mem_nil,or_false] at hg
  rcases hg with rfl | rfl | rfl | rfl | rfl | rfl | rfl | rfl | rfl | rfl | rfl | rfl | rfl | rfl | rfl | rfl | rfl | rfl | rfl | rfl | rfl | rfl | rfl | rfl | rfl | rfl | rfl | rfl | rfl
  ·exact Aw (tabs:=tabs) (f:=m9 pu L) Fb hm hcall fk9 fun args v h hc=>r9 pu L rfl h hc
  ·exact Aw (tabs:=tabs) (f:=m16 pu L) Fb hm hcall AjC fun args v h hc=>r16 pu L rfl h hc
  ·exact Aw (tabs:=tabs) (f:=m18 pu L) Fb hm hcall AjD fun args v h hc=>r18 pu L rfl h hc
  ·exact hw.2.2
  ·exact Aw (tabs:=tabs) (f:=m40 pu L) Fb hm hcall AjE fun args v h hc=>r40 pu L rfl h hc
  ·exact Aw (tabs:=tabs) (f:=m41 pu L) Fb hm hcall AjF fun args v h hc=>r41 pu L rfl h hc
  ·exact Aw (tabs:=tabs) (f:=m42 pu L) Fb hm hcall AjG fun args v h hc=>r42 pu L rfl h hc
  ·exact Aw (tabs:=tabs) (f:=m43 pu L) Fb hm hcall AjH fun args v h hc=>r43 pu L rfl h hc
  ·exact Aw (tabs:=tabs) (f:=m54 pu L) Fb hm hcall AjI fun args v h hc=>r54 pu L rfl h hc
  ·exact Aw (tabs:=tabs) (f:=m56 pu L) Fb hm hcall AjJ fun args v h hc=>r56 pu L rfl h hc
  ·exact Aw (tabs:=tabs) (f:=m57 pu L) Fb hm hcall AjK fun args v h hc=>r57 pu L rfl h hc
  ·exact Aw (tabs:=tabs) (f:=m61 pu L) Fb hm hcall AjL fun args v h hc=>r61 pu L rfl h hc
  ·exact Aw (tabs:=tabs) (f:=m76 pu L) Fb hm hcall AjM fun args v h hc=>r76 pu L rfl h hc
  ·exact Aw (tabs:=tabs) (f:=m82 pu L) Fb hm hcall AjN fun args v h hc=>r82 pu L rfl h hc
  ·exact Aw (tabs:=tabs) (f:=m99 pu L) Fb hm hcall AjO fun args v h hc=>r99 pu L rfl h hc
  ·exact Aw (tabs:=tabs) (f:=rO pu L) Fb hm hcall wS fun args v h hc=>Alz pu L rfl h hc
  ·exact Aw (tabs:=tabs) (f:=rP pu L) Fb hm hcall wT fun args v h hc=>AlA pu L rfl h hc
  ·exact Aw (tabs:=tabs) (f:=rQ pu L) Fb hm hcall wU fun args v h hc=>AlB pu L rfl h hc
  ·exact Aw (tabs:=tabs) (f:=rR pu L) Fb hm hcall wV fun args v h hc=>AlC pu L rfl h hc
  ·exact Aw (tabs:=tabs) (f:=rT pu L) Fb hm hcall wW fun args v h hc=>AlD pu L rfl h hc
  ·exact Aw (tabs:=tabs) (f:=WJ pu L) Fb hm hcall wZ fun args v h hc=>AlE pu L rfl h hc
  ·exact Aw (tabs:=tabs) (f:=WK pu L) Fb hm hcall xA fun args v h hc=>AlF pu L rfl h hc
  ·exact Aw (tabs:=tabs) (f:=WL pu L) Fb hm hcall xB fun args v h hc=>AlG pu L rfl h hc
  ·exact Aw (tabs:=tabs) (f:=rU pu L) Fb hm hcall xC fun args v h hc=>AlH pu L rfl h hc
  ·exact Aw (tabs:=tabs) (f:=rV pu L) Fb hm hcall xD fun args v h hc=>AlI pu L rfl h hc
  ·exact Aw (tabs:=tabs) (f:=rW pu L) Fb hm hcall xE fun args v h hc=>AlJ pu L rfl h hc
  ·exact hw.1
  ·exact Aw (tabs:=tabs) (f:=WM pu L) Fb hm hcall xG fun args v h hc=>AlK pu L rfl h hc
  ·exact Aw (tabs:=tabs) (f:=rX pu L) Fb hm hcall xI fun args v h hc=>AlL pu L rfl h hc
 ·exact hw.2.1
 ·exact FD (tabs:=tabs) (f:=OT pu L) Fb hm hcall AjP fun args os z h1 h2 h3 h=>Aca pu L rfl h1 h2 h3 h
 ·exact FD (tabs:=tabs) (f:=OX pu L) Fb hm hcall xJ fun args os z h1 h2 h3 h=>Acc pu L rfl h1 h2 h3 h
 ·exact FD (tabs:=tabs) (f:=O3 pu L) Fb hm hcall xK fun args os z h1 h2 h3 h=>Ace pu L rfl h1 h2 h3 h
 ·exact FD (tabs:=tabs) (f:=O7 pu L) Fb hm hcall AjQ fun args os z h1 h2 h3 h=>Acg pu L rfl h1 h2 h3 h
 ·exact FD (tabs:=tabs) (f:=Kc pu L) Fb hm hcall xL fun args os z h1 h2 h3 h=>Aci pu L rfl h1 h2 h3 h
 ·exact FD (tabs:=tabs) (f:=Pb pu L) Fb hm hcall xM fun args os z h1 h2 h3 h=>Ack pu L rfl h1 h2 h3 h
theorem UE (hm:Tryz.prog.follows .mixedOrders=true) (hw:BA Tryz.prog tabs 165 R5∧BA Tryz.prog tabs 204 R6∧BA Tryz.prog tabs 24 V5):∀ n,(∀ g,isP g=true→BA Tryz.prog tabs g (Jf n g))∧BA Tryz.prog tabs 204 (Jf n 204)∧Cn Tryz.prog tabs 1 1 44 (Jf n 10440)∧Cn Tryz.prog tabs 4 1 103 (Jf n 11030)∧Cn Tryz.prog tabs 3 1 149 (Jf n 11490)∧Cn Tryz.prog tabs 2 0 22 (Jf n 10220)∧Cn Tryz.prog tabs 1 0 170 (Jf n 11700)∧Cn Tryz.prog tabs 2 4 252 (Jf n 12520):=fun n=>by
 induction n with
 | zero =>
  refine⟨fun g hg=>?_,?_,?_,?_,?_,?_,?_,?_⟩
  ·have hg:g∈Ug:=CS.1 hg
   simp only[Ug,List.mem_cons,List.not_mem_nil,or_false] at hg
   rcases hg with rfl | rfl | rfl | rfl | rfl | rfl | rfl | rfl | rfl | rfl | rfl | rfl | rfl | rfl | rfl | rfl | rfl | rfl | rfl | rfl | rfl | rfl | rfl | rfl | rfl | rfl | rfl | rfl | rfl
   ·exact⟨A9 fk9,fun args v h=>by cases h⟩
   ·exact⟨A9 AjC,fun args v h=>by cases h⟩
   ·exact⟨A9 AjD,fun args v h=>by cases h⟩
   ·exact⟨(hw.2.2).1,fun args v h=>by cases h⟩
   ·exact⟨A9 AjE,fun args v h=>by cases h⟩
   ·exact⟨A9 AjF,fun args v h=>by cases h⟩
   ·exact⟨A9 AjG,fun args v h=>by cases h⟩
   ·exact⟨A9 AjH,fun args v h=>by cases h⟩
   ·exact⟨A9 AjI,fun args v h=>by cases h⟩
   ·exact⟨A9 AjJ,fun args v h=>by cases h⟩
   ·exact⟨A9 AjK,fun args v h=>by cases h⟩
   ·exact⟨A9 AjL,fun args v h=>by cases h⟩
   ·exact⟨A9 AjM,fun args v h=>by cases h⟩
   ·exact⟨A9 AjN,fun args v h=>by cases h⟩
   ·exact⟨A9 AjO,fun args v h=>by cases h⟩
   ·exact⟨A9 wS,fun args v h=>by cases h⟩
   ·exact⟨A9 wT,fun args v h=>by cases h⟩
   ·exact⟨A9 wU,fun args v h=>by cases h⟩
   ·exact⟨A9 wV,fun args v h=>by cases h⟩
   ·exact⟨A9 wW,fun args v h=>by cases h⟩
   ·exact⟨A9 wZ,fun args v h=>by cases h⟩
   ·exact⟨A9 xA,fun args v h=>by cases h⟩
   ·exact⟨A9 xB,fun args v h=>by cases h⟩
   ·exact⟨A9 xC,fun args v h=>by cases h⟩
   ·exact⟨A9 xD,fun args v h=>by cases h⟩
   ·exact⟨A9 xE,fun args v h=>by cases h⟩
   ·exact⟨(hw.1).1,fun args v h=>by cases h⟩
   ·exact⟨A9 xG,fun args v h=>by cases h⟩
   ·exact⟨A9 xI,fun args v h=>by cases h⟩
  ·exact⟨(hw.2.1).1,fun args v h=>by cases h⟩
  ·exact⟨A9 AjP,fun args os z h1 h2 h3 h=>by cases h⟩
  ·exact⟨A9 xJ,fun args os z h1 h2 h3 h=>by cases h⟩
  ·exact⟨A9 xK,fun args os z h1 h2 h3 h=>by cases h⟩
  ·exact⟨A9 AjQ,fun args os z h1 h2 h3 h=>by cases h⟩
  ·exact⟨A9 xL,fun args os z h1 h2 h3 h=>by cases h⟩
  ·exact⟨A9 xM,fun args os z h1 h2 h3 h=>by cases h⟩
 | succ n ih=>exact rY hm hw ih
end
end Go.Proofs.YtflonlkiajhhjaaGreatDoor.TpF
