/- Made from wip. -/
import Derived.Test.YtflonlkiajhhjaaGreatDoorTpEPux
import Derived.Test.YtflonlkiajhhjaaGreatDoorTpEOkx
import Derived.Test.YtflonlkiajhhjaaGreatDoorSpObjx

set_option maxRecDepth 100000
namespace Go.Proofs.YtflonlkiajhhjaaGreatDoor.TpE
open Go Go.Sp Go.TpEM Go.TpE
noncomputable section
theorem fk4:Ar Tryz.prog (List.range tabs.length) 4 ⟨212,Pj,[.tmp 4]⟩:=by
 have h:c4=Pj:=by kernel_rfl
 rw[←h];exact AhC
theorem Ah5:Ar Tryz.prog (List.range tabs.length) 16 ⟨27,Pk,[.tmp 4]⟩:=by
 have h:c16=Pk:=by kernel_rfl
 rw[←h];exact vC
theorem Ah6:Ar Tryz.prog (List.range tabs.length) 17 ⟨3,UE,[.tmp 0]⟩:=by
 have h:c17=UE:=by kernel_rfl
 rw[←h];exact vD
theorem Ah7:Ar Tryz.prog (List.range tabs.length) 18 ⟨17,Pm,[.tmp 4]⟩:=by
 have h:c18=Pm:=by kernel_rfl
 rw[←h];exact vE
theorem Ah8:Ar Tryz.prog (List.range tabs.length) 19 ⟨43,Pn,[.tmp 4,.tmp 5]⟩:=by
 have h:c19=Pn:=by kernel_rfl
 rw[←h];exact vF
theorem Ah9:Ar Tryz.prog (List.range tabs.length) 20 ⟨23,Po,[.cell 4 41,.tmp 5]⟩:=by
 have h:c20=Po:=by kernel_rfl
 rw[←h];exact vG
theorem Aia:Ar Tryz.prog (List.range tabs.length) 21 ⟨34,Pp,[.tmp 6,.tmp 7]⟩:=by
 have h:c21=Pp:=by kernel_rfl
 rw[←h];exact vH
theorem Aib:Ar Tryz.prog (List.range tabs.length) 22 ⟨26,Pq,[.tmp 4]⟩:=by
 have h:c22=Pq:=by kernel_rfl
 rw[←h];exact vI
theorem Aic:Ar Tryz.prog (List.range tabs.length) 46 ⟨25,Ps,[.tmp 2]⟩:=by
 have h:c46=Ps:=by kernel_rfl
 rw[←h];exact vN
theorem Aid:Ar Tryz.prog (List.range tabs.length) 52 ⟨33,Pt,[.tmp 4,.tmp 5]⟩:=by
 have h:c52=Pt:=by kernel_rfl
 rw[←h];exact vO
theorem Aie:Ar Tryz.prog (List.range tabs.length) 53 ⟨38,PI,[.tmp 6]⟩:=by
 have h:c53=PI:=by kernel_rfl
 rw[←h];exact vP
theorem Aii:Ar Tryz.prog (List.range tabs.length) 54 ⟨16,PK,[.cell 2 99,.tmp 3]⟩:=by
 have h:c54=PK:=by kernel_rfl
 rw[←h];exact vQ
theorem Aij:Ar Tryz.prog (List.range tabs.length) 55 ⟨26,UF,[.cell 4 99]⟩:=by
 have h:c55=UF:=by kernel_rfl
 rw[←h];exact vR
theorem Ail:Ar Tryz.prog (List.range tabs.length) 56 ⟨15,UG,[.tmp 4]⟩:=by
 have h:c56=UG:=by kernel_rfl
 rw[←h];exact vS
theorem Aim:Ar Tryz.prog (List.range tabs.length) 57 ⟨8,UH,[.cell 2 41]⟩:=by
 have h:c57=UH:=by kernel_rfl
 rw[←h];exact vT
theorem Ain:Ar Tryz.prog (List.range tabs.length) 58 ⟨19,PL,[.tmp 4]⟩:=by
 have h:c58=PL:=by kernel_rfl
 rw[←h];exact vU
theorem Aio:Ar Tryz.prog (List.range tabs.length) 59 ⟨35,PM,[.tmp 6]⟩:=by
 have h:c59=PM:=by kernel_rfl
 rw[←h];exact vV
theorem Aip:Ar Tryz.prog (List.range tabs.length) 60 ⟨19,PN,[.tmp 4,.tmp 5]⟩:=by
 have h:c60=PN:=by kernel_rfl
 rw[←h];exact vW
theorem Aiq:Ar Tryz.prog (List.range tabs.length) 61 ⟨30,PO,[.cell 4 99]⟩:=by
 have h:c61=PO:=by kernel_rfl
 rw[←h];exact vX
theorem Air:Ar Tryz.prog (List.range tabs.length) 96 ⟨15,UI,[.tmp 6]⟩:=by
 have h:c96=UI:=by kernel_rfl
 rw[←h];exact vZ
theorem wC:Ar Tryz.prog (List.range tabs.length) 112 ⟨110,K6,[.tmp 2,.tmp 3]⟩:=by
 have h:X9=K6:=by kernel_rfl
 rw[←h];exact ZE
theorem wI:Ar Tryz.prog (List.range tabs.length) 113 ⟨34,K7,[.tmp 4]⟩:=by
 have h:Ya=K7:=by kernel_rfl
 rw[←h];exact ZF
theorem wJ:Ar Tryz.prog (List.range tabs.length) 114 ⟨42,K8,[.tmp 2]⟩:=by
 have h:Yb=K8:=by kernel_rfl
 rw[←h];exact ZG
theorem wK:Ar Tryz.prog (List.range tabs.length) 115 ⟨24,K9,[.cell 4 99]⟩:=by
 have h:Yc=K9:=by kernel_rfl
 rw[←h];exact ZH
theorem wL:Ar Tryz.prog (List.range tabs.length) 116 ⟨19,LJ,[.tmp 2]⟩:=by
 have h:Yd=LJ:=by kernel_rfl
 rw[←h];exact ZI
theorem wM:Ar Tryz.prog (List.range tabs.length) 119 ⟨27,LK,[.tmp 2]⟩:=by
 have h:Ye=LK:=by kernel_rfl
 rw[←h];exact ZJ
theorem wN:Ar Tryz.prog (List.range tabs.length) 121 ⟨15,PP,[.tmp 2]⟩:=by
 have h:Yf=PP:=by kernel_rfl
 rw[←h];exact ZK
theorem wO:Ar Tryz.prog (List.range tabs.length) 164 ⟨18,LM,[.cell 2 208]⟩:=by
 have h:Yg=LM:=by kernel_rfl
 rw[←h];exact ZM
theorem wP:Ar Tryz.prog (List.range tabs.length) 166 ⟨22,PQ,[.cell 4 208]⟩:=by
 have h:Yh=PQ:=by kernel_rfl
 rw[←h];exact ZO
theorem wQ:Ar Tryz.prog (List.range tabs.length) 167 ⟨22,LQ,[.tmp 2]⟩:=by
 have h:Yi=LQ:=by kernel_rfl
 rw[←h];exact ZP
theorem wR:Ar Tryz.prog (List.range tabs.length) 168 ⟨25,LU,[.tmp 2]⟩:=by
 have h:Yj=LU:=by kernel_rfl
 rw[←h];exact ZQ
theorem wS:Ar Tryz.prog (List.range tabs.length) 169 ⟨11,Qp,[.tmp 4]⟩:=by
 have h:Yk=Qp:=by kernel_rfl
 rw[←h];exact ZR
theorem Ais:Ar Tryz.prog (List.range tabs.length) 15 ⟨4,R9,[.tmp 2]⟩:=by
 have h:c15=R9:=by kernel_rfl
 rw[←h];exact vB
theorem Ait:Ar Tryz.prog (List.range tabs.length) 23 ⟨62,MH,[.tmp 4,.tmp 5,.tmp 6]⟩:=by
 have h:c23=MH:=by kernel_rfl
 rw[←h];exact vJ
theorem wT:Ar Tryz.prog (List.range tabs.length) 170 ⟨38,JN,[.tmp 2]⟩:=by
 have h:Yl=JN:=by kernel_rfl
 rw[←h];exact ZT
theorem wU:Ar Tryz.prog (List.range tabs.length) 252 ⟨32,JO,[]⟩:=by
 have h:Ym=JO:=by kernel_rfl
 rw[←h];exact bI
theorem Dy:∀ t∈tabs,t=t:=fun _ _=>rfl
theorem bJ:tabs.all (fun t=>t.all BR)=true:=by kernel_rfl
theorem DL:∀ t∈tabs,∀ x∈t,BR x=true:=fun t ht x hx=>List.all_eq_true.1 (List.all_eq_true.1 bJ t ht) x hx
theorem Uj (hm:Tryz.prog.follows .mixedOrders=true) {pu:Af} (h0:BA Tryz.prog tabs 204 (pu 204)) (hg52:BA Tryz.prog tabs 52 (pu 52)) (h1:Cn Tryz.prog tabs 1 0 15 (pu 10150)) (h2:Cn Tryz.prog tabs 2 0 23 (pu 10230)) (h3:Cn Tryz.prog tabs 1 0 170 (pu 11700)) (h4:Cn Tryz.prog tabs 2 4 252 (pu 12520)):CO Tryz.prog (List.range tabs.length) (inl pu):=fun g args H v H' h=>by
 replace h:bb (Nat.beq g 204) (Hr tabs 1 (pu 204) args H) (bb (Nat.beq g 52) (Hr tabs 1 (pu 52) args H) (bb (Nat.beq g 15) (HV tabs [[some 1]] 1 [] [] (pu 10150) args H) (bb (Nat.beq g 23) (HV tabs [[none,some 1],[none,some 1]] 2 [] [] (pu 10230) args H) (bb (Nat.beq g 170) (HV tabs [[none,none]] 1 [] [false] (pu 11700) args H) (bb (Nat.beq g 252) (HV tabs [[none],[none]] 2 [.tmp 0 true,.tmp 1 false,.cell 2 1 false,.cell 2 2 false] [true,false,false,false] (pu 12520) args H) (none))))))=some (v,H'):=h
 have hq:=Ag h;clear h;rcases hq with⟨e,h⟩ | ⟨_,h⟩
 ·obtain rfl:=Nat.eq_of_beq_eq_true e
  exact Og Dy DL h0 h
 have hq:=Ag h;clear h;rcases hq with⟨e,h⟩ | ⟨_,h⟩
 ·obtain rfl:=Nat.eq_of_beq_eq_true e
  exact Og Dy DL hg52 h
 have hq:=Ag h;clear h;rcases hq with⟨e,h⟩ | ⟨_,h⟩
 ·obtain rfl:=Nat.eq_of_beq_eq_true e
  exact K5 (rs:=[]) Dy DL h1 h
 have hq:=Ag h;clear h;rcases hq with⟨e,h⟩ | ⟨_,h⟩
 ·obtain rfl:=Nat.eq_of_beq_eq_true e
  exact K5 (rs:=[]) Dy DL h2 h
 have hq:=Ag h;clear h;rcases hq with⟨e,h⟩ | ⟨_,h⟩
 ·obtain rfl:=Nat.eq_of_beq_eq_true e
  exact K5 (rs:=[]) Dy DL h3 h
 have hq:=Ag h;clear h;rcases hq with⟨e,h⟩ | ⟨_,h⟩
 ·obtain rfl:=Nat.eq_of_beq_eq_true e
  exact K5 (rs:=[.tmp 0 true,.tmp 1 false,.cell 2 1 false,.cell 2 2 false]) Dy DL h4 h
 cases h
theorem rU (hm:Tryz.prog.follows .mixedOrders=true) (hw:BA Tryz.prog tabs 165 Qq∧BA Tryz.prog tabs 204 Qr∧BA Tryz.prog tabs 24 UV) {pu:Af} (hall:(∀ g,isP g=true→BA Tryz.prog tabs g (pu g))∧BA Tryz.prog tabs 204 (pu 204)∧BA Tryz.prog tabs 52 (pu 52)∧Cn Tryz.prog tabs 1 0 15 (pu 10150)∧Cn Tryz.prog tabs 2 0 23 (pu 10230)∧Cn Tryz.prog tabs 1 0 170 (pu 11700)∧Cn Tryz.prog tabs 2 4 252 (pu 12520)):(∀ g,isP g=true→BA Tryz.prog tabs g (Sk pu g))∧BA Tryz.prog tabs 204 (Sk pu 204)∧BA Tryz.prog tabs 52 (Sk pu 52)∧Cn Tryz.prog tabs 1 0 15 (Sk pu 10150)∧Cn Tryz.prog tabs 2 0 23 (Sk pu 10230)∧Cn Tryz.prog tabs 1 0 170 (Sk pu 11700)∧Cn Tryz.prog tabs 2 4 252 (Sk pu 12520):=by
 obtain⟨hpu,h0,hg52,h4,h5,h6,h7⟩:=hall
 have hcall:=TG (P:=Tryz.prog) (tabs:=tabs) Dy DL (Uj hm h0 hg52 h4 h5 h6 h7) hpu
 refine⟨fun g hg=>?_,?_,?_,?_,?_,?_,?_⟩
 ·have hg:g∈Sb:=CS.1 hg
  simp only[Sb,List.mem_cons,List.not_mem_nil,or_false] at hg
  rcases hg with rfl | rfl | rfl | rfl | rfl | rfl | rfl | rfl | rfl | rfl | rfl | rfl | rfl | rfl | rfl | rfl | rfl | rfl | rfl | rfl | rfl | rfl | rfl | rfl | rfl | rfl | rfl | rfl | rfl | rfl | rfl | rfl | rfl
  ·exact Aw (tabs:=tabs) (f:=m4 pu L) C8 hm hcall fk4 fun args v h hc=>r4 pu L rfl h hc
  ·exact Aw (tabs:=tabs) (f:=m16 pu L) C8 hm hcall Ah5 fun args v h hc=>r16 pu L rfl h hc
  ·exact Aw (tabs:=tabs) (f:=m17 pu L) C8 hm hcall Ah6 fun args v h hc=>r17 pu L rfl h hc
  ·exact Aw (tabs:=tabs) (f:=m18 pu L) C8 hm hcall Ah7 fun args v h hc=>r18 pu L rfl h hc
  ·exact Aw (tabs:=tabs) (f:=m19 pu L) C8 hm hcall Ah8 fun args v h hc=>r19 pu L rfl h hc
  ·exact Aw (tabs:=tabs) (f:=m20 pu L) C8 hm hcall Ah9 fun args v h hc=>r20 pu L rfl h hc
  ·exact Aw (tabs:=tabs) (f:=m21 pu L) C8 hm hcall Aia fun args v h hc=>r21 pu L rfl h hc
  ·exact Aw (tabs:=tabs) (f:=m22 pu L) C8 hm hcall Aib fun args v h hc=>r22 pu L rfl h hc
  ·exact hw.2.2
  ·exact Aw (tabs:=tabs) (f:=m46 pu L) C8 hm hcall Aic fun args v h hc=>r46 pu L rfl h hc
  ·exact Aw (tabs:=tabs) (f:=m53 pu L) C8 hm hcall Aie fun args v h hc=>r53 pu L rfl h hc
  ·exact Aw (tabs:=tabs) (f:=m54 pu L) C8 hm hcall Aii fun args v h hc=>r54 pu L rfl h hc
  ·exact Aw (tabs:=tabs) (f:=m55 pu L) C8 hm hcall Aij fun args v h hc=>r55 pu L rfl h hc
  ·exact Aw (tabs:=tabs) (f:=m56 pu L) C8 hm hcall Ail fun args v h hc=>r56 pu L rfl h hc
  ·exact Aw (tabs:=tabs) (f:=m57 pu L) C8 hm hcall Aim fun args v h hc=>r57 pu L rfl h hc
  ·exact Aw (tabs:=tabs) (f:=m58 pu L) C8 hm hcall Ain fun args v h hc=>r58 pu L rfl h hc
  ·exact Aw (tabs:=tabs) (f:=m59 pu L) C8 hm hcall Aio fun args v h hc=>r59 pu L rfl h hc
  ·exact Aw (tabs:=tabs) (f:=m60 pu L) C8 hm hcall Aip fun args v h hc=>r60 pu L rfl h hc
  ·exact Aw (tabs:=tabs) (f:=m61 pu L) C8 hm hcall Aiq fun args v h hc=>r61 pu L rfl h hc
  ·exact Aw (tabs:=tabs) (f:=m96 pu L) C8 hm hcall Air fun args v h hc=>r96 pu L rfl h hc
  ·exact Aw (tabs:=tabs) (f:=rH pu L) C8 hm hcall wC fun args v h hc=>AjG pu L rfl h hc
  ·exact Aw (tabs:=tabs) (f:=rJ pu L) C8 hm hcall wI fun args v h hc=>AjH pu L rfl h hc
  ·exact Aw (tabs:=tabs) (f:=rM pu L) C8 hm hcall wJ fun args v h hc=>AjI pu L rfl h hc
  ·exact Aw (tabs:=tabs) (f:=rO pu L) C8 hm hcall wK fun args v h hc=>AjJ pu L rfl h hc
  ·exact Aw (tabs:=tabs) (f:=WF pu L) C8 hm hcall wL fun args v h hc=>AjK pu L rfl h hc
  ·exact Aw (tabs:=tabs) (f:=WG pu L) C8 hm hcall wM fun args v h hc=>AjL pu L rfl h hc
  ·exact Aw (tabs:=tabs) (f:=WH pu L) C8 hm hcall wN fun args v h hc=>AjM pu L rfl h hc
  ·exact Aw (tabs:=tabs) (f:=rP pu L) C8 hm hcall wO fun args v h hc=>AjN pu L rfl h hc
  ·exact hw.1
  ·exact Aw (tabs:=tabs) (f:=rQ pu L) C8 hm hcall wP fun args v h hc=>AjO pu L rfl h hc
  ·exact Aw (tabs:=tabs) (f:=rR pu L) C8 hm hcall wQ fun args v h hc=>AjP pu L rfl h hc
  ·exact Aw (tabs:=tabs) (f:=rT pu L) C8 hm hcall wR fun args v h hc=>AjQ pu L rfl h hc
  ·exact Aw (tabs:=tabs) (f:=WI pu L) C8 hm hcall wS fun args v h hc=>AjR pu L rfl h hc
 ·exact hw.2.1
 ·exact Aw (tabs:=tabs) (f:=m52 pu L) C8 hm hcall Aid fun args v h hc=>r52 pu L rfl h hc
 ·exact Gp (tabs:=tabs) (f:=Ng pu L) C8 hm hcall Ais fun args os z h1 h2 h3 h=>Ab0 pu L rfl h1 h2 h3 h
 ·exact Gp (tabs:=tabs) (f:=Nh pu L) C8 hm hcall Ait fun args os z h1 h2 h3 h=>Ab8 pu L rfl h1 h2 h3 h
 ·exact Gp (tabs:=tabs) (f:=Jf pu L) C8 hm hcall wT fun args os z h1 h2 h3 h=>Aca pu L rfl h1 h2 h3 h
 ·exact Gp (tabs:=tabs) (f:=Ov pu L) C8 hm hcall wU fun args os z h1 h2 h3 h=>Acc pu L rfl h1 h2 h3 h
theorem Uk (hm:Tryz.prog.follows .mixedOrders=true) (hw:BA Tryz.prog tabs 165 Qq∧BA Tryz.prog tabs 204 Qr∧BA Tryz.prog tabs 24 UV):∀ n,(∀ g,isP g=true→BA Tryz.prog tabs g (I8 n g))∧BA Tryz.prog tabs 204 (I8 n 204)∧BA Tryz.prog tabs 52 (I8 n 52)∧Cn Tryz.prog tabs 1 0 15 (I8 n 10150)∧Cn Tryz.prog tabs 2 0 23 (I8 n 10230)∧Cn Tryz.prog tabs 1 0 170 (I8 n 11700)∧Cn Tryz.prog tabs 2 4 252 (I8 n 12520):=fun n=>by
 induction n with
 | zero =>
  refine⟨fun g hg=>?_,?_,?_,?_,?_,?_,?_⟩
  ·have hg:g∈Sb:=CS.1 hg
   simp only[Sb,List.mem_cons,List.not_mem_nil,or_false] at hg
   rcases hg with rfl | rfl | rfl | rfl | rfl | rfl | rfl | rfl | rfl | rfl | rfl | rfl | rfl | rfl | rfl | rfl | rfl | rfl | rfl | rfl | rfl | rfl | rfl | rfl | rfl | rfl | rfl | rfl | rfl | rfl | rfl | rfl | rfl
   ·exact⟨A9 fk4,fun args v h=>by cases h⟩
   ·exact⟨A9 Ah5,fun args v h=>by cases h⟩
   ·exact⟨A9 Ah6,fun args v h=>by cases h⟩
   ·exact⟨A9 Ah7,fun args v h=>by cases h⟩
   ·exact⟨A9 Ah8,fun args v h=>by cases h⟩
   ·exact⟨A9 Ah9,fun args v h=>by cases h⟩
   ·exact⟨A9 Aia,fun args v h=>by cases h⟩
   ·exact⟨A9 Aib,fun args v h=>by cases h⟩
   ·exact⟨(hw.2.2).1,fun args v h=>by cases h⟩
   ·exact⟨A9 Aic,fun args v h=>by cases h⟩
   ·exact⟨A9 Aie,fun args v h=>by cases h⟩
   ·exact⟨A9 Aii,fun args v h=>by cases h⟩
   ·exact⟨A9 Aij,fun args v h=>by cases h⟩
   ·exact⟨A9 Ail,fun args v h=>by cases h⟩
   ·exact⟨A9 Aim,fun args v h=>by cases h⟩
   ·exact⟨A9 Ain,fun args v h=>by cases h⟩
   ·exact⟨A9 Aio,fun args v h=>by cases h⟩
   ·exact⟨A9 Aip,fun args v h=>by cases h⟩
   ·exact⟨A9 Aiq,fun args v h=>by cases h⟩
   ·exact⟨A9 Air,fun args v h=>by cases h⟩
   ·exact⟨A9 wC,fun args v h=>by cases h⟩
   ·exact⟨A9 wI,fun args v h=>by cases h⟩
   ·exact⟨A9 wJ,fun args v h=>by cases h⟩
   ·exact⟨A9 wK,fun args v h=>by cases h⟩
   ·exact⟨A9 wL,fun args v h=>by cases h⟩
   ·exact⟨A9 wM,fun args v h=>by cases h⟩
   ·exact⟨A9 wN,fun args v h=>by cases h⟩
   ·exact⟨A9 wO,fun args v h=>by cases h⟩
   ·exact⟨(hw.1).1,fun args v h=>by cases h⟩
   ·exact⟨A9 wP,fun args v h=>by cases h⟩
   ·exact⟨A9 wQ,fun args v h=>by cases h⟩
   ·exact⟨A9 wR,fun args v h=>by cases h⟩
   ·exact⟨A9 wS,fun args v h=>by cases h⟩
  ·exact⟨(hw.2.1).1,fun args v h=>by cases h⟩
  ·exact⟨A9 Aid,fun args v h=>by cases h⟩
  ·exact⟨A9 Ais,fun args os z h1 h2 h3 h=>by cases h⟩
  ·exact⟨A9 Ait,fun args os z h1 h2 h3 h=>by cases h⟩
  ·exact⟨A9 wT,fun args os z h1 h2 h3 h=>by cases h⟩
  ·exact⟨A9 wU,fun args os z h1 h2 h3 h=>by cases h⟩
 | succ n ih=>exact rU hm hw ih
end
end Go.Proofs.YtflonlkiajhhjaaGreatDoor.TpE
