/- Made from wip. -/
import Derived.Test.YtlgmapibifphaaaDoorMdFMod0x

set_option maxRecDepth 100000
set_option maxHeartbeats 20000000
set_option linter.unusedVariables false
namespace Go.MdFM
open Go.Sp Go.MdF
noncomputable section
def m9_2 (pu:PureF) (n:Nat) (b0:Bool):OV:=
 (some (.bool b0))
def m9_1 (pu:PureF) (n:Nat) (z0:Int) (s0:Sl) (b0:Bool) (z1:Int) (s1 s2:Sl):OV:=
 (bb b0 (some (.bool false)) (bb (nt (ieq z0 (0:Int))) (oo (pu 12 []) none fun v0=>(oo (vBool v0) none fun b1=>(m9_2 pu n b1))) (oo (pu 35 [(.agg ⟨[.int .i64 z1,Sl.v 1 s1,Sl.v 1 s2]⟩),(Sl.v 2 s0)]) none fun v0=>(oo (toI .i64 v0) none fun x0=>(bb (ieq x0 (0:Int)) (oo (pu 12 []) none fun v1=>(oo (vBool v1) none fun b2=>(m9_2 pu n b2))) (m9_2 pu n false))))))
def m9_0 (pu:PureF) (n:Nat) (s24:Sl) (b25:Bool) (z26:Int) (s27 s28:Sl):OV:=
 (bb b25 (oo (pu 12 []) none fun v34=>(oo (vBool v34) none fun b36=>(some (.bool b36)))) (oo (pu 29 [(.agg ⟨[.int .i64 z26,Sl.v 1 s27,Sl.v 1 s28]⟩)]) none fun v48=>(oo (vTup v48) none fun l50=>(ll l50 none fun v52 l50=>(ll l50 none fun v53 l50=>(ll l50 (oo (toI .i64 v52) none fun x54=>(oo (toI .i64 v53) none fun x56=>(oo (pu 32 [(.agg ⟨[.int .i64 z26,Sl.v 1 s27,Sl.v 1 s28]⟩)]) none fun v68=>(oo (vTup v68) none fun l70=>(ll l70 none fun v72 l70=>(ll l70 none fun v73 l70=>(ll l70 (oo (toI .i64 v72) none fun x74=>(oo (toI .i64 v73) none fun x76=>(oo (pu 33 [(.agg ⟨[.int .i64 z26,Sl.v 1 s27,Sl.v 1 s28]⟩)]) none fun v88=>(oo (vTup v88) none fun l90=>(ll l90 none fun v92 l90=>(ll l90 none fun v93 l90=>(ll l90 (oo (toSl 2 v92) none fun s94=>(oo (toI .i64 v93) none fun x96=>(bb (nt (ieq x54 x74)) (m9_1 pu n x76 s94 true z26 s27 s28) (bb (nt (ieq x56 x76)) (m9_1 pu n x76 s94 true z26 s27 s28) (bb (nt (ieq x96 x76)) (m9_1 pu n x76 s94 true z26 s27 s28) (bb (nt (ieq (Int.ofNat (Sl.n s94)) x74)) (m9_1 pu n x76 s94 true z26 s27 s28) (oo (pu 34 [(.agg ⟨[.int .i64 z26,Sl.v 1 s27,Sl.v 1 s28]⟩),(Sl.v 2 s24)]) none fun v0=>(oo (toI .i64 v0) none fun x0=>(oo (pu 35 [(.agg ⟨[.int .i64 z26,Sl.v 1 s27,Sl.v 1 s28]⟩),(Sl.v 2 s24)]) none fun v1=>(oo (toI .i64 v1) none fun x1=>(m9_1 pu n x76 s94 (nt (ieq x0 x1)) z26 s27 s28))))))))))) fun _ _=>none))))))) fun _ _=>none))))))) fun _ _=>none))))))
def m9_ (pu:PureF) (n:Nat) (x6:Int) (s8 s10 s12:Sl):OV:=
 (oo (pu 11 [(.agg ⟨[.int .i64 x6,Sl.v 1 s8,Sl.v 1 s10]⟩)]) none fun v0=>(oo (vBool v0) none fun b0=>(bb b0 (m9_0 pu n s12 true x6 s8 s10) (m9_0 pu n s12 (ilt (40:Int) (Int.ofNat (Sl.n s12))) x6 s8 s10))))
def m9 (pu:PureF) (n:Nat) (args:LV):OV:=
 (ll args none fun a0 args=>(ll args none fun a1 args=>(ll args (oo (vAgg a0) none fun l1=>(ll l1 none fun v3 l1=>(ll l1 none fun v4 l1=>(ll l1 none fun v5 l1=>(ll l1 (oo (toI .i64 v3) none fun x6=>(oo (toSl 1 v4) none fun s8=>(oo (toSl 1 v5) none fun s10=>(oo (toSl 2 a1) none fun s12=>(m9_ pu n x6 s8 s10 s12))))) fun _ _=>none))))) fun _ _=>none)))
theorem w9_2 (pu:PureF) (n:Nat) (b0:Bool) {v:Value} (hm:m9_2 pu n b0 = some v):Run tt (callP tabs isP pu (inl pu)) 1 .ret (fr 75 [(4,zB b0)]) (hp 1 [(oT tab0)]) (Fin tt 1 [.tmp 4] v):=by
 unfold m9_2 at hm
 refine .ret ?_
 exact fin_ret (zB b0) (by kernel_rfl) (by kernel_rfl) hm
theorem r9 {call:CallF} (pu:PureF) (n:Nat) (hcall:call = callP tabs isP pu (inl pu)) {args:LV} {v:Value} (hm:m9 pu n args = some v) (_:∀ x ∈ args,closed2 x = true):args.length≤75∧Run tt call 1 c9_23 (Fr.made 75 args) (pureHeap tabs) (Fin tt 1 [.tmp 4] v):=by
 subst hcall
 unfold m9 at hm
 replace hm:=ll_uncons hm;obtain ⟨a0,args_0,rfl,hm⟩:=hm
 replace hm:=ll_uncons hm;obtain ⟨a1,args_1,rfl,hm⟩:=hm
 replace hm:=ll_end hm;obtain ⟨rfl,hm⟩:=hm
 replace hm:=inv_vAgg hm;obtain ⟨l1,rfl,hm⟩:=hm
 replace hm:=ll_uncons hm;obtain ⟨v3,l1_0,rfl,hm⟩:=hm
 replace hm:=ll_uncons hm;obtain ⟨v4,l1_1,rfl,hm⟩:=hm
 replace hm:=ll_uncons hm;obtain ⟨v5,l1_2,rfl,hm⟩:=hm
 replace hm:=ll_end hm;obtain ⟨rfl,hm⟩:=hm
 replace hm:=inv_toI hm;obtain ⟨x6,rfl,hm⟩:=hm
 replace hm:=inv_toSl hm;obtain ⟨s8,rfl,hm⟩:=hm
 replace hm:=inv_toSl hm;obtain ⟨s10,rfl,hm⟩:=hm
 replace hm:=inv_toSl hm;obtain ⟨s12,rfl,hm⟩:=hm
 unfold m9_ at hm
 refine ⟨by simp,?_⟩
 refine .same (F':=(fr 75 [(0,(.agg ⟨[zI x6,Sl.v 1 s8,Sl.v 1 s10]⟩)),(1,(Sl.v 2 s12))])) (H':=(hp 1 [(oT tab0)])) (by kernel_rfl) (by kernel_rfl) ?_
 refine .then (.rK ?_)
 refine .ghs (fr 75 [(1,(Sl.v 2 s12)),(2,pt 1 0)]) (hT 2 [(oC [zI x6,Sl.v 1 s8,Sl.v 1 s10])]) (.k0 [false] [.tmp 2 false] [1,2]) ?_
 refine .then ?_
 refine .join (v:=v) (fun y:Sl×Bool×Int×Sl×Sl=>((fr 75 [(1,(Sl.v 2 y.1)),(2,pt 1 0),(18,(zB y.2.1))]),(hT 2 [(oC [(zI y.2.2.1),(Sl.v 1 y.2.2.2.1),(Sl.v 1 y.2.2.2.2)])]))) (fun y=>m9_0 pu n y.1 y.2.1 y.2.2.1 y.2.2.2.1 y.2.2.2.2) ?_ ?_
 ·rintro ⟨s24, b25, z26, s27, s28⟩ hm
  unfold m9_0 at hm
  replace hm:=bb_cases hm;rcases hm with ⟨h29,hm⟩ | ⟨h29,hm⟩
  ·refine .ifT b25 (by kernel_rfl) h29 ?_
   refine .then ?_
   replace hm:=oo_inv hm;obtain ⟨v34,h35,hm⟩:=hm
   replace hm:=inv_vBool hm;obtain ⟨b36,rfl,hm⟩:=hm
   refine .reg (eD ((oo (pu 12 []) none fun v=>some (v,(hT 2 [(oC [zI z26,Sl.v 1 s27,Sl.v 1 s28])])))) (call_eq h35) (eE)) ?_
   refine .ghs (fr 75 [(4,zB b36)]) (hp 1 [(oT tab0)]) (.k0 [false] [] [4]) ?_
   refine .ret ?_
   exact fin_ret (zB b36) (by kernel_rfl) (by kernel_rfl) hm
  ·refine .ifF b25 (by kernel_rfl) h29 ?_
   refine .skip ?_
   refine .ghs (fr 75 [(1,(Sl.v 2 s24)),(2,pt 1 0)]) (hT 2 [(oC [zI z26,Sl.v 1 s27,Sl.v 1 s28])]) (.k0 [false] [.tmp 2 false] [1,2]) ?_
   refine .then (.rK ?_)
   refine .ghs (fr 75 [(1,(Sl.v 2 s24)),(2,pt 1 0),(5,(pt 2 0))]) (hT 3 [(oC [zI z26,Sl.v 1 s27,Sl.v 1 s28]),(oC [zI z26,Sl.v 1 s27,Sl.v 1 s28])]) (.k0 [false] [.tmp 2 false,.tmp 5 false] [1,2,5]) ?_
   refine .then ?_
   replace hm:=oo_inv hm;obtain ⟨v48,h49,hm⟩:=hm
   replace hm:=inv_vTup hm;obtain ⟨l50,rfl,hm⟩:=hm
   replace hm:=ll_uncons hm;obtain ⟨v52,l50_0,rfl,hm⟩:=hm
   replace hm:=ll_uncons hm;obtain ⟨v53,l50_1,rfl,hm⟩:=hm
   replace hm:=ll_end hm;obtain ⟨rfl,hm⟩:=hm
   replace hm:=inv_toI hm;obtain ⟨x54,rfl,hm⟩:=hm
   replace hm:=inv_toI hm;obtain ⟨x56,rfl,hm⟩:=hm
   refine .reg (eC 1 ((oo (pu 29 [(.agg ⟨[zI z26,Sl.v 1 s27,Sl.v 1 s28]⟩)]) none fun v=>some (v,(hT 3 [(oC [zI z26,Sl.v 1 s27,Sl.v 1 s28]),(oC [zI z26,Sl.v 1 s27,Sl.v 1 s28])])))) (call_eq h49) (eE)) ?_
   refine .ghs (fr 75 [(1,(Sl.v 2 s24)),(2,pt 1 0),(5,(pt 2 0)),(6,zI x54),(7,zI x56)]) (hT 3 [(oC [zI z26,Sl.v 1 s27,Sl.v 1 s28]),(oC [zI z26,Sl.v 1 s27,Sl.v 1 s28])]) (.k0 [false] [.tmp 2 false,.tmp 5 false] [1,2,5,6,7]) ?_
   refine .then ?_
   replace hm:=oo_inv hm;obtain ⟨v68,h69,hm⟩:=hm
   replace hm:=inv_vTup hm;obtain ⟨l70,rfl,hm⟩:=hm
   replace hm:=ll_uncons hm;obtain ⟨v72,l70_0,rfl,hm⟩:=hm
   replace hm:=ll_uncons hm;obtain ⟨v73,l70_1,rfl,hm⟩:=hm
   replace hm:=ll_end hm;obtain ⟨rfl,hm⟩:=hm
   replace hm:=inv_toI hm;obtain ⟨x74,rfl,hm⟩:=hm
   replace hm:=inv_toI hm;obtain ⟨x76,rfl,hm⟩:=hm
   refine .reg (eC 1 ((oo (pu 32 [(.agg ⟨[zI z26,Sl.v 1 s27,Sl.v 1 s28]⟩)]) none fun v=>some (v,(hT 3 [(oC [zI z26,Sl.v 1 s27,Sl.v 1 s28]),(oC [zI z26,Sl.v 1 s27,Sl.v 1 s28])])))) (call_eq h69) (eE)) ?_
   refine .ghs (fr 75 [(1,(Sl.v 2 s24)),(2,pt 1 0),(5,(pt 2 0)),(6,zI x54),(7,zI x56),(8,zI x74),(9,zI x76)]) (hT 3 [(oC [zI z26,Sl.v 1 s27,Sl.v 1 s28]),(oC [zI z26,Sl.v 1 s27,Sl.v 1 s28])]) (.k0 [false] [.tmp 2 false,.tmp 5 false] [1,2,5,6,7,8,9]) ?_
   refine .then ?_
   replace hm:=oo_inv hm;obtain ⟨v88,h89,hm⟩:=hm
   replace hm:=inv_vTup hm;obtain ⟨l90,rfl,hm⟩:=hm
   replace hm:=ll_uncons hm;obtain ⟨v92,l90_0,rfl,hm⟩:=hm
   replace hm:=ll_uncons hm;obtain ⟨v93,l90_1,rfl,hm⟩:=hm
   replace hm:=ll_end hm;obtain ⟨rfl,hm⟩:=hm
   replace hm:=inv_toSl hm;obtain ⟨s94,rfl,hm⟩:=hm
   replace hm:=inv_toI hm;obtain ⟨x96,rfl,hm⟩:=hm
   refine .reg (eC 1 ((oo (pu 33 [(.agg ⟨[zI z26,Sl.v 1 s27,Sl.v 1 s28]⟩)]) none fun v=>some (v,(hT 3 [(oC [zI z26,Sl.v 1 s27,Sl.v 1 s28]),(oC [zI z26,Sl.v 1 s27,Sl.v 1 s28])])))) (call_eq h89) (eE)) ?_
   refine .ghs (fr 75 [(1,(Sl.v 2 s24)),(2,pt 1 0),(5,(pt 2 0)),(6,zI x54),(7,zI x56),(8,zI x74),(9,zI x76),(10,(Sl.v 2 s94)),(11,zI x96)]) (hT 3 [(oC [zI z26,Sl.v 1 s27,Sl.v 1 s28]),(oC [zI z26,Sl.v 1 s27,Sl.v 1 s28])]) (.k0 [false] [.tmp 2 false,.tmp 5 false] [1,2,5,6,7,8,9,10,11]) ?_
   refine .then ?_
   refine .join (v:=v) (fun y:Int×Sl×Bool×Int×Sl×Sl=>((fr 75 [(5,pt 1 0),(9,(zI y.1)),(10,(Sl.v 2 y.2.1)),(63,(zB y.2.2.1))]),(hT 2 [(oC [(zI y.2.2.2.1),(Sl.v 1 y.2.2.2.2.1),(Sl.v 1 y.2.2.2.2.2)])]))) (fun y=>m9_1 pu n y.1 y.2.1 y.2.2.1 y.2.2.2.1 y.2.2.2.2.1 y.2.2.2.2.2) ?_ ?_
   ·rintro ⟨z0, s0, b0, z1, s1, s2⟩ hm
    unfold m9_1 at hm
    replace hm:=bb_cases hm;rcases hm with ⟨h0,hm⟩ | ⟨h0,hm⟩
    ·refine .ifT b0 (by kernel_rfl) h0 ?_
     refine .then (.rK ?_)
     refine .ghs (fr 75 [(4,zB false)]) (hp 1 [(oT tab0)]) (.k0 [false] [] [4]) ?_
     refine .ret ?_
     exact fin_ret (zB false) (by kernel_rfl) (by kernel_rfl) hm
    ·refine .ifF b0 (by kernel_rfl) h0 ?_
     refine .skip ?_
     refine .ghs (fr 75 [(5,pt 1 0),(9,zI z0),(10,(Sl.v 2 s0))]) (hT 2 [(oC [zI z1,Sl.v 1 s1,Sl.v 1 s2])]) (.k0 [false] [.tmp 5 false] [5,9,10]) ?_
     refine .join (v:=v) (fun y:Bool=>((fr 75 [(4,zB y)]),(hp 1 [(oT tab0)]))) (fun y=>m9_2 pu n y) ?_ ?_
     ·rintro b1 hm
      exact w9_2 pu n b1 hm
     ·replace hm := bb_cases hm; rcases hm with ⟨h1, hm⟩ | ⟨h1, hm⟩
      ·replace hm := oo_inv hm; obtain ⟨v0, h2, hm⟩ := hm
       replace hm:=oo_inv hm;obtain ⟨b2,h3,hm⟩:=hm
       obtain rfl:=vBool_some h3
       refine .reg (eC 1 (some ((zB (nt (ieq z0 (0:Int)))),(hT 2 [(oC [zI z1,Sl.v 1 s1,Sl.v 1 s2])]))) (show _ = some ((zB true),_) from (by rw [h1])) (eC 7 ((oo (pu 12 []) none fun v=>some (v,(hT 2 [(oC [zI z1,Sl.v 1 s1,Sl.v 1 s2])])))) (call_eq h2) (eE))) ?_
       exact ⟨b2,hm,(.k0 [false] [] [4])⟩
      ·replace hm := oo_inv hm; obtain ⟨v0, h2, hm⟩ := hm
       replace hm:=inv_toI hm;obtain ⟨x0,rfl,hm⟩:=hm
       replace hm:=bb_cases hm;rcases hm with ⟨h4,hm⟩ | ⟨h4,hm⟩
       ·replace hm := oo_inv hm; obtain ⟨v1, h5, hm⟩ := hm
        replace hm:=inv_vBool hm;obtain ⟨b3,rfl,hm⟩:=hm
        refine .reg (eC 1 (some ((zB (nt (ieq z0 (0:Int)))),(hT 2 [(oC [zI z1,Sl.v 1 s1,Sl.v 1 s2])]))) (show _ = some ((zB false),_) from (by rw [h1])) (eC 3 ((oo (pu 35 [(.agg ⟨[zI z1,Sl.v 1 s1,Sl.v 1 s2]⟩),(Sl.v 2 s0)]) none fun v=>some (v,(hT 2 [(oC [zI z1,Sl.v 1 s1,Sl.v 1 s2])])))) (call_eq h2) (eD (some ((zB (ieq x0 (0:Int))),(hT 2 [(oC [zI z1,Sl.v 1 s1,Sl.v 1 s2])]))) (show _ = some ((zB true),_) from (by rw [h4])) (eC 2 ((oo (pu 12 []) none fun v=>some (v,(hT 2 [(oC [zI z1,Sl.v 1 s1,Sl.v 1 s2])])))) (call_eq h5) (eE))))) ?_
        exact ⟨b3,hm,(.k0 [false] [] [4])⟩
       ·refine .reg (eC 1 (some ((zB (nt (ieq z0 (0 : Int)))), (hT 2 [(oC [zI z1, Sl.v 1 s1, Sl.v 1 s2])]))) (show _ = some ((zB false), _) from (by rw [h1])) (eC 3 ((oo (pu 35 [(.agg ⟨[zI z1, Sl.v 1 s1, Sl.v 1 s2]⟩), (Sl.v 2 s0)]) none fun v => some (v, (hT 2 [(oC [zI z1, Sl.v 1 s1, Sl.v 1 s2])])))) (call_eq h2) (eD (some ((zB (ieq x0 (0 : Int))), (hT 2 [(oC [zI z1, Sl.v 1 s1, Sl.v 1 s2])]))) (show _ = some ((zB false), _) from (by rw [h4])) (eE)))) ?_
        exact ⟨false,hm,(.k0 [false] [] [4])⟩
   ·replace hm := bb_cases hm; rcases hm with ⟨h6, hm⟩ | ⟨h6, hm⟩
    ·refine .reg (eC 2 (some ((zB (nt (ieq x54 x74))), (hT 3 [(oC [zI z26, Sl.v 1 s27, Sl.v 1 s28]), (oC [zI z26, Sl.v 1 s27, Sl.v 1 s28])]))) (show _ = some ((zB true), _) from (by rw [h6])) (eE)) ?_
     exact ⟨(x76,s94,true,z26,s27,s28),hm,(.k0 [false] [.tmp 5 false] [5,9,10,63])⟩
    ·replace hm := bb_cases hm; rcases hm with ⟨h7, hm⟩ | ⟨h7, hm⟩
     ·refine .reg (eC 2 (some ((zB (nt (ieq x54 x74))), (hT 3 [(oC [zI z26, Sl.v 1 s27, Sl.v 1 s28]), (oC [zI z26, Sl.v 1 s27, Sl.v 1 s28])]))) (show _ = some ((zB false), _) from (by rw [h6])) (eC 3 (some ((zB (nt (ieq x56 x76))), (hT 3 [(oC [zI z26, Sl.v 1 s27, Sl.v 1 s28]), (oC [zI z26, Sl.v 1 s27, Sl.v 1 s28])]))) (show _ = some ((zB true), _) from (by rw [h7])) (eE))) ?_
      exact ⟨(x76,s94,true,z26,s27,s28),hm,(.k0 [false] [.tmp 5 false] [5,9,10,63])⟩
     ·replace hm := bb_cases hm; rcases hm with ⟨h8, hm⟩ | ⟨h8, hm⟩
      ·refine .reg (eC 2 (some ((zB (nt (ieq x54 x74))), (hT 3 [(oC [zI z26, Sl.v 1 s27, Sl.v 1 s28]), (oC [zI z26, Sl.v 1 s27, Sl.v 1 s28])]))) (show _ = some ((zB false), _) from (by rw [h6])) (eC 3 (some ((zB (nt (ieq x56 x76))), (hT 3 [(oC [zI z26, Sl.v 1 s27, Sl.v 1 s28]), (oC [zI z26, Sl.v 1 s27, Sl.v 1 s28])]))) (show _ = some ((zB false), _) from (by rw [h7])) (eC 4 (some ((zB (nt (ieq x96 x76))), (hT 3 [(oC [zI z26, Sl.v 1 s27, Sl.v 1 s28]), (oC [zI z26, Sl.v 1 s27, Sl.v 1 s28])]))) (show _ = some ((zB true), _) from (by rw [h8])) (eE)))) ?_
       exact ⟨(x76,s94,true,z26,s27,s28),hm,(.k0 [false] [.tmp 5 false] [5,9,10,63])⟩
      ·replace hm := bb_cases hm; rcases hm with ⟨h9, hm⟩ | ⟨h9, hm⟩
       ·refine .reg (eC 2 (some ((zB (nt (ieq x54 x74))), (hT 3 [(oC [zI z26, Sl.v 1 s27, Sl.v 1 s28]), (oC [zI z26, Sl.v 1 s27, Sl.v 1 s28])]))) (show _ = some ((zB false), _) from (by rw [h6])) (eC 3 (some ((zB (nt (ieq x56 x76))), (hT 3 [(oC [zI z26, Sl.v 1 s27, Sl.v 1 s28]), (oC [zI z26, Sl.v 1 s27, Sl.v 1 s28])]))) (show _ = some ((zB false), _) from (by rw [h7])) (eC 4 (some ((zB (nt (ieq x96 x76))), (hT 3 [(oC [zI z26, Sl.v 1 s27, Sl.v 1 s28]), (oC [zI z26, Sl.v 1 s27, Sl.v 1 s28])]))) (show _ = some ((zB false), _) from (by rw [h8])) (eC 5 (some ((zB (nt (ieq (Int.ofNat (Sl.n s94)) x74))), (hT 3 [(oC [zI z26, Sl.v 1 s27, Sl.v 1 s28]), (oC [zI z26, Sl.v 1 s27, Sl.v 1 s28])]))) (show _ = some ((zB true), _) from (by rw [h9])) (eE))))) ?_
        exact ⟨(x76,s94,true,z26,s27,s28),hm,(.k0 [false] [.tmp 5 false] [5,9,10,63])⟩
       ·replace hm := oo_inv hm; obtain ⟨v2, h10, hm⟩ := hm
        replace hm:=inv_toI hm;obtain ⟨x1,rfl,hm⟩:=hm
        replace hm:=oo_inv hm;obtain ⟨v6,h11,hm⟩:=hm
        replace hm:=inv_toI hm;obtain ⟨x2,rfl,hm⟩:=hm
        refine .reg (eN 12 (Fr.puts (fr 75 [(1,(Sl.v 2 s24)),(2,pt 1 0),(5,(pt 2 0)),(6,zI x54),(7,zI x56),(8,zI x74),(9,zI x76),(10,(Sl.v 2 s94)),(11,zI x96)]) [(36,zI x54),(37,zI x74),(38,zB false),(39,zB false),(40,zI x56),(41,zI x76),(42,zB false),(43,zB false),(44,zB false),(45,zI x96),(46,zI x76),(47,zB false)]) (hT 3 [(oC [zI z26,Sl.v 1 s27,Sl.v 1 s28]),(oC [zI z26,Sl.v 1 s27,Sl.v 1 s28])]) (eC 2 (some ((zB (nt (ieq x54 x74))),(hT 3 [(oC [zI z26,Sl.v 1 s27,Sl.v 1 s28]),(oC [zI z26,Sl.v 1 s27,Sl.v 1 s28])]))) (show _ = some ((zB false),_) from (by rw [h6])) (eC 3 (some ((zB (nt (ieq x56 x76))),(hT 3 [(oC [zI z26,Sl.v 1 s27,Sl.v 1 s28]),(oC [zI z26,Sl.v 1 s27,Sl.v 1 s28])]))) (show _ = some ((zB false),_) from (by rw [h7])) (eC 4 (some ((zB (nt (ieq x96 x76))),(hT 3 [(oC [zI z26,Sl.v 1 s27,Sl.v 1 s28]),(oC [zI z26,Sl.v 1 s27,Sl.v 1 s28])]))) (show _ = some ((zB false),_) from (by rw [h8])) (by kernel_rfl)))) (eC 5 (some ((zB (nt (ieq (Int.ofNat (Sl.n s94)) x74))),(hT 3 [(oC [zI z26,Sl.v 1 s27,Sl.v 1 s28]),(oC [zI z26,Sl.v 1 s27,Sl.v 1 s28])]))) (show _ = some ((zB false),_) from (by rw [h9])) (eC 6 ((oo (pu 34 [(.agg ⟨[zI z26,Sl.v 1 s27,Sl.v 1 s28]⟩),(Sl.v 2 s24)]) none fun v=>some (v,(hT 3 [(oC [zI z26,Sl.v 1 s27,Sl.v 1 s28]),(oC [zI z26,Sl.v 1 s27,Sl.v 1 s28])])))) (call_eq h10) (eD ((oo (pu 35 [(.agg ⟨[zI z26,Sl.v 1 s27,Sl.v 1 s28]⟩),(Sl.v 2 s24)]) none fun v=>some (v,(hT 3 [(oC [zI z26,Sl.v 1 s27,Sl.v 1 s28]),(oC [zI z26,Sl.v 1 s27,Sl.v 1 s28])])))) (call_eq h11) (eE))))) ?_
        exact ⟨(x76,s94,(nt (ieq x1 x2)),z26,s27,s28),hm,(.k0 [false] [.tmp 5 false] [5,9,10,63])⟩
 ·replace hm := oo_inv hm; obtain ⟨v7, h12, hm⟩ := hm
  replace hm:=inv_vBool hm;obtain ⟨b4,rfl,hm⟩:=hm
  replace hm:=bb_cases hm;rcases hm with ⟨h13,hm⟩ | ⟨h13,hm⟩
  ·refine .reg (eC 1 ((oo (pu 11 [(.agg ⟨[zI x6, Sl.v 1 s8, Sl.v 1 s10]⟩)]) none fun v => some (v, (hT 2 [(oC [zI x6, Sl.v 1 s8, Sl.v 1 s10])])))) (show _ = some ((zB true), _) from (by have hz : (oo (pu 11 [(.agg ⟨[zI x6, Sl.v 1 s8, Sl.v 1 s10]⟩)]) none fun v => some (v, (hT 2 [(oC [zI x6, Sl.v 1 s8, Sl.v 1 s10])]))) = some ((zB b4), (hT 2 [(oC [zI x6, Sl.v 1 s8, Sl.v 1 s10])])) := (call_eq h12); rw [h13] at hz; exact hz)) (eE)) ?_
   exact ⟨(s12,true,x6,s8,s10),hm,(.k0 [false] [.tmp 2 false] [1,2,18])⟩
  ·refine .reg (eC 1 ((oo (pu 11 [(.agg ⟨[zI x6, Sl.v 1 s8, Sl.v 1 s10]⟩)]) none fun v => some (v, (hT 2 [(oC [zI x6, Sl.v 1 s8, Sl.v 1 s10])])))) (show _ = some ((zB false), _) from (by have hz : (oo (pu 11 [(.agg ⟨[zI x6, Sl.v 1 s8, Sl.v 1 s10]⟩)]) none fun v => some (v, (hT 2 [(oC [zI x6, Sl.v 1 s8, Sl.v 1 s10])]))) = some ((zB b4), (hT 2 [(oC [zI x6, Sl.v 1 s8, Sl.v 1 s10])])) := (call_eq h12); rw [h13] at hz; exact hz)) (eE)) ?_
   exact ⟨(s12,(ilt (40:Int) (Int.ofNat (Sl.n s12))),x6,s8,s10),hm,(.k0 [false] [.tmp 2 false] [1,2,18])⟩
def m11_0 (pu:PureF) (n:Nat) (b0:Bool):OV:=
 (some (.bool b0))
def m11_ (pu:PureF) (n:Nat) (x0:Int) (s0 s1:Sl):OV:=
 (bb (ilt (40:Int) (Int.ofNat (Sl.n s0))) (m11_0 pu n true) (m11_0 pu n (ilt (40:Int) (Int.ofNat (Sl.n s1)))))
def m11 (pu:PureF) (n:Nat) (args:LV):OV:=
 (ll args none fun a0 args=>(ll args (oo (vAgg a0) none fun l0=>(ll l0 none fun v0 l0=>(ll l0 none fun v1 l0=>(ll l0 none fun v2 l0=>(ll l0 (oo (toI .i64 v0) none fun x0=>(oo (toSl 1 v1) none fun s0=>(oo (toSl 1 v2) none fun s1=>(m11_ pu n x0 s0 s1)))) fun _ _=>none))))) fun _ _=>none))
theorem w11_0 (pu:PureF) (n:Nat) (b0:Bool) {v:Value} (hm:m11_0 pu n b0 = some v):Run tt (callP tabs isP pu (inl pu)) 1 .ret (fr 13 [(2,zB b0)]) (hp 1 [(oT tab0)]) (Fin tt 1 [.tmp 2] v):=by
 unfold m11_0 at hm
 refine .ret ?_
 exact fin_ret (zB b0) (by kernel_rfl) (by kernel_rfl) hm
theorem r11 {call:CallF} (pu:PureF) (n:Nat) (hcall:call = callP tabs isP pu (inl pu)) {args:LV} {v:Value} (hm:m11 pu n args = some v) (_:∀ x ∈ args,closed2 x = true):args.length≤13∧Run tt call 1 c11_3 (Fr.made 13 args) (pureHeap tabs) (Fin tt 1 [.tmp 2] v):=by
 subst hcall
 unfold m11 at hm
 replace hm:=ll_uncons hm;obtain ⟨a0,args_0,rfl,hm⟩:=hm
 replace hm:=ll_end hm;obtain ⟨rfl,hm⟩:=hm
 replace hm:=inv_vAgg hm;obtain ⟨l0,rfl,hm⟩:=hm
 replace hm:=ll_uncons hm;obtain ⟨v0,l204_0,rfl,hm⟩:=hm
 replace hm:=ll_uncons hm;obtain ⟨v1,l204_1,rfl,hm⟩:=hm
 replace hm:=ll_uncons hm;obtain ⟨v2,l204_2,rfl,hm⟩:=hm
 replace hm:=ll_end hm;obtain ⟨rfl,hm⟩:=hm
 replace hm:=inv_toI hm;obtain ⟨x0,rfl,hm⟩:=hm
 replace hm:=inv_toSl hm;obtain ⟨s0,rfl,hm⟩:=hm
 replace hm:=inv_toSl hm;obtain ⟨s1,rfl,hm⟩:=hm
 unfold m11_ at hm
 refine ⟨by simp,?_⟩
 refine .same (F':=(fr 13 [(0,(.agg ⟨[zI x0,Sl.v 1 s0,Sl.v 1 s1]⟩))])) (H':=(hp 1 [(oT tab0)])) (by kernel_rfl) (by kernel_rfl) ?_
 refine .then (.rK ?_)
 refine .ghs (fr 13 [(1,pt 1 0)]) (hT 2 [(oC [zI x0,Sl.v 1 s0,Sl.v 1 s1])]) (.k0 [false] [.tmp 1 false] [1]) ?_
 refine .join (v:=v) (fun y:Bool=>((fr 13 [(2,zB y)]),(hp 1 [(oT tab0)]))) (fun y=>m11_0 pu n y) ?_ ?_
 ·rintro b0 hm
  exact w11_0 pu n b0 hm
 ·replace hm := bb_cases hm; rcases hm with ⟨h0, hm⟩ | ⟨h0, hm⟩
  ·refine .reg (eC 3 (some ((zB (ilt (40 : Int) (Int.ofNat (Sl.n s0)))), (hT 2 [(oC [zI x0, Sl.v 1 s0, Sl.v 1 s1])]))) (show _ = some ((zB true), _) from (by rw [h0])) (eE)) ?_
   exact ⟨true,hm,(.k0 [false] [] [2])⟩
  ·refine .reg (eC 3 (some ((zB (ilt (40 : Int) (Int.ofNat (Sl.n s0)))), (hT 2 [(oC [zI x0, Sl.v 1 s0, Sl.v 1 s1])]))) (show _ = some ((zB false), _) from (by rw [h0])) (eE)) ?_
   exact ⟨(ilt (40:Int) (Int.ofNat (Sl.n s1))),hm,(.k0 [false] [] [2])⟩

def m29_ (pu:PureF) (n:Nat) (x0:Int) (s0 s1:Sl):OV:=
 (oo (pu 47 [(.agg ⟨[.int .i64 x0,Sl.v 1 s0,Sl.v 1 s1]⟩)]) none fun v0=>(oo (toI .i64 v0) none fun x1=>(bb (nt (ieq x1 (0:Int))) (some (.tuple ⟨[(.int .i64 (0:Int)),.int .i64 x1]⟩)) (oo (pu 44 [(.agg ⟨[.int .i64 x0,Sl.v 1 s0,Sl.v 1 s1]⟩)]) none fun v1=>(oo (toI .i64 v1) none fun x2=>(some (.tuple ⟨[.int .i64 x2,(.int .i64 (0:Int))]⟩)))))))
def m29 (pu:PureF) (n:Nat) (args:LV):OV:=
 (ll args none fun a0 args=>(ll args (oo (vAgg a0) none fun l0=>(ll l0 none fun v0 l0=>(ll l0 none fun v1 l0=>(ll l0 none fun v2 l0=>(ll l0 (oo (toI .i64 v0) none fun x0=>(oo (toSl 1 v1) none fun s0=>(oo (toSl 1 v2) none fun s1=>(m29_ pu n x0 s0 s1)))) fun _ _=>none))))) fun _ _=>none))
theorem r29 {call:CallF} (pu:PureF) (n:Nat) (hcall:call = callP tabs isP pu (inl pu)) {args:LV} {v:Value} (hm:m29 pu n args = some v) (_:∀ x ∈ args,closed2 x = true):args.length≤12∧Run tt call 1 c29_11 (Fr.made 12 args) (pureHeap tabs) (Fin tt 1 [.tmp 2,.tmp 3] v):=by
 subst hcall
 unfold m29 at hm
 replace hm:=ll_uncons hm;obtain ⟨a0,args_0,rfl,hm⟩:=hm
 replace hm:=ll_end hm;obtain ⟨rfl,hm⟩:=hm
 replace hm:=inv_vAgg hm;obtain ⟨l0,rfl,hm⟩:=hm
 replace hm:=ll_uncons hm;obtain ⟨v0,l220_0,rfl,hm⟩:=hm
 replace hm:=ll_uncons hm;obtain ⟨v1,l220_1,rfl,hm⟩:=hm
 replace hm:=ll_uncons hm;obtain ⟨v2,l220_2,rfl,hm⟩:=hm
 replace hm:=ll_end hm;obtain ⟨rfl,hm⟩:=hm
 replace hm:=inv_toI hm;obtain ⟨x0,rfl,hm⟩:=hm
 replace hm:=inv_toSl hm;obtain ⟨s0,rfl,hm⟩:=hm
 replace hm:=inv_toSl hm;obtain ⟨s1,rfl,hm⟩:=hm
 unfold m29_ at hm
 refine ⟨by simp,?_⟩
 refine .same (F':=(fr 12 [(0,(.agg ⟨[zI x0,Sl.v 1 s0,Sl.v 1 s1]⟩))])) (H':=(hp 1 [(oT tab0)])) (by kernel_rfl) (by kernel_rfl) ?_
 refine .then (.rK ?_)
 refine .ghs (fr 12 [(1,pt 1 0)]) (hT 2 [(oC [zI x0,Sl.v 1 s0,Sl.v 1 s1])]) (.k0 [false] [.tmp 1 false] [1]) ?_
 refine .then ?_
 refine .then ?_
 replace hm:=oo_inv hm;obtain ⟨v3,h0,hm⟩:=hm
 replace hm:=inv_toI hm;obtain ⟨x1,rfl,hm⟩:=hm
 refine .reg (eC 1 ((oo (pu 47 [(.agg ⟨[zI x0,Sl.v 1 s0,Sl.v 1 s1]⟩)]) none fun v=>some (v,(hT 2 [(oC [zI x0,Sl.v 1 s0,Sl.v 1 s1])])))) (call_eq h0) (eE)) ?_
 refine .ghs (fr 12 [(1,pt 1 0),(4,zI x1)]) (hT 2 [(oC [zI x0,Sl.v 1 s0,Sl.v 1 s1])]) (.k0 [false] [.tmp 1 false] [1,4]) ?_
 refine .then (.rK ?_)
 refine .ghs (fr 12 [(1,pt 1 0),(4,zI x1),(8,(zB (nt (ieq x1 (0:Int)))))]) (hT 2 [(oC [zI x0,Sl.v 1 s0,Sl.v 1 s1])]) (.k0 [false] [.tmp 1 false] [1,4,8]) ?_
 replace hm:=bb_cases hm;rcases hm with ⟨h1,hm⟩ | ⟨h1,hm⟩
 ·refine .ifT (nt (ieq x1 (0 : Int))) (by kernel_rfl) h1 ?_
  refine .then (.rK ?_)
  refine .ghs (fr 12 [(2,(zI (0:Int))),(3,zI x1)]) (hp 1 [(oT tab0)]) (.k0 [false] [] [2,3]) ?_
  refine .ret ?_
  exact fin_ret (.tuple ⟨[(zI (0:Int)),zI x1]⟩) (by kernel_rfl) (by kernel_rfl) hm
 ·refine .ifF (nt (ieq x1 (0 : Int))) (by kernel_rfl) h1 ?_
  refine .skip ?_
  refine .ghs (fr 12 [(1,pt 1 0)]) (hT 2 [(oC [zI x0,Sl.v 1 s0,Sl.v 1 s1])]) (.k0 [false] [.tmp 1 false] [1]) ?_
  refine .then ?_
  replace hm:=oo_inv hm;obtain ⟨v4,h2,hm⟩:=hm
  replace hm:=inv_toI hm;obtain ⟨x2,rfl,hm⟩:=hm
  refine .reg (eC 1 ((oo (pu 44 [(.agg ⟨[zI x0,Sl.v 1 s0,Sl.v 1 s1]⟩)]) none fun v=>some (v,(hT 2 [(oC [zI x0,Sl.v 1 s0,Sl.v 1 s1])])))) (call_eq h2) (eE)) ?_
  refine .ghs (fr 12 [(2,zI x2),(3,(zI (0:Int)))]) (hp 1 [(oT tab0)]) (.k0 [false] [] [2,3]) ?_
  refine .ret ?_
  exact fin_ret (.tuple ⟨[zI x2,(zI (0:Int))]⟩) (by kernel_rfl) (by kernel_rfl) hm

def m32_ (pu:PureF) (n:Nat) (x0:Int) (s0 s1:Sl):OV:=
 (oo (pu 49 [(.agg ⟨[.int .i64 x0,Sl.v 1 s0,Sl.v 1 s1]⟩)]) none fun v0=>(oo (toI .i64 v0) none fun x1=>(bb (nt (ieq x1 (0:Int))) (some (.tuple ⟨[(.int .i64 (0:Int)),.int .i64 x1]⟩)) (oo (pu 45 [(.agg ⟨[.int .i64 x0,Sl.v 1 s0,Sl.v 1 s1]⟩)]) none fun v1=>(oo (toI .i64 v1) none fun x2=>(some (.tuple ⟨[.int .i64 x2,(.int .i64 (0:Int))]⟩)))))))
def m32 (pu:PureF) (n:Nat) (args:LV):OV:=
 (ll args none fun a0 args=>(ll args (oo (vAgg a0) none fun l0=>(ll l0 none fun v0 l0=>(ll l0 none fun v1 l0=>(ll l0 none fun v2 l0=>(ll l0 (oo (toI .i64 v0) none fun x0=>(oo (toSl 1 v1) none fun s0=>(oo (toSl 1 v2) none fun s1=>(m32_ pu n x0 s0 s1)))) fun _ _=>none))))) fun _ _=>none))
theorem r32 {call:CallF} (pu:PureF) (n:Nat) (hcall:call = callP tabs isP pu (inl pu)) {args:LV} {v:Value} (hm:m32 pu n args = some v) (_:∀ x ∈ args,closed2 x = true):args.length≤12∧Run tt call 1 c32_11 (Fr.made 12 args) (pureHeap tabs) (Fin tt 1 [.tmp 2,.tmp 3] v):=by
 subst hcall
 unfold m32 at hm
 replace hm:=ll_uncons hm;obtain ⟨a0,args_0,rfl,hm⟩:=hm
 replace hm:=ll_end hm;obtain ⟨rfl,hm⟩:=hm
 replace hm:=inv_vAgg hm;obtain ⟨l0,rfl,hm⟩:=hm
 replace hm:=ll_uncons hm;obtain ⟨v0,l248_0,rfl,hm⟩:=hm
 replace hm:=ll_uncons hm;obtain ⟨v1,l248_1,rfl,hm⟩:=hm
 replace hm:=ll_uncons hm;obtain ⟨v2,l248_2,rfl,hm⟩:=hm
 replace hm:=ll_end hm;obtain ⟨rfl,hm⟩:=hm
 replace hm:=inv_toI hm;obtain ⟨x0,rfl,hm⟩:=hm
 replace hm:=inv_toSl hm;obtain ⟨s0,rfl,hm⟩:=hm
 replace hm:=inv_toSl hm;obtain ⟨s1,rfl,hm⟩:=hm
 unfold m32_ at hm
 refine ⟨by simp,?_⟩
 refine .same (F':=(fr 12 [(0,(.agg ⟨[zI x0,Sl.v 1 s0,Sl.v 1 s1]⟩))])) (H':=(hp 1 [(oT tab0)])) (by kernel_rfl) (by kernel_rfl) ?_
 refine .then (.rK ?_)
 refine .ghs (fr 12 [(1,pt 1 0)]) (hT 2 [(oC [zI x0,Sl.v 1 s0,Sl.v 1 s1])]) (.k0 [false] [.tmp 1 false] [1]) ?_
 refine .then ?_
 replace hm:=oo_inv hm;obtain ⟨v3,h0,hm⟩:=hm
 replace hm:=inv_toI hm;obtain ⟨x1,rfl,hm⟩:=hm
 refine .reg (eC 1 ((oo (pu 49 [(.agg ⟨[zI x0,Sl.v 1 s0,Sl.v 1 s1]⟩)]) none fun v=>some (v,(hT 2 [(oC [zI x0,Sl.v 1 s0,Sl.v 1 s1])])))) (call_eq h0) (eE)) ?_
 refine .ghs (fr 12 [(1,pt 1 0),(4,zI x1)]) (hT 2 [(oC [zI x0,Sl.v 1 s0,Sl.v 1 s1])]) (.k0 [false] [.tmp 1 false] [1,4]) ?_
 refine .then ?_
 refine .then (.rK ?_)
 refine .ghs (fr 12 [(1,pt 1 0),(4,zI x1),(8,(zB (nt (ieq x1 (0:Int)))))]) (hT 2 [(oC [zI x0,Sl.v 1 s0,Sl.v 1 s1])]) (.k0 [false] [.tmp 1 false] [1,4,8]) ?_
 replace hm:=bb_cases hm;rcases hm with ⟨h1,hm⟩ | ⟨h1,hm⟩
 ·refine .ifT (nt (ieq x1 (0 : Int))) (by kernel_rfl) h1 ?_
  refine .then (.rK ?_)
  refine .ghs (fr 12 [(2,(zI (0:Int))),(3,zI x1)]) (hp 1 [(oT tab0)]) (.k0 [false] [] [2,3]) ?_
  refine .ret ?_
  exact fin_ret (.tuple ⟨[(zI (0:Int)),zI x1]⟩) (by kernel_rfl) (by kernel_rfl) hm
 ·refine .ifF (nt (ieq x1 (0 : Int))) (by kernel_rfl) h1 ?_
  refine .skip ?_
  refine .ghs (fr 12 [(1,pt 1 0)]) (hT 2 [(oC [zI x0,Sl.v 1 s0,Sl.v 1 s1])]) (.k0 [false] [.tmp 1 false] [1]) ?_
  refine .then ?_
  replace hm:=oo_inv hm;obtain ⟨v4,h2,hm⟩:=hm
  replace hm:=inv_toI hm;obtain ⟨x2,rfl,hm⟩:=hm
  refine .reg (eC 1 ((oo (pu 45 [(.agg ⟨[zI x0,Sl.v 1 s0,Sl.v 1 s1]⟩)]) none fun v=>some (v,(hT 2 [(oC [zI x0,Sl.v 1 s0,Sl.v 1 s1])])))) (call_eq h2) (eE)) ?_
  refine .ghs (fr 12 [(2,zI x2),(3,(zI (0:Int)))]) (hp 1 [(oT tab0)]) (.k0 [false] [] [2,3]) ?_
  refine .ret ?_
  exact fin_ret (.tuple ⟨[zI x2,(zI (0:Int))]⟩) (by kernel_rfl) (by kernel_rfl) hm
def m33_0 (pu:PureF) (n n0 c0:Nat) (q0:LV):OV:=
 (bb (allL closed1 q0) (bb (an (Nat.ble (0 + n0 * 2) (len q0)) (allL closed1 (takeL (n0 * 2) (dropL 0 q0)))) (some (.tuple ⟨[(Sl.v 2 (Sl.mk n0 0 (takeL (n0 * 2) (dropL 0 q0)))),(.int .i64 (0:Int))]⟩)) none) none)
def m33_2 (pu:PureF) (n:Nat) (ih0:Nat→Nat→Sl→Int→Int→LV→OV) (n0 c0:Nat) (s0:Sl) (z0 z1:Int) (q0:LV):OV:=
 (bb (allL closed1 q0) (ih0 n0 c0 s0 z0 (wrapF .i64 (Int.add z1 (1:Int))) q0) none)
def b33_3 (pu:PureF) (n:Nat) (ih0:Nat→Nat→Sl→Int→Int→LV→OV) (ih1:Nat→Nat→Sl→Int→Sl→Int→Int→LV→OV) (n0 c0:Nat) (s0:Sl) (z0:Int) (s1:Sl) (z1 z2:Int) (q0:LV):OV:=
 (bb (allL closed1 q0) (bb (ilt z0 (Int.ofNat (Sl.n s0))) (oo (toN (wrapF .i64 (Int.sub z0 (1:Int)))) none fun k1=>(bb (an (Nat.blt k1 (Sl.n s0)) true) (oo (nthL (Sl.cs s0) (k1 * 1)) none fun v0=>(oo (toI .i64 v0) none fun x0=>(oo (toN z0) none fun k2=>(bb (an (Nat.blt k2 (Sl.n s0)) true) (oo (nthL (Sl.cs s0) (k2 * 1)) none fun v1=>(oo (toI .i64 v1) none fun x1=>(oo (toN (wrapF .i64 (Int.sub (Int.ofNat k2) (1:Int)))) none fun k3=>(bb (an (Nat.blt k3 (Sl.n s0)) true) (oo (nthL (Sl.cs s0) (k3 * 1)) none fun v2=>(oo (toI .i64 v2) none fun x2=>(bb (an (Nat.blt k2 (Sl.n s0)) true) (oo (nthL (Sl.cs s0) (k2 * 1)) none fun v3=>(oo (toI .i64 v3) none fun x3=>(bb (growC 2 16 n0 c0 1 q0) (bb (allL closed1 (appL (dropL 0 q0) [(.int .i64 (bb (ilt x1 x0) x1 x0)),(.int .i64 (bb (ilt x2 x3) x3 x2))])) (ih1 (n0 + 1) (2 * (n0 + 1) + bb false 1 0) s0 (wrapF .i64 (Int.add (Int.ofNat k2) (1:Int))) s1 z1 z2 (appL (dropL 0 q0) [(.int .i64 (bb (ilt x1 x0) x1 x0)),(.int .i64 (bb (ilt x2 x3) x3 x2))])) none) none))) none))) none)))) none)))) none)) (m33_2 pu n ih0 n0 c0 s1 z1 z2 q0)) none)
def l33_3 (pu:PureF) (n:Nat) (ih0:Nat→Nat→Sl→Int→Int→LV→OV) (w:Nat):Nat→Nat→Sl→Int→Sl→Int→Int→LV→OV:=
 Nat.rec (motive:=fun _=>Nat→Nat→Sl→Int→Sl→Int→Int→LV→OV) (fun _ _ _ _ _ _ _ _=>none) (fun _ ih1=>b33_3 pu n ih0 ih1) w
def b33_1 (pu:PureF) (n:Nat) (ih0:Nat→Nat→Sl→Int→Int→LV→OV) (n0 c0:Nat) (s0:Sl) (z0 z1:Int) (q0:LV):OV:=
 (bb (allL closed1 q0) (bb (ilt z1 z0) (oo (toN z1) none fun k1=>(bb (an (Nat.blt k1 (Sl.n s0)) true) (oo (nthL (Sl.cs s0) (k1 * 1)) none fun v0=>(oo (toSl 1 v0) none fun s1=>(l33_3 pu n ih0 n n0 c0 s1 (1:Int) s0 z0 (Int.ofNat k1) q0))) none)) (m33_0 pu n n0 c0 q0)) none)
def l33_1 (pu:PureF) (n w:Nat):Nat→Nat→Sl→Int→Int→LV→OV:=
 Nat.rec (motive:=fun _=>Nat→Nat→Sl→Int→Int→LV→OV) (fun _ _ _ _ _ _=>none) (fun _ ih0=>b33_1 pu n ih0) w
def m33_ (pu:PureF) (n:Nat) (x0:Int) (s0 s1:Sl):OV:=
 (oo (pu 47 [(.agg ⟨[.int .i64 x0,Sl.v 1 s0,Sl.v 1 s1]⟩)]) none fun v0=>(oo (toI .i64 v0) none fun x1=>(bb (nt (ieq x1 (0:Int))) (some (.tuple ⟨[(Sl.v 2 (Sl.mk 0 2 [])),.int .i64 x1]⟩)) (oo (pu 48 [(.agg ⟨[.int .i64 x0,Sl.v 1 s0,Sl.v 1 s1]⟩)]) none fun v1=>(oo (toSl 1 v1) none fun s2=>(l33_1 pu n n 0 0 s2 (Int.ofNat (Sl.n s2)) (0:Int) ([]:LV)))))))
def m33 (pu:PureF) (n:Nat) (args:LV):OV:=
 (ll args none fun a0 args=>(ll args (oo (vAgg a0) none fun l0=>(ll l0 none fun v0 l0=>(ll l0 none fun v1 l0=>(ll l0 none fun v2 l0=>(ll l0 (oo (toI .i64 v0) none fun x0=>(oo (toSl 1 v1) none fun s0=>(oo (toSl 1 v2) none fun s1=>(m33_ pu n x0 s0 s1)))) fun _ _=>none))))) fun _ _=>none))
theorem w33_0 (pu:PureF) (n n0 c0:Nat) (q0:LV) {v:Value} (hm:m33_0 pu n n0 c0 q0 = some v):Run tt (callP tabs isP pu (inl pu)) 1 c33_35 (fr 53 [(5,sc 1 0 2 n0 c0)]) (hT 2 [oC q0]) (Fin tt 1 [.tmp 2,.tmp 3] v):=by
 unfold m33_0 at hm
 refine .then (.rK ?_)
 replace hm:=bb_inv hm;obtain ⟨h0,hm⟩:=hm
 refine .ghs (fr 53 [(2,sc 1 0 2 n0 c0),(3,(zI (0:Int)))]) (hT 2 [oC q0]) (.k [1] [false] [.tmp 2 false] [2,3] ⟨trF h0,trivial⟩) ?_
 replace hm:=bb_inv hm;obtain ⟨h1,hm⟩:=hm
 refine .ghs (Fr.puts (fr 53 [(2,sc 1 0 2 n0 c0),(3,(zI (0:Int)))]) [(2,(Sl.v 2 (Sl.mk n0 0 (takeL (n0 * 2) (dropL 0 q0)))))]) (hT 2 [.dead]) (.freezeC 1 2 2 (an (Nat.ble (0 + n0 * 2) (len q0)) (allL closed1 (takeL (n0 * 2) (dropL 0 q0)))) (F1:=(Fr.puts (fr 53 [(2,sc 1 0 2 n0 c0),(3,(zI (0:Int)))]) [(2,(Sl.v 2 (Sl.mk n0 0 (takeL (n0 * 2) (dropL 0 q0)))))])) (H1:=(hT 2 [.dead])) (by kernel_rfl) (by kernel_rfl) h1 (GhS.id _ _)) ?_
 refine .ret ?_
 exact fin_ret (.tuple ⟨[(Sl.v 2 (Sl.mk n0 0 (takeL (n0 * 2) (dropL 0 q0)))),(zI (0:Int))]⟩) (by kernel_rfl) (by kernel_rfl) hm
theorem r33 {call:CallF} (pu:PureF) (n:Nat) (hcall:call = callP tabs isP pu (inl pu)) {args:LV} {v:Value} (hm:m33 pu n args = some v) (_:∀ x ∈ args,closed2 x = true):args.length≤53∧Run tt call 1 c33_39 (Fr.made 53 args) (pureHeap tabs) (Fin tt 1 [.tmp 2,.tmp 3] v):=by
 subst hcall
 unfold m33 at hm
 replace hm:=ll_uncons hm;obtain ⟨a0,args_0,rfl,hm⟩:=hm
 replace hm:=ll_end hm;obtain ⟨rfl,hm⟩:=hm
 replace hm:=inv_vAgg hm;obtain ⟨l0,rfl,hm⟩:=hm
 replace hm:=ll_uncons hm;obtain ⟨v0,l276_0,rfl,hm⟩:=hm
 replace hm:=ll_uncons hm;obtain ⟨v1,l276_1,rfl,hm⟩:=hm
 replace hm:=ll_uncons hm;obtain ⟨v2,l276_2,rfl,hm⟩:=hm
 replace hm:=ll_end hm;obtain ⟨rfl,hm⟩:=hm
 replace hm:=inv_toI hm;obtain ⟨x0,rfl,hm⟩:=hm
 replace hm:=inv_toSl hm;obtain ⟨s0,rfl,hm⟩:=hm
 replace hm:=inv_toSl hm;obtain ⟨s1,rfl,hm⟩:=hm
 unfold m33_ at hm
 refine ⟨by simp,?_⟩
 refine .same (F':=(fr 53 [(0,(.agg ⟨[zI x0,Sl.v 1 s0,Sl.v 1 s1]⟩))])) (H':=(hp 1 [(oT tab0)])) (by kernel_rfl) (by kernel_rfl) ?_
 refine .then (.rK ?_)
 refine .ghs (fr 53 [(1,pt 1 0)]) (hT 2 [(oC [zI x0,Sl.v 1 s0,Sl.v 1 s1])]) (.k0 [false] [.tmp 1 false] [1]) ?_
 refine .then ?_
 refine .then ?_
 replace hm:=oo_inv hm;obtain ⟨v3,h0,hm⟩:=hm
 replace hm:=inv_toI hm;obtain ⟨x1,rfl,hm⟩:=hm
 refine .reg (eC 1 ((oo (pu 47 [(.agg ⟨[zI x0,Sl.v 1 s0,Sl.v 1 s1]⟩)]) none fun v=>some (v,(hT 2 [(oC [zI x0,Sl.v 1 s0,Sl.v 1 s1])])))) (call_eq h0) (eE)) ?_
 refine .ghs (fr 53 [(1,pt 1 0),(4,zI x1)]) (hT 2 [(oC [zI x0,Sl.v 1 s0,Sl.v 1 s1])]) (.k0 [false] [.tmp 1 false] [1,4]) ?_
 refine .then (.rK ?_)
 refine .ghs (fr 53 [(1,pt 1 0),(4,zI x1),(12,(zB (nt (ieq x1 (0:Int)))))]) (hT 2 [(oC [zI x0,Sl.v 1 s0,Sl.v 1 s1])]) (.k0 [false] [.tmp 1 false] [1,4,12]) ?_
 replace hm:=bb_cases hm;rcases hm with ⟨h1,hm⟩ | ⟨h1,hm⟩
 ·refine .ifT (nt (ieq x1 (0 : Int))) (by kernel_rfl) h1 ?_
  refine .then (.rK ?_)
  refine .ghs (fr 53 [(2,(.slice none 0 0)),(3,zI x1)]) (hp 1 [(oT tab0)]) (.k0 [false] [] [2,3]) ?_
  refine .ghs (Fr.puts (fr 53 [(2,(.slice none 0 0)),(3,zI x1)]) [(2,(Sl.v 2 (Sl.mk 0 2 [])))]) (hp 1 [(oT tab0)]) (.freeze 1 2 2 (by kernel_rfl) (by kernel_rfl) (GhS.id _ _)) ?_
  refine .ret ?_
  exact fin_ret (.tuple ⟨[(Sl.v 2 (Sl.mk 0 2 [])),zI x1]⟩) (by kernel_rfl) (by kernel_rfl) hm
 ·refine .ifF (nt (ieq x1 (0 : Int))) (by kernel_rfl) h1 ?_
  refine .skip ?_
  refine .ghs (fr 53 [(1,pt 1 0)]) (hT 2 [(oC [zI x0,Sl.v 1 s0,Sl.v 1 s1])]) (.k0 [false] [.tmp 1 false] [1]) ?_
  refine .then (.rK ?_)
  refine .ghs (fr 53 [(1,pt 1 0),(5,(.slice none 0 0))]) (hT 2 [(oC [zI x0,Sl.v 1 s0,Sl.v 1 s1])]) (.k0 [false] [.tmp 1 false] [1,5]) ?_
  refine .join (v:=v) (fun y:Nat×Nat×LV=>((fr 53 [(5,(sc 1 0 2 y.1 y.2.1))]),(hT 2 [(oC y.2.2)]))) (fun y=>m33_0 pu n y.1 y.2.1 y.2.2) ?_ ?_
  ·rintro ⟨n0, c0, q0⟩ hm
   exact w33_0 pu n n0 c0 q0 hm
  ·refine .then ?_
   replace hm:=oo_inv hm;obtain ⟨v4,h2,hm⟩:=hm
   replace hm:=inv_toSl hm;obtain ⟨s2,rfl,hm⟩:=hm
   refine .reg (eC 1 ((oo (pu 48 [(.agg ⟨[zI x0,Sl.v 1 s0,Sl.v 1 s1]⟩)]) none fun v=>some (v,(hT 2 [(oC [zI x0,Sl.v 1 s0,Sl.v 1 s1])])))) (call_eq h2) (eE)) ?_
   refine .ghs (fr 53 [(5,(.slice none 0 0)),(15,Sl.v 1 s2),(16,(zI (Int.ofNat (Sl.n s2)))),(17,(zI (0:Int)))]) (hp 1 [(oT tab0)]) (.k0 [false] [] [5,15,16,17]) ?_
   refine .block ?_
   refine .loopM (v:=v) (fun y:Nat×Nat×Sl×Int×Int×LV=>((fr 53 [(5,(sc 1 0 2 y.1 y.2.1)),(15,(Sl.v 1 y.2.2.1)),(16,(zI y.2.2.2.1)),(17,(zI y.2.2.2.2.1))]),(hT 2 [(oC y.2.2.2.2.2)]))) (fun w y=>l33_1 pu n w y.1 y.2.1 y.2.2.1 y.2.2.2.1 y.2.2.2.2.1 y.2.2.2.2.2) n ⟨(0,0,s2,(Int.ofNat (Sl.n s2)),(0:Int),([]:LV)),hm,(.thaw 5 2 (by kernel_rfl) (.k0 [false] [.tmp 5 false] [5,15,16,17]))⟩ (fun _=>rfl) ?_
   rintro w0 ⟨n1,c1,s3,z0,z1,q1⟩ hm
   replace hm:b33_1 pu n (l33_1 pu n w0) n1 c1 s3 z0 z1 q1 = some v:=hm
   unfold b33_1 at hm
   refine .then (.rK ?_)
   replace hm:=bb_inv hm;obtain ⟨h3,hm⟩:=hm
   refine .ghs (fr 53 [(5,sc 1 0 2 n1 c1),(15,Sl.v 1 s3),(16,zI z0),(17,zI z1),(18,(zB (ilt z1 z0)))]) (hT 2 [oC q1]) (.k [1] [false] [.tmp 5 false] [5,15,16,17,18] ⟨trF h3,trivial⟩) ?_
   refine .then ?_
   replace hm:=bb_cases hm;rcases hm with ⟨h4,hm⟩ | ⟨h4,hm⟩
   ·refine .ifT (ilt z1 z0) (by kernel_rfl) h4 ?_
    refine .skip ?_
    refine .ghs (fr 53 [(5,sc 1 0 2 n1 c1),(15,Sl.v 1 s3),(16,zI z0),(17,zI z1)]) (hT 2 [oC q1]) (.k [1] [false] [.tmp 5 false] [5,15,16,17] ⟨trF h3,trivial⟩) ?_
    refine .join (v:=v) (fun y:Nat×Nat×Sl×Int×Int×LV=>((fr 53 [(5,(sc 1 0 2 y.1 y.2.1)),(15,(Sl.v 1 y.2.2.1)),(16,(zI y.2.2.2.1)),(17,(zI y.2.2.2.2.1))]),(hT 2 [(oC y.2.2.2.2.2)]))) (fun y=>m33_2 pu n (l33_1 pu n w0) y.1 y.2.1 y.2.2.1 y.2.2.2.1 y.2.2.2.2.1 y.2.2.2.2.2) ?_ ?_
    ·rintro ⟨n2, c2, s4, z2, z3, q2⟩ hm
     unfold m33_2 at hm
     refine .rK ?_
     replace hm:=bb_inv hm;obtain ⟨h5,hm⟩:=hm
     exact ⟨(n2,c2,s4,z2,(wrapF .i64 (Int.add z3 (1:Int))),q2),hm,(.k [1] [false] [.tmp 5 false] [5,15,16,17] ⟨trF h5,trivial⟩)⟩
    ·refine .block ?_
     refine .then ?_
     replace hm:=oo_inv hm;obtain ⟨k1,h6,hm⟩:=hm
     obtain rfl:=toN_some h6
     replace hm:=bb_inv hm;obtain ⟨h7,hm⟩:=hm
     replace hm:=oo_inv hm;obtain ⟨v5,h8,hm⟩:=hm
     replace hm:=inv_toSl hm;obtain ⟨s5,rfl,hm⟩:=hm
     refine .reg (eD (keep (hT 2 [oC q1]) (bb (an (Nat.blt k1 (Sl.n s3)) true) (some (fpV (k1 * 1) (Sl.cs s3))) none)) (keep_bb h7) (eD (keep (hT 2 [oC q1]) (nthL (Sl.cs s3) (k1 * 1))) (keep_eq h8) (eE))) ?_
     refine .ghs (fr 53 [(5,sc 1 0 2 n1 c1),(7,Sl.v 1 s5),(15,Sl.v 1 s3),(16,zI z0),(17,(zI (Int.ofNat k1)))]) (hT 2 [oC q1]) (.k [1] [false] [.tmp 5 false] [5,7,15,16,17] ⟨trF h3,trivial⟩) ?_
     refine .then (.rK ?_)
     refine .ghs (fr 53 [(5,sc 1 0 2 n1 c1),(7,Sl.v 1 s5),(8,(zI (1:Int))),(15,Sl.v 1 s3),(16,zI z0),(17,(zI (Int.ofNat k1)))]) (hT 2 [oC q1]) (.k [1] [false] [.tmp 5 false] [5,7,8,15,16,17] ⟨trF h3,trivial⟩) ?_
     refine .block ?_
     refine .loopM (v:=v) (fun y:Nat×Nat×Sl×Int×Sl×Int×Int×LV=>((fr 53 [(5,(sc 1 0 2 y.1 y.2.1)),(7,(Sl.v 1 y.2.2.1)),(8,(zI y.2.2.2.1)),(15,(Sl.v 1 y.2.2.2.2.1)),(16,(zI y.2.2.2.2.2.1)),(17,(zI y.2.2.2.2.2.2.1))]),(hT 2 [(oC y.2.2.2.2.2.2.2)]))) (fun w y=>l33_3 pu n (l33_1 pu n w0) w y.1 y.2.1 y.2.2.1 y.2.2.2.1 y.2.2.2.2.1 y.2.2.2.2.2.1 y.2.2.2.2.2.2.1 y.2.2.2.2.2.2.2) n ⟨(n1,c1,s5,(1:Int),s3,z0,(Int.ofNat k1),q1),hm,(.k [1] [false] [.tmp 5 false] [5,7,8,15,16,17] ⟨trF h3,trivial⟩)⟩ (fun _=>rfl) ?_
     rintro w1 ⟨n3,c3,s6,z4,s7,z5,z6,q3⟩ hm
     replace hm:b33_3 pu n (l33_1 pu n w0) (l33_3 pu n (l33_1 pu n w0) w1) n3 c3 s6 z4 s7 z5 z6 q3 = some v:=hm
     unfold b33_3 at hm
     refine .then ?_
     refine .then (.rK ?_)
     replace hm:=bb_inv hm;obtain ⟨h9,hm⟩:=hm
     refine .ghs (fr 53 [(5,sc 1 0 2 n3 c3),(7,Sl.v 1 s6),(8,zI z4),(15,Sl.v 1 s7),(16,zI z5),(17,zI z6),(24,(zB (ilt z4 (Int.ofNat (Sl.n s6)))))]) (hT 2 [oC q3]) (.k [1] [false] [.tmp 5 false] [5,7,8,15,16,17,24] ⟨trF h9,trivial⟩) ?_
     replace hm:=bb_cases hm;rcases hm with ⟨h10,hm⟩ | ⟨h10,hm⟩
     ·refine .ifT (ilt z4 (Int.ofNat (Sl.n s6))) (by kernel_rfl) h10 ?_
      refine .skip ?_
      refine .ghs (fr 53 [(5,sc 1 0 2 n3 c3),(7,Sl.v 1 s6),(8,zI z4),(15,Sl.v 1 s7),(16,zI z5),(17,zI z6)]) (hT 2 [oC q3]) (.k [1] [false] [.tmp 5 false] [5,7,8,15,16,17] ⟨trF h9,trivial⟩) ?_
      refine .then ?_
      refine .block ?_
      replace hm:=oo_inv hm;obtain ⟨k2,h11,hm⟩:=hm
      replace hm:=bb_inv hm;obtain ⟨h12,hm⟩:=hm
      replace hm:=oo_inv hm;obtain ⟨v6,h13,hm⟩:=hm
      replace hm:=inv_toI hm;obtain ⟨x2,rfl,hm⟩:=hm
      replace hm:=oo_inv hm;obtain ⟨k3,h14,hm⟩:=hm
      obtain rfl:=toN_some h14
      replace hm:=bb_inv hm;obtain ⟨h15,hm⟩:=hm
      replace hm:=oo_inv hm;obtain ⟨v7,h16,hm⟩:=hm
      replace hm:=inv_toI hm;obtain ⟨x3,rfl,hm⟩:=hm
      replace hm:=oo_inv hm;obtain ⟨k4,h17,hm⟩:=hm
      replace hm:=bb_inv hm;obtain ⟨h18,hm⟩:=hm
      replace hm:=oo_inv hm;obtain ⟨v8,h19,hm⟩:=hm
      replace hm:=inv_toI hm;obtain ⟨x4,rfl,hm⟩:=hm
      replace hm:=bb_inv hm;obtain ⟨h20,hm⟩:=hm
      replace hm:=oo_inv hm;obtain ⟨v9,h21,hm⟩:=hm
      replace hm:=inv_toI hm;obtain ⟨x5,rfl,hm⟩:=hm
      replace hm:=bb_inv hm;obtain ⟨h22,hm⟩:=hm
      refine .reg (eN 6 (Fr.puts (fr 53 [(5,sc 1 0 2 n3 c3),(7,Sl.v 1 s6),(8,(zI (Int.ofNat k3))),(15,Sl.v 1 s7),(16,zI z5),(17,zI z6)]) [(27,sc 1 0 2 n3 c3),(28,Sl.v 1 s6),(29,(zI (Int.ofNat k3))),(30,(zI (Int.ofNat k2))),(31,(fpV (k2 * 1) (Sl.cs s6))),(32,zI x2)]) (hT 2 [oC q3]) (eC 3 (some ((zI (wrapF .i64 (Int.sub (Int.ofNat k3) (1:Int)))),(hT 2 [oC q3]))) (show _ = some ((zI (Int.ofNat k2)),_) from (by rw [toN_some h11])) (eD (keep (hT 2 [oC q3]) (bb (an (Nat.blt k2 (Sl.n s6)) true) (some (fpV (k2 * 1) (Sl.cs s6))) none)) (keep_bb h12) (eD (keep (hT 2 [oC q3]) (nthL (Sl.cs s6) (k2 * 1))) (keep_eq h13) (by kernel_rfl)))) (eN 8 (Fr.puts (fr 53 [(5,sc 1 0 2 n3 c3),(7,Sl.v 1 s6),(8,(zI (Int.ofNat k3))),(15,Sl.v 1 s7),(16,zI z5),(17,zI z6)]) [(27,sc 1 0 2 n3 c3),(28,Sl.v 1 s6),(29,(zI (Int.ofNat k3))),(30,(zI (Int.ofNat k2))),(31,(fpV (k2 * 1) (Sl.cs s6))),(32,zI x2),(33,Sl.v 1 s6),(34,(zI (Int.ofNat k3))),(35,(fpV (k3 * 1) (Sl.cs s6))),(36,zI x3),(37,(zI (bb (ilt x3 x2) x3 x2))),(38,Sl.v 1 s6),(39,(zI (Int.ofNat k3))),(40,(zI (Int.ofNat k4)))]) (hT 2 [oC q3]) (eC 2 (keep (hT 2 [oC q3]) (bb (an (Nat.blt k3 (Sl.n s6)) true) (some (fpV (k3 * 1) (Sl.cs s6))) none)) (keep_bb h15) (eD (keep (hT 2 [oC q3]) (nthL (Sl.cs s6) (k3 * 1))) (keep_eq h16) (eC 3 (some ((zI (wrapF .i64 (Int.sub (Int.ofNat k3) (1:Int)))),(hT 2 [oC q3]))) (show _ = some ((zI (Int.ofNat k4)),_) from (by rw [toN_some h17])) (by kernel_rfl)))) (eD (keep (hT 2 [oC q3]) (bb (an (Nat.blt k4 (Sl.n s6)) true) (some (fpV (k4 * 1) (Sl.cs s6))) none)) (keep_bb h18) (eD (keep (hT 2 [oC q3]) (nthL (Sl.cs s6) (k4 * 1))) (keep_eq h19) (eC 2 (keep (hT 2 [oC q3]) (bb (an (Nat.blt k3 (Sl.n s6)) true) (some (fpV (k3 * 1) (Sl.cs s6))) none)) (keep_bb h20) (eD (keep (hT 2 [oC q3]) (nthL (Sl.cs s6) (k3 * 1))) (keep_eq h21) (eC 3 (growD 2 16 n3 c3 1 1 q3 [(zI (bb (ilt x3 x2) x3 x2)),(zI (bb (ilt x4 x5) x5 x4))] [] (hT 3 [oC q3,(oC [(zI (bb (ilt x3 x2) x3 x2)),(zI (bb (ilt x4 x5) x5 x4))])])) (growD_eq h22) (eE)))))))) ?_
      replace hm:=bb_inv hm;obtain ⟨h23,hm⟩:=hm
      refine .ghs (fr 53 [(5,(sc 1 0 2 (n3 + 1) (d2 (n3 + 1)))),(7,Sl.v 1 s6),(8,(zI (Int.ofNat k3))),(15,Sl.v 1 s7),(16,zI z5),(17,zI z6)]) (hT 2 [(oC (appL (dropL 0 q3) [(zI (bb (ilt x3 x2) x3 x2)),(zI (bb (ilt x4 x5) x5 x4))]))]) (.k [3] [false] [.tmp 5 false] [5,7,8,15,16,17] ⟨trF h23,trivial⟩) ?_
      refine .rK ?_
      exact ⟨((n3 + 1),(d2 (n3 + 1)),s6,(wrapF .i64 (Int.add (Int.ofNat k3) (1:Int))),s7,z5,z6,(appL (dropL 0 q3) [(zI (bb (ilt x3 x2) x3 x2)),(zI (bb (ilt x4 x5) x5 x4))])),hm,(.k [1] [false] [.tmp 5 false] [5,7,8,15,16,17] ⟨trF h23,trivial⟩)⟩
     ·refine .ifF (ilt z4 (Int.ofNat (Sl.n s6))) (by kernel_rfl) h10 ?_
      refine .exit ?_
      exact ⟨(n3,c3,s7,z5,z6,q3),hm,(.k [1] [false] [.tmp 5 false] [5,15,16,17] ⟨trF h9,trivial⟩)⟩
   ·refine .ifF (ilt z1 z0) (by kernel_rfl) h4 ?_
    refine .exit ?_
    exact ⟨(n1,c1,q1),hm,(.k [1] [false] [.tmp 5 false] [5] ⟨trF h3,trivial⟩)⟩
def m34_0 (pu:PureF) (n:Nat) (z0:Int) (s0 s1:Sl):OV:=
 (oo (pu 51 [(.agg ⟨[.int .i64 z0,Sl.v 1 s0,Sl.v 1 s1]⟩)]) none fun v0=>(oo (toI .u16 v0) none fun x0=>(bb (nt (ieq x0 (0:Int))) (some (.int .i64 (14:Int))) (some (.int .i64 (0:Int))))))
def b34_1 (pu:PureF) (n:Nat) (ih0:Sl→Int→Int→Int→Sl→Sl→OV) (s0:Sl) (z0 z1 z2:Int) (s1 s2:Sl):OV:=
 (bb (ilt z1 z0) (oo (toN z1) none fun k1=>(bb (an (Nat.blt k1 (Sl.n s0)) true) (bb (Nat.ble ((k1 * 2) + 2) (len (Sl.cs s0))) (oo (nthL (Sl.cs s0) (k1 * 2)) none fun v0=>(oo (toI .i64 v0) none fun x0=>(oo (nthL (Sl.cs s0) ((k1 * 2) + 1)) none fun v1=>(oo (toI .i64 v1) none fun x1=>(oo (pu 57 [(.agg ⟨[.int .i64 z2,Sl.v 1 s1,Sl.v 1 s2]⟩),.int .i64 x0,.int .i64 x1]) none fun v2=>(oo (toI .i64 v2) none fun x2=>(bb (nt (ieq x2 (0:Int))) (some (.int .i64 x2)) (oo (pu 43 [(.agg ⟨[.int .i64 z2,Sl.v 1 s1,Sl.v 1 s2]⟩),.int .i64 x0,.int .i64 x1]) none fun v3=>(oo (vAgg v3) none fun l0=>(ll l0 none fun v4 l0=>(ll l0 none fun v5 l0=>(ll l0 none fun v6 l0=>(ll l0 (oo (toI .i64 v4) none fun x3=>(oo (toSl 1 v5) none fun s3=>(oo (toSl 1 v6) none fun s4=>(ih0 s0 z0 (wrapF .i64 (Int.add (Int.ofNat k1) (1:Int))) x3 s3 s4)))) fun _ _=>none))))))))))))) none) none)) (m34_0 pu n z2 s1 s2))
def l34_1 (pu:PureF) (n w:Nat):Sl→Int→Int→Int→Sl→Sl→OV:=
 Nat.rec (motive:=fun _=>Sl→Int→Int→Int→Sl→Sl→OV) (fun _ _ _ _ _ _=>none) (fun _ ih0=>b34_1 pu n ih0) w
def m34_ (pu:PureF) (n:Nat) (x0:Int) (s0 s1 s2:Sl):OV:=
 (oo (pu 47 [(.agg ⟨[.int .i64 x0,Sl.v 1 s0,Sl.v 1 s1]⟩)]) none fun v0=>(oo (toI .i64 v0) none fun x1=>(bb (nt (ieq x1 (0:Int))) (some (.int .i64 x1)) (l34_1 pu n n s2 (Int.ofNat (Sl.n s2)) (0:Int) x0 s0 s1))))
def m34 (pu:PureF) (n:Nat) (args:LV):OV:=
 (ll args none fun a0 args=>(ll args none fun a1 args=>(ll args (oo (vAgg a0) none fun l0=>(ll l0 none fun v0 l0=>(ll l0 none fun v1 l0=>(ll l0 none fun v2 l0=>(ll l0 (oo (toI .i64 v0) none fun x0=>(oo (toSl 1 v1) none fun s0=>(oo (toSl 1 v2) none fun s1=>(oo (toSl 2 a1) none fun s2=>(m34_ pu n x0 s0 s1 s2))))) fun _ _=>none))))) fun _ _=>none)))
theorem w34_0 (pu:PureF) (n:Nat) (z0:Int) (s0 s1:Sl) {v:Value} (hm:m34_0 pu n z0 s0 s1 = some v):Run tt (callP tabs isP pu (inl pu)) 1 c34_37 (fr 39 [(2,pt 1 0)]) (hT 2 [(oC [zI z0,Sl.v 1 s0,Sl.v 1 s1])]) (Fin tt 1 [.tmp 4] v):=by
 unfold m34_0 at hm
 refine .then ?_
 refine .then ?_
 replace hm:=oo_inv hm;obtain ⟨v0,h0,hm⟩:=hm
 replace hm:=inv_toI hm;obtain ⟨x0,rfl,hm⟩:=hm
 refine .reg (eC 1 ((oo (pu 51 [(.agg ⟨[zI z0,Sl.v 1 s0,Sl.v 1 s1]⟩)]) none fun v=>some (v,(hT 2 [(oC [zI z0,Sl.v 1 s0,Sl.v 1 s1])])))) (call_eq h0) (eE)) ?_
 refine .ghs (fr 39 [(38,(zB (nt (ieq x0 (0:Int)))))]) (hp 1 [(oT tab0)]) (.k0 [false] [] [38]) ?_
 replace hm:=bb_cases hm;rcases hm with ⟨h1,hm⟩ | ⟨h1,hm⟩
 ·refine .ifT (nt (ieq x0 (0 : Int))) (by kernel_rfl) h1 ?_
  refine .then (.rK ?_)
  refine .ghs (fr 39 [(4,(zI (14:Int)))]) (hp 1 [(oT tab0)]) (.k0 [false] [] [4]) ?_
  refine .ret ?_
  exact fin_ret (zI (14:Int)) (by kernel_rfl) (by kernel_rfl) hm
 ·refine .ifF (nt (ieq x0 (0 : Int))) (by kernel_rfl) h1 ?_
  refine .skip ?_
  refine .ghs (fr 39 []) (hp 1 [(oT tab0)]) (.k0 [false] [] []) ?_
  refine .then (.rK ?_)
  refine .ghs (fr 39 [(4,(zI (0:Int)))]) (hp 1 [(oT tab0)]) (.k0 [false] [] [4]) ?_
  refine .ret ?_
  exact fin_ret (zI (0:Int)) (by kernel_rfl) (by kernel_rfl) hm
theorem r34 {call:CallF} (pu:PureF) (n:Nat) (hcall:call = callP tabs isP pu (inl pu)) {args:LV} {v:Value} (hm:m34 pu n args = some v) (_:∀ x ∈ args,closed2 x = true):args.length≤39∧Run tt call 1 c34_40 (Fr.made 39 args) (pureHeap tabs) (Fin tt 1 [.tmp 4] v):=by
 subst hcall
 unfold m34 at hm
 replace hm:=ll_uncons hm;obtain ⟨a0,args_0,rfl,hm⟩:=hm
 replace hm:=ll_uncons hm;obtain ⟨a1,args_1,rfl,hm⟩:=hm
 replace hm:=ll_end hm;obtain ⟨rfl,hm⟩:=hm
 replace hm:=inv_vAgg hm;obtain ⟨l0,rfl,hm⟩:=hm
 replace hm:=ll_uncons hm;obtain ⟨v0,l663_0,rfl,hm⟩:=hm
 replace hm:=ll_uncons hm;obtain ⟨v1,l663_1,rfl,hm⟩:=hm
 replace hm:=ll_uncons hm;obtain ⟨v2,l663_2,rfl,hm⟩:=hm
 replace hm:=ll_end hm;obtain ⟨rfl,hm⟩:=hm
 replace hm:=inv_toI hm;obtain ⟨x0,rfl,hm⟩:=hm
 replace hm:=inv_toSl hm;obtain ⟨s0,rfl,hm⟩:=hm
 replace hm:=inv_toSl hm;obtain ⟨s1,rfl,hm⟩:=hm
 replace hm:=inv_toSl hm;obtain ⟨s2,rfl,hm⟩:=hm
 unfold m34_ at hm
 refine ⟨by simp,?_⟩
 refine .same (F':=(fr 39 [(0,(.agg ⟨[zI x0,Sl.v 1 s0,Sl.v 1 s1]⟩)),(1,(Sl.v 2 s2))])) (H':=(hp 1 [(oT tab0)])) (by kernel_rfl) (by kernel_rfl) ?_
 refine .then (.rK ?_)
 refine .ghs (fr 39 [(1,(Sl.v 2 s2)),(2,pt 1 0)]) (hT 2 [(oC [zI x0,Sl.v 1 s0,Sl.v 1 s1])]) (.k0 [false] [.tmp 2 false] [1,2]) ?_
 refine .then ?_
 refine .then ?_
 replace hm:=oo_inv hm;obtain ⟨v3,h0,hm⟩:=hm
 replace hm:=inv_toI hm;obtain ⟨x1,rfl,hm⟩:=hm
 refine .reg (eC 1 ((oo (pu 47 [(.agg ⟨[zI x0,Sl.v 1 s0,Sl.v 1 s1]⟩)]) none fun v=>some (v,(hT 2 [(oC [zI x0,Sl.v 1 s0,Sl.v 1 s1])])))) (call_eq h0) (eE)) ?_
 refine .ghs (fr 39 [(1,(Sl.v 2 s2)),(2,pt 1 0),(5,zI x1)]) (hT 2 [(oC [zI x0,Sl.v 1 s0,Sl.v 1 s1])]) (.k0 [false] [.tmp 2 false] [1,2,5]) ?_
 refine .then (.rK ?_)
 refine .ghs (fr 39 [(1,(Sl.v 2 s2)),(2,pt 1 0),(5,zI x1),(12,(zB (nt (ieq x1 (0:Int)))))]) (hT 2 [(oC [zI x0,Sl.v 1 s0,Sl.v 1 s1])]) (.k0 [false] [.tmp 2 false] [1,2,5,12]) ?_
 replace hm:=bb_cases hm;rcases hm with ⟨h1,hm⟩ | ⟨h1,hm⟩
 ·refine .ifT (nt (ieq x1 (0 : Int))) (by kernel_rfl) h1 ?_
  refine .then (.rK ?_)
  refine .ghs (fr 39 [(4,zI x1)]) (hp 1 [(oT tab0)]) (.k0 [false] [] [4]) ?_
  refine .ret ?_
  exact fin_ret (zI x1) (by kernel_rfl) (by kernel_rfl) hm
 ·refine .ifF (nt (ieq x1 (0 : Int))) (by kernel_rfl) h1 ?_
  refine .skip ?_
  refine .ghs (fr 39 [(1,(Sl.v 2 s2)),(2,pt 1 0)]) (hT 2 [(oC [zI x0,Sl.v 1 s0,Sl.v 1 s1])]) (.k0 [false] [.tmp 2 false] [1,2]) ?_
  refine .join (v:=v) (fun y:Int×Sl×Sl=>((fr 39 [(2,pt 1 0)]),(hT 2 [(oC [(zI y.1),(Sl.v 1 y.2.1),(Sl.v 1 y.2.2)])]))) (fun y=>m34_0 pu n y.1 y.2.1 y.2.2) ?_ ?_
  ·rintro ⟨z0, s3, s4⟩ hm
   exact w34_0 pu n z0 s3 s4 hm
  ·refine .then (.rK ?_)
   refine .ghs (fr 39 [(2,pt 1 0),(14,(Sl.v 2 s2)),(15,(zI (Int.ofNat (Sl.n s2)))),(16,(zI (0:Int)))]) (hT 2 [(oC [zI x0,Sl.v 1 s0,Sl.v 1 s1])]) (.k0 [false] [.tmp 2 false] [2,14,15,16]) ?_
   refine .block ?_
   refine .loopM (v:=v) (fun y:Sl×Int×Int×Int×Sl×Sl=>((fr 39 [(2,pt 1 0),(14,(Sl.v 2 y.1)),(15,(zI y.2.1)),(16,(zI y.2.2.1))]),(hT 2 [(oC [(zI y.2.2.2.1),(Sl.v 1 y.2.2.2.2.1),(Sl.v 1 y.2.2.2.2.2)])]))) (fun w y=>l34_1 pu n w y.1 y.2.1 y.2.2.1 y.2.2.2.1 y.2.2.2.2.1 y.2.2.2.2.2) n ⟨(s2,(Int.ofNat (Sl.n s2)),(0:Int),x0,s0,s1),hm,(.k0 [false] [.tmp 2 false] [2,14,15,16])⟩ (fun _=>rfl) ?_
   rintro w0 ⟨s5,z1,z2,z3,s6,s7⟩ hm
   replace hm:b34_1 pu n (l34_1 pu n w0) s5 z1 z2 z3 s6 s7 = some v:=hm
   unfold b34_1 at hm
   refine .then (.rK ?_)
   refine .ghs (fr 39 [(2,pt 1 0),(14,(Sl.v 2 s5)),(15,zI z1),(16,zI z2),(17,(zB (ilt z2 z1)))]) (hT 2 [(oC [zI z3,Sl.v 1 s6,Sl.v 1 s7])]) (.k0 [false] [.tmp 2 false] [2,14,15,16,17]) ?_
   refine .then ?_
   replace hm:=bb_cases hm;rcases hm with ⟨h2,hm⟩ | ⟨h2,hm⟩
   ·refine .ifT (ilt z2 z1) (by kernel_rfl) h2 ?_
    refine .skip ?_
    refine .ghs (fr 39 [(2,pt 1 0),(14,(Sl.v 2 s5)),(15,zI z1),(16,zI z2)]) (hT 2 [(oC [zI z3,Sl.v 1 s6,Sl.v 1 s7])]) (.k0 [false] [.tmp 2 false] [2,14,15,16]) ?_
    refine .then ?_
    refine .block ?_
    refine .then ?_
    replace hm:=oo_inv hm;obtain ⟨k1,h3,hm⟩:=hm
    obtain rfl:=toN_some h3
    replace hm:=bb_inv hm;obtain ⟨h4,hm⟩:=hm
    replace hm:=bb_inv hm;obtain ⟨h5,hm⟩:=hm
    replace hm:=oo_inv hm;obtain ⟨v4,h6,hm⟩:=hm
    replace hm:=inv_toI hm;obtain ⟨x2,rfl,hm⟩:=hm
    replace hm:=oo_inv hm;obtain ⟨v5,h7,hm⟩:=hm
    replace hm:=inv_toI hm;obtain ⟨x3,rfl,hm⟩:=hm
    refine .reg (eD (keep (hT 2 [(oC [zI z3,Sl.v 1 s6,Sl.v 1 s7])]) (bb (an (Nat.blt k1 (Sl.n s5)) true) (some (fpV (k1 * 2) (Sl.cs s5))) none)) (keep_bb h4) (eD (keep (hT 2 [(oC [zI z3,Sl.v 1 s6,Sl.v 1 s7])]) (bb (Nat.ble ((k1 * 2) + 2) (len (Sl.cs s5))) (some (.agg ⟨takeL 2 (dropL (k1 * 2) (Sl.cs s5))⟩)) none)) (keep_agg h5 (takeL_cons h6 (takeL_cons h7 rfl))) (eE))) ?_
    refine .ghs (fr 39 [(2,pt 1 0),(7,(pt 2 0)),(14,(Sl.v 2 s5)),(15,zI z1),(16,(zI (Int.ofNat k1)))]) (hT 3 [(oC [zI z3,Sl.v 1 s6,Sl.v 1 s7]),(oC [zI x2,zI x3])]) (.k0 [false] [.tmp 2 false,.tmp 7 false] [2,7,14,15,16]) ?_
    refine .then ?_
    refine .then ?_
    replace hm:=oo_inv hm;obtain ⟨v6,h8,hm⟩:=hm
    replace hm:=inv_toI hm;obtain ⟨x4,rfl,hm⟩:=hm
    refine .reg (eC 5 ((oo (pu 57 [(.agg ⟨[zI z3,Sl.v 1 s6,Sl.v 1 s7]⟩),zI x2,zI x3]) none fun v=>some (v,(hT 3 [(oC [zI z3,Sl.v 1 s6,Sl.v 1 s7]),(oC [zI x2,zI x3])])))) (call_eq h8) (eE)) ?_
    refine .ghs (fr 39 [(2,pt 1 0),(7,(pt 2 0)),(8,zI x4),(14,(Sl.v 2 s5)),(15,zI z1),(16,(zI (Int.ofNat k1)))]) (hT 3 [(oC [zI z3,Sl.v 1 s6,Sl.v 1 s7]),(oC [zI x2,zI x3])]) (.k0 [false] [.tmp 2 false,.tmp 7 false] [2,7,8,14,15,16]) ?_
    refine .then (.rK ?_)
    refine .ghs (fr 39 [(2,pt 1 0),(7,(pt 2 0)),(8,zI x4),(14,(Sl.v 2 s5)),(15,zI z1),(16,(zI (Int.ofNat k1))),(27,(zB (nt (ieq x4 (0:Int)))))]) (hT 3 [(oC [zI z3,Sl.v 1 s6,Sl.v 1 s7]),(oC [zI x2,zI x3])]) (.k0 [false] [.tmp 2 false,.tmp 7 false] [2,7,8,14,15,16,27]) ?_
    replace hm:=bb_cases hm;rcases hm with ⟨h9,hm⟩ | ⟨h9,hm⟩
    ·refine .ifT (nt (ieq x4 (0 : Int))) (by kernel_rfl) h9 ?_
     refine .then (.rK ?_)
     refine .ghs (fr 39 [(4,zI x4)]) (hp 1 [(oT tab0)]) (.k0 [false] [] [4]) ?_
     refine .ret ?_
     exact fin_ret (zI x4) (by kernel_rfl) (by kernel_rfl) hm
    ·refine .ifF (nt (ieq x4 (0 : Int))) (by kernel_rfl) h9 ?_
     refine .skip ?_
     refine .ghs (fr 39 [(2,pt 1 0),(7,(pt 2 0)),(14,(Sl.v 2 s5)),(15,zI z1),(16,(zI (Int.ofNat k1)))]) (hT 3 [(oC [zI z3,Sl.v 1 s6,Sl.v 1 s7]),(oC [zI x2,zI x3])]) (.k0 [false] [.tmp 2 false,.tmp 7 false] [2,7,14,15,16]) ?_
     replace hm:=oo_inv hm;obtain ⟨v7,h10,hm⟩:=hm
     replace hm:=inv_vAgg hm;obtain ⟨l1,rfl,hm⟩:=hm
     replace hm:=ll_uncons hm;obtain ⟨v8,l818_0,rfl,hm⟩:=hm
     replace hm:=ll_uncons hm;obtain ⟨v9,l818_1,rfl,hm⟩:=hm
     replace hm:=ll_uncons hm;obtain ⟨v10,l818_2,rfl,hm⟩:=hm
     replace hm:=ll_end hm;obtain ⟨rfl,hm⟩:=hm
     replace hm:=inv_toI hm;obtain ⟨x5,rfl,hm⟩:=hm
     replace hm:=inv_toSl hm;obtain ⟨s8,rfl,hm⟩:=hm
     replace hm:=inv_toSl hm;obtain ⟨s9,rfl,hm⟩:=hm
     refine .reg (eC 5 ((oo (pu 43 [(.agg ⟨[zI z3,Sl.v 1 s6,Sl.v 1 s7]⟩),zI x2,zI x3]) none fun v=>some (v,(hT 3 [(oC [zI z3,Sl.v 1 s6,Sl.v 1 s7]),(oC [zI x2,zI x3])])))) (call_eq h10) (eE)) ?_
     refine .ghs (fr 39 [(2,pt 1 0),(14,(Sl.v 2 s5)),(15,zI z1),(16,(zI (Int.ofNat k1)))]) (hT 2 [(oC [zI x5,Sl.v 1 s8,Sl.v 1 s9])]) (.k0 [false] [.tmp 2 false] [2,14,15,16]) ?_
     refine .rK ?_
     exact ⟨(s5,z1,(wrapF .i64 (Int.add (Int.ofNat k1) (1:Int))),x5,s8,s9),hm,(.k0 [false] [.tmp 2 false] [2,14,15,16])⟩
   ·refine .ifF (ilt z2 z1) (by kernel_rfl) h2 ?_
    refine .exit ?_
    exact ⟨(z3,s6,s7),hm,(.k0 [false] [.tmp 2 false] [2])⟩
end
end Go.MdFM
