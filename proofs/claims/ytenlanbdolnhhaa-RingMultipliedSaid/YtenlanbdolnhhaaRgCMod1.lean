/- Made from wip. -/
import Derived.Test.YtenlanbdolnhhaaRgCMod0x

set_option maxRecDepth 100000
set_option maxHeartbeats 20000000
set_option linter.unusedVariables false
namespace Go.RgCM
open Go.Sp Go.RgC
noncomputable section

def m62_ (pu:PureF) (n:Nat) (x5 x7 x9:Int):OV:=
 (bb (nt (ieq x5 (0:Int))) (bb (nt (ieq x5 (0:Int))) (some (.int .i64 (Int.tmod (wrapF .i64 (Int.add (Int.tmod x9 x5) x5)) x5))) none) none)
def m62 (pu:PureF) (n:Nat) (args:LV):OV:=
 (ll args none fun a0 args=>(ll args none fun a1 args=>(ll args (oo (vAgg a0) none fun l1=>(ll l1 none fun v3 l1=>(ll l1 none fun v4 l1=>(ll l1 (oo (toI .i64 v3) none fun x5=>(oo (toI .u32 v4) none fun x7=>(oo (toI .i64 a1) none fun x9=>(m62_ pu n x5 x7 x9)))) fun _ _=>none)))) fun _ _=>none)))
theorem r62 {call:CallF} (pu:PureF) (n:Nat) (hcall:call = callP tabs isP pu (inl pu)) {args:LV} {v:Value} (hm:m62 pu n args = some v) (_:∀ x ∈ args,closed2 x = true):args.length≤15∧Run tt call 0 c62_3 (Fr.made 15 args) (pureHeap tabs) (Fin tt 0 [.tmp 4] v):=by
 subst hcall
 unfold m62 at hm
 replace hm:=ll_uncons hm;obtain ⟨a0,args_0,rfl,hm⟩:=hm
 replace hm:=ll_uncons hm;obtain ⟨a1,args_1,rfl,hm⟩:=hm
 replace hm:=ll_end hm;obtain ⟨rfl,hm⟩:=hm
 replace hm:=inv_vAgg hm;obtain ⟨l1,rfl,hm⟩:=hm
 replace hm:=ll_uncons hm;obtain ⟨v3,l1_0,rfl,hm⟩:=hm
 replace hm:=ll_uncons hm;obtain ⟨v4,l1_1,rfl,hm⟩:=hm
 replace hm:=ll_end hm;obtain ⟨rfl,hm⟩:=hm
 replace hm:=inv_toI hm;obtain ⟨x5,rfl,hm⟩:=hm
 replace hm:=inv_toI hm;obtain ⟨x7,rfl,hm⟩:=hm
 replace hm:=inv_toI hm;obtain ⟨x9,rfl,hm⟩:=hm
 unfold m62_ at hm
 refine ⟨by simp,?_⟩
 refine .same (F':=(fr 15 [(0,(.agg ⟨[zI x5,.int .u32 x7]⟩)),(1,zI x9)])) (H':=(hp 0 [])) (by kernel_rfl) (by kernel_rfl) ?_
 refine .then (.rK ?_)
 refine .ghs (fr 15 [(1,zI x9),(2,(pt 0 0))]) (hp 1 [(oC [zI x5,.int .u32 x7])]) (.k0 [] [.tmp 2 false] [1,2]) ?_
 refine .then ?_
 replace hm:=bb_inv hm;obtain ⟨h13,hm⟩:=hm
 replace hm:=bb_inv hm;obtain ⟨h14,hm⟩:=hm
 refine .reg (eC 3 (keep (hp 1 [(oC [zI x5,.int .u32 x7])]) (bb (ieq x5 (0:Int)) none (some (zI (Int.tmod x9 x5))))) (keep_nb h13) (eC 5 (keep (hp 1 [(oC [zI x5,.int .u32 x7])]) (bb (ieq x5 (0:Int)) none (some (zI (Int.tmod (wrapF .i64 (Int.add (Int.tmod x9 x5) x5)) x5))))) (keep_nb h14) (eE))) ?_
 refine .ghs (fr 15 [(4,(zI (Int.tmod (wrapF .i64 (Int.add (Int.tmod x9 x5) x5)) x5)))]) (hp 0 []) (.k0 [] [] [4]) ?_
 refine .ret ?_
 exact fin_ret (zI (Int.tmod (wrapF .i64 (Int.add (Int.tmod x9 x5) x5)) x5)) (by kernel_rfl) (by kernel_rfl) hm

def m91_ (pu:PureF) (n:Nat) (x19 x21 x23:Int):OV:=
 (oo (toN x23) none fun k27=>(some (.bool (ieq (aand .u32 (shrI .u32 x21 k27) (1:Int)) (1:Int)))))
def m91 (pu:PureF) (n:Nat) (args:LV):OV:=
 (ll args none fun a0 args=>(ll args none fun a1 args=>(ll args (oo (vAgg a0) none fun l15=>(ll l15 none fun v17 l15=>(ll l15 none fun v18 l15=>(ll l15 (oo (toI .i64 v17) none fun x19=>(oo (toI .u32 v18) none fun x21=>(oo (toI .i64 a1) none fun x23=>(m91_ pu n x19 x21 x23)))) fun _ _=>none)))) fun _ _=>none)))
theorem r91 {call:CallF} (pu:PureF) (n:Nat) (hcall:call = callP tabs isP pu (inl pu)) {args:LV} {v:Value} (hm:m91 pu n args = some v) (_:∀ x ∈ args,closed2 x = true):args.length≤11∧Run tt call 0 c91_3 (Fr.made 11 args) (pureHeap tabs) (Fin tt 0 [.tmp 4] v):=by
 subst hcall
 unfold m91 at hm
 replace hm:=ll_uncons hm;obtain ⟨a0,args_0,rfl,hm⟩:=hm
 replace hm:=ll_uncons hm;obtain ⟨a1,args_1,rfl,hm⟩:=hm
 replace hm:=ll_end hm;obtain ⟨rfl,hm⟩:=hm
 replace hm:=inv_vAgg hm;obtain ⟨l15,rfl,hm⟩:=hm
 replace hm:=ll_uncons hm;obtain ⟨v17,l15_0,rfl,hm⟩:=hm
 replace hm:=ll_uncons hm;obtain ⟨v18,l15_1,rfl,hm⟩:=hm
 replace hm:=ll_end hm;obtain ⟨rfl,hm⟩:=hm
 replace hm:=inv_toI hm;obtain ⟨x19,rfl,hm⟩:=hm
 replace hm:=inv_toI hm;obtain ⟨x21,rfl,hm⟩:=hm
 replace hm:=inv_toI hm;obtain ⟨x23,rfl,hm⟩:=hm
 unfold m91_ at hm
 refine ⟨by simp,?_⟩
 refine .same (F':=(fr 11 [(0,(.agg ⟨[zI x19,.int .u32 x21]⟩)),(1,zI x23)])) (H':=(hp 0 [])) (by kernel_rfl) (by kernel_rfl) ?_
 refine .then (.rK ?_)
 refine .ghs (fr 11 [(1,zI x23),(2,(pt 0 0))]) (hp 1 [(oC [zI x19,.int .u32 x21])]) (.k0 [] [.tmp 2 false] [1,2]) ?_
 refine .then ?_
 replace hm:=oo_inv hm;obtain ⟨k27,h28,hm⟩:=hm
 obtain rfl:=toN_some h28
 refine .rK ?_
 refine .ghs (fr 11 [(4,(zB (ieq (aand .u32 (shrI .u32 x21 k27) (1:Int)) (1:Int))))]) (hp 0 []) (.k0 [] [] [4]) ?_
 refine .ret ?_
 exact fin_ret (zB (ieq (aand .u32 (shrI .u32 x21 k27) (1:Int)) (1:Int))) (by kernel_rfl) (by kernel_rfl) hm
def m80_0 (pu:PureF) (n n78 c79:Nat) (q80:LV):OV:=
 (bb (allL closed1 q80) (bb (an (Nat.ble (0 + n78 * 1) (len q80)) (allL closed1 (takeL (n78 * 1) (dropL 0 q80)))) (some (Sl.v 1 (Sl.mk n78 0 (takeL (n78 * 1) (dropL 0 q80))))) none) none)
def m80_2 (pu:PureF) (n:Nat) (ih0:Nat→Nat→Int→Int→Int→Int→LV→OV) (n0 c0:Nat) (z0 z1 z2 z3:Int) (q1:LV):OV:=
 (bb (allL closed1 q1) (ih0 n0 c0 z0 (wrapF .i64 (Int.add z1 (1:Int))) z2 z3 q1) none)
def b80_1 (pu:PureF) (n:Nat) (ih0:Nat→Nat→Int→Int→Int→Int→LV→OV) (n83 c84:Nat) (z85 z86 z87 z88:Int) (q89:LV):OV:=
 (bb (allL closed1 q89) (bb (ilt z86 z85) (oo (pu 91 [(.agg ⟨[.int .i64 z87,.int .u32 z88]⟩),.int .i64 z86]) none fun v0=>(oo (vBool v0) none fun b0=>(bb b0 (bb (growC 1 8 n83 c84 1 q89) (bb (allL closed1 (appL (dropL 0 q89) [.int .i64 z86])) (m80_2 pu n ih0 (n83 + 1) (2 * (n83 + 1) + bb false 1 0) z85 z86 z87 z88 (appL (dropL 0 q89) [.int .i64 z86])) none) none) (m80_2 pu n ih0 n83 c84 z85 z86 z87 z88 q89)))) (m80_0 pu n n83 c84 q89)) none)
def l80_1 (pu:PureF) (n w:Nat):Nat→Nat→Int→Int→Int→Int→LV→OV:=
 Nat.rec (motive:=fun _=>Nat→Nat→Int→Int→Int→Int→LV→OV) (fun _ _ _ _ _ _ _=>none) (fun _ ih0=>b80_1 pu n ih0) w
def m80_ (pu:PureF) (n:Nat) (x33 x35:Int):OV:=
 (l80_1 pu n n 0 0 x33 (0:Int) x33 x35 ([]:LV))
def m80 (pu:PureF) (n:Nat) (args:LV):OV:=
 (ll args none fun a0 args=>(ll args (oo (vAgg a0) none fun l29=>(ll l29 none fun v31 l29=>(ll l29 none fun v32 l29=>(ll l29 (oo (toI .i64 v31) none fun x33=>(oo (toI .u32 v32) none fun x35=>(m80_ pu n x33 x35))) fun _ _=>none)))) fun _ _=>none))
theorem w80_0 (pu:PureF) (n n78 c79:Nat) (q80:LV) {v:Value} (hm:m80_0 pu n n78 c79 q80 = some v):Run tt (callP tabs isP pu (inl pu)) 0 c80_20 (fr 19 [(3,sc 0 0 1 n78 c79)]) (hp 1 [oC q80]) (Fin tt 0 [.tmp 2] v):=by
 unfold m80_0 at hm
 refine .then (.rK ?_)
 replace hm:=bb_inv hm;obtain ⟨h81,hm⟩:=hm
 refine .ghs (fr 19 [(2,sc 0 0 1 n78 c79)]) (hp 1 [oC q80]) (.k [0] [] [.tmp 2 false] [2] ⟨trF h81,trivial⟩) ?_
 replace hm:=bb_inv hm;obtain ⟨h82,hm⟩:=hm
 refine .ghs (Fr.puts (fr 19 [(2,sc 0 0 1 n78 c79)]) [(2,(Sl.v 1 (Sl.mk n78 0 (takeL (n78 * 1) (dropL 0 q80)))))]) (hp 1 [.dead]) (.freezeC 0 2 1 (an (Nat.ble (0 + n78 * 1) (len q80)) (allL closed1 (takeL (n78 * 1) (dropL 0 q80)))) (F1:=(Fr.puts (fr 19 [(2,sc 0 0 1 n78 c79)]) [(2,(Sl.v 1 (Sl.mk n78 0 (takeL (n78 * 1) (dropL 0 q80)))))])) (H1:=(hp 1 [.dead])) (by kernel_rfl) (by kernel_rfl) h82 (GhS.id _ _)) ?_
 refine .ret ?_
 exact fin_ret (Sl.v 1 (Sl.mk n78 0 (takeL (n78 * 1) (dropL 0 q80)))) (by kernel_rfl) (by kernel_rfl) hm
theorem r80 {call:CallF} (pu:PureF) (n:Nat) (hcall:call = callP tabs isP pu (inl pu)) {args:LV} {v:Value} (hm:m80 pu n args = some v) (_:∀ x ∈ args,closed2 x = true):args.length≤19∧Run tt call 0 c80_23 (Fr.made 19 args) (pureHeap tabs) (Fin tt 0 [.tmp 2] v):=by
 subst hcall
 unfold m80 at hm
 replace hm:=ll_uncons hm;obtain ⟨a0,args_0,rfl,hm⟩:=hm
 replace hm:=ll_end hm;obtain ⟨rfl,hm⟩:=hm
 replace hm:=inv_vAgg hm;obtain ⟨l29,rfl,hm⟩:=hm
 replace hm:=ll_uncons hm;obtain ⟨v31,l29_0,rfl,hm⟩:=hm
 replace hm:=ll_uncons hm;obtain ⟨v32,l29_1,rfl,hm⟩:=hm
 replace hm:=ll_end hm;obtain ⟨rfl,hm⟩:=hm
 replace hm:=inv_toI hm;obtain ⟨x33,rfl,hm⟩:=hm
 replace hm:=inv_toI hm;obtain ⟨x35,rfl,hm⟩:=hm
 unfold m80_ at hm
 refine ⟨by simp,?_⟩
 refine .same (F':=(fr 19 [(0,(.agg ⟨[zI x33,.int .u32 x35]⟩))])) (H':=(hp 0 [])) (by kernel_rfl) (by kernel_rfl) ?_
 refine .then (.rK ?_)
 refine .ghs (fr 19 [(1,(pt 0 0))]) (hp 1 [(oC [zI x33,.int .u32 x35])]) (.k0 [] [.tmp 1 false] [1]) ?_
 refine .then (.rK ?_)
 refine .ghs (fr 19 [(1,(pt 0 0)),(3,(.slice none 0 0))]) (hp 1 [(oC [zI x33,.int .u32 x35])]) (.k0 [] [.tmp 1 false] [1,3]) ?_
 refine .join (v:=v) (fun y:Nat×Nat×LV=>((fr 19 [(3,(sc 0 0 1 y.1 y.2.1))]),(hp 1 [(oC y.2.2)]))) (fun y=>m80_0 pu n y.1 y.2.1 y.2.2) ?_ ?_
 ·rintro ⟨n78, c79, q80⟩ hm
  exact w80_0 pu n n78 c79 q80 hm
 ·refine .then (.rK ?_)
  refine .ghs (fr 19 [(1,(pt 0 0)),(3,(.slice none 0 0)),(6,zI x33),(7,(zI (0:Int)))]) (hp 1 [(oC [zI x33,.int .u32 x35])]) (.k0 [] [.tmp 1 false] [1,3,6,7]) ?_
  refine .block ?_
  refine .loopM (v:=v) (fun y:Nat×Nat×Int×Int×Int×Int×LV=>((fr 19 [(1,(pt 0 0)),(3,(sc 1 0 1 y.1 y.2.1)),(6,(zI y.2.2.1)),(7,(zI y.2.2.2.1))]),(hp 2 [(oC [(zI y.2.2.2.2.1),(.int .u32 y.2.2.2.2.2.1)]),(oC y.2.2.2.2.2.2)]))) (fun w y=>l80_1 pu n w y.1 y.2.1 y.2.2.1 y.2.2.2.1 y.2.2.2.2.1 y.2.2.2.2.2.1 y.2.2.2.2.2.2) n ⟨(0,0,x33,(0:Int),x33,x35,([]:LV)),hm,(.thaw 3 1 (by kernel_rfl) (.k0 [] [.tmp 1 false,.tmp 3 false] [1,3,6,7]))⟩ (fun _=>rfl) ?_
  rintro w0 ⟨n83,c84,z85,z86,z87,z88,q89⟩ hm
  replace hm:b80_1 pu n (l80_1 pu n w0) n83 c84 z85 z86 z87 z88 q89 = some v:=hm
  unfold b80_1 at hm
  refine .then (.rK ?_)
  replace hm:=bb_inv hm;obtain ⟨h90,hm⟩:=hm
  refine .ghs (fr 19 [(1,(pt 0 0)),(3,sc 1 0 1 n83 c84),(6,zI z85),(7,zI z86),(8,(zB (ilt z86 z85)))]) (hp 2 [(oC [zI z87,.int .u32 z88]),oC q89]) (.k [1] [] [.tmp 1 false,.tmp 3 false] [1,3,6,7,8] ⟨trF h90,trivial⟩) ?_
  refine .then ?_
  replace hm:=bb_cases hm;rcases hm with ⟨h91,hm⟩ | ⟨h91,hm⟩
  ·refine .ifT (ilt z86 z85) (by kernel_rfl) h91 ?_
   refine .skip ?_
   refine .ghs (fr 19 [(1,(pt 0 0)),(3,sc 1 0 1 n83 c84),(6,zI z85),(7,zI z86)]) (hp 2 [(oC [zI z87,.int .u32 z88]),oC q89]) (.k [1] [] [.tmp 1 false,.tmp 3 false] [1,3,6,7] ⟨trF h90,trivial⟩) ?_
   refine .join (v:=v) (fun y:Nat×Nat×Int×Int×Int×Int×LV=>((fr 19 [(1,(pt 0 0)),(3,(sc 1 0 1 y.1 y.2.1)),(6,(zI y.2.2.1)),(7,(zI y.2.2.2.1))]),(hp 2 [(oC [(zI y.2.2.2.2.1),(.int .u32 y.2.2.2.2.2.1)]),(oC y.2.2.2.2.2.2)]))) (fun y=>m80_2 pu n (l80_1 pu n w0) y.1 y.2.1 y.2.2.1 y.2.2.2.1 y.2.2.2.2.1 y.2.2.2.2.2.1 y.2.2.2.2.2.2) ?_ ?_
   ·rintro ⟨n0, c0, z0, z1, z2, z3, q1⟩ hm
    unfold m80_2 at hm
    refine .rK ?_
    replace hm:=bb_inv hm;obtain ⟨h0,hm⟩:=hm
    exact ⟨(n0,c0,z0,(wrapF .i64 (Int.add z1 (1:Int))),z2,z3,q1),hm,(.k [1] [] [.tmp 1 false,.tmp 3 false] [1,3,6,7] ⟨trF h0,trivial⟩)⟩
   ·refine .block ?_
    refine .then (.rK ?_)
    refine .ghs (fr 19 [(1,(pt 0 0)),(3,sc 1 0 1 n83 c84),(4,zI z86),(6,zI z85),(7,zI z86)]) (hp 2 [(oC [zI z87,.int .u32 z88]),oC q89]) (.k [1] [] [.tmp 1 false,.tmp 3 false] [1,3,4,6,7] ⟨trF h90,trivial⟩) ?_
    refine .then ?_
    replace hm:=oo_inv hm;obtain ⟨v0,h1,hm⟩:=hm
    replace hm:=inv_vBool hm;obtain ⟨b0,rfl,hm⟩:=hm
    refine .reg (eC 2 ((oo (pu 91 [(.agg ⟨[zI z87,.int .u32 z88]⟩),zI z86]) none fun v=>some (v,(hp 2 [(oC [zI z87,.int .u32 z88]),oC q89])))) (call_eq h1) (eE)) ?_
    refine .ghs (fr 19 [(1,(pt 0 0)),(3,sc 1 0 1 n83 c84),(4,zI z86),(6,zI z85),(7,zI z86),(12,zB b0)]) (hp 2 [(oC [zI z87,.int .u32 z88]),oC q89]) (.k [1] [] [.tmp 1 false,.tmp 3 false] [1,3,4,6,7,12] ⟨trF h90,trivial⟩) ?_
    replace hm:=bb_cases hm;rcases hm with ⟨h2,hm⟩ | ⟨h2,hm⟩
    ·refine .ifT b0 (by kernel_rfl) h2 ?_
     replace hm:=bb_inv hm;obtain ⟨h3,hm⟩:=hm
     refine .reg (eC 3 (growD 1 8 n83 c84 1 1 q89 [zI z86] [] (hp 3 [(oC [zI z87,.int .u32 z88]),oC q89,(oC [zI z86])])) (growD_eq h3) (eE)) ?_
     replace hm:=bb_inv hm;obtain ⟨h4,hm⟩:=hm
     exact ⟨((n83 + 1),(d2 (n83 + 1)),z85,z86,z87,z88,(appL (dropL 0 q89) [zI z86])),hm,(.k [3] [] [.tmp 1 false,.tmp 3 false] [1,3,6,7] ⟨trF h4,trivial⟩)⟩
    ·refine .ifF b0 (by kernel_rfl) h2 ?_
     refine .skip ?_
     exact ⟨(n83,c84,z85,z86,z87,z88,q89),hm,(.k [1] [] [.tmp 1 false,.tmp 3 false] [1,3,6,7] ⟨trF h90,trivial⟩)⟩
  ·refine .ifF (ilt z86 z85) (by kernel_rfl) h91 ?_
   refine .exit ?_
   exact ⟨(n83,c84,q89),hm,(.k [1] [] [.tmp 3 false] [3] ⟨trF h90,trivial⟩)⟩
def m74_0 (pu:PureF) (n n0 c0:Nat) (q1:LV):OV:=
 (bb (allL closed1 q1) (bb (an (Nat.ble (0 + n0 * 1) (len q1)) (allL closed1 (takeL (n0 * 1) (dropL 0 q1)))) (some (Sl.v 1 (Sl.mk n0 0 (takeL (n0 * 1) (dropL 0 q1))))) none) none)
def b74_1 (pu:PureF) (n:Nat) (ih0:Nat→Nat→LV→Nat→List Nat→Nat→List Ent→Nat→OV) (n0 c0:Nat) (q1:LV) (k1:Nat) (l0:List Nat) (k2:Nat) (e0:List Ent) (k3:Nat):OV:=
 (bb (allL (fun e=>Nat.blt (Ent.born e) k1) e0) (bb (Nat.ble k1 k2) (nxt e0 l0 (bb (allL closed1 q1) (bb (allL entClosed e0) (m74_0 pu n n0 c0 q1) none) none) (fun e1:Ent=>(bb (allL closed1 q1) (bb (allL entClosed e0) (oo (entT e0 k3 (appL l0 [(Ent.born e1)]) k3) none fun v0=>(oo (vTup v0) none fun l1=>(ll l1 none fun v1 l1=>(ll l1 none fun v2 l1=>(ll l1 (oo (toI .i64 v1) none fun x0=>(oo (toI .i64 v2) none fun x1=>(oo (toN (wrapF .i64 (Int.sub x0 (1:Int)))) none fun k4=>(bb (an (Nat.blt k4 n0) true) (bb (an (Nat.ble ((0 + k4 * 1) + 1) (len q1)) true) (bb (allL closed1 (setL ([.int .i64 x1]:LV) (0 + k4 * 1) q1)) (ih0 n0 c0 (setL ([.int .i64 x1]:LV) (0 + k4 * 1) q1) k1 (appL l0 [(Ent.born e1)]) k3 e0 k3) none) none) none)))) fun _ _=>none))))) none) none))) none) none)
def l74_1 (pu:PureF) (n w:Nat):Nat→Nat→LV→Nat→List Nat→Nat→List Ent→Nat→OV:=
 Nat.rec (motive:=fun _=>Nat→Nat→LV→Nat→List Nat→Nat→List Ent→Nat→OV) (fun _ _ _ _ _ _ _ _=>none) (fun _ ih0=>b74_1 pu n ih0) w
def m74_ (pu:PureF) (n:Nat) (x0 x1:Int):OV:=
 (oo (toN (wrapF .i64 (Int.sub x0 (1:Int)))) none fun k1=>(bb (an (Nat.ble k1 k1) (an (Nat.ble (k1 * 8) 1099511627776) (an (Nat.ble k1 1099511627776) true))) (bb (allL closed1 (zeroRow ([(.int .i64 (0:Int))]:LV) k1)) (oo (pu 10860 [(.agg ⟨[.int .i64 x0,.int .u32 x1]⟩)]) none fun v0=>(oo (vTup v0) none fun l0=>(ll l0 none fun v1 l0=>(ll l0 none fun v2 l0=>(ll l0 (bb (isMp v1 0) (oo (vMapO v2) none fun y0=>(bb (allL entClosed (MapV.es y0)) (bb (allL entClosed (MapV.es y0)) (l74_1 pu n n k1 (2 * k1 + bb true 1 0) (zeroRow ([(.int .i64 (0:Int))]:LV) k1) (MapV.clock y0) ([]:List Nat) (MapV.clock y0) (MapV.es y0) (MapV.clock y0)) none) none)) none) fun _ _=>none))))) none) none))
def m74 (pu:PureF) (n:Nat) (args:LV):OV:=
 (ll args none fun a0 args=>(ll args (oo (vAgg a0) none fun l0=>(ll l0 none fun v0 l0=>(ll l0 none fun v1 l0=>(ll l0 (oo (toI .i64 v0) none fun x0=>(oo (toI .u32 v1) none fun x1=>(m74_ pu n x0 x1))) fun _ _=>none)))) fun _ _=>none))
theorem w74_0 (pu:PureF) (n n0 c0:Nat) (q1:LV) {v:Value} (hm:m74_0 pu n n0 c0 q1 = some v):Run tt (callP tabs isP pu (inl pu)) 0 c74_15 (fr 24 [(3,sc 0 0 1 n0 c0)]) (hp 1 [oC q1]) (Fin tt 0 [.tmp 2] v):=by
 unfold m74_0 at hm
 refine .then (.rK ?_)
 replace hm:=bb_inv hm;obtain ⟨h0,hm⟩:=hm
 refine .ghs (fr 24 [(2,sc 0 0 1 n0 c0)]) (hp 1 [oC q1]) (.k [0] [] [.tmp 2 false] [2] ⟨trF h0,trivial⟩) ?_
 replace hm:=bb_inv hm;obtain ⟨h1,hm⟩:=hm
 refine .ghs (Fr.puts (fr 24 [(2,sc 0 0 1 n0 c0)]) [(2,(Sl.v 1 (Sl.mk n0 0 (takeL (n0 * 1) (dropL 0 q1)))))]) (hp 1 [.dead]) (.freezeC 0 2 1 (an (Nat.ble (0 + n0 * 1) (len q1)) (allL closed1 (takeL (n0 * 1) (dropL 0 q1)))) (F1:=(Fr.puts (fr 24 [(2,sc 0 0 1 n0 c0)]) [(2,(Sl.v 1 (Sl.mk n0 0 (takeL (n0 * 1) (dropL 0 q1)))))])) (H1:=(hp 1 [.dead])) (by kernel_rfl) (by kernel_rfl) h1 (GhS.id _ _)) ?_
 refine .ret ?_
 exact fin_ret (Sl.v 1 (Sl.mk n0 0 (takeL (n0 * 1) (dropL 0 q1)))) (by kernel_rfl) (by kernel_rfl) hm
theorem r74 {call:CallF} (pu:PureF) (n:Nat) (hcall:call = callP tabs isP pu (inl pu)) {args:LV} {v:Value} (hm:m74 pu n args = some v) (_:∀ x ∈ args,closed2 x = true):args.length≤24∧Run tt call 0 c74_18 (Fr.made 24 args) (pureHeap tabs) (Fin tt 0 [.tmp 2] v):=by
 subst hcall
 unfold m74 at hm
 replace hm:=ll_uncons hm;obtain ⟨a0,args_0,rfl,hm⟩:=hm
 replace hm:=ll_end hm;obtain ⟨rfl,hm⟩:=hm
 replace hm:=inv_vAgg hm;obtain ⟨l0,rfl,hm⟩:=hm
 replace hm:=ll_uncons hm;obtain ⟨v0,l124_0,rfl,hm⟩:=hm
 replace hm:=ll_uncons hm;obtain ⟨v1,l124_1,rfl,hm⟩:=hm
 replace hm:=ll_end hm;obtain ⟨rfl,hm⟩:=hm
 replace hm:=inv_toI hm;obtain ⟨x0,rfl,hm⟩:=hm
 replace hm:=inv_toI hm;obtain ⟨x1,rfl,hm⟩:=hm
 unfold m74_ at hm
 refine ⟨by simp,?_⟩
 refine .same (F':=(fr 24 [(0,(.agg ⟨[zI x0,.int .u32 x1]⟩))])) (H':=(hp 0 [])) (by kernel_rfl) (by kernel_rfl) ?_
 refine .then (.rK ?_)
 refine .ghs (fr 24 [(1,(pt 0 0))]) (hp 1 [(oC [zI x0,.int .u32 x1])]) (.k0 [] [.tmp 1 false] [1]) ?_
 refine .then ?_
 replace hm:=oo_inv hm;obtain ⟨k1,h0,hm⟩:=hm
 replace hm:=bb_inv hm;obtain ⟨h1,hm⟩:=hm
 refine .reg (eC 2 (some ((zI (wrapF .i64 (Int.sub x0 (1:Int)))),(hp 1 [(oC [zI x0,.int .u32 x1])]))) (show _ = some ((zI (Int.ofNat k1)),_) from (by rw [toN_some h0])) (eD (bb (an (Nat.ble k1 k1) (an (Nat.ble (k1 * 8) 1099511627776) (an (Nat.ble k1 1099511627776) true))) (some ((sc 1 0 1 k1 (2 * k1 + bb true 1 0)),(hp 2 [(oC [zI x0,.int .u32 x1]),(oC (zeroRow ([(zI (0:Int))]:LV) k1))]))) none) (bb_some h1) (eE))) ?_
 replace hm:=bb_inv hm;obtain ⟨h2,hm⟩:=hm
 refine .ghs (fr 24 [(1,(pt 0 0)),(3,(sc 1 0 1 k1 (2 * k1 + bb true 1 0)))]) (hp 2 [(oC [zI x0,.int .u32 x1]),(oC (zeroRow ([(zI (0:Int))]:LV) k1))]) (.k [1] [] [.tmp 1 false,.tmp 3 false] [1,3] ⟨trF h2,trivial⟩) ?_
 refine .join (v:=v) (fun y:Nat×Nat×LV=>((fr 24 [(3,(sc 0 0 1 y.1 y.2.1))]),(hp 1 [(oC y.2.2)]))) (fun y=>m74_0 pu n y.1 y.2.1 y.2.2) ?_ ?_
 ·rintro ⟨n0, c0, q1⟩ hm
  exact w74_0 pu n n0 c0 q1 hm
 ·refine .then ?_
  replace hm:=oo_inv hm;obtain ⟨v2,h3,hm⟩:=hm
  replace hm:=inv_vTup hm;obtain ⟨l1,rfl,hm⟩:=hm
  replace hm:=ll_uncons hm;obtain ⟨v3,l743_0,rfl,hm⟩:=hm
  replace hm:=ll_uncons hm;obtain ⟨v4,l743_1,rfl,hm⟩:=hm
  replace hm:=ll_end hm;obtain ⟨rfl,hm⟩:=hm
  replace hm:=bb_inv hm;obtain ⟨h4,hm⟩:=hm
  obtain rfl:=isMp_ok h4
  replace hm:=oo_inv hm;obtain ⟨y0,h5,hm⟩:=hm
  replace hm:=bb_inv hm;obtain ⟨h6,hm⟩:=hm
  refine .reg (eC 1 (objG tabs [[none,none]] 1 [] [false] (pu 10860) [(.agg ⟨[zI x0,.int .u32 x1]⟩)] (hp 2 [(oC [zI x0,.int .u32 x1]),(oC (zeroRow ([(zI (0:Int))]:LV) k1))])) (objG_eq (as:=[(.agg ⟨[zI x0,.int .u32 x1]⟩)]) (H1:=(hp 2 [(oC [zI x0,.int .u32 x1]),(oC (zeroRow ([(zI (0:Int))]:LV) k1))])) (gvAL_c (gvA_a (gvL_c gv_n (gvL_c gv_n gvL_n))) gvAL_n) (objF_eq (H2:=(hp 3 [(oC [zI x0,.int .u32 x1]),(oC (zeroRow ([(zI (0:Int))]:LV) k1)),(.map (MapV.es y0) (MapV.clock y0))])) (v:=(.map (some 0))) (v':=(.map (some 2))) [] [] [] [(.agg ⟨[zI x0,.int .u32 x1]⟩)] [v4] [(.map (MapV.es y0) (MapV.clock y0))] [none,none,some 0] [(false,(.map (MapV.es y0) (MapV.clock y0)))] [(.map (MapV.es y0) (MapV.clock y0))] (by kernel_rfl) mapO_n (Eq.trans (by kernel_rfl) h3) (mapO_c (vMapO_some h5) mapO_n) (mapO_c (bO_map h6) mapO_n))) (eE)) ?_
  replace hm:=bb_inv hm;obtain ⟨h7,hm⟩:=hm
  refine .ghs (fr 24 [(3,(sc 0 0 1 k1 (2 * k1 + bb true 1 0))),(12,pt 1 0)]) (hp 3 [(oC (zeroRow ([(zI (0:Int))]:LV) k1)),(.iter (some 2) (MapV.clock y0) ([]:List Nat) (MapV.clock y0)),(.map (MapV.es y0) (MapV.clock y0))]) (.k [1,2] [] [.tmp 3 false,.tmp 12 false,.itm 1 false] [3,12] ⟨trF h2,trF h7,trivial⟩) ?_
  refine .block ?_
  refine .loopM (v:=v) (fun y:Nat×Nat×LV×Nat×List Nat×Nat×List Ent×Nat=>((fr 24 [(3,(sc 0 0 1 y.1 y.2.1)),(12,pt 1 0)]),(hp 3 [(oC y.2.2.1),(.iter (some 2) y.2.2.2.1 y.2.2.2.2.1 y.2.2.2.2.2.1),(.map y.2.2.2.2.2.2.1 y.2.2.2.2.2.2.2)]))) (fun w y=>l74_1 pu n w y.1 y.2.1 y.2.2.1 y.2.2.2.1 y.2.2.2.2.1 y.2.2.2.2.2.1 y.2.2.2.2.2.2.1 y.2.2.2.2.2.2.2) n ⟨(k1,(2 * k1 + bb true 1 0),(zeroRow ([(zI (0:Int))]:LV) k1),(MapV.clock y0),([]:List Nat),(MapV.clock y0),(MapV.es y0),(MapV.clock y0)),hm,(.k [0,2] [] [.tmp 3 false,.tmp 12 false,.itm 1 false] [3,12] ⟨trF h2,trF h7,trivial⟩)⟩ (fun _=>rfl) ?_
  rintro w0 ⟨n1,c1,q2,k2,l2,k3,e0,k4⟩ hm
  replace hm:b74_1 pu n (l74_1 pu n w0) n1 c1 q2 k2 l2 k3 e0 k4 = some v:=hm
  unfold b74_1 at hm
  refine .then ?_
  replace hm:=bb_inv hm;obtain ⟨h8,hm⟩:=hm
  replace hm:=bb_inv hm;obtain ⟨h9,hm⟩:=hm
  refine .nextK (id:=1) (mid:=2) (since:=k2) (st:=k3) (clock:=k4) (seen:=l2) (es:=e0) (d:=some 13) (x:=(tp 12)) (ty:=0) (os:=[rq 14 (.extract (tp 13) 0) 4]) (by kernel_rfl) (by kernel_rfl) (by kernel_rfl) (by kernel_rfl) h8 h9 (by kernel_rfl) (fun _=>by kernel_rfl) (fun h10=>?_) (fun e1 h11=>?_)
  ·replace hm := nxt_0 hm h10
   replace hm:=bb_inv hm;obtain ⟨h12,hm⟩:=hm
   replace hm:=bb_inv hm;obtain ⟨h13,hm⟩:=hm
   refine .ghs (fr 24 [(3,sc 0 0 1 n1 c1),(12,pt 1 0),(14,zB false)]) (hp 3 [oC q2,(.iter (some 2) k2 l2 k3),(.map e0 k4)]) (.k [0,2] [] [.tmp 3 false,.tmp 12 false,.itm 1 false] [3,12,14] ⟨trF h12,trF h13,trivial⟩) ?_
   refine .then ?_
   refine .condF (by kernel_rfl) ?_
   refine .exit ?_
   exact ⟨(n1,c1,q2),hm,(.k [0] [] [.tmp 3 false] [3] ⟨trF h12,trivial⟩)⟩
  ·replace hm := nxt_1 hm h11
   replace hm:=bb_inv hm;obtain ⟨h14,hm⟩:=hm
   replace hm:=bb_inv hm;obtain ⟨h15,hm⟩:=hm
   refine .ghs (fr 24 [(3,sc 0 0 1 n1 c1),(12,pt 1 0),(14,zB true)]) (hp 3 [oC q2,(.iter (some 2) k2 (appL l2 [(Ent.born e1)]) k4),(.map e0 k4)]) (.k [0,2] [] [.tmp 3 false,.tmp 12 false,.itm 1 false] [3,12,14] ⟨trF h14,trF h15,trivial⟩) ?_
   refine .then ?_
   refine .condT (by kernel_rfl) ?_
   refine .skip ?_
   refine .ghs (fr 24 [(3,sc 0 0 1 n1 c1),(12,pt 1 0)]) (hp 3 [oC q2,(.iter (some 2) k2 (appL l2 [(Ent.born e1)]) k4),(.map e0 k4)]) (.k [0,2] [] [.tmp 3 false,.tmp 12 false,.itm 1 false] [3,12] ⟨trF h14,trF h15,trivial⟩) ?_
   refine .block ?_
   refine .then ?_
   replace hm:=oo_inv hm;obtain ⟨v5,h16,hm⟩:=hm
   replace hm:=inv_vTup hm;obtain ⟨l3,rfl,hm⟩:=hm
   replace hm:=ll_uncons hm;obtain ⟨v6,l781_0,rfl,hm⟩:=hm
   replace hm:=ll_uncons hm;obtain ⟨v7,l781_1,rfl,hm⟩:=hm
   replace hm:=ll_end hm;obtain ⟨rfl,hm⟩:=hm
   replace hm:=inv_toI hm;obtain ⟨x2,rfl,hm⟩:=hm
   replace hm:=inv_toI hm;obtain ⟨x3,rfl,hm⟩:=hm
   refine .reg (eD (keep (hp 3 [oC q2,(.iter (some 2) k2 (appL l2 [(Ent.born e1)]) k4),(.map e0 k4)]) (entT e0 k4 (appL l2 [(Ent.born e1)]) k4)) (keep_eq h16) (eE)) ?_
   refine .ghs (fr 24 [(3,sc 0 0 1 n1 c1),(4,zI x2),(5,zI x3),(12,pt 1 0)]) (hp 3 [oC q2,(.iter (some 2) k2 (appL l2 [(Ent.born e1)]) k4),(.map e0 k4)]) (.k [0,2] [] [.tmp 3 false,.tmp 12 false,.itm 1 false] [3,4,5,12] ⟨trF h14,trF h15,trivial⟩) ?_
   replace hm:=oo_inv hm;obtain ⟨k5,h17,hm⟩:=hm
   replace hm:=bb_inv hm;obtain ⟨h18,hm⟩:=hm
   replace hm:=bb_inv hm;obtain ⟨h19,hm⟩:=hm
   refine .reg (eC 2 (some ((zI (wrapF .i64 (Int.sub x2 (1:Int)))),(hp 3 [oC q2,(.iter (some 2) k2 (appL l2 [(Ent.born e1)]) k4),(.map e0 k4)]))) (show _ = some ((zI (Int.ofNat k5)),_) from (by rw [toN_some h17])) (eC 1 (keep (hp 3 [oC q2,(.iter (some 2) k2 (appL l2 [(Ent.born e1)]) k4),(.map e0 k4)]) (bb (an (Nat.blt k5 n1) true) (some (.pointer (some ⟨0,(0 + k5 * 1),none⟩))) none)) (keep_bb h18) (eD (done (bb (an (Nat.ble ((0 + k5 * 1) + 1) (len q2)) true) (some (hp 3 [(oC (setL ([zI x3]:LV) (0 + k5 * 1) q2)),(.iter (some 2) k2 (appL l2 [(Ent.born e1)]) k4),(.map e0 k4)])) none) undef) (done_bb h19) (eE)))) ?_
   replace hm:=bb_inv hm;obtain ⟨h20,hm⟩:=hm
   exact ⟨(n1,c1,(setL ([zI x3]:LV) (0 + k5 * 1) q2),k2,(appL l2 [(Ent.born e1)]),k4,e0,k4),hm,(.k [0,2] [] [.tmp 3 false,.tmp 12 false,.itm 1 false] [3,12] ⟨trF h20,trF h15,trivial⟩)⟩
def m76_0 (pu:PureF) (n:Nat) (z0:Int):OV:=
 (some (.int .i64 z0))
def m76_2 (pu:PureF) (n:Nat) (ih0:Int→Nat→List Nat→Nat→List Ent→Nat→OV) (z0 z1:Int) (b0:Bool) (k1:Nat) (l0:List Nat) (k2:Nat) (e0:List Ent) (k3:Nat):OV:=
 (bb b0 (bb (allL entClosed e0) (ih0 z1 k1 l0 k2 e0 k3) none) (bb (allL entClosed e0) (ih0 z0 k1 l0 k2 e0 k3) none))
def b76_1 (pu:PureF) (n:Nat) (ih0:Int→Nat→List Nat→Nat→List Ent→Nat→OV) (z0:Int) (k1:Nat) (l0:List Nat) (k2:Nat) (e0:List Ent) (k3:Nat):OV:=
 (bb (allL (fun e=>Nat.blt (Ent.born e) k1) e0) (bb (Nat.ble k1 k2) (nxt e0 l0 (bb (allL entClosed e0) (m76_0 pu n z0) none) (fun e1:Ent=>(bb (allL entClosed e0) (oo (entT e0 k3 (appL l0 [(Ent.born e1)]) k3) none fun v0=>(oo (vTup v0) none fun l1=>(ll l1 none fun v1 l1=>(ll l1 none fun v2 l1=>(ll l1 (oo (toI .i64 v1) none fun x0=>(oo (toI .i64 v2) none fun x1=>(bb (ilt (1:Int) x1) (bb (ieq z0 (0:Int)) (m76_2 pu n ih0 z0 x0 true k1 (appL l0 [(Ent.born e1)]) k3 e0 k3) (m76_2 pu n ih0 z0 x0 (ilt x0 z0) k1 (appL l0 [(Ent.born e1)]) k3 e0 k3)) (m76_2 pu n ih0 z0 x0 false k1 (appL l0 [(Ent.born e1)]) k3 e0 k3)))) fun _ _=>none))))) none))) none) none)
def l76_1 (pu:PureF) (n w:Nat):Int→Nat→List Nat→Nat→List Ent→Nat→OV:=
 Nat.rec (motive:=fun _=>Int→Nat→List Nat→Nat→List Ent→Nat→OV) (fun _ _ _ _ _ _=>none) (fun _ ih0=>b76_1 pu n ih0) w
def m76_ (pu:PureF) (n:Nat) (x0 x1:Int):OV:=
 (oo (pu 10860 [(.agg ⟨[.int .i64 x0,.int .u32 x1]⟩)]) none fun v0=>(oo (vTup v0) none fun l0=>(ll l0 none fun v1 l0=>(ll l0 none fun v2 l0=>(ll l0 (bb (isMp v1 0) (oo (vMapO v2) none fun y0=>(bb (allL entClosed (MapV.es y0)) (bb (allL entClosed (MapV.es y0)) (l76_1 pu n n (0:Int) (MapV.clock y0) ([]:List Nat) (MapV.clock y0) (MapV.es y0) (MapV.clock y0)) none) none)) none) fun _ _=>none)))))
def m76 (pu:PureF) (n:Nat) (args:LV):OV:=
 (ll args none fun a0 args=>(ll args (oo (vAgg a0) none fun l0=>(ll l0 none fun v0 l0=>(ll l0 none fun v1 l0=>(ll l0 (oo (toI .i64 v0) none fun x0=>(oo (toI .u32 v1) none fun x1=>(m76_ pu n x0 x1))) fun _ _=>none)))) fun _ _=>none))
theorem w76_0 (pu:PureF) (n:Nat) (z0:Int) {v:Value} (hm:m76_0 pu n z0 = some v):Run tt (callP tabs isP pu (inl pu)) 0 c76_18 (fr 27 [(3,zI z0)]) (hp 0 []) (Fin tt 0 [.tmp 2] v):=by
 unfold m76_0 at hm
 refine .then (.rK ?_)
 refine .ghs (fr 27 [(2,zI z0)]) (hp 0 []) (.k0 [] [] [2]) ?_
 refine .ret ?_
 exact fin_ret (zI z0) (by kernel_rfl) (by kernel_rfl) hm
theorem r76 {call:CallF} (pu:PureF) (n:Nat) (hcall:call = callP tabs isP pu (inl pu)) {args:LV} {v:Value} (hm:m76 pu n args = some v) (_:∀ x ∈ args,closed2 x = true):args.length≤27∧Run tt call 0 c76_21 (Fr.made 27 args) (pureHeap tabs) (Fin tt 0 [.tmp 2] v):=by
 subst hcall
 unfold m76 at hm
 replace hm:=ll_uncons hm;obtain ⟨a0,args_0,rfl,hm⟩:=hm
 replace hm:=ll_end hm;obtain ⟨rfl,hm⟩:=hm
 replace hm:=inv_vAgg hm;obtain ⟨l0,rfl,hm⟩:=hm
 replace hm:=ll_uncons hm;obtain ⟨v0,l798_0,rfl,hm⟩:=hm
 replace hm:=ll_uncons hm;obtain ⟨v1,l798_1,rfl,hm⟩:=hm
 replace hm:=ll_end hm;obtain ⟨rfl,hm⟩:=hm
 replace hm:=inv_toI hm;obtain ⟨x0,rfl,hm⟩:=hm
 replace hm:=inv_toI hm;obtain ⟨x1,rfl,hm⟩:=hm
 unfold m76_ at hm
 refine ⟨by simp,?_⟩
 refine .same (F':=(fr 27 [(0,(.agg ⟨[zI x0,.int .u32 x1]⟩))])) (H':=(hp 0 [])) (by kernel_rfl) (by kernel_rfl) ?_
 refine .then (.rK ?_)
 refine .ghs (fr 27 [(1,(pt 0 0))]) (hp 1 [(oC [zI x0,.int .u32 x1])]) (.k0 [] [.tmp 1 false] [1]) ?_
 refine .then (.rK ?_)
 refine .ghs (fr 27 [(1,(pt 0 0)),(3,(zI (0:Int)))]) (hp 1 [(oC [zI x0,.int .u32 x1])]) (.k0 [] [.tmp 1 false] [1,3]) ?_
 refine .join (v:=v) (fun y:Int=>((fr 27 [(3,zI y)]),(hp 0 []))) (fun y=>m76_0 pu n y) ?_ ?_
 ·rintro z0 hm
  exact w76_0 pu n z0 hm
 ·refine .then ?_
  replace hm:=oo_inv hm;obtain ⟨v2,h0,hm⟩:=hm
  replace hm:=inv_vTup hm;obtain ⟨l1,rfl,hm⟩:=hm
  replace hm:=ll_uncons hm;obtain ⟨v3,l900_0,rfl,hm⟩:=hm
  replace hm:=ll_uncons hm;obtain ⟨v4,l900_1,rfl,hm⟩:=hm
  replace hm:=ll_end hm;obtain ⟨rfl,hm⟩:=hm
  replace hm:=bb_inv hm;obtain ⟨h1,hm⟩:=hm
  obtain rfl:=isMp_ok h1
  replace hm:=oo_inv hm;obtain ⟨y0,h2,hm⟩:=hm
  replace hm:=bb_inv hm;obtain ⟨h3,hm⟩:=hm
  refine .reg (eC 1 (objG tabs [[none,none]] 1 [] [false] (pu 10860) [(.agg ⟨[zI x0,.int .u32 x1]⟩)] (hp 1 [(oC [zI x0,.int .u32 x1])])) (objG_eq (as:=[(.agg ⟨[zI x0,.int .u32 x1]⟩)]) (H1:=(hp 1 [(oC [zI x0,.int .u32 x1])])) (gvAL_c (gvA_a (gvL_c gv_n (gvL_c gv_n gvL_n))) gvAL_n) (objF_eq (H2:=(hp 2 [(oC [zI x0,.int .u32 x1]),(.map (MapV.es y0) (MapV.clock y0))])) (v:=(.map (some 0))) (v':=(.map (some 1))) [] [] [] [(.agg ⟨[zI x0,.int .u32 x1]⟩)] [v4] [(.map (MapV.es y0) (MapV.clock y0))] [none,some 0] [(false,(.map (MapV.es y0) (MapV.clock y0)))] [(.map (MapV.es y0) (MapV.clock y0))] (by kernel_rfl) mapO_n (Eq.trans (by kernel_rfl) h0) (mapO_c (vMapO_some h2) mapO_n) (mapO_c (bO_map h3) mapO_n))) (eE)) ?_
  replace hm:=bb_inv hm;obtain ⟨h4,hm⟩:=hm
  refine .ghs (fr 27 [(3,(zI (0:Int))),(8,(pt 0 0))]) (hp 2 [(.iter (some 1) (MapV.clock y0) ([]:List Nat) (MapV.clock y0)),(.map (MapV.es y0) (MapV.clock y0))]) (.k [1] [] [.tmp 8 false,.itm 0 false] [3,8] ⟨trF h4,trivial⟩) ?_
  refine .block ?_
  refine .loopM (v:=v) (fun y:Int×Nat×List Nat×Nat×List Ent×Nat=>((fr 27 [(3,(zI y.1)),(8,(pt 0 0))]),(hp 2 [(.iter (some 1) y.2.1 y.2.2.1 y.2.2.2.1),(.map y.2.2.2.2.1 y.2.2.2.2.2)]))) (fun w y=>l76_1 pu n w y.1 y.2.1 y.2.2.1 y.2.2.2.1 y.2.2.2.2.1 y.2.2.2.2.2) n ⟨((0:Int),(MapV.clock y0),([]:List Nat),(MapV.clock y0),(MapV.es y0),(MapV.clock y0)),hm,(.k [1] [] [.tmp 8 false,.itm 0 false] [3,8] ⟨trF h4,trivial⟩)⟩ (fun _=>rfl) ?_
  rintro w0 ⟨z1,k1,l2,k2,e0,k3⟩ hm
  replace hm:b76_1 pu n (l76_1 pu n w0) z1 k1 l2 k2 e0 k3 = some v:=hm
  unfold b76_1 at hm
  refine .then ?_
  replace hm:=bb_inv hm;obtain ⟨h5,hm⟩:=hm
  replace hm:=bb_inv hm;obtain ⟨h6,hm⟩:=hm
  refine .nextK (id:=0) (mid:=1) (since:=k1) (st:=k2) (clock:=k3) (seen:=l2) (es:=e0) (d:=some 9) (x:=(tp 8)) (ty:=0) (os:=[rq 10 (.extract (tp 9) 0) 4]) (by kernel_rfl) (by kernel_rfl) (by kernel_rfl) (by kernel_rfl) h5 h6 (by kernel_rfl) (fun _=>by kernel_rfl) (fun h7=>?_) (fun e1 h8=>?_)
  ·replace hm := nxt_0 hm h7
   replace hm:=bb_inv hm;obtain ⟨h9,hm⟩:=hm
   refine .ghs (fr 27 [(3,zI z1),(8,(pt 0 0)),(10,zB false)]) (hp 2 [(.iter (some 1) k1 l2 k2),(.map e0 k3)]) (.k [1] [] [.tmp 8 false,.itm 0 false] [3,8,10] ⟨trF h9,trivial⟩) ?_
   refine .then ?_
   refine .condF (by kernel_rfl) ?_
   refine .exit ?_
   exact ⟨z1,hm,(.k0 [] [] [3])⟩
  ·replace hm := nxt_1 hm h8
   replace hm:=bb_inv hm;obtain ⟨h10,hm⟩:=hm
   refine .ghs (fr 27 [(3,zI z1),(8,(pt 0 0)),(10,zB true)]) (hp 2 [(.iter (some 1) k1 (appL l2 [(Ent.born e1)]) k3),(.map e0 k3)]) (.k [1] [] [.tmp 8 false,.itm 0 false] [3,8,10] ⟨trF h10,trivial⟩) ?_
   refine .then ?_
   refine .condT (by kernel_rfl) ?_
   refine .skip ?_
   refine .ghs (fr 27 [(3,zI z1),(8,(pt 0 0))]) (hp 2 [(.iter (some 1) k1 (appL l2 [(Ent.born e1)]) k3),(.map e0 k3)]) (.k [1] [] [.tmp 8 false,.itm 0 false] [3,8] ⟨trF h10,trivial⟩) ?_
   refine .block ?_
   refine .then ?_
   replace hm:=oo_inv hm;obtain ⟨v5,h11,hm⟩:=hm
   replace hm:=inv_vTup hm;obtain ⟨l3,rfl,hm⟩:=hm
   replace hm:=ll_uncons hm;obtain ⟨v6,l934_0,rfl,hm⟩:=hm
   replace hm:=ll_uncons hm;obtain ⟨v7,l934_1,rfl,hm⟩:=hm
   replace hm:=ll_end hm;obtain ⟨rfl,hm⟩:=hm
   replace hm:=inv_toI hm;obtain ⟨x2,rfl,hm⟩:=hm
   replace hm:=inv_toI hm;obtain ⟨x3,rfl,hm⟩:=hm
   refine .reg (eD (keep (hp 2 [(.iter (some 1) k1 (appL l2 [(Ent.born e1)]) k3),(.map e0 k3)]) (entT e0 k3 (appL l2 [(Ent.born e1)]) k3)) (keep_eq h11) (eE)) ?_
   refine .ghs (fr 27 [(3,zI z1),(4,zI x2),(5,zI x3),(8,(pt 0 0))]) (hp 2 [(.iter (some 1) k1 (appL l2 [(Ent.born e1)]) k3),(.map e0 k3)]) (.k [1] [] [.tmp 8 false,.itm 0 false] [3,4,5,8] ⟨trF h10,trivial⟩) ?_
   refine .join (v:=v) (fun y:Int×Int×Bool×Nat×List Nat×Nat×List Ent×Nat=>((fr 27 [(3,(zI y.1)),(4,(zI y.2.1)),(8,(pt 0 0)),(24,(zB y.2.2.1))]),(hp 2 [(.iter (some 1) y.2.2.2.1 y.2.2.2.2.1 y.2.2.2.2.2.1),(.map y.2.2.2.2.2.2.1 y.2.2.2.2.2.2.2)]))) (fun y=>m76_2 pu n (l76_1 pu n w0) y.1 y.2.1 y.2.2.1 y.2.2.2.1 y.2.2.2.2.1 y.2.2.2.2.2.1 y.2.2.2.2.2.2.1 y.2.2.2.2.2.2.2) ?_ ?_
   ·rintro ⟨z2, z3, b0, k4, l4, k5, e2, k6⟩ hm
    unfold m76_2 at hm
    replace hm:=bb_cases hm;rcases hm with ⟨h12,hm⟩ | ⟨h12,hm⟩
    ·refine .ifT b0 (by kernel_rfl) h12 ?_
     refine .rK ?_
     replace hm:=bb_inv hm;obtain ⟨h13,hm⟩:=hm
     exact ⟨(z3,k4,l4,k5,e2,k6),hm,(.k [1] [] [.tmp 8 false,.itm 0 false] [3,8] ⟨trF h13,trivial⟩)⟩
    ·refine .ifF b0 (by kernel_rfl) h12 ?_
     refine .skip ?_
     replace hm:=bb_inv hm;obtain ⟨h14,hm⟩:=hm
     exact ⟨(z2,k4,l4,k5,e2,k6),hm,(.k [1] [] [.tmp 8 false,.itm 0 false] [3,8] ⟨trF h14,trivial⟩)⟩
   ·replace hm := bb_cases hm; rcases hm with ⟨h15, hm⟩ | ⟨h15, hm⟩
    ·replace hm := bb_cases hm; rcases hm with ⟨h16, hm⟩ | ⟨h16, hm⟩
     ·refine .reg (eC 1 (some ((zB (ilt (1 : Int) x3)), (hp 2 [(.iter (some 1) k1 (appL l2 [(Ent.born e1)]) k3), (.map e0 k3)]))) (show _ = some ((zB true), _) from (by rw [show (ilt (1 : Int) x3) = true from h15])) (eC 2 (some ((zB (ieq z1 (0 : Int))), (hp 2 [(.iter (some 1) k1 (appL l2 [(Ent.born e1)]) k3), (.map e0 k3)]))) (show _ = some ((zB true), _) from (by rw [show (ieq z1 (0 : Int)) = true from h16])) (eE))) ?_
      exact ⟨(z1,x2,true,k1,(appL l2 [(Ent.born e1)]),k3,e0,k3),hm,(.k [1] [] [.tmp 8 false,.itm 0 false] [3,4,8,24] ⟨trF h10,trivial⟩)⟩
     ·refine .reg (eC 1 (some ((zB (ilt (1 : Int) x3)), (hp 2 [(.iter (some 1) k1 (appL l2 [(Ent.born e1)]) k3), (.map e0 k3)]))) (show _ = some ((zB true), _) from (by rw [show (ilt (1 : Int) x3) = true from h15])) (eC 2 (some ((zB (ieq z1 (0 : Int))), (hp 2 [(.iter (some 1) k1 (appL l2 [(Ent.born e1)]) k3), (.map e0 k3)]))) (show _ = some ((zB false), _) from (by rw [show (ieq z1 (0 : Int)) = false from h16])) (eE))) ?_
      exact ⟨(z1,x2,(ilt x2 z1),k1,(appL l2 [(Ent.born e1)]),k3,e0,k3),hm,(.k [1] [] [.tmp 8 false,.itm 0 false] [3,4,8,24] ⟨trF h10,trivial⟩)⟩
    ·refine .reg (eC 1 (some ((zB (ilt (1 : Int) x3)), (hp 2 [(.iter (some 1) k1 (appL l2 [(Ent.born e1)]) k3), (.map e0 k3)]))) (show _ = some ((zB false), _) from (by rw [show (ilt (1 : Int) x3) = false from h15])) (eE)) ?_
     exact ⟨(z1,x2,false,k1,(appL l2 [(Ent.born e1)]),k3,e0,k3),hm,(.k [1] [] [.tmp 8 false,.itm 0 false] [3,4,8,24] ⟨trF h10,trivial⟩)⟩
def m78_0 (pu:PureF) (n:Nat) (b0:Bool):OV:=
 (some (.bool b0))
def m78_ (pu:PureF) (n:Nat) (x0 x1:Int):OV:=
 (oo (pu 76 [(.agg ⟨[.int .i64 x0,.int .u32 x1]⟩)]) none fun v0=>(oo (toI .i64 v0) none fun x2=>(bb (ieq x2 (0:Int)) (oo (pu 10860 [(.agg ⟨[.int .i64 x0,.int .u32 x1]⟩)]) none fun v1=>(oo (vTup v1) none fun l0=>(ll l0 none fun v2 l0=>(ll l0 none fun v3 l0=>(ll l0 (bb (isMp v2 0) (oo (vMapO v3) none fun y0=>(bb (allL entClosed (MapV.es y0)) (m78_0 pu n (ieq (Int.ofNat (len (MapV.es y0))) (wrapF .i64 (Int.sub x0 (1:Int))))) none)) none) fun _ _=>none))))) (m78_0 pu n false))))
def m78 (pu:PureF) (n:Nat) (args:LV):OV:=
 (ll args none fun a0 args=>(ll args (oo (vAgg a0) none fun l0=>(ll l0 none fun v0 l0=>(ll l0 none fun v1 l0=>(ll l0 (oo (toI .i64 v0) none fun x0=>(oo (toI .u32 v1) none fun x1=>(m78_ pu n x0 x1))) fun _ _=>none)))) fun _ _=>none))
theorem w78_0 (pu:PureF) (n:Nat) (b0:Bool) {v:Value} (hm:m78_0 pu n b0 = some v):Run tt (callP tabs isP pu (inl pu)) 0 .ret (fr 15 [(2,zB b0)]) (hp 0 []) (Fin tt 0 [.tmp 2] v):=by
 unfold m78_0 at hm
 refine .ret ?_
 exact fin_ret (zB b0) (by kernel_rfl) (by kernel_rfl) hm
theorem r78 {call:CallF} (pu:PureF) (n:Nat) (hcall:call = callP tabs isP pu (inl pu)) {args:LV} {v:Value} (hm:m78 pu n args = some v) (_:∀ x ∈ args,closed2 x = true):args.length≤15∧Run tt call 0 c78_3 (Fr.made 15 args) (pureHeap tabs) (Fin tt 0 [.tmp 2] v):=by
 subst hcall
 unfold m78 at hm
 replace hm:=ll_uncons hm;obtain ⟨a0,args_0,rfl,hm⟩:=hm
 replace hm:=ll_end hm;obtain ⟨rfl,hm⟩:=hm
 replace hm:=inv_vAgg hm;obtain ⟨l0,rfl,hm⟩:=hm
 replace hm:=ll_uncons hm;obtain ⟨v0,l961_0,rfl,hm⟩:=hm
 replace hm:=ll_uncons hm;obtain ⟨v1,l961_1,rfl,hm⟩:=hm
 replace hm:=ll_end hm;obtain ⟨rfl,hm⟩:=hm
 replace hm:=inv_toI hm;obtain ⟨x0,rfl,hm⟩:=hm
 replace hm:=inv_toI hm;obtain ⟨x1,rfl,hm⟩:=hm
 unfold m78_ at hm
 refine ⟨by simp,?_⟩
 refine .same (F':=(fr 15 [(0,(.agg ⟨[zI x0,.int .u32 x1]⟩))])) (H':=(hp 0 [])) (by kernel_rfl) (by kernel_rfl) ?_
 refine .then (.rK ?_)
 refine .ghs (fr 15 [(1,(pt 0 0))]) (hp 1 [(oC [zI x0,.int .u32 x1])]) (.k0 [] [.tmp 1 false] [1]) ?_
 refine .join (v:=v) (fun y:Bool=>((fr 15 [(2,zB y)]),(hp 0 []))) (fun y=>m78_0 pu n y) ?_ ?_
 ·rintro b0 hm
  exact w78_0 pu n b0 hm
 ·replace hm := oo_inv hm; obtain ⟨v2, h0, hm⟩ := hm
  replace hm:=inv_toI hm;obtain ⟨x2,rfl,hm⟩:=hm
  replace hm:=bb_cases hm;rcases hm with ⟨h1,hm⟩ | ⟨h1,hm⟩
  ·replace hm := oo_inv hm; obtain ⟨v3, h2, hm⟩ := hm
   replace hm:=inv_vTup hm;obtain ⟨l1,rfl,hm⟩:=hm
   replace hm:=ll_uncons hm;obtain ⟨v4,l1030_0,rfl,hm⟩:=hm
   replace hm:=ll_uncons hm;obtain ⟨v5,l1030_1,rfl,hm⟩:=hm
   replace hm:=ll_end hm;obtain ⟨rfl,hm⟩:=hm
   replace hm:=bb_inv hm;obtain ⟨h3,hm⟩:=hm
   obtain rfl:=isMp_ok h3
   replace hm:=oo_inv hm;obtain ⟨y0,h4,hm⟩:=hm
   replace hm:=bb_inv hm;obtain ⟨h5,hm⟩:=hm
   refine .reg (eC 1 ((oo (pu 76 [(.agg ⟨[zI x0,.int .u32 x1]⟩)]) none fun v=>some (v,(hp 1 [(oC [zI x0,.int .u32 x1])])))) (call_eq h0) (eD (some ((zB (ieq x2 (0:Int))),(hp 1 [(oC [zI x0,.int .u32 x1])]))) (show _ = some ((zB true),_) from (by rw [show (ieq x2 (0:Int)) = true from h1])) (eC 5 (objG tabs [[none,none]] 1 [] [false] (pu 10860) [(.agg ⟨[zI x0,.int .u32 x1]⟩)] (hp 1 [(oC [zI x0,.int .u32 x1])])) (objG_eq (as:=[(.agg ⟨[zI x0,.int .u32 x1]⟩)]) (H1:=(hp 1 [(oC [zI x0,.int .u32 x1])])) (gvAL_c (gvA_a (gvL_c gv_n (gvL_c gv_n gvL_n))) gvAL_n) (objF_eq (H2:=(hp 2 [(oC [zI x0,.int .u32 x1]),(.map (MapV.es y0) (MapV.clock y0))])) (v:=(.map (some 0))) (v':=(.map (some 1))) [] [] [] [(.agg ⟨[zI x0,.int .u32 x1]⟩)] [v5] [(.map (MapV.es y0) (MapV.clock y0))] [none,some 0] [(false,(.map (MapV.es y0) (MapV.clock y0)))] [(.map (MapV.es y0) (MapV.clock y0))] (by kernel_rfl) mapO_n (Eq.trans (by kernel_rfl) h2) (mapO_c (vMapO_some h4) mapO_n) (mapO_c (bO_map h5) mapO_n))) (eE)))) ?_
   exact ⟨(ieq (Int.ofNat (len (MapV.es y0))) (wrapF .i64 (Int.sub x0 (1:Int)))),hm,(.k0 [] [] [2])⟩
  ·refine .reg (eC 1 ((oo (pu 76 [(.agg ⟨[zI x0, .int .u32 x1]⟩)]) none fun v => some (v, (hp 1 [(oC [zI x0, .int .u32 x1])])))) (call_eq h0) (eD (some ((zB (ieq x2 (0 : Int))), (hp 1 [(oC [zI x0, .int .u32 x1])]))) (show _ = some ((zB false), _) from (by rw [show (ieq x2 (0 : Int)) = false from h1])) (eE))) ?_
   exact ⟨false,hm,(.k0 [] [] [2])⟩

def m55_ (pu:PureF) (n:Nat) (s0:Sl):OV:=
 (some (Sl.v 1 s0))
def m55 (pu:PureF) (n:Nat) (args:LV):OV:=
 (ll args none fun a0 args=>(ll args (oo (toSl 1 a0) none fun s0=>(m55_ pu n s0)) fun _ _=>none))
theorem r55 {call:CallF} (pu:PureF) (n:Nat) (hcall:call = callP tabs isP pu (inl pu)) {args:LV} {v:Value} (hm:m55 pu n args = some v) (_:∀ x ∈ args,closed2 x = true):args.length≤4∧Run tt call 0 c55_3 (Fr.made 4 args) (pureHeap tabs) (Fin tt 0 [.tmp 2] v):=by
 subst hcall
 unfold m55 at hm
 replace hm:=ll_uncons hm;obtain ⟨a0,args_0,rfl,hm⟩:=hm
 replace hm:=ll_end hm;obtain ⟨rfl,hm⟩:=hm
 replace hm:=inv_toSl hm;obtain ⟨s0,rfl,hm⟩:=hm
 unfold m55_ at hm
 refine ⟨by simp,?_⟩
 refine .same (F':=(fr 4 [(0,Sl.v 1 s0)])) (H':=(hp 0 [])) (by kernel_rfl) (by kernel_rfl) ?_
 refine .then (.rK ?_)
 refine .ghs (fr 4 [(0,Sl.v 1 s0)]) (hp 0 []) (.k0 [] [] [0]) ?_
 refine .then (.rK ?_)
 refine .ghs (fr 4 [(2,Sl.v 1 s0)]) (hp 0 []) (.k0 [] [] [2]) ?_
 refine .ret ?_
 exact fin_ret (Sl.v 1 s0) (by kernel_rfl) (by kernel_rfl) hm
def m12_4 (pu:PureF) (n:Nat):OV:=
 (oo (pu 14 []) none fun v0=>(oo (vBool v0) none fun b0=>(some (.bool b0))))
def m12_6 (pu:PureF) (n:Nat) (ih0:Int→Sl→Sl→Int→Int→OV) (z0:Int) (s0 s1:Sl) (z1 z2:Int):OV:=
 (ih0 z0 s0 s1 z1 (wrapF .i64 (Int.add z2 (1:Int))))
def m12_8 (pu:PureF) (n:Nat) (ih0:Int→Sl→Sl→Int→Int→OV) (ih1:Int→Sl→Int→Sl→Int→Int→Sl→Int→Int→OV) (z0:Int) (s0:Sl) (z1:Int) (s1:Sl) (z2 z3:Int) (s2:Sl) (z4 z5:Int) (b0:Bool):OV:=
 (bb b0 (some (.bool false)) (ih1 z0 s0 z1 s1 z2 z3 s2 z4 (wrapF .i64 (Int.add z5 (1:Int)))))
def b12_7 (pu:PureF) (n:Nat) (ih0:Int→Sl→Sl→Int→Int→OV) (ih1:Int→Sl→Int→Sl→Int→Int→Sl→Int→Int→OV) (z0:Int) (s0:Sl) (z1:Int) (s1:Sl) (z2 z3:Int) (s2:Sl) (z4 z5:Int):OV:=
 (bb (ilt z5 z4) (oo (toN z5) none fun k1=>(bb (an (Nat.blt k1 (Sl.n s2)) true) (oo (nthL (Sl.cs s2) (k1 * 1)) none fun v0=>(oo (toI .i64 v0) none fun x0=>(bb (ilt (1:Int) z0) (bb (nt (ieq z0 (0:Int))) (oo (pu 59 [Sl.v 1 s0,(.int .i64 (Int.tmod (wrapF .i64 (Int.mul z1 x0)) z0))]) none fun v1=>(oo (vBool v1) none fun b0=>(m12_8 pu n ih0 ih1 z0 s0 z1 s1 z2 z3 s2 z4 (Int.ofNat k1) (nt b0)))) none) (m12_8 pu n ih0 ih1 z0 s0 z1 s1 z2 z3 s2 z4 (Int.ofNat k1) false)))) none)) (m12_6 pu n ih0 z0 s0 s1 z2 z3))
def l12_7 (pu:PureF) (n:Nat) (ih0:Int→Sl→Sl→Int→Int→OV) (w:Nat):Int→Sl→Int→Sl→Int→Int→Sl→Int→Int→OV:=
 Nat.rec (motive:=fun _=>Int→Sl→Int→Sl→Int→Int→Sl→Int→Int→OV) (fun _ _ _ _ _ _ _ _ _=>none) (fun _ ih1=>b12_7 pu n ih0 ih1) w
def b12_5 (pu:PureF) (n:Nat) (ih0:Int→Sl→Sl→Int→Int→OV) (z0:Int) (s0 s1:Sl) (z1 z2:Int):OV:=
 (bb (ilt z2 z1) (oo (toN z2) none fun k1=>(bb (an (Nat.blt k1 (Sl.n s1)) true) (oo (nthL (Sl.cs s1) (k1 * 1)) none fun v0=>(oo (toI .i64 v0) none fun x0=>(l12_7 pu n ih0 n z0 s0 x0 s1 z1 (Int.ofNat k1) s0 (Int.ofNat (Sl.n s0)) (0:Int)))) none)) (m12_4 pu n))
def l12_5 (pu:PureF) (n w:Nat):Int→Sl→Sl→Int→Int→OV:=
 Nat.rec (motive:=fun _=>Int→Sl→Sl→Int→Int→OV) (fun _ _ _ _ _=>none) (fun _ ih0=>b12_5 pu n ih0) w
def m12_3 (pu:PureF) (n:Nat) (z0:Int) (s0:Sl) (n0 c0:Nat) (q1:LV):OV:=
 (bb (an (Nat.ble (0 + n0 * 1) (len q1)) (allL closed1 (takeL (n0 * 1) (dropL 0 q1)))) (oo (pu 10230 [Sl.v 1 s0,(Sl.v 1 (Sl.mk n0 0 (takeL (n0 * 1) (dropL 0 q1))))]) none fun v0=>(oo (vTup v0) none fun l0=>(ll l0 none fun v1 l0=>(ll l0 (oo (vBool v1) none fun b0=>(bb (nt b0) (some (.bool false)) (l12_5 pu n n z0 s0 s0 (Int.ofNat (Sl.n s0)) (0:Int)))) fun _ _=>none)))) none)
def m12_10 (pu:PureF) (n:Nat) (ih0:Int→Int→Sl→Nat→Nat→Int→LV→OV) (z0 z1:Int) (s0:Sl) (n0 c0:Nat) (z2:Int) (q1:LV):OV:=
 (bb (allL closed1 q1) (ih0 z0 z1 s0 n0 c0 (wrapF .i64 (Int.add z2 (1:Int))) q1) none)
def m12_12 (pu:PureF) (n:Nat) (ih0:Int→Int→Sl→Nat→Nat→Int→LV→OV) (z0 z1:Int) (s0:Sl) (n0 c0:Nat) (z2:Int) (b0:Bool) (q1:LV):OV:=
 (bb b0 (bb (growC 1 8 n0 c0 1 q1) (bb (allL closed1 (appL (dropL 0 q1) [.int .i64 z2])) (m12_10 pu n ih0 z0 z1 s0 (n0 + 1) (2 * (n0 + 1) + bb false 1 0) z2 (appL (dropL 0 q1) [.int .i64 z2])) none) none) (bb (allL closed1 q1) (m12_10 pu n ih0 z0 z1 s0 n0 c0 z2 q1) none))
def m12_11 (pu:PureF) (n:Nat) (ih0:Int→Int→Sl→Nat→Nat→Int→LV→OV) (z0 z1:Int) (s0:Sl) (n0 c0:Nat) (z2:Int) (b0:Bool) (q1:LV):OV:=
 (bb b0 (oo (pu 49 [.int .i64 z0,.int .u32 z1,.int .i64 z2,(.int .i64 (0:Int))]) none fun v0=>(oo (toI .u32 v0) none fun x0=>(oo (pu 58 [.int .i64 z0,.int .u32 x0]) none fun v1=>(oo (toI .u32 v1) none fun x1=>(oo (pu 58 [.int .i64 z0,.int .u32 z1]) none fun v2=>(oo (toI .u32 v2) none fun x2=>(bb (allL closed1 q1) (m12_12 pu n ih0 z0 z1 s0 n0 c0 z2 (ieq x1 x2) q1) none))))))) (bb (allL closed1 q1) (m12_12 pu n ih0 z0 z1 s0 n0 c0 z2 false q1) none))
def b12_13 (pu:PureF) (n:Nat) (ih0:Int→Int→Sl→Nat→Nat→Int→LV→OV) (ih1:Int→Int→Sl→Nat→Nat→Int→Bool→Int→LV→OV) (z0 z1:Int) (s0:Sl) (n0 c0:Nat) (z2:Int) (b0:Bool) (z3:Int) (q1:LV):OV:=
 (bb (allL closed1 q1) (bb (nt (ilt z2 z3)) (bb b0 (bb (nt (ieq z3 (0:Int))) (bb (nt (ieq (Int.tmod z0 z3) (0:Int))) (ih1 z0 z1 s0 n0 c0 z2 true (wrapF .i64 (Int.add z3 (1:Int))) q1) (bb (nt (ieq z3 (0:Int))) (ih1 z0 z1 s0 n0 c0 z2 (nt (ieq (Int.tmod z2 z3) (0:Int))) (wrapF .i64 (Int.add z3 (1:Int))) q1) none)) none) (ih1 z0 z1 s0 n0 c0 z2 false (wrapF .i64 (Int.add z3 (1:Int))) q1)) (m12_11 pu n ih0 z0 z1 s0 n0 c0 z2 b0 q1)) none)
def l12_13 (pu:PureF) (n:Nat) (ih0:Int→Int→Sl→Nat→Nat→Int→LV→OV) (w:Nat):Int→Int→Sl→Nat→Nat→Int→Bool→Int→LV→OV:=
 Nat.rec (motive:=fun _=>Int→Int→Sl→Nat→Nat→Int→Bool→Int→LV→OV) (fun _ _ _ _ _ _ _ _ _=>none) (fun _ ih1=>b12_13 pu n ih0 ih1) w
def b12_9 (pu:PureF) (n:Nat) (ih0:Int→Int→Sl→Nat→Nat→Int→LV→OV) (z0 z1:Int) (s0:Sl) (n0 c0:Nat) (z2:Int) (q1:LV):OV:=
 (bb (allL closed1 q1) (bb (nt (ilt z0 z2)) (l12_13 pu n ih0 n z0 z1 s0 n0 c0 z2 true (2:Int) q1) (m12_3 pu n z0 s0 n0 c0 q1)) none)
def l12_9 (pu:PureF) (n w:Nat):Int→Int→Sl→Nat→Nat→Int→LV→OV:=
 Nat.rec (motive:=fun _=>Int→Int→Sl→Nat→Nat→Int→LV→OV) (fun _ _ _ _ _ _ _=>none) (fun _ ih0=>b12_9 pu n ih0) w
def m12_2 (pu:PureF) (n:Nat) (z0 z1:Int) (s0:Sl) (b0:Bool):OV:=
 (bb b0 (some (.bool false)) (l12_9 pu n n z0 z1 s0 0 0 (1:Int) ([]:LV)))
def m12_1 (pu:PureF) (n:Nat) (z0 z1 z2:Int):OV:=
 (oo (pu 47 [.int .i64 z1,.int .u32 z2]) none fun v0=>(oo (vAgg v0) none fun l0=>(ll l0 none fun v1 l0=>(ll l0 none fun v2 l0=>(ll l0 (oo (toI .i64 v1) none fun x0=>(oo (toSl 1 v2) none fun s0=>(oo (pu 42 [(.agg ⟨[.int .i64 x0,Sl.v 1 s0]⟩)]) none fun v3=>(oo (vTup v3) none fun l1=>(ll l1 none fun v4 l1=>(ll l1 none fun v5 l1=>(ll l1 (oo (toSl 1 v4) none fun s1=>(oo (toI .i64 v5) none fun x1=>(oo (pu 49 [.int .i64 z1,.int .u32 z2,(.int .i64 (1:Int)),(.int .i64 (wrapF .i64 z0))]) none fun v6=>(oo (toI .u32 v6) none fun x2=>(oo (pu 47 [.int .i64 z1,.int .u32 x2]) none fun v7=>(oo (vAgg v7) none fun l2=>(ll l2 none fun v8 l2=>(ll l2 none fun v9 l2=>(ll l2 (oo (toI .i64 v8) none fun x3=>(oo (toSl 1 v9) none fun s2=>(oo (pu 42 [(.agg ⟨[.int .i64 x3,Sl.v 1 s2]⟩)]) none fun v10=>(oo (vTup v10) none fun l3=>(ll l3 none fun v11 l3=>(ll l3 none fun v12 l3=>(ll l3 (oo (toSl 1 v11) none fun s3=>(oo (toI .i64 v12) none fun x4=>(bb (nt (ieq x1 (0:Int))) (m12_2 pu n z1 z2 s1 true) (bb (nt (ieq x4 (0:Int))) (m12_2 pu n z1 z2 s1 true) (oo (pu 10230 [Sl.v 1 s1,Sl.v 1 s3]) none fun v13=>(oo (vTup v13) none fun l4=>(ll l4 none fun v14 l4=>(ll l4 (oo (vBool v14) none fun b0=>(m12_2 pu n z1 z2 s1 (nt b0))) fun _ _=>none)))))))) fun _ _=>none))))))) fun _ _=>none))))))))) fun _ _=>none))))))) fun _ _=>none)))))
def m12_14 (pu:PureF) (n:Nat) (z0 z1 z2:Int) (b0:Bool):OV:=
 (bb b0 (some (.bool false)) (m12_1 pu n z0 z1 z2))
def b12_17 (pu:PureF) (n:Nat) (ih0:Int→Int→Int→Int→Sl→Sl→Int→OV) (z0 z1 z2 z3:Int) (s0 s1:Sl) (z4:Int):OV:=
 (bb (ilt z4 z1) (oo (toN (wrapF .i64 (Int.sub z4 (1:Int)))) none fun k1=>(bb (an (Nat.blt k1 (Sl.n s0)) true) (oo (nthL (Sl.cs s0) (k1 * 1)) none fun v0=>(oo (toI .i64 v0) none fun x0=>(bb (nt (ieq z1 (0:Int))) (oo (toN (wrapF .i64 (Int.sub (Int.tmod (wrapF .i64 (Int.mul z4 z3)) z1) (1:Int)))) none fun k2=>(bb (an (Nat.blt k2 (Sl.n s1)) true) (oo (nthL (Sl.cs s1) (k2 * 1)) none fun v1=>(oo (toI .i64 v1) none fun x1=>(bb (nt (ieq x0 x1)) (some (.bool false)) (ih0 z0 z1 z2 z3 s0 s1 (wrapF .i64 (Int.add z4 (1:Int))))))) none)) none))) none)) (m12_1 pu n z0 z1 z2))
def l12_17 (pu:PureF) (n w:Nat):Int→Int→Int→Int→Sl→Sl→Int→OV:=
 Nat.rec (motive:=fun _=>Int→Int→Int→Int→Sl→Sl→Int→OV) (fun _ _ _ _ _ _ _=>none) (fun _ ih0=>b12_17 pu n ih0) w
def m12_16 (pu:PureF) (n:Nat) (z0 z1 z2 z3:Int) (s0 s1:Sl) (b0:Bool):OV:=
 (bb b0 (some (.bool false)) (l12_17 pu n n z0 z1 z2 z3 s0 s1 (1:Int)))
def m12_15 (pu:PureF) (n:Nat) (z0 z1 z2 z3:Int) (b0:Bool) (z4:Int) (s0:Sl):OV:=
 (bb b0 (some (.bool false)) (oo (pu 47 [.int .i64 z1,.int .u32 z2]) none fun v0=>(oo (vAgg v0) none fun l0=>(ll l0 none fun v1 l0=>(ll l0 none fun v2 l0=>(ll l0 (oo (toI .i64 v1) none fun x0=>(oo (toSl 1 v2) none fun s1=>(oo (pu 27 [(.agg ⟨[.int .i64 x0,Sl.v 1 s1]⟩)]) none fun v3=>(oo (vTup v3) none fun l1=>(ll l1 none fun v4 l1=>(ll l1 none fun v5 l1=>(ll l1 (oo (toSl 1 v4) none fun s2=>(oo (toI .i64 v5) none fun x1=>(oo (pu 27 [(.agg ⟨[.int .i64 z4,Sl.v 1 s0]⟩)]) none fun v6=>(oo (vTup v6) none fun l2=>(ll l2 none fun v7 l2=>(ll l2 none fun v8 l2=>(ll l2 (oo (toSl 1 v7) none fun s3=>(oo (toI .i64 v8) none fun x2=>(bb (nt (ieq x1 (0:Int))) (m12_16 pu n z0 z1 z2 z3 s2 s3 true) (bb (nt (ieq x2 (0:Int))) (m12_16 pu n z0 z1 z2 z3 s2 s3 true) (bb (nt (ieq (Int.ofNat (Sl.n s2)) (wrapF .i64 (Int.sub z1 (1:Int))))) (m12_16 pu n z0 z1 z2 z3 s2 s3 true) (m12_16 pu n z0 z1 z2 z3 s2 s3 (nt (ieq (Int.ofNat (Sl.n s3)) (wrapF .i64 (Int.sub z1 (1:Int))))))))))) fun _ _=>none))))))) fun _ _=>none))))))) fun _ _=>none))))))
def m12_0 (pu:PureF) (n:Nat) (z0 z1 z2 z3 z4:Int) (b0:Bool) (z5:Int) (s0:Sl):OV:=
 (bb b0 (bb (nt (ieq z4 (13:Int))) (m12_14 pu n z0 z1 z2 true) (bb (nt (ieq (Int.ofNat (Sl.n s0)) (0:Int))) (m12_14 pu n z0 z1 z2 true) (m12_14 pu n z0 z1 z2 (nt (ieq z5 (0:Int)))))) (bb (nt (ieq z4 (0:Int))) (m12_15 pu n z0 z1 z2 z3 true z5 s0) (bb (nt (ieq z5 z1)) (m12_15 pu n z0 z1 z2 z3 true z5 s0) (oo (pu 49 [.int .i64 z1,.int .u32 z2,.int .i64 z3,(.int .i64 (0:Int))]) none fun v0=>(oo (toI .u32 v0) none fun x0=>(oo (pu 48 [.int .u32 x0]) none fun v1=>(oo (toSl 1 v1) none fun s1=>(oo (pu 10230 [Sl.v 1 s0,Sl.v 1 s1]) none fun v2=>(oo (vTup v2) none fun l0=>(ll l0 none fun v3 l0=>(ll l0 (oo (vBool v3) none fun b1=>(m12_15 pu n z0 z1 z2 z3 (nt b1) z5 s0)) fun _ _=>none)))))))))))
def b12_18 (pu:PureF) (n:Nat) (ih0:Int→Int→Int→Int→Int→Bool→Int→Int→Sl→OV) (z0 z1 z2 z3 z4:Int) (b0:Bool) (z5 z6:Int) (s0:Sl):OV:=
 (bb (nt (ilt z3 z5)) (bb b0 (ih0 z0 z1 z2 z3 z4 true (wrapF .i64 (Int.add z5 (1:Int))) z6 s0) (bb (nt (ieq z5 (0:Int))) (bb (ieq (Int.tmod z1 z5) (0:Int)) (bb (nt (ieq z5 (0:Int))) (ih0 z0 z1 z2 z3 z4 (ieq (Int.tmod z3 z5) (0:Int)) (wrapF .i64 (Int.add z5 (1:Int))) z6 s0) none) (ih0 z0 z1 z2 z3 z4 false (wrapF .i64 (Int.add z5 (1:Int))) z6 s0)) none)) (m12_0 pu n z0 z1 z2 z3 z4 b0 z6 s0))
def l12_18 (pu:PureF) (n w:Nat):Int→Int→Int→Int→Int→Bool→Int→Int→Sl→OV:=
 Nat.rec (motive:=fun _=>Int→Int→Int→Int→Int→Bool→Int→Int→Sl→OV) (fun _ _ _ _ _ _ _ _ _=>none) (fun _ ih0=>b12_18 pu n ih0) w
def m12_ (pu:PureF) (n:Nat) (x0 x1 x2 x3:Int):OV:=
 (oo (pu 46 [(.agg ⟨[.int .u8 x0,.int .u32 x1]⟩),(.int .i64 (21:Int))]) none fun v0=>(oo (vTup v0) none fun l0=>(ll l0 none fun v1 l0=>(ll l0 none fun v2 l0=>(ll l0 (oo (toI .i64 v1) none fun x4=>(oo (toI .u32 v2) none fun x5=>(bb (nt (ieq x4 (0:Int))) (oo (pu 47 [.int .i64 x4,.int .u32 x5]) none fun v3=>(oo (vAgg v3) none fun l1=>(ll l1 none fun v4 l1=>(ll l1 none fun v5 l1=>(ll l1 (oo (toI .i64 v4) none fun x6=>(oo (toSl 1 v5) none fun s0=>(oo (pu 40 [(.agg ⟨[.int .i64 x6,Sl.v 1 s0]⟩),(.int .i64 (wrapF .i64 (Int.add (1:Int) (Int.tmod (wrapF .i64 x2) x4))))]) none fun v6=>(oo (vTup v6) none fun l2=>(ll l2 none fun v7 l2=>(ll l2 none fun v8 l2=>(ll l2 (oo (vAgg v7) none fun l3=>(ll l3 none fun v9 l3=>(ll l3 none fun v10 l3=>(ll l3 (oo (toI .i64 v9) none fun x7=>(oo (toSl 1 v10) none fun s1=>(oo (toI .i64 v8) none fun x8=>(l12_18 pu n n x3 x4 x5 (wrapF .i64 (Int.add (1:Int) (Int.tmod (wrapF .i64 x2) x4))) x8 false (2:Int) x7 s1)))) fun _ _=>none)))) fun _ _=>none))))))) fun _ _=>none))))) none))) fun _ _=>none)))))
def m12 (pu:PureF) (n:Nat) (args:LV):OV:=
 (ll args none fun a0 args=>(ll args none fun a1 args=>(ll args none fun a2 args=>(ll args (oo (vAgg a0) none fun l0=>(ll l0 none fun v0 l0=>(ll l0 none fun v1 l0=>(ll l0 (oo (toI .u8 v0) none fun x0=>(oo (toI .u32 v1) none fun x1=>(oo (toI .u8 a1) none fun x2=>(oo (toI .i16 a2) none fun x3=>(m12_ pu n x0 x1 x2 x3))))) fun _ _=>none)))) fun _ _=>none))))
theorem w12_4 (pu:PureF) (n:Nat) {v:Value} (hm:m12_4 pu n = some v):Run tt (callP tabs isP pu (inl pu)) 0 c12_132 (fr 252 []) (hp 0 []) (Fin tt 0 [.tmp 6] v):=by
 unfold m12_4 at hm
 refine .then ?_
 replace hm:=oo_inv hm;obtain ⟨v0,h0,hm⟩:=hm
 replace hm:=inv_vBool hm;obtain ⟨b0,rfl,hm⟩:=hm
 refine .reg (eD ((oo (pu 14 []) none fun v=>some (v,(hp 0 [])))) (call_eq h0) (eE)) ?_
 refine .ghs (fr 252 [(6,zB b0)]) (hp 0 []) (.k0 [] [] [6]) ?_
 refine .ret ?_
 exact fin_ret (zB b0) (by kernel_rfl) (by kernel_rfl) hm
theorem w12_3 (pu:PureF) (n:Nat) (z0:Int) (s0:Sl) (n0 c0:Nat) (q1:LV) {v:Value} (hm:m12_3 pu n z0 s0 n0 c0 q1 = some v):Run tt (callP tabs isP pu (inl pu)) 0 c12_134 (fr 252 [(7,zI z0),(19,Sl.v 1 s0),(22,sc 0 0 1 n0 c0)]) (hp 1 [oC q1]) (Fin tt 0 [.tmp 6] v):=by
 unfold m12_3 at hm
 refine .then ?_
 refine .then ?_
 replace hm:=bb_inv hm;obtain ⟨h0,hm⟩:=hm
 replace hm:=oo_inv hm;obtain ⟨v0,h1,hm⟩:=hm
 replace hm:=inv_vTup hm;obtain ⟨l0,rfl,hm⟩:=hm
 replace hm:=ll_uncons hm;obtain ⟨v1,l1817_0,rfl,hm⟩:=hm
 replace hm:=ll_end hm;obtain ⟨rfl,hm⟩:=hm
 replace hm:=inv_vBool hm;obtain ⟨b0,rfl,hm⟩:=hm
 refine .reg (eC 2 (objG tabs [[some 1],[some 1]] 2 [] [] (pu 10230) [Sl.v 1 s0,sc 0 0 1 n0 c0] (hp 1 [oC q1])) (objG_eq (as:=[Sl.v 1 s0,(Sl.v 1 (Sl.mk n0 0 (takeL (n0 * 1) (dropL 0 q1))))]) (H1:=(hp 1 [.dead])) (gvAL_c (gvA_1 (gv_s (giveV_cl (z:=1) (v:=(Sl.v 1 s0)) (H:=(hp 1 [oC q1])) (by kernel_rfl) (by kernel_rfl) (by kernel_rfl)))) (gvAL_c (gvA_1 (gv_s (show giveV 1 (sc 0 0 1 n0 c0) (hp 1 [oC q1]) = some ((Sl.v 1 (Sl.mk n0 0 (takeL (n0 * 1) (dropL 0 q1)))),(hp 1 [.dead])) from giveV_sl 0 0 1 n0 c0 q1 [] (by kernel_rfl) (by kernel_rfl) h0))) gvAL_n)) (objF_eq (H2:=(hp 1 [.dead])) (v:=(zB b0)) (v':=(zB b0)) [] [] [] [Sl.v 1 s0,(Sl.v 1 (Sl.mk n0 0 (takeL (n0 * 1) (dropL 0 q1))))] [] [] [none] [] [] (by kernel_rfl) mapO_n (Eq.trans (by kernel_rfl) h1) mapO_n mapO_n)) (eE)) ?_
 refine .ghs (fr 252 [(7,zI z0),(19,Sl.v 1 s0),(224,(zB (nt b0)))]) (hp 0 []) (.k0 [] [] [7,19,224]) ?_
 replace hm:=bb_cases hm;rcases hm with ⟨h2,hm⟩ | ⟨h2,hm⟩
 ·refine .ifT (nt b0) (by kernel_rfl) h2 ?_
  refine .then (.rK ?_)
  refine .ghs (fr 252 [(6,zB false)]) (hp 0 []) (.k0 [] [] [6]) ?_
  refine .ret ?_
  exact fin_ret (zB false) (by kernel_rfl) (by kernel_rfl) hm
 ·refine .ifF (nt b0) (by kernel_rfl) h2 ?_
  refine .skip ?_
  refine .ghs (fr 252 [(7,zI z0),(19,Sl.v 1 s0)]) (hp 0 []) (.k0 [] [] [7,19]) ?_
  refine .join (v:=v) (fun y:Unit=>((fr 252 []),(hp 0 []))) (fun y=>m12_4 pu n) ?_ ?_
  ·rintro _ hm
   exact w12_4 pu n hm
  ·refine .then (.rK ?_)
   refine .ghs (fr 252 [(7,zI z0),(19,Sl.v 1 s0),(225,Sl.v 1 s0),(226,(zI (Int.ofNat (Sl.n s0)))),(227,(zI (0:Int)))]) (hp 0 []) (.k0 [] [] [7,19,225,226,227]) ?_
   refine .block ?_
   refine .loopM (v:=v) (fun y:Int×Sl×Sl×Int×Int=>((fr 252 [(7,(zI y.1)),(19,(Sl.v 1 y.2.1)),(225,(Sl.v 1 y.2.2.1)),(226,(zI y.2.2.2.1)),(227,(zI y.2.2.2.2))]),(hp 0 []))) (fun w y=>l12_5 pu n w y.1 y.2.1 y.2.2.1 y.2.2.2.1 y.2.2.2.2) n ⟨(z0,s0,s0,(Int.ofNat (Sl.n s0)),(0:Int)),hm,(.k0 [] [] [7,19,225,226,227])⟩ (fun _=>rfl) ?_
   rintro w0 ⟨z1,s1,s2,z2,z3⟩ hm
   replace hm:b12_5 pu n (l12_5 pu n w0) z1 s1 s2 z2 z3 = some v:=hm
   unfold b12_5 at hm
   refine .then (.rK ?_)
   refine .ghs (fr 252 [(7,zI z1),(19,Sl.v 1 s1),(225,Sl.v 1 s2),(226,zI z2),(227,zI z3),(228,(zB (ilt z3 z2)))]) (hp 0 []) (.k0 [] [] [7,19,225,226,227,228]) ?_
   refine .then ?_
   replace hm:=bb_cases hm;rcases hm with ⟨h3,hm⟩ | ⟨h3,hm⟩
   ·refine .ifT (ilt z3 z2) (by kernel_rfl) h3 ?_
    refine .skip ?_
    refine .ghs (fr 252 [(7,zI z1),(19,Sl.v 1 s1),(225,Sl.v 1 s2),(226,zI z2),(227,zI z3)]) (hp 0 []) (.k0 [] [] [7,19,225,226,227]) ?_
    refine .join (v:=v) (fun y:Int×Sl×Sl×Int×Int=>((fr 252 [(7,(zI y.1)),(19,(Sl.v 1 y.2.1)),(225,(Sl.v 1 y.2.2.1)),(226,(zI y.2.2.2.1)),(227,(zI y.2.2.2.2))]),(hp 0 []))) (fun y=>m12_6 pu n (l12_5 pu n w0) y.1 y.2.1 y.2.2.1 y.2.2.2.1 y.2.2.2.2) ?_ ?_
    ·rintro ⟨z4, s3, s4, z5, z6⟩ hm
     unfold m12_6 at hm
     refine .rK ?_
     exact ⟨(z4,s3,s4,z5,(wrapF .i64 (Int.add z6 (1:Int)))),hm,(.k0 [] [] [7,19,225,226,227])⟩
    ·refine .block ?_
     refine .then ?_
     replace hm:=oo_inv hm;obtain ⟨k1,h4,hm⟩:=hm
     obtain rfl:=toN_some h4
     replace hm:=bb_inv hm;obtain ⟨h5,hm⟩:=hm
     replace hm:=oo_inv hm;obtain ⟨v2,h6,hm⟩:=hm
     replace hm:=inv_toI hm;obtain ⟨x0,rfl,hm⟩:=hm
     refine .reg (eD (keep (hp 0 []) (bb (an (Nat.blt k1 (Sl.n s2)) true) (some (fpV (k1 * 1) (Sl.cs s2))) none)) (keep_bb h5) (eD (keep (hp 0 []) (nthL (Sl.cs s2) (k1 * 1))) (keep_eq h6) (eE))) ?_
     refine .ghs (fr 252 [(7,zI z1),(19,Sl.v 1 s1),(27,zI x0),(225,Sl.v 1 s2),(226,zI z2),(227,(zI (Int.ofNat k1)))]) (hp 0 []) (.k0 [] [] [7,19,27,225,226,227]) ?_
     refine .then (.rK ?_)
     refine .ghs (fr 252 [(7,zI z1),(19,Sl.v 1 s1),(27,zI x0),(225,Sl.v 1 s2),(226,zI z2),(227,(zI (Int.ofNat k1))),(231,Sl.v 1 s1),(232,(zI (Int.ofNat (Sl.n s1)))),(233,(zI (0:Int)))]) (hp 0 []) (.k0 [] [] [7,19,27,225,226,227,231,232,233]) ?_
     refine .block ?_
     refine .loopM (v:=v) (fun y:Int×Sl×Int×Sl×Int×Int×Sl×Int×Int=>((fr 252 [(7,(zI y.1)),(19,(Sl.v 1 y.2.1)),(27,(zI y.2.2.1)),(225,(Sl.v 1 y.2.2.2.1)),(226,(zI y.2.2.2.2.1)),(227,(zI y.2.2.2.2.2.1)),(231,(Sl.v 1 y.2.2.2.2.2.2.1)),(232,(zI y.2.2.2.2.2.2.2.1)),(233,(zI y.2.2.2.2.2.2.2.2))]),(hp 0 []))) (fun w y=>l12_7 pu n (l12_5 pu n w0) w y.1 y.2.1 y.2.2.1 y.2.2.2.1 y.2.2.2.2.1 y.2.2.2.2.2.1 y.2.2.2.2.2.2.1 y.2.2.2.2.2.2.2.1 y.2.2.2.2.2.2.2.2) n ⟨(z1,s1,x0,s2,z2,(Int.ofNat k1),s1,(Int.ofNat (Sl.n s1)),(0:Int)),hm,(.k0 [] [] [7,19,27,225,226,227,231,232,233])⟩ (fun _=>rfl) ?_
     rintro w1 ⟨z7,s5,z8,s6,z9,z10,s7,z11,z12⟩ hm
     replace hm:b12_7 pu n (l12_5 pu n w0) (l12_7 pu n (l12_5 pu n w0) w1) z7 s5 z8 s6 z9 z10 s7 z11 z12 = some v:=hm
     unfold b12_7 at hm
     refine .then (.rK ?_)
     refine .ghs (fr 252 [(7,zI z7),(19,Sl.v 1 s5),(27,zI z8),(225,Sl.v 1 s6),(226,zI z9),(227,zI z10),(231,Sl.v 1 s7),(232,zI z11),(233,zI z12),(234,(zB (ilt z12 z11)))]) (hp 0 []) (.k0 [] [] [7,19,27,225,226,227,231,232,233,234]) ?_
     refine .then ?_
     replace hm:=bb_cases hm;rcases hm with ⟨h7,hm⟩ | ⟨h7,hm⟩
     ·refine .ifT (ilt z12 z11) (by kernel_rfl) h7 ?_
      refine .skip ?_
      refine .ghs (fr 252 [(7,zI z7),(19,Sl.v 1 s5),(27,zI z8),(225,Sl.v 1 s6),(226,zI z9),(227,zI z10),(231,Sl.v 1 s7),(232,zI z11),(233,zI z12)]) (hp 0 []) (.k0 [] [] [7,19,27,225,226,227,231,232,233]) ?_
      refine .then ?_
      refine .block ?_
      refine .then ?_
      replace hm:=oo_inv hm;obtain ⟨k2,h8,hm⟩:=hm
      obtain rfl:=toN_some h8
      replace hm:=bb_inv hm;obtain ⟨h9,hm⟩:=hm
      replace hm:=oo_inv hm;obtain ⟨v3,h10,hm⟩:=hm
      replace hm:=inv_toI hm;obtain ⟨x1,rfl,hm⟩:=hm
      refine .reg (eD (keep (hp 0 []) (bb (an (Nat.blt k2 (Sl.n s7)) true) (some (fpV (k2 * 1) (Sl.cs s7))) none)) (keep_bb h9) (eD (keep (hp 0 []) (nthL (Sl.cs s7) (k2 * 1))) (keep_eq h10) (eE))) ?_
      refine .ghs (fr 252 [(7,zI z7),(19,Sl.v 1 s5),(27,zI z8),(29,zI x1),(225,Sl.v 1 s6),(226,zI z9),(227,zI z10),(231,Sl.v 1 s7),(232,zI z11),(233,(zI (Int.ofNat k2)))]) (hp 0 []) (.k0 [] [] [7,19,27,29,225,226,227,231,232,233]) ?_
      refine .join (v:=v) (fun y:Int×Sl×Int×Sl×Int×Int×Sl×Int×Int×Bool=>((fr 252 [(7,(zI y.1)),(19,(Sl.v 1 y.2.1)),(27,(zI y.2.2.1)),(225,(Sl.v 1 y.2.2.2.1)),(226,(zI y.2.2.2.2.1)),(227,(zI y.2.2.2.2.2.1)),(231,(Sl.v 1 y.2.2.2.2.2.2.1)),(232,(zI y.2.2.2.2.2.2.2.1)),(233,(zI y.2.2.2.2.2.2.2.2.1)),(248,(zB y.2.2.2.2.2.2.2.2.2))]),(hp 0 []))) (fun y=>m12_8 pu n (l12_5 pu n w0) (l12_7 pu n (l12_5 pu n w0) w1) y.1 y.2.1 y.2.2.1 y.2.2.2.1 y.2.2.2.2.1 y.2.2.2.2.2.1 y.2.2.2.2.2.2.1 y.2.2.2.2.2.2.2.1 y.2.2.2.2.2.2.2.2.1 y.2.2.2.2.2.2.2.2.2) ?_ ?_
      ·rintro ⟨z13, s8, z14, s9, z15, z16, s10, z17, z18, b1⟩ hm
       unfold m12_8 at hm
       replace hm:=bb_cases hm;rcases hm with ⟨h11,hm⟩ | ⟨h11,hm⟩
       ·refine .ifT b1 (by kernel_rfl) h11 ?_
        refine .then (.rK ?_)
        refine .ghs (fr 252 [(6,zB false)]) (hp 0 []) (.k0 [] [] [6]) ?_
        refine .ret ?_
        exact fin_ret (zB false) (by kernel_rfl) (by kernel_rfl) hm
       ·refine .ifF b1 (by kernel_rfl) h11 ?_
        refine .skip ?_
        refine .ghs (fr 252 [(7,zI z13),(19,Sl.v 1 s8),(27,zI z14),(225,Sl.v 1 s9),(226,zI z15),(227,zI z16),(231,Sl.v 1 s10),(232,zI z17),(233,zI z18)]) (hp 0 []) (.k0 [] [] [7,19,27,225,226,227,231,232,233]) ?_
        refine .rK ?_
        exact ⟨(z13,s8,z14,s9,z15,z16,s10,z17,(wrapF .i64 (Int.add z18 (1:Int)))),hm,(.k0 [] [] [7,19,27,225,226,227,231,232,233])⟩
      ·replace hm := bb_cases hm; rcases hm with ⟨h12, hm⟩ | ⟨h12, hm⟩
       ·replace hm := bb_inv hm; obtain ⟨h13, hm⟩ := hm
        replace hm:=oo_inv hm;obtain ⟨v4,h14,hm⟩:=hm
        replace hm:=inv_vBool hm;obtain ⟨b2,rfl,hm⟩:=hm
        refine .reg (eC 1 (some ((zB (ilt (1:Int) z7)),(hp 0 []))) (show _ = some ((zB true),_) from (by rw [show (ilt (1:Int) z7) = true from h12])) (eC 6 (keep (hp 0 []) (bb (ieq z7 (0:Int)) none (some (zI (Int.tmod (wrapF .i64 (Int.mul z8 x1)) z7))))) (keep_nb h13) (eD ((oo (pu 59 [Sl.v 1 s5,(zI (Int.tmod (wrapF .i64 (Int.mul z8 x1)) z7))]) none fun v=>some (v,(hp 0 [])))) (call_eq h14) (eE)))) ?_
        exact ⟨(z7,s5,z8,s6,z9,z10,s7,z11,(Int.ofNat k2),(nt b2)),hm,(.k0 [] [] [7,19,27,225,226,227,231,232,233,248])⟩
       ·refine .reg (eC 1 (some ((zB (ilt (1 : Int) z7)), (hp 0 []))) (show _ = some ((zB false), _) from (by rw [show (ilt (1 : Int) z7) = false from h12])) (eE)) ?_
        exact ⟨(z7,s5,z8,s6,z9,z10,s7,z11,(Int.ofNat k2),false),hm,(.k0 [] [] [7,19,27,225,226,227,231,232,233,248])⟩
     ·refine .ifF (ilt z12 z11) (by kernel_rfl) h7 ?_
      refine .exit ?_
      exact ⟨(z7,s5,s6,z9,z10),hm,(.k0 [] [] [7,19,225,226,227])⟩
   ·refine .ifF (ilt z3 z2) (by kernel_rfl) h3 ?_
    refine .exit ?_
    exact ⟨(),hm,(.k0 [] [] [])⟩
theorem w12_1 (pu:PureF) (n:Nat) (z0 z1 z2:Int) {v:Value} (hm:m12_1 pu n z0 z1 z2 = some v):Run tt (callP tabs isP pu (inl pu)) 0 c12_139 (fr 252 [(2,.int .i16 z0),(7,zI z1),(8,.int .u32 z2)]) (hp 0 []) (Fin tt 0 [.tmp 6] v):=by
 unfold m12_1 at hm
 refine .then ?_
 replace hm:=oo_inv hm;obtain ⟨v0,h0,hm⟩:=hm
 replace hm:=inv_vAgg hm;obtain ⟨l0,rfl,hm⟩:=hm
 replace hm:=ll_uncons hm;obtain ⟨v1,l1460_0,rfl,hm⟩:=hm
 replace hm:=ll_uncons hm;obtain ⟨v2,l1460_1,rfl,hm⟩:=hm
 replace hm:=ll_end hm;obtain ⟨rfl,hm⟩:=hm
 replace hm:=inv_toI hm;obtain ⟨x0,rfl,hm⟩:=hm
 replace hm:=inv_toSl hm;obtain ⟨s0,rfl,hm⟩:=hm
 replace hm:=oo_inv hm;obtain ⟨v3,h1,hm⟩:=hm
 replace hm:=inv_vTup hm;obtain ⟨l1,rfl,hm⟩:=hm
 replace hm:=ll_uncons hm;obtain ⟨v4,l1470_0,rfl,hm⟩:=hm
 replace hm:=ll_uncons hm;obtain ⟨v5,l1470_1,rfl,hm⟩:=hm
 replace hm:=ll_end hm;obtain ⟨rfl,hm⟩:=hm
 replace hm:=inv_toSl hm;obtain ⟨s1,rfl,hm⟩:=hm
 replace hm:=inv_toI hm;obtain ⟨x1,rfl,hm⟩:=hm
 refine .reg (eC 2 ((oo (pu 47 [zI z1,.int .u32 z2]) none fun v=>some (v,(hp 0 [])))) (call_eq h0) (eD ((oo (pu 42 [(.agg ⟨[zI x0,Sl.v 1 s0]⟩)]) none fun v=>some (v,(hp 0 [])))) (call_eq h1) (eE))) ?_
 refine .ghs (fr 252 [(2,.int .i16 z0),(7,zI z1),(8,.int .u32 z2),(11,zI x1),(19,Sl.v 1 s1)]) (hp 0 []) (.k0 [] [] [2,7,8,11,19]) ?_
 refine .then ?_
 replace hm:=oo_inv hm;obtain ⟨v6,h2,hm⟩:=hm
 replace hm:=inv_toI hm;obtain ⟨x2,rfl,hm⟩:=hm
 replace hm:=oo_inv hm;obtain ⟨v7,h3,hm⟩:=hm
 replace hm:=inv_vAgg hm;obtain ⟨l2,rfl,hm⟩:=hm
 replace hm:=ll_uncons hm;obtain ⟨v8,l1508_0,rfl,hm⟩:=hm
 replace hm:=ll_uncons hm;obtain ⟨v9,l1508_1,rfl,hm⟩:=hm
 replace hm:=ll_end hm;obtain ⟨rfl,hm⟩:=hm
 replace hm:=inv_toI hm;obtain ⟨x3,rfl,hm⟩:=hm
 replace hm:=inv_toSl hm;obtain ⟨s2,rfl,hm⟩:=hm
 replace hm:=oo_inv hm;obtain ⟨v10,h4,hm⟩:=hm
 replace hm:=inv_vTup hm;obtain ⟨l3,rfl,hm⟩:=hm
 replace hm:=ll_uncons hm;obtain ⟨v11,l1518_0,rfl,hm⟩:=hm
 replace hm:=ll_uncons hm;obtain ⟨v12,l1518_1,rfl,hm⟩:=hm
 replace hm:=ll_end hm;obtain ⟨rfl,hm⟩:=hm
 replace hm:=inv_toSl hm;obtain ⟨s3,rfl,hm⟩:=hm
 replace hm:=inv_toI hm;obtain ⟨x4,rfl,hm⟩:=hm
 refine .reg (eC 5 ((oo (pu 49 [zI z1,.int .u32 z2,(zI (1:Int)),(zI (wrapF .i64 z0))]) none fun v=>some (v,(hp 0 [])))) (call_eq h2) (eD ((oo (pu 47 [zI z1,.int .u32 x2]) none fun v=>some (v,(hp 0 [])))) (call_eq h3) (eD ((oo (pu 42 [(.agg ⟨[zI x3,Sl.v 1 s2]⟩)]) none fun v=>some (v,(hp 0 [])))) (call_eq h4) (eE)))) ?_
 refine .ghs (fr 252 [(7,zI z1),(8,.int .u32 z2),(11,zI x1),(19,Sl.v 1 s1),(20,Sl.v 1 s3),(21,zI x4)]) (hp 0 []) (.k0 [] [] [7,8,11,19,20,21]) ?_
 refine .then ?_
 refine .join (v:=v) (fun y:Int×Int×Sl×Bool=>((fr 252 [(7,(zI y.1)),(8,(.int .u32 y.2.1)),(19,(Sl.v 1 y.2.2.1)),(180,(zB y.2.2.2))]),(hp 0 []))) (fun y=>m12_2 pu n y.1 y.2.1 y.2.2.1 y.2.2.2) ?_ ?_
 ·rintro ⟨z3, z4, s4, b0⟩ hm
  unfold m12_2 at hm
  replace hm:=bb_cases hm;rcases hm with ⟨h5,hm⟩ | ⟨h5,hm⟩
  ·refine .ifT b0 (by kernel_rfl) h5 ?_
   refine .then (.rK ?_)
   refine .ghs (fr 252 [(6,zB false)]) (hp 0 []) (.k0 [] [] [6]) ?_
   refine .ret ?_
   exact fin_ret (zB false) (by kernel_rfl) (by kernel_rfl) hm
  ·refine .ifF b0 (by kernel_rfl) h5 ?_
   refine .skip ?_
   refine .ghs (fr 252 [(7,zI z3),(8,.int .u32 z4),(19,Sl.v 1 s4)]) (hp 0 []) (.k0 [] [] [7,8,19]) ?_
   refine .then (.rK ?_)
   refine .ghs (fr 252 [(7,zI z3),(8,.int .u32 z4),(19,Sl.v 1 s4),(22,(.slice none 0 0))]) (hp 0 []) (.k0 [] [] [7,8,19,22]) ?_
   refine .join (v:=v) (fun y:Int×Sl×Nat×Nat×LV=>((fr 252 [(7,(zI y.1)),(19,(Sl.v 1 y.2.1)),(22,(sc 0 0 1 y.2.2.1 y.2.2.2.1))]),(hp 1 [(oC y.2.2.2.2)]))) (fun y=>m12_3 pu n y.1 y.2.1 y.2.2.1 y.2.2.2.1 y.2.2.2.2) ?_ ?_
   ·rintro ⟨z5, s5, n0, c0, q1⟩ hm
    exact w12_3 pu n z5 s5 n0 c0 q1 hm
   ·refine .then (.rK ?_)
    refine .ghs (fr 252 [(7,zI z3),(8,.int .u32 z4),(19,Sl.v 1 s4),(22,(.slice none 0 0)),(23,(zI (1:Int)))]) (hp 0 []) (.k0 [] [] [7,8,19,22,23]) ?_
    refine .block ?_
    refine .loopM (v:=v) (fun y:Int×Int×Sl×Nat×Nat×Int×LV=>((fr 252 [(7,(zI y.1)),(8,(.int .u32 y.2.1)),(19,(Sl.v 1 y.2.2.1)),(22,(sc 0 0 1 y.2.2.2.1 y.2.2.2.2.1)),(23,(zI y.2.2.2.2.2.1))]),(hp 1 [(oC y.2.2.2.2.2.2)]))) (fun w y=>l12_9 pu n w y.1 y.2.1 y.2.2.1 y.2.2.2.1 y.2.2.2.2.1 y.2.2.2.2.2.1 y.2.2.2.2.2.2) n ⟨(z3,z4,s4,0,0,(1:Int),([]:LV)),hm,(.thaw 22 1 (by kernel_rfl) (.k0 [] [.tmp 22 false] [7,8,19,22,23]))⟩ (fun _=>rfl) ?_
    rintro w0 ⟨z6,z7,s6,n1,c1,z8,q2⟩ hm
    replace hm:b12_9 pu n (l12_9 pu n w0) z6 z7 s6 n1 c1 z8 q2 = some v:=hm
    unfold b12_9 at hm
    refine .then ?_
    refine .then (.rK ?_)
    replace hm:=bb_inv hm;obtain ⟨h6,hm⟩:=hm
    refine .ghs (fr 252 [(7,zI z6),(8,.int .u32 z7),(19,Sl.v 1 s6),(22,sc 0 0 1 n1 c1),(23,zI z8),(183,(zB (nt (ilt z6 z8))))]) (hp 1 [oC q2]) (.k [0] [] [.tmp 22 false] [7,8,19,22,23,183] ⟨trF h6,trivial⟩) ?_
    replace hm:=bb_cases hm;rcases hm with ⟨h7,hm⟩ | ⟨h7,hm⟩
    ·refine .ifT (nt (ilt z6 z8)) (by kernel_rfl) h7 ?_
     refine .skip ?_
     refine .ghs (fr 252 [(7,zI z6),(8,.int .u32 z7),(19,Sl.v 1 s6),(22,sc 0 0 1 n1 c1),(23,zI z8)]) (hp 1 [oC q2]) (.k [0] [] [.tmp 22 false] [7,8,19,22,23] ⟨trF h6,trivial⟩) ?_
     refine .join (v:=v) (fun y:Int×Int×Sl×Nat×Nat×Int×LV=>((fr 252 [(7,(zI y.1)),(8,(.int .u32 y.2.1)),(19,(Sl.v 1 y.2.2.1)),(22,(sc 0 0 1 y.2.2.2.1 y.2.2.2.2.1)),(23,(zI y.2.2.2.2.2.1))]),(hp 1 [(oC y.2.2.2.2.2.2)]))) (fun y=>m12_10 pu n (l12_9 pu n w0) y.1 y.2.1 y.2.2.1 y.2.2.2.1 y.2.2.2.2.1 y.2.2.2.2.2.1 y.2.2.2.2.2.2) ?_ ?_
     ·rintro ⟨z9, z10, s7, n2, c2, z11, q3⟩ hm
      unfold m12_10 at hm
      refine .rK ?_
      replace hm:=bb_inv hm;obtain ⟨h8,hm⟩:=hm
      exact ⟨(z9,z10,s7,n2,c2,(wrapF .i64 (Int.add z11 (1:Int))),q3),hm,(.k [0] [] [.tmp 22 false] [7,8,19,22,23] ⟨trF h8,trivial⟩)⟩
     ·refine .block ?_
      refine .then (.rK ?_)
      refine .ghs (fr 252 [(7,zI z6),(8,.int .u32 z7),(19,Sl.v 1 s6),(22,sc 0 0 1 n1 c1),(23,zI z8),(24,zB true)]) (hp 1 [oC q2]) (.k [0] [] [.tmp 22 false] [7,8,19,22,23,24] ⟨trF h6,trivial⟩) ?_
      refine .join (v:=v) (fun y:Int×Int×Sl×Nat×Nat×Int×Bool×LV=>((fr 252 [(7,(zI y.1)),(8,(.int .u32 y.2.1)),(19,(Sl.v 1 y.2.2.1)),(22,(sc 0 0 1 y.2.2.2.1 y.2.2.2.2.1)),(23,(zI y.2.2.2.2.2.1)),(24,(zB y.2.2.2.2.2.2.1))]),(hp 1 [(oC y.2.2.2.2.2.2.2)]))) (fun y=>m12_11 pu n (l12_9 pu n w0) y.1 y.2.1 y.2.2.1 y.2.2.2.1 y.2.2.2.2.1 y.2.2.2.2.2.1 y.2.2.2.2.2.2.1 y.2.2.2.2.2.2.2) ?_ ?_
      ·rintro ⟨z12, z13, s8, n3, c3, z14, b1, q4⟩ hm
       unfold m12_11 at hm
       refine .join (v:=v) (fun y:Int×Int×Sl×Nat×Nat×Int×Bool×LV=>((fr 252 [(7,(zI y.1)),(8,(.int .u32 y.2.1)),(19,(Sl.v 1 y.2.2.1)),(22,(sc 0 0 1 y.2.2.2.1 y.2.2.2.2.1)),(23,(zI y.2.2.2.2.2.1)),(216,(zB y.2.2.2.2.2.2.1))]),(hp 1 [(oC y.2.2.2.2.2.2.2)]))) (fun y=>m12_12 pu n (l12_9 pu n w0) y.1 y.2.1 y.2.2.1 y.2.2.2.1 y.2.2.2.2.1 y.2.2.2.2.2.1 y.2.2.2.2.2.2.1 y.2.2.2.2.2.2.2) ?_ ?_
       ·rintro ⟨z15, z16, s9, n4, c4, z17, b2, q5⟩ hm
        unfold m12_12 at hm
        replace hm:=bb_cases hm;rcases hm with ⟨h9,hm⟩ | ⟨h9,hm⟩
        ·refine .ifT b2 (by kernel_rfl) h9 ?_
         replace hm:=bb_inv hm;obtain ⟨h10,hm⟩:=hm
         refine .reg (eC 3 (growD 1 8 n4 c4 1 0 q5 [zI z17] [] (hp 2 [oC q5,(oC [zI z17])])) (growD_eq h10) (eE)) ?_
         replace hm:=bb_inv hm;obtain ⟨h11,hm⟩:=hm
         exact ⟨(z15,z16,s9,(n4 + 1),(d2 (n4 + 1)),z17,(appL (dropL 0 q5) [zI z17])),hm,(.k [2] [] [.tmp 22 false] [7,8,19,22,23] ⟨trF h11,trivial⟩)⟩
        ·refine .ifF b2 (by kernel_rfl) h9 ?_
         refine .skip ?_
         replace hm:=bb_inv hm;obtain ⟨h12,hm⟩:=hm
         exact ⟨(z15,z16,s9,n4,c4,z17,q5),hm,(.k [0] [] [.tmp 22 false] [7,8,19,22,23] ⟨trF h12,trivial⟩)⟩
       ·replace hm := bb_cases hm; rcases hm with ⟨h13, hm⟩ | ⟨h13, hm⟩
        ·replace hm := oo_inv hm; obtain ⟨v13, h14, hm⟩ := hm
         replace hm:=inv_toI hm;obtain ⟨x5,rfl,hm⟩:=hm
         replace hm:=oo_inv hm;obtain ⟨v14,h15,hm⟩:=hm
         replace hm:=inv_toI hm;obtain ⟨x6,rfl,hm⟩:=hm
         replace hm:=oo_inv hm;obtain ⟨v15,h16,hm⟩:=hm
         replace hm:=inv_toI hm;obtain ⟨x7,rfl,hm⟩:=hm
         refine .reg (eD (some ((zB b1),(hp 1 [oC q4]))) (show _ = some ((zB true),_) from (by rw [show b1 = true from h13])) (eC 5 ((oo (pu 49 [zI z12,.int .u32 z13,zI z14,(zI (0:Int))]) none fun v=>some (v,(hp 1 [oC q4])))) (call_eq h14) (eD ((oo (pu 58 [zI z12,.int .u32 x5]) none fun v=>some (v,(hp 1 [oC q4])))) (call_eq h15) (eC 2 ((oo (pu 58 [zI z12,.int .u32 z13]) none fun v=>some (v,(hp 1 [oC q4])))) (call_eq h16) (eE))))) ?_
         replace hm:=bb_inv hm;obtain ⟨h17,hm⟩:=hm
         exact ⟨(z12,z13,s8,n3,c3,z14,(ieq x6 x7),q4),hm,(.k [0] [] [.tmp 22 false] [7,8,19,22,23,216] ⟨trF h17,trivial⟩)⟩
        ·refine .reg (eD (some ((zB b1), (hp 1 [oC q4]))) (show _ = some ((zB false), _) from (by rw [show b1 = false from h13])) (eE)) ?_
         replace hm:=bb_inv hm;obtain ⟨h18,hm⟩:=hm
         exact ⟨(z12,z13,s8,n3,c3,z14,false,q4),hm,(.k [0] [] [.tmp 22 false] [7,8,19,22,23,216] ⟨trF h18,trivial⟩)⟩
      ·refine .then (.rK ?_)
       refine .ghs (fr 252 [(7,zI z6),(8,.int .u32 z7),(19,Sl.v 1 s6),(22,sc 0 0 1 n1 c1),(23,zI z8),(24,zB true),(25,(zI (2:Int)))]) (hp 1 [oC q2]) (.k [0] [] [.tmp 22 false] [7,8,19,22,23,24,25] ⟨trF h6,trivial⟩) ?_
       refine .block ?_
       refine .loopM (v:=v) (fun y:Int×Int×Sl×Nat×Nat×Int×Bool×Int×LV=>((fr 252 [(7,(zI y.1)),(8,(.int .u32 y.2.1)),(19,(Sl.v 1 y.2.2.1)),(22,(sc 0 0 1 y.2.2.2.1 y.2.2.2.2.1)),(23,(zI y.2.2.2.2.2.1)),(24,(zB y.2.2.2.2.2.2.1)),(25,(zI y.2.2.2.2.2.2.2.1))]),(hp 1 [(oC y.2.2.2.2.2.2.2.2)]))) (fun w y=>l12_13 pu n (l12_9 pu n w0) w y.1 y.2.1 y.2.2.1 y.2.2.2.1 y.2.2.2.2.1 y.2.2.2.2.2.1 y.2.2.2.2.2.2.1 y.2.2.2.2.2.2.2.1 y.2.2.2.2.2.2.2.2) n ⟨(z6,z7,s6,n1,c1,z8,true,(2:Int),q2),hm,(.k [0] [] [.tmp 22 false] [7,8,19,22,23,24,25] ⟨trF h6,trivial⟩)⟩ (fun _=>rfl) ?_
       rintro w1 ⟨z18,z19,s10,n5,c5,z20,b3,z21,q6⟩ hm
       replace hm:b12_13 pu n (l12_9 pu n w0) (l12_13 pu n (l12_9 pu n w0) w1) z18 z19 s10 n5 c5 z20 b3 z21 q6 = some v:=hm
       unfold b12_13 at hm
       refine .then ?_
       refine .then (.rK ?_)
       replace hm:=bb_inv hm;obtain ⟨h19,hm⟩:=hm
       refine .ghs (fr 252 [(7,zI z18),(8,.int .u32 z19),(19,Sl.v 1 s10),(22,sc 0 0 1 n5 c5),(23,zI z20),(24,zB b3),(25,zI z21),(188,(zB (nt (ilt z20 z21))))]) (hp 1 [oC q6]) (.k [0] [] [.tmp 22 false] [7,8,19,22,23,24,25,188] ⟨trF h19,trivial⟩) ?_
       replace hm:=bb_cases hm;rcases hm with ⟨h20,hm⟩ | ⟨h20,hm⟩
       ·refine .ifT (nt (ilt z20 z21)) (by kernel_rfl) h20 ?_
        refine .skip ?_
        refine .ghs (fr 252 [(7,zI z18),(8,.int .u32 z19),(19,Sl.v 1 s10),(22,sc 0 0 1 n5 c5),(23,zI z20),(24,zB b3),(25,zI z21)]) (hp 1 [oC q6]) (.k [0] [] [.tmp 22 false] [7,8,19,22,23,24,25] ⟨trF h19,trivial⟩) ?_
        refine .then ?_
        refine .block ?_
        replace hm:=bb_cases hm;rcases hm with ⟨h21,hm⟩ | ⟨h21,hm⟩
        ·replace hm := bb_inv hm; obtain ⟨h22, hm⟩ := hm
         replace hm:=bb_cases hm;rcases hm with ⟨h23,hm⟩ | ⟨h23,hm⟩
         ·refine .reg (eD (some ((zB b3), (hp 1 [oC q6]))) (show _ = some ((zB true), _) from (by rw [show b3 = true from h21])) (eC 3 (keep (hp 1 [oC q6]) (bb (ieq z21 (0 : Int)) none (some (zI (Int.tmod z18 z21))))) (keep_nb h22) (eD (some ((zB (nt (ieq (Int.tmod z18 z21) (0 : Int)))), (hp 1 [oC q6]))) (show _ = some ((zB true), _) from (by rw [show (nt (ieq (Int.tmod z18 z21) (0 : Int))) = true from h23])) (eE)))) ?_
          refine .ghs (fr 252 [(7,zI z18),(8,.int .u32 z19),(19,Sl.v 1 s10),(22,sc 0 0 1 n5 c5),(23,zI z20),(24,zB true),(25,zI z21)]) (hp 1 [oC q6]) (.k [0] [] [.tmp 22 false] [7,8,19,22,23,24,25] ⟨trF h19,trivial⟩) ?_
          refine .rK ?_
          exact ⟨(z18,z19,s10,n5,c5,z20,true,(wrapF .i64 (Int.add z21 (1:Int))),q6),hm,(.k [0] [] [.tmp 22 false] [7,8,19,22,23,24,25] ⟨trF h19,trivial⟩)⟩
         ·replace hm := bb_inv hm; obtain ⟨h24, hm⟩ := hm
          refine .reg (eD (some ((zB b3),(hp 1 [oC q6]))) (show _ = some ((zB true),_) from (by rw [show b3 = true from h21])) (eC 3 (keep (hp 1 [oC q6]) (bb (ieq z21 (0:Int)) none (some (zI (Int.tmod z18 z21))))) (keep_nb h22) (eD (some ((zB (nt (ieq (Int.tmod z18 z21) (0:Int)))),(hp 1 [oC q6]))) (show _ = some ((zB false),_) from (by rw [show (nt (ieq (Int.tmod z18 z21) (0:Int))) = false from h23])) (eC 3 (keep (hp 1 [oC q6]) (bb (ieq z21 (0:Int)) none (some (zI (Int.tmod z20 z21))))) (keep_nb h24) (eE))))) ?_
          refine .ghs (fr 252 [(7,zI z18),(8,.int .u32 z19),(19,Sl.v 1 s10),(22,sc 0 0 1 n5 c5),(23,zI z20),(24,(zB (nt (ieq (Int.tmod z20 z21) (0:Int))))),(25,zI z21)]) (hp 1 [oC q6]) (.k [0] [] [.tmp 22 false] [7,8,19,22,23,24,25] ⟨trF h19,trivial⟩) ?_
          refine .rK ?_
          exact ⟨(z18,z19,s10,n5,c5,z20,(nt (ieq (Int.tmod z20 z21) (0:Int))),(wrapF .i64 (Int.add z21 (1:Int))),q6),hm,(.k [0] [] [.tmp 22 false] [7,8,19,22,23,24,25] ⟨trF h19,trivial⟩)⟩
        ·refine .reg (eD (some ((zB b3), (hp 1 [oC q6]))) (show _ = some ((zB false), _) from (by rw [show b3 = false from h21])) (eE)) ?_
         refine .ghs (fr 252 [(7,zI z18),(8,.int .u32 z19),(19,Sl.v 1 s10),(22,sc 0 0 1 n5 c5),(23,zI z20),(24,zB false),(25,zI z21)]) (hp 1 [oC q6]) (.k [0] [] [.tmp 22 false] [7,8,19,22,23,24,25] ⟨trF h19,trivial⟩) ?_
         refine .rK ?_
         exact ⟨(z18,z19,s10,n5,c5,z20,false,(wrapF .i64 (Int.add z21 (1:Int))),q6),hm,(.k [0] [] [.tmp 22 false] [7,8,19,22,23,24,25] ⟨trF h19,trivial⟩)⟩
       ·refine .ifF (nt (ilt z20 z21)) (by kernel_rfl) h20 ?_
        refine .exit ?_
        exact ⟨(z18,z19,s10,n5,c5,z20,b3,q6),hm,(.k [0] [] [.tmp 22 false] [7,8,19,22,23,24] ⟨trF h19,trivial⟩)⟩
    ·refine .ifF (nt (ilt z6 z8)) (by kernel_rfl) h7 ?_
     refine .exit ?_
     exact ⟨(z6,s6,n1,c1,q2),hm,(.k [0] [] [.tmp 22 false] [7,19,22] ⟨trF h6,trivial⟩)⟩
 ·replace hm := bb_cases hm; rcases hm with ⟨h25, hm⟩ | ⟨h25, hm⟩
  ·refine .reg (eC 1 (some ((zB (nt (ieq x1 (0 : Int)))), (hp 0 []))) (show _ = some ((zB true), _) from (by rw [show (nt (ieq x1 (0 : Int))) = true from h25])) (eE)) ?_
   exact ⟨(z1,z2,s1,true),hm,(.k0 [] [] [7,8,19,180])⟩
  ·replace hm := bb_cases hm; rcases hm with ⟨h26, hm⟩ | ⟨h26, hm⟩
   ·refine .reg (eC 1 (some ((zB (nt (ieq x1 (0 : Int)))), (hp 0 []))) (show _ = some ((zB false), _) from (by rw [show (nt (ieq x1 (0 : Int))) = false from h25])) (eC 2 (some ((zB (nt (ieq x4 (0 : Int)))), (hp 0 []))) (show _ = some ((zB true), _) from (by rw [show (nt (ieq x4 (0 : Int))) = true from h26])) (eE))) ?_
    exact ⟨(z1,z2,s1,true),hm,(.k0 [] [] [7,8,19,180])⟩
   ·replace hm := oo_inv hm; obtain ⟨v16, h27, hm⟩ := hm
    replace hm:=inv_vTup hm;obtain ⟨l4,rfl,hm⟩:=hm
    replace hm:=ll_uncons hm;obtain ⟨v17,l2406_0,rfl,hm⟩:=hm
    replace hm:=ll_end hm;obtain ⟨rfl,hm⟩:=hm
    replace hm:=inv_vBool hm;obtain ⟨b4,rfl,hm⟩:=hm
    refine .reg (eC 1 (some ((zB (nt (ieq x1 (0:Int)))),(hp 0 []))) (show _ = some ((zB false),_) from (by rw [show (nt (ieq x1 (0:Int))) = false from h25])) (eC 2 (some ((zB (nt (ieq x4 (0:Int)))),(hp 0 []))) (show _ = some ((zB false),_) from (by rw [show (nt (ieq x4 (0:Int))) = false from h26])) (eC 4 (objG tabs [[some 1],[some 1]] 2 [] [] (pu 10230) [Sl.v 1 s1,Sl.v 1 s3] (hp 0 [])) (objG_eq (as:=[Sl.v 1 s1,Sl.v 1 s3]) (H1:=(hp 0 [])) (gvAL_c (gvA_1 (gv_s (giveV_cl (z:=1) (v:=(Sl.v 1 s1)) (H:=(hp 0 [])) (by kernel_rfl) (by kernel_rfl) (by kernel_rfl)))) (gvAL_c (gvA_1 (gv_s (giveV_cl (z:=1) (v:=(Sl.v 1 s3)) (H:=(hp 0 [])) (by kernel_rfl) (by kernel_rfl) (by kernel_rfl)))) gvAL_n)) (objF_eq (H2:=(hp 0 [])) (v:=(zB b4)) (v':=(zB b4)) [] [] [] [Sl.v 1 s1,Sl.v 1 s3] [] [] [] [] [] (by kernel_rfl) mapO_n (Eq.trans (by kernel_rfl) h27) mapO_n mapO_n)) (eE)))) ?_
    exact ⟨(z1,z2,s1,(nt b4)),hm,(.k0 [] [] [7,8,19,180])⟩
theorem w12_0 (pu:PureF) (n:Nat) (z0 z1 z2 z3 z4:Int) (b0:Bool) (z5:Int) (s0:Sl) {v:Value} (hm:m12_0 pu n z0 z1 z2 z3 z4 b0 z5 s0 = some v):Run tt (callP tabs isP pu (inl pu)) 0 c12_140 (fr 252 [(2,.int .i16 z0),(7,zI z1),(8,.int .u32 z2),(9,zI z3),(10,(pt 0 0)),(11,zI z4),(12,zB b0)]) (hp 1 [(oC [zI z5,Sl.v 1 s0])]) (Fin tt 0 [.tmp 6] v):=by
 unfold m12_0 at hm
 refine .join (v:=v) (fun y:Int×Int×Int=>((fr 252 [(2,(.int .i16 y.1)),(7,(zI y.2.1)),(8,(.int .u32 y.2.2))]),(hp 0 []))) (fun y=>m12_1 pu n y.1 y.2.1 y.2.2) ?_ ?_
 ·rintro ⟨z6, z7, z8⟩ hm
  exact w12_1 pu n z6 z7 z8 hm
 ·refine .then (.rK ?_)
  refine .ghs (fr 252 [(2,.int .i16 z0),(7,zI z1),(8,.int .u32 z2),(9,zI z3),(10,(pt 0 0)),(11,zI z4),(66,zB b0)]) (hp 1 [(oC [zI z5,Sl.v 1 s0])]) (.k0 [] [.tmp 10 false] [2,7,8,9,10,11,66]) ?_
  replace hm:=bb_cases hm;rcases hm with ⟨h0,hm⟩ | ⟨h0,hm⟩
  ·refine .ifT b0 (by kernel_rfl) h0 ?_
   refine .join (v:=v) (fun y:Int×Int×Int×Bool=>((fr 252 [(2,(.int .i16 y.1)),(7,(zI y.2.1)),(8,(.int .u32 y.2.2.1)),(79,(zB y.2.2.2))]),(hp 0 []))) (fun y=>m12_14 pu n y.1 y.2.1 y.2.2.1 y.2.2.2) ?_ ?_
   ·rintro ⟨z9, z10, z11, b1⟩ hm
    unfold m12_14 at hm
    replace hm:=bb_cases hm;rcases hm with ⟨h1,hm⟩ | ⟨h1,hm⟩
    ·refine .ifT b1 (by kernel_rfl) h1 ?_
     refine .then (.rK ?_)
     refine .ghs (fr 252 [(6,zB false)]) (hp 0 []) (.k0 [] [] [6]) ?_
     refine .ret ?_
     exact fin_ret (zB false) (by kernel_rfl) (by kernel_rfl) hm
    ·refine .ifF b1 (by kernel_rfl) h1 ?_
     refine .skip ?_
     exact ⟨(z9,z10,z11),hm,(.k0 [] [] [2,7,8])⟩
   ·replace hm := bb_cases hm; rcases hm with ⟨h2, hm⟩ | ⟨h2, hm⟩
    ·refine .reg (eC 1 (some ((zB (nt (ieq z4 (13 : Int)))), (hp 1 [(oC [zI z5, Sl.v 1 s0])]))) (show _ = some ((zB true), _) from (by rw [show (nt (ieq z4 (13 : Int))) = true from h2])) (eE)) ?_
     exact ⟨(z0,z1,z2,true),hm,(.k0 [] [] [2,7,8,79])⟩
    ·replace hm := bb_cases hm; rcases hm with ⟨h3, hm⟩ | ⟨h3, hm⟩
     ·refine .reg (eC 1 (some ((zB (nt (ieq z4 (13 : Int)))), (hp 1 [(oC [zI z5, Sl.v 1 s0])]))) (show _ = some ((zB false), _) from (by rw [show (nt (ieq z4 (13 : Int))) = false from h2])) (eC 4 (some ((zB (nt (ieq (Int.ofNat (Sl.n s0)) (0 : Int)))), (hp 1 [(oC [zI z5, Sl.v 1 s0])]))) (show _ = some ((zB true), _) from (by rw [show (nt (ieq (Int.ofNat (Sl.n s0)) (0 : Int))) = true from h3])) (eE))) ?_
      exact ⟨(z0,z1,z2,true),hm,(.k0 [] [] [2,7,8,79])⟩
     ·refine .reg (eC 1 (some ((zB (nt (ieq z4 (13 : Int)))), (hp 1 [(oC [zI z5, Sl.v 1 s0])]))) (show _ = some ((zB false), _) from (by rw [show (nt (ieq z4 (13 : Int))) = false from h2])) (eC 4 (some ((zB (nt (ieq (Int.ofNat (Sl.n s0)) (0 : Int)))), (hp 1 [(oC [zI z5, Sl.v 1 s0])]))) (show _ = some ((zB false), _) from (by rw [show (nt (ieq (Int.ofNat (Sl.n s0)) (0 : Int))) = false from h3])) (eE))) ?_
      exact ⟨(z0,z1,z2,(nt (ieq z5 (0:Int)))),hm,(.k0 [] [] [2,7,8,79])⟩
  ·refine .ifF b0 (by kernel_rfl) h0 ?_
   refine .then ?_
   refine .join (v:=v) (fun y:Int×Int×Int×Int×Bool×Int×Sl=>((fr 252 [(2,(.int .i16 y.1)),(7,(zI y.2.1)),(8,(.int .u32 y.2.2.1)),(9,(zI y.2.2.2.1)),(10,(pt 0 0)),(98,(zB y.2.2.2.2.1))]),(hp 1 [(oC [(zI y.2.2.2.2.2.1),(Sl.v 1 y.2.2.2.2.2.2)])]))) (fun y=>m12_15 pu n y.1 y.2.1 y.2.2.1 y.2.2.2.1 y.2.2.2.2.1 y.2.2.2.2.2.1 y.2.2.2.2.2.2) ?_ ?_
   ·rintro ⟨z12, z13, z14, z15, b2, z16, s1⟩ hm
    unfold m12_15 at hm
    replace hm:=bb_cases hm;rcases hm with ⟨h4,hm⟩ | ⟨h4,hm⟩
    ·refine .ifT b2 (by kernel_rfl) h4 ?_
     refine .then (.rK ?_)
     refine .ghs (fr 252 [(6,zB false)]) (hp 0 []) (.k0 [] [] [6]) ?_
     refine .ret ?_
     exact fin_ret (zB false) (by kernel_rfl) (by kernel_rfl) hm
    ·refine .ifF b2 (by kernel_rfl) h4 ?_
     refine .skip ?_
     refine .ghs (fr 252 [(2,.int .i16 z12),(7,zI z13),(8,.int .u32 z14),(9,zI z15),(10,(pt 0 0))]) (hp 1 [(oC [zI z16,Sl.v 1 s1])]) (.k0 [] [.tmp 10 false] [2,7,8,9,10]) ?_
     refine .then ?_
     replace hm:=oo_inv hm;obtain ⟨v0,h5,hm⟩:=hm
     replace hm:=inv_vAgg hm;obtain ⟨l0,rfl,hm⟩:=hm
     replace hm:=ll_uncons hm;obtain ⟨v1,l2493_0,rfl,hm⟩:=hm
     replace hm:=ll_uncons hm;obtain ⟨v2,l2493_1,rfl,hm⟩:=hm
     replace hm:=ll_end hm;obtain ⟨rfl,hm⟩:=hm
     replace hm:=inv_toI hm;obtain ⟨x0,rfl,hm⟩:=hm
     replace hm:=inv_toSl hm;obtain ⟨s2,rfl,hm⟩:=hm
     replace hm:=oo_inv hm;obtain ⟨v3,h6,hm⟩:=hm
     replace hm:=inv_vTup hm;obtain ⟨l1,rfl,hm⟩:=hm
     replace hm:=ll_uncons hm;obtain ⟨v4,l2503_0,rfl,hm⟩:=hm
     replace hm:=ll_uncons hm;obtain ⟨v5,l2503_1,rfl,hm⟩:=hm
     replace hm:=ll_end hm;obtain ⟨rfl,hm⟩:=hm
     replace hm:=inv_toSl hm;obtain ⟨s3,rfl,hm⟩:=hm
     replace hm:=inv_toI hm;obtain ⟨x1,rfl,hm⟩:=hm
     refine .reg (eC 2 ((oo (pu 47 [zI z13,.int .u32 z14]) none fun v=>some (v,(hp 1 [(oC [zI z16,Sl.v 1 s1])])))) (call_eq h5) (eD ((oo (pu 27 [(.agg ⟨[zI x0,Sl.v 1 s2]⟩)]) none fun v=>some (v,(hp 1 [(oC [zI z16,Sl.v 1 s1])])))) (call_eq h6) (eE))) ?_
     refine .ghs (fr 252 [(2,.int .i16 z12),(7,zI z13),(8,.int .u32 z14),(9,zI z15),(10,(pt 0 0)),(14,Sl.v 1 s3),(15,zI x1)]) (hp 1 [(oC [zI z16,Sl.v 1 s1])]) (.k0 [] [.tmp 10 false] [2,7,8,9,10,14,15]) ?_
     refine .then ?_
     replace hm:=oo_inv hm;obtain ⟨v6,h7,hm⟩:=hm
     replace hm:=inv_vTup hm;obtain ⟨l2,rfl,hm⟩:=hm
     replace hm:=ll_uncons hm;obtain ⟨v7,l2523_0,rfl,hm⟩:=hm
     replace hm:=ll_uncons hm;obtain ⟨v8,l2523_1,rfl,hm⟩:=hm
     replace hm:=ll_end hm;obtain ⟨rfl,hm⟩:=hm
     replace hm:=inv_toSl hm;obtain ⟨s4,rfl,hm⟩:=hm
     replace hm:=inv_toI hm;obtain ⟨x2,rfl,hm⟩:=hm
     refine .reg (eC 1 ((oo (pu 27 [(.agg ⟨[zI z16,Sl.v 1 s1]⟩)]) none fun v=>some (v,(hp 1 [(oC [zI z16,Sl.v 1 s1])])))) (call_eq h7) (eE)) ?_
     refine .ghs (fr 252 [(2,.int .i16 z12),(7,zI z13),(8,.int .u32 z14),(9,zI z15),(14,Sl.v 1 s3),(15,zI x1),(16,Sl.v 1 s4),(17,zI x2)]) (hp 0 []) (.k0 [] [] [2,7,8,9,14,15,16,17]) ?_
     refine .then ?_
     refine .join (v:=v) (fun y:Int×Int×Int×Int×Sl×Sl×Bool=>((fr 252 [(2,(.int .i16 y.1)),(7,(zI y.2.1)),(8,(.int .u32 y.2.2.1)),(9,(zI y.2.2.2.1)),(14,(Sl.v 1 y.2.2.2.2.1)),(16,(Sl.v 1 y.2.2.2.2.2.1)),(130,(zB y.2.2.2.2.2.2))]),(hp 0 []))) (fun y=>m12_16 pu n y.1 y.2.1 y.2.2.1 y.2.2.2.1 y.2.2.2.2.1 y.2.2.2.2.2.1 y.2.2.2.2.2.2) ?_ ?_
     ·rintro ⟨z17, z18, z19, z20, s5, s6, b3⟩ hm
      unfold m12_16 at hm
      replace hm:=bb_cases hm;rcases hm with ⟨h8,hm⟩ | ⟨h8,hm⟩
      ·refine .ifT b3 (by kernel_rfl) h8 ?_
       refine .then (.rK ?_)
       refine .ghs (fr 252 [(6,zB false)]) (hp 0 []) (.k0 [] [] [6]) ?_
       refine .ret ?_
       exact fin_ret (zB false) (by kernel_rfl) (by kernel_rfl) hm
      ·refine .ifF b3 (by kernel_rfl) h8 ?_
       refine .skip ?_
       refine .ghs (fr 252 [(2,.int .i16 z17),(7,zI z18),(8,.int .u32 z19),(9,zI z20),(14,Sl.v 1 s5),(16,Sl.v 1 s6)]) (hp 0 []) (.k0 [] [] [2,7,8,9,14,16]) ?_
       refine .then (.rK ?_)
       refine .ghs (fr 252 [(2,.int .i16 z17),(7,zI z18),(8,.int .u32 z19),(9,zI z20),(14,Sl.v 1 s5),(16,Sl.v 1 s6),(18,(zI (1:Int)))]) (hp 0 []) (.k0 [] [] [2,7,8,9,14,16,18]) ?_
       refine .block ?_
       refine .loopM (v:=v) (fun y:Int×Int×Int×Int×Sl×Sl×Int=>((fr 252 [(2,(.int .i16 y.1)),(7,(zI y.2.1)),(8,(.int .u32 y.2.2.1)),(9,(zI y.2.2.2.1)),(14,(Sl.v 1 y.2.2.2.2.1)),(16,(Sl.v 1 y.2.2.2.2.2.1)),(18,(zI y.2.2.2.2.2.2))]),(hp 0 []))) (fun w y=>l12_17 pu n w y.1 y.2.1 y.2.2.1 y.2.2.2.1 y.2.2.2.2.1 y.2.2.2.2.2.1 y.2.2.2.2.2.2) n ⟨(z17,z18,z19,z20,s5,s6,(1:Int)),hm,(.k0 [] [] [2,7,8,9,14,16,18])⟩ (fun _=>rfl) ?_
       rintro w0 ⟨z21,z22,z23,z24,s7,s8,z25⟩ hm
       replace hm:b12_17 pu n (l12_17 pu n w0) z21 z22 z23 z24 s7 s8 z25 = some v:=hm
       unfold b12_17 at hm
       refine .then ?_
       refine .then (.rK ?_)
       refine .ghs (fr 252 [(2,.int .i16 z21),(7,zI z22),(8,.int .u32 z23),(9,zI z24),(14,Sl.v 1 s7),(16,Sl.v 1 s8),(18,zI z25),(133,(zB (ilt z25 z22)))]) (hp 0 []) (.k0 [] [] [2,7,8,9,14,16,18,133]) ?_
       replace hm:=bb_cases hm;rcases hm with ⟨h9,hm⟩ | ⟨h9,hm⟩
       ·refine .ifT (ilt z25 z22) (by kernel_rfl) h9 ?_
        refine .skip ?_
        refine .ghs (fr 252 [(2,.int .i16 z21),(7,zI z22),(8,.int .u32 z23),(9,zI z24),(14,Sl.v 1 s7),(16,Sl.v 1 s8),(18,zI z25)]) (hp 0 []) (.k0 [] [] [2,7,8,9,14,16,18]) ?_
        refine .then ?_
        refine .block ?_
        refine .then ?_
        replace hm:=oo_inv hm;obtain ⟨k1,h10,hm⟩:=hm
        replace hm:=bb_inv hm;obtain ⟨h11,hm⟩:=hm
        replace hm:=oo_inv hm;obtain ⟨v9,h12,hm⟩:=hm
        replace hm:=inv_toI hm;obtain ⟨x3,rfl,hm⟩:=hm
        replace hm:=bb_inv hm;obtain ⟨h13,hm⟩:=hm
        replace hm:=oo_inv hm;obtain ⟨k2,h14,hm⟩:=hm
        replace hm:=bb_inv hm;obtain ⟨h15,hm⟩:=hm
        replace hm:=oo_inv hm;obtain ⟨v10,h16,hm⟩:=hm
        replace hm:=inv_toI hm;obtain ⟨x4,rfl,hm⟩:=hm
        refine .reg (eN 5 (Fr.puts (fr 252 [(2,.int .i16 z21),(7,zI z22),(8,.int .u32 z23),(9,zI z24),(14,Sl.v 1 s7),(16,Sl.v 1 s8),(18,zI z25)]) [(136,Sl.v 1 s7),(137,zI z25),(138,(zI (Int.ofNat k1))),(139,(fpV (k1 * 1) (Sl.cs s7))),(140,zI x3)]) (hp 0 []) (eC 2 (some ((zI (wrapF .i64 (Int.sub z25 (1:Int)))),(hp 0 []))) (show _ = some ((zI (Int.ofNat k1)),_) from (by rw [toN_some h10])) (eD (keep (hp 0 []) (bb (an (Nat.blt k1 (Sl.n s7)) true) (some (fpV (k1 * 1) (Sl.cs s7))) none)) (keep_bb h11) (eD (keep (hp 0 []) (nthL (Sl.cs s7) (k1 * 1))) (keep_eq h12) (by kernel_rfl)))) (eC 5 (keep (hp 0 []) (bb (ieq z22 (0:Int)) none (some (zI (Int.tmod (wrapF .i64 (Int.mul z25 z24)) z22))))) (keep_nb h13) (eD (some ((zI (wrapF .i64 (Int.sub (Int.tmod (wrapF .i64 (Int.mul z25 z24)) z22) (1:Int)))),(hp 0 []))) (show _ = some ((zI (Int.ofNat k2)),_) from (by rw [toN_some h14])) (eD (keep (hp 0 []) (bb (an (Nat.blt k2 (Sl.n s8)) true) (some (fpV (k2 * 1) (Sl.cs s8))) none)) (keep_bb h15) (eD (keep (hp 0 []) (nthL (Sl.cs s8) (k2 * 1))) (keep_eq h16) (eE)))))) ?_
        refine .ghs (fr 252 [(2,.int .i16 z21),(7,zI z22),(8,.int .u32 z23),(9,zI z24),(14,Sl.v 1 s7),(16,Sl.v 1 s8),(18,zI z25),(150,(zB (nt (ieq x3 x4))))]) (hp 0 []) (.k0 [] [] [2,7,8,9,14,16,18,150]) ?_
        replace hm:=bb_cases hm;rcases hm with ⟨h17,hm⟩ | ⟨h17,hm⟩
        ·refine .ifT (nt (ieq x3 x4)) (by kernel_rfl) h17 ?_
         refine .then (.rK ?_)
         refine .ghs (fr 252 [(6,zB false)]) (hp 0 []) (.k0 [] [] [6]) ?_
         refine .ret ?_
         exact fin_ret (zB false) (by kernel_rfl) (by kernel_rfl) hm
        ·refine .ifF (nt (ieq x3 x4)) (by kernel_rfl) h17 ?_
         refine .skip ?_
         refine .ghs (fr 252 [(2,.int .i16 z21),(7,zI z22),(8,.int .u32 z23),(9,zI z24),(14,Sl.v 1 s7),(16,Sl.v 1 s8),(18,zI z25)]) (hp 0 []) (.k0 [] [] [2,7,8,9,14,16,18]) ?_
         refine .rK ?_
         exact ⟨(z21,z22,z23,z24,s7,s8,(wrapF .i64 (Int.add z25 (1:Int)))),hm,(.k0 [] [] [2,7,8,9,14,16,18])⟩
       ·refine .ifF (ilt z25 z22) (by kernel_rfl) h9 ?_
        refine .exit ?_
        exact ⟨(z21,z22,z23),hm,(.k0 [] [] [2,7,8])⟩
     ·replace hm := bb_cases hm; rcases hm with ⟨h18, hm⟩ | ⟨h18, hm⟩
      ·refine .reg (eC 1 (some ((zB (nt (ieq x1 (0 : Int)))), (hp 0 []))) (show _ = some ((zB true), _) from (by rw [show (nt (ieq x1 (0 : Int))) = true from h18])) (eE)) ?_
       exact ⟨(z12,z13,z14,z15,s3,s4,true),hm,(.k0 [] [] [2,7,8,9,14,16,130])⟩
      ·replace hm := bb_cases hm; rcases hm with ⟨h19, hm⟩ | ⟨h19, hm⟩
       ·refine .reg (eC 1 (some ((zB (nt (ieq x1 (0 : Int)))), (hp 0 []))) (show _ = some ((zB false), _) from (by rw [show (nt (ieq x1 (0 : Int))) = false from h18])) (eC 2 (some ((zB (nt (ieq x2 (0 : Int)))), (hp 0 []))) (show _ = some ((zB true), _) from (by rw [show (nt (ieq x2 (0 : Int))) = true from h19])) (eE))) ?_
        exact ⟨(z12,z13,z14,z15,s3,s4,true),hm,(.k0 [] [] [2,7,8,9,14,16,130])⟩
       ·replace hm := bb_cases hm; rcases hm with ⟨h20, hm⟩ | ⟨h20, hm⟩
        ·refine .reg (eC 1 (some ((zB (nt (ieq x1 (0 : Int)))), (hp 0 []))) (show _ = some ((zB false), _) from (by rw [show (nt (ieq x1 (0 : Int))) = false from h18])) (eC 2 (some ((zB (nt (ieq x2 (0 : Int)))), (hp 0 []))) (show _ = some ((zB false), _) from (by rw [show (nt (ieq x2 (0 : Int))) = false from h19])) (eC 6 (some ((zB (nt (ieq (Int.ofNat (Sl.n s3)) (wrapF .i64 (Int.sub z13 (1 : Int)))))), (hp 0 []))) (show _ = some ((zB true), _) from (by rw [show (nt (ieq (Int.ofNat (Sl.n s3)) (wrapF .i64 (Int.sub z13 (1 : Int))))) = true from h20])) (eE)))) ?_
         exact ⟨(z12,z13,z14,z15,s3,s4,true),hm,(.k0 [] [] [2,7,8,9,14,16,130])⟩
        ·refine .reg (eC 1 (some ((zB (nt (ieq x1 (0 : Int)))), (hp 0 []))) (show _ = some ((zB false), _) from (by rw [show (nt (ieq x1 (0 : Int))) = false from h18])) (eC 2 (some ((zB (nt (ieq x2 (0 : Int)))), (hp 0 []))) (show _ = some ((zB false), _) from (by rw [show (nt (ieq x2 (0 : Int))) = false from h19])) (eC 6 (some ((zB (nt (ieq (Int.ofNat (Sl.n s3)) (wrapF .i64 (Int.sub z13 (1 : Int)))))), (hp 0 []))) (show _ = some ((zB false), _) from (by rw [show (nt (ieq (Int.ofNat (Sl.n s3)) (wrapF .i64 (Int.sub z13 (1 : Int))))) = false from h20])) (eE)))) ?_
         exact ⟨(z12,z13,z14,z15,s3,s4,(nt (ieq (Int.ofNat (Sl.n s4)) (wrapF .i64 (Int.sub z13 (1:Int)))))),hm,(.k0 [] [] [2,7,8,9,14,16,130])⟩
   ·replace hm := bb_cases hm; rcases hm with ⟨h21, hm⟩ | ⟨h21, hm⟩
    ·refine .reg (eC 1 (some ((zB (nt (ieq z4 (0 : Int)))), (hp 1 [(oC [zI z5, Sl.v 1 s0])]))) (show _ = some ((zB true), _) from (by rw [show (nt (ieq z4 (0 : Int))) = true from h21])) (eE)) ?_
     exact ⟨(z0,z1,z2,z3,true,z5,s0),hm,(.k0 [] [.tmp 10 false] [2,7,8,9,10,98])⟩
    ·replace hm := bb_cases hm; rcases hm with ⟨h22, hm⟩ | ⟨h22, hm⟩
     ·refine .reg (eC 1 (some ((zB (nt (ieq z4 (0 : Int)))), (hp 1 [(oC [zI z5, Sl.v 1 s0])]))) (show _ = some ((zB false), _) from (by rw [show (nt (ieq z4 (0 : Int))) = false from h21])) (eC 4 (some ((zB (nt (ieq z5 z1))), (hp 1 [(oC [zI z5, Sl.v 1 s0])]))) (show _ = some ((zB true), _) from (by rw [show (nt (ieq z5 z1)) = true from h22])) (eE))) ?_
      exact ⟨(z0,z1,z2,z3,true,z5,s0),hm,(.k0 [] [.tmp 10 false] [2,7,8,9,10,98])⟩
     ·replace hm := oo_inv hm; obtain ⟨v11, h23, hm⟩ := hm
      replace hm:=inv_toI hm;obtain ⟨x5,rfl,hm⟩:=hm
      replace hm:=oo_inv hm;obtain ⟨v12,h24,hm⟩:=hm
      replace hm:=inv_toSl hm;obtain ⟨s9,rfl,hm⟩:=hm
      replace hm:=oo_inv hm;obtain ⟨v13,h25,hm⟩:=hm
      replace hm:=inv_vTup hm;obtain ⟨l3,rfl,hm⟩:=hm
      replace hm:=ll_uncons hm;obtain ⟨v14,l2623_0,rfl,hm⟩:=hm
      replace hm:=ll_end hm;obtain ⟨rfl,hm⟩:=hm
      replace hm:=inv_vBool hm;obtain ⟨b4,rfl,hm⟩:=hm
      refine .reg (eC 1 (some ((zB (nt (ieq z4 (0:Int)))),(hp 1 [(oC [zI z5,Sl.v 1 s0])]))) (show _ = some ((zB false),_) from (by rw [show (nt (ieq z4 (0:Int))) = false from h21])) (eC 4 (some ((zB (nt (ieq z5 z1))),(hp 1 [(oC [zI z5,Sl.v 1 s0])]))) (show _ = some ((zB false),_) from (by rw [show (nt (ieq z5 z1)) = false from h22])) (eC 7 ((oo (pu 49 [zI z1,.int .u32 z2,zI z3,(zI (0:Int))]) none fun v=>some (v,(hp 1 [(oC [zI z5,Sl.v 1 s0])])))) (call_eq h23) (eD ((oo (pu 48 [.int .u32 x5]) none fun v=>some (v,(hp 1 [(oC [zI z5,Sl.v 1 s0])])))) (call_eq h24) (eD (objG tabs [[some 1],[some 1]] 2 [] [] (pu 10230) [Sl.v 1 s0,Sl.v 1 s9] (hp 1 [(oC [zI z5,Sl.v 1 s0])])) (objG_eq (as:=[Sl.v 1 s0,Sl.v 1 s9]) (H1:=(hp 1 [(oC [zI z5,Sl.v 1 s0])])) (gvAL_c (gvA_1 (gv_s (giveV_cl (z:=1) (v:=(Sl.v 1 s0)) (H:=(hp 1 [(oC [zI z5,Sl.v 1 s0])])) (by kernel_rfl) (by kernel_rfl) (by kernel_rfl)))) (gvAL_c (gvA_1 (gv_s (giveV_cl (z:=1) (v:=(Sl.v 1 s9)) (H:=(hp 1 [(oC [zI z5,Sl.v 1 s0])])) (by kernel_rfl) (by kernel_rfl) (by kernel_rfl)))) gvAL_n)) (objF_eq (H2:=(hp 1 [(oC [zI z5,Sl.v 1 s0])])) (v:=(zB b4)) (v':=(zB b4)) [] [] [] [Sl.v 1 s0,Sl.v 1 s9] [] [] [none] [] [] (by kernel_rfl) mapO_n (Eq.trans (by kernel_rfl) h25) mapO_n mapO_n)) (eE)))))) ?_
      exact ⟨(z0,z1,z2,z3,(nt b4),z5,s0),hm,(.k0 [] [.tmp 10 false] [2,7,8,9,10,98])⟩
theorem r12 {call:CallF} (pu:PureF) (n:Nat) (hcall:call = callP tabs isP pu (inl pu)) {args:LV} {v:Value} (hm:m12 pu n args = some v) (_:∀ x ∈ args,closed2 x = true):args.length≤252∧Run tt call 0 c12_146 (Fr.made 252 args) (pureHeap tabs) (Fin tt 0 [.tmp 6] v):=by
 subst hcall
 unfold m12 at hm
 replace hm:=ll_uncons hm;obtain ⟨a0,args_0,rfl,hm⟩:=hm
 replace hm:=ll_uncons hm;obtain ⟨a1,args_1,rfl,hm⟩:=hm
 replace hm:=ll_uncons hm;obtain ⟨a2,args_2,rfl,hm⟩:=hm
 replace hm:=ll_end hm;obtain ⟨rfl,hm⟩:=hm
 replace hm:=inv_vAgg hm;obtain ⟨l0,rfl,hm⟩:=hm
 replace hm:=ll_uncons hm;obtain ⟨v0,l1040_0,rfl,hm⟩:=hm
 replace hm:=ll_uncons hm;obtain ⟨v1,l1040_1,rfl,hm⟩:=hm
 replace hm:=ll_end hm;obtain ⟨rfl,hm⟩:=hm
 replace hm:=inv_toI hm;obtain ⟨x0,rfl,hm⟩:=hm
 replace hm:=inv_toI hm;obtain ⟨x1,rfl,hm⟩:=hm
 replace hm:=inv_toI hm;obtain ⟨x2,rfl,hm⟩:=hm
 replace hm:=inv_toI hm;obtain ⟨x3,rfl,hm⟩:=hm
 unfold m12_ at hm
 refine ⟨by simp,?_⟩
 refine .same (F':=(fr 252 [(0,(.agg ⟨[(zY x0),.int .u32 x1]⟩)),(1,(zY x2)),(2,.int .i16 x3)])) (H':=(hp 0 [])) (by kernel_rfl) (by kernel_rfl) ?_
 refine .then (.rK ?_)
 refine .ghs (fr 252 [(1,(zY x2)),(2,.int .i16 x3),(3,(pt 0 0))]) (hp 1 [(oC [(zY x0),.int .u32 x1])]) (.k0 [] [.tmp 3 false] [1,2,3]) ?_
 refine .then ?_
 replace hm:=oo_inv hm;obtain ⟨v2,h0,hm⟩:=hm
 replace hm:=inv_vTup hm;obtain ⟨l1,rfl,hm⟩:=hm
 replace hm:=ll_uncons hm;obtain ⟨v3,l1064_0,rfl,hm⟩:=hm
 replace hm:=ll_uncons hm;obtain ⟨v4,l1064_1,rfl,hm⟩:=hm
 replace hm:=ll_end hm;obtain ⟨rfl,hm⟩:=hm
 replace hm:=inv_toI hm;obtain ⟨x4,rfl,hm⟩:=hm
 replace hm:=inv_toI hm;obtain ⟨x5,rfl,hm⟩:=hm
 refine .reg (eC 1 ((oo (pu 46 [(.agg ⟨[(zY x0),.int .u32 x1]⟩),(zI (21:Int))]) none fun v=>some (v,(hp 1 [(oC [(zY x0),.int .u32 x1])])))) (call_eq h0) (eE)) ?_
 refine .ghs (fr 252 [(1,(zY x2)),(2,.int .i16 x3),(7,zI x4),(8,.int .u32 x5)]) (hp 0 []) (.k0 [] [] [1,2,7,8]) ?_
 refine .then ?_
 replace hm:=bb_inv hm;obtain ⟨h1,hm⟩:=hm
 refine .reg (eC 3 (keep (hp 0 []) (bb (ieq x4 (0:Int)) none (some (zI (Int.tmod (wrapF .i64 x2) x4))))) (keep_nb h1) (eE)) ?_
 refine .ghs (fr 252 [(2,.int .i16 x3),(7,zI x4),(8,.int .u32 x5),(9,(zI (wrapF .i64 (Int.add (1:Int) (Int.tmod (wrapF .i64 x2) x4)))))]) (hp 0 []) (.k0 [] [] [2,7,8,9]) ?_
 refine .then ?_
 replace hm:=oo_inv hm;obtain ⟨v5,h2,hm⟩:=hm
 replace hm:=inv_vAgg hm;obtain ⟨l2,rfl,hm⟩:=hm
 replace hm:=ll_uncons hm;obtain ⟨v6,l1102_0,rfl,hm⟩:=hm
 replace hm:=ll_uncons hm;obtain ⟨v7,l1102_1,rfl,hm⟩:=hm
 replace hm:=ll_end hm;obtain ⟨rfl,hm⟩:=hm
 replace hm:=inv_toI hm;obtain ⟨x6,rfl,hm⟩:=hm
 replace hm:=inv_toSl hm;obtain ⟨s0,rfl,hm⟩:=hm
 replace hm:=oo_inv hm;obtain ⟨v8,h3,hm⟩:=hm
 replace hm:=inv_vTup hm;obtain ⟨l3,rfl,hm⟩:=hm
 replace hm:=ll_uncons hm;obtain ⟨v9,l1112_0,rfl,hm⟩:=hm
 replace hm:=ll_uncons hm;obtain ⟨v10,l1112_1,rfl,hm⟩:=hm
 replace hm:=ll_end hm;obtain ⟨rfl,hm⟩:=hm
 replace hm:=inv_vAgg hm;obtain ⟨l4,rfl,hm⟩:=hm
 replace hm:=ll_uncons hm;obtain ⟨v11,l1116_0,rfl,hm⟩:=hm
 replace hm:=ll_uncons hm;obtain ⟨v12,l1116_1,rfl,hm⟩:=hm
 replace hm:=ll_end hm;obtain ⟨rfl,hm⟩:=hm
 replace hm:=inv_toI hm;obtain ⟨x7,rfl,hm⟩:=hm
 replace hm:=inv_toSl hm;obtain ⟨s1,rfl,hm⟩:=hm
 replace hm:=inv_toI hm;obtain ⟨x8,rfl,hm⟩:=hm
 refine .reg (eC 2 ((oo (pu 47 [zI x4,.int .u32 x5]) none fun v=>some (v,(hp 0 [])))) (call_eq h2) (eC 1 ((oo (pu 40 [(.agg ⟨[zI x6,Sl.v 1 s0]⟩),(zI (wrapF .i64 (Int.add (1:Int) (Int.tmod (wrapF .i64 x2) x4))))]) none fun v=>some (v,(hp 0 [])))) (call_eq h3) (eE))) ?_
 refine .ghs (fr 252 [(2,.int .i16 x3),(7,zI x4),(8,.int .u32 x5),(9,(zI (wrapF .i64 (Int.add (1:Int) (Int.tmod (wrapF .i64 x2) x4))))),(10,(pt 0 0)),(11,zI x8)]) (hp 1 [(oC [zI x7,Sl.v 1 s1])]) (.k0 [] [.tmp 10 false] [2,7,8,9,10,11]) ?_
 refine .then (.rK ?_)
 refine .ghs (fr 252 [(2,.int .i16 x3),(7,zI x4),(8,.int .u32 x5),(9,(zI (wrapF .i64 (Int.add (1:Int) (Int.tmod (wrapF .i64 x2) x4))))),(10,(pt 0 0)),(11,zI x8),(12,zB false)]) (hp 1 [(oC [zI x7,Sl.v 1 s1])]) (.k0 [] [.tmp 10 false] [2,7,8,9,10,11,12]) ?_
 refine .join (v:=v) (fun y:Int×Int×Int×Int×Int×Bool×Int×Sl=>((fr 252 [(2,(.int .i16 y.1)),(7,(zI y.2.1)),(8,(.int .u32 y.2.2.1)),(9,(zI y.2.2.2.1)),(10,(pt 0 0)),(11,(zI y.2.2.2.2.1)),(12,(zB y.2.2.2.2.2.1))]),(hp 1 [(oC [(zI y.2.2.2.2.2.2.1),(Sl.v 1 y.2.2.2.2.2.2.2)])]))) (fun y=>m12_0 pu n y.1 y.2.1 y.2.2.1 y.2.2.2.1 y.2.2.2.2.1 y.2.2.2.2.2.1 y.2.2.2.2.2.2.1 y.2.2.2.2.2.2.2) ?_ ?_
 ·rintro ⟨z0, z1, z2, z3, z4, b0, z5, s2⟩ hm
  exact w12_0 pu n z0 z1 z2 z3 z4 b0 z5 s2 hm
 ·refine .then (.rK ?_)
  refine .ghs (fr 252 [(2,.int .i16 x3),(7,zI x4),(8,.int .u32 x5),(9,(zI (wrapF .i64 (Int.add (1:Int) (Int.tmod (wrapF .i64 x2) x4))))),(10,(pt 0 0)),(11,zI x8),(12,zB false),(13,(zI (2:Int)))]) (hp 1 [(oC [zI x7,Sl.v 1 s1])]) (.k0 [] [.tmp 10 false] [2,7,8,9,10,11,12,13]) ?_
  refine .block ?_
  refine .loopM (v:=v) (fun y:Int×Int×Int×Int×Int×Bool×Int×Int×Sl=>((fr 252 [(2,(.int .i16 y.1)),(7,(zI y.2.1)),(8,(.int .u32 y.2.2.1)),(9,(zI y.2.2.2.1)),(10,(pt 0 0)),(11,(zI y.2.2.2.2.1)),(12,(zB y.2.2.2.2.2.1)),(13,(zI y.2.2.2.2.2.2.1))]),(hp 1 [(oC [(zI y.2.2.2.2.2.2.2.1),(Sl.v 1 y.2.2.2.2.2.2.2.2)])]))) (fun w y=>l12_18 pu n w y.1 y.2.1 y.2.2.1 y.2.2.2.1 y.2.2.2.2.1 y.2.2.2.2.2.1 y.2.2.2.2.2.2.1 y.2.2.2.2.2.2.2.1 y.2.2.2.2.2.2.2.2) n ⟨(x3,x4,x5,(wrapF .i64 (Int.add (1:Int) (Int.tmod (wrapF .i64 x2) x4))),x8,false,(2:Int),x7,s1),hm,(.k0 [] [.tmp 10 false] [2,7,8,9,10,11,12,13])⟩ (fun _=>rfl) ?_
  rintro w0 ⟨z6,z7,z8,z9,z10,b1,z11,z12,s3⟩ hm
  replace hm:b12_18 pu n (l12_18 pu n w0) z6 z7 z8 z9 z10 b1 z11 z12 s3 = some v:=hm
  unfold b12_18 at hm
  refine .then ?_
  refine .then (.rK ?_)
  refine .ghs (fr 252 [(2,.int .i16 z6),(7,zI z7),(8,.int .u32 z8),(9,zI z9),(10,(pt 0 0)),(11,zI z10),(12,zB b1),(13,zI z11),(50,(zB (nt (ilt z9 z11))))]) (hp 1 [(oC [zI z12,Sl.v 1 s3])]) (.k0 [] [.tmp 10 false] [2,7,8,9,10,11,12,13,50]) ?_
  replace hm:=bb_cases hm;rcases hm with ⟨h4,hm⟩ | ⟨h4,hm⟩
  ·refine .ifT (nt (ilt z9 z11)) (by kernel_rfl) h4 ?_
   refine .skip ?_
   refine .ghs (fr 252 [(2,.int .i16 z6),(7,zI z7),(8,.int .u32 z8),(9,zI z9),(10,(pt 0 0)),(11,zI z10),(12,zB b1),(13,zI z11)]) (hp 1 [(oC [zI z12,Sl.v 1 s3])]) (.k0 [] [.tmp 10 false] [2,7,8,9,10,11,12,13]) ?_
   refine .then ?_
   refine .block ?_
   replace hm:=bb_cases hm;rcases hm with ⟨h5,hm⟩ | ⟨h5,hm⟩
   ·refine .reg (eD (some ((zB b1), (hp 1 [(oC [zI z12, Sl.v 1 s3])]))) (show _ = some ((zB true), _) from (by rw [show b1 = true from h5])) (eE)) ?_
    refine .ghs (fr 252 [(2,.int .i16 z6),(7,zI z7),(8,.int .u32 z8),(9,zI z9),(10,(pt 0 0)),(11,zI z10),(12,zB true),(13,zI z11)]) (hp 1 [(oC [zI z12,Sl.v 1 s3])]) (.k0 [] [.tmp 10 false] [2,7,8,9,10,11,12,13]) ?_
    refine .rK ?_
    exact ⟨(z6,z7,z8,z9,z10,true,(wrapF .i64 (Int.add z11 (1:Int))),z12,s3),hm,(.k0 [] [.tmp 10 false] [2,7,8,9,10,11,12,13])⟩
   ·replace hm := bb_inv hm; obtain ⟨h6, hm⟩ := hm
    replace hm:=bb_cases hm;rcases hm with ⟨h7,hm⟩ | ⟨h7,hm⟩
    ·replace hm := bb_inv hm; obtain ⟨h8, hm⟩ := hm
     refine .reg (eD (some ((zB b1),(hp 1 [(oC [zI z12,Sl.v 1 s3])]))) (show _ = some ((zB false),_) from (by rw [show b1 = false from h5])) (eC 3 (keep (hp 1 [(oC [zI z12,Sl.v 1 s3])]) (bb (ieq z11 (0:Int)) none (some (zI (Int.tmod z7 z11))))) (keep_nb h6) (eD (some ((zB (ieq (Int.tmod z7 z11) (0:Int))),(hp 1 [(oC [zI z12,Sl.v 1 s3])]))) (show _ = some ((zB true),_) from (by rw [show (ieq (Int.tmod z7 z11) (0:Int)) = true from h7])) (eC 3 (keep (hp 1 [(oC [zI z12,Sl.v 1 s3])]) (bb (ieq z11 (0:Int)) none (some (zI (Int.tmod z9 z11))))) (keep_nb h8) (eE))))) ?_
     refine .ghs (fr 252 [(2,.int .i16 z6),(7,zI z7),(8,.int .u32 z8),(9,zI z9),(10,(pt 0 0)),(11,zI z10),(12,(zB (ieq (Int.tmod z9 z11) (0:Int)))),(13,zI z11)]) (hp 1 [(oC [zI z12,Sl.v 1 s3])]) (.k0 [] [.tmp 10 false] [2,7,8,9,10,11,12,13]) ?_
     refine .rK ?_
     exact ⟨(z6,z7,z8,z9,z10,(ieq (Int.tmod z9 z11) (0:Int)),(wrapF .i64 (Int.add z11 (1:Int))),z12,s3),hm,(.k0 [] [.tmp 10 false] [2,7,8,9,10,11,12,13])⟩
    ·refine .reg (eD (some ((zB b1), (hp 1 [(oC [zI z12, Sl.v 1 s3])]))) (show _ = some ((zB false), _) from (by rw [show b1 = false from h5])) (eC 3 (keep (hp 1 [(oC [zI z12, Sl.v 1 s3])]) (bb (ieq z11 (0 : Int)) none (some (zI (Int.tmod z7 z11))))) (keep_nb h6) (eD (some ((zB (ieq (Int.tmod z7 z11) (0 : Int))), (hp 1 [(oC [zI z12, Sl.v 1 s3])]))) (show _ = some ((zB false), _) from (by rw [show (ieq (Int.tmod z7 z11) (0 : Int)) = false from h7])) (eE)))) ?_
     refine .ghs (fr 252 [(2,.int .i16 z6),(7,zI z7),(8,.int .u32 z8),(9,zI z9),(10,(pt 0 0)),(11,zI z10),(12,zB false),(13,zI z11)]) (hp 1 [(oC [zI z12,Sl.v 1 s3])]) (.k0 [] [.tmp 10 false] [2,7,8,9,10,11,12,13]) ?_
     refine .rK ?_
     exact ⟨(z6,z7,z8,z9,z10,false,(wrapF .i64 (Int.add z11 (1:Int))),z12,s3),hm,(.k0 [] [.tmp 10 false] [2,7,8,9,10,11,12,13])⟩
  ·refine .ifF (nt (ilt z9 z11)) (by kernel_rfl) h4 ?_
   refine .exit ?_
   exact ⟨(z6,z7,z8,z9,z10,b1,z12,s3),hm,(.k0 [] [.tmp 10 false] [2,7,8,9,10,11,12])⟩
end
end Go.RgCM
