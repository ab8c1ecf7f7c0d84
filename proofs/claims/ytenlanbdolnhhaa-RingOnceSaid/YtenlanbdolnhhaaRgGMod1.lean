/- Made from wip. -/
import Derived.Test.YtenlanbdolnhhaaRgGMod0x

set_option maxRecDepth 100000
set_option maxHeartbeats 20000000
set_option linter.unusedVariables false
namespace Go.RgGM
open Go.Sp Go.RgG
noncomputable section

def m62_ (pu:PureF) (n:Nat) (x5 x7 x9:Int):OV:=
 (bb (nt (ieq x5 (0:Int))) (bb (nt (ieq x5 (0:Int))) (some (.int .i64 (Int.tmod (wrapF .i64 (Int.add (Int.tmod x9 x5) x5)) x5))) none) none)
def m62 (pu:PureF) (n:Nat) (args:LV):OV:=
 (ll args none fun a0 args=>(ll args none fun a1 args=>(ll args (oo (vAgg a0) none fun l1=>(ll l1 none fun v3 l1=>(ll l1 none fun v4 l1=>(ll l1 (oo (toI .i64 v3) none fun x5=>(oo (toI .u32 v4) none fun x7=>(oo (toI .i64 a1) none fun x9=>(m62_ pu n x5 x7 x9)))) fun _ _=>none)))) fun _ _=>none)))
theorem r62 {call:CallF} (pu:PureF) (n:Nat) (hcall:call = callP tabs isP pu (inl pu)) {args:LV} {v:Value} (hm:m62 pu n args = some v) (_:∀ x ∈ args,closed2 x = true):args.length≤15∧Run tt call 0 c62_3 (Fr.made 15 args) (pureHeap tabs) (Fin tt 0 [.tmp 4] v):=by
 subst hcall
 unfold m62 at hm
 replace hm:=ll_uncons hm;obtain ⟨a0,args_0,rfl,hm⟩:=hm
 replace hm:=ll_uncons hm;obtain ⟨a1,args_1,rfl,hm⟩:=hm
 replace hm:=ll_end hm;obtain ⟨rfl,hm⟩:=hm
 replace hm:=inv_vAgg hm;obtain ⟨l1,rfl,hm⟩:=hm
 replace hm:=ll_uncons hm;obtain ⟨v3,l1_0,rfl,hm⟩:=hm
 replace hm:=ll_uncons hm;obtain ⟨v4,l1_1,rfl,hm⟩:=hm
 replace hm:=ll_end hm;obtain ⟨rfl,hm⟩:=hm
 replace hm:=inv_toI hm;obtain ⟨x5,rfl,hm⟩:=hm
 replace hm:=inv_toI hm;obtain ⟨x7,rfl,hm⟩:=hm
 replace hm:=inv_toI hm;obtain ⟨x9,rfl,hm⟩:=hm
 unfold m62_ at hm
 refine ⟨by simp,?_⟩
 refine .same (F':=(fr 15 [(0,(.agg ⟨[zI x5,.int .u32 x7]⟩)),(1,zI x9)])) (H':=(hp 0 [])) (by kernel_rfl) (by kernel_rfl) ?_
 refine .then (.rK ?_)
 refine .ghs (fr 15 [(1,zI x9),(2,(pt 0 0))]) (hp 1 [(oC [zI x5,.int .u32 x7])]) (.k0 [] [.tmp 2 false] [1,2]) ?_
 refine .then ?_
 replace hm:=bb_inv hm;obtain ⟨h13,hm⟩:=hm
 replace hm:=bb_inv hm;obtain ⟨h14,hm⟩:=hm
 refine .reg (eC 3 (keep (hp 1 [(oC [zI x5,.int .u32 x7])]) (bb (ieq x5 (0:Int)) none (some (zI (Int.tmod x9 x5))))) (keep_nb h13) (eC 5 (keep (hp 1 [(oC [zI x5,.int .u32 x7])]) (bb (ieq x5 (0:Int)) none (some (zI (Int.tmod (wrapF .i64 (Int.add (Int.tmod x9 x5) x5)) x5))))) (keep_nb h14) (eE))) ?_
 refine .ghs (fr 15 [(4,(zI (Int.tmod (wrapF .i64 (Int.add (Int.tmod x9 x5) x5)) x5)))]) (hp 0 []) (.k0 [] [] [4]) ?_
 refine .ret ?_
 exact fin_ret (zI (Int.tmod (wrapF .i64 (Int.add (Int.tmod x9 x5) x5)) x5)) (by kernel_rfl) (by kernel_rfl) hm

def m91_ (pu:PureF) (n:Nat) (x19 x21 x23:Int):OV:=
 (oo (toN x23) none fun k27=>(some (.bool (ieq (aand .u32 (shrI .u32 x21 k27) (1:Int)) (1:Int)))))
def m91 (pu:PureF) (n:Nat) (args:LV):OV:=
 (ll args none fun a0 args=>(ll args none fun a1 args=>(ll args (oo (vAgg a0) none fun l15=>(ll l15 none fun v17 l15=>(ll l15 none fun v18 l15=>(ll l15 (oo (toI .i64 v17) none fun x19=>(oo (toI .u32 v18) none fun x21=>(oo (toI .i64 a1) none fun x23=>(m91_ pu n x19 x21 x23)))) fun _ _=>none)))) fun _ _=>none)))
theorem r91 {call:CallF} (pu:PureF) (n:Nat) (hcall:call = callP tabs isP pu (inl pu)) {args:LV} {v:Value} (hm:m91 pu n args = some v) (_:∀ x ∈ args,closed2 x = true):args.length≤11∧Run tt call 0 c91_3 (Fr.made 11 args) (pureHeap tabs) (Fin tt 0 [.tmp 4] v):=by
 subst hcall
 unfold m91 at hm
 replace hm:=ll_uncons hm;obtain ⟨a0,args_0,rfl,hm⟩:=hm
 replace hm:=ll_uncons hm;obtain ⟨a1,args_1,rfl,hm⟩:=hm
 replace hm:=ll_end hm;obtain ⟨rfl,hm⟩:=hm
 replace hm:=inv_vAgg hm;obtain ⟨l15,rfl,hm⟩:=hm
 replace hm:=ll_uncons hm;obtain ⟨v17,l15_0,rfl,hm⟩:=hm
 replace hm:=ll_uncons hm;obtain ⟨v18,l15_1,rfl,hm⟩:=hm
 replace hm:=ll_end hm;obtain ⟨rfl,hm⟩:=hm
 replace hm:=inv_toI hm;obtain ⟨x19,rfl,hm⟩:=hm
 replace hm:=inv_toI hm;obtain ⟨x21,rfl,hm⟩:=hm
 replace hm:=inv_toI hm;obtain ⟨x23,rfl,hm⟩:=hm
 unfold m91_ at hm
 refine ⟨by simp,?_⟩
 refine .same (F':=(fr 11 [(0,(.agg ⟨[zI x19,.int .u32 x21]⟩)),(1,zI x23)])) (H':=(hp 0 [])) (by kernel_rfl) (by kernel_rfl) ?_
 refine .then (.rK ?_)
 refine .ghs (fr 11 [(1,zI x23),(2,(pt 0 0))]) (hp 1 [(oC [zI x19,.int .u32 x21])]) (.k0 [] [.tmp 2 false] [1,2]) ?_
 refine .then ?_
 replace hm:=oo_inv hm;obtain ⟨k27,h28,hm⟩:=hm
 obtain rfl:=toN_some h28
 refine .rK ?_
 refine .ghs (fr 11 [(4,(zB (ieq (aand .u32 (shrI .u32 x21 k27) (1:Int)) (1:Int))))]) (hp 0 []) (.k0 [] [] [4]) ?_
 refine .ret ?_
 exact fin_ret (zB (ieq (aand .u32 (shrI .u32 x21 k27) (1:Int)) (1:Int))) (by kernel_rfl) (by kernel_rfl) hm
def m80_0 (pu:PureF) (n n78 c79:Nat) (q80:LV):OV:=
 (bb (allL closed1 q80) (bb (an (Nat.ble (0 + n78 * 1) (len q80)) (allL closed1 (takeL (n78 * 1) (dropL 0 q80)))) (some (Sl.v 1 (Sl.mk n78 0 (takeL (n78 * 1) (dropL 0 q80))))) none) none)
def m80_2 (pu:PureF) (n:Nat) (ih0:Nat→Nat→Int→Int→Int→Int→LV→OV) (n0 c0:Nat) (z0 z1 z2 z3:Int) (q1:LV):OV:=
 (bb (allL closed1 q1) (ih0 n0 c0 z0 (wrapF .i64 (Int.add z1 (1:Int))) z2 z3 q1) none)
def b80_1 (pu:PureF) (n:Nat) (ih0:Nat→Nat→Int→Int→Int→Int→LV→OV) (n83 c84:Nat) (z85 z86 z87 z88:Int) (q89:LV):OV:=
 (bb (allL closed1 q89) (bb (ilt z86 z85) (oo (pu 91 [(.agg ⟨[.int .i64 z87,.int .u32 z88]⟩),.int .i64 z86]) none fun v0=>(oo (vBool v0) none fun b0=>(bb b0 (bb (growC 1 8 n83 c84 1 q89) (bb (allL closed1 (appL (dropL 0 q89) [.int .i64 z86])) (m80_2 pu n ih0 (n83 + 1) (2 * (n83 + 1) + bb false 1 0) z85 z86 z87 z88 (appL (dropL 0 q89) [.int .i64 z86])) none) none) (m80_2 pu n ih0 n83 c84 z85 z86 z87 z88 q89)))) (m80_0 pu n n83 c84 q89)) none)
def l80_1 (pu:PureF) (n w:Nat):Nat→Nat→Int→Int→Int→Int→LV→OV:=
 Nat.rec (motive:=fun _=>Nat→Nat→Int→Int→Int→Int→LV→OV) (fun _ _ _ _ _ _ _=>none) (fun _ ih0=>b80_1 pu n ih0) w
def m80_ (pu:PureF) (n:Nat) (x33 x35:Int):OV:=
 (l80_1 pu n n 0 0 x33 (0:Int) x33 x35 ([]:LV))
def m80 (pu:PureF) (n:Nat) (args:LV):OV:=
 (ll args none fun a0 args=>(ll args (oo (vAgg a0) none fun l29=>(ll l29 none fun v31 l29=>(ll l29 none fun v32 l29=>(ll l29 (oo (toI .i64 v31) none fun x33=>(oo (toI .u32 v32) none fun x35=>(m80_ pu n x33 x35))) fun _ _=>none)))) fun _ _=>none))
theorem w80_0 (pu:PureF) (n n78 c79:Nat) (q80:LV) {v:Value} (hm:m80_0 pu n n78 c79 q80 = some v):Run tt (callP tabs isP pu (inl pu)) 0 c80_20 (fr 19 [(3,sc 0 0 1 n78 c79)]) (hp 1 [oC q80]) (Fin tt 0 [.tmp 2] v):=by
 unfold m80_0 at hm
 refine .then (.rK ?_)
 replace hm:=bb_inv hm;obtain ⟨h81,hm⟩:=hm
 refine .ghs (fr 19 [(2,sc 0 0 1 n78 c79)]) (hp 1 [oC q80]) (.k [0] [] [.tmp 2 false] [2] ⟨trF h81,trivial⟩) ?_
 replace hm:=bb_inv hm;obtain ⟨h82,hm⟩:=hm
 refine .ghs (Fr.puts (fr 19 [(2,sc 0 0 1 n78 c79)]) [(2,(Sl.v 1 (Sl.mk n78 0 (takeL (n78 * 1) (dropL 0 q80)))))]) (hp 1 [.dead]) (.freezeC 0 2 1 (an (Nat.ble (0 + n78 * 1) (len q80)) (allL closed1 (takeL (n78 * 1) (dropL 0 q80)))) (F1:=(Fr.puts (fr 19 [(2,sc 0 0 1 n78 c79)]) [(2,(Sl.v 1 (Sl.mk n78 0 (takeL (n78 * 1) (dropL 0 q80)))))])) (H1:=(hp 1 [.dead])) (by kernel_rfl) (by kernel_rfl) h82 (GhS.id _ _)) ?_
 refine .ret ?_
 exact fin_ret (Sl.v 1 (Sl.mk n78 0 (takeL (n78 * 1) (dropL 0 q80)))) (by kernel_rfl) (by kernel_rfl) hm
theorem r80 {call:CallF} (pu:PureF) (n:Nat) (hcall:call = callP tabs isP pu (inl pu)) {args:LV} {v:Value} (hm:m80 pu n args = some v) (_:∀ x ∈ args,closed2 x = true):args.length≤19∧Run tt call 0 c80_23 (Fr.made 19 args) (pureHeap tabs) (Fin tt 0 [.tmp 2] v):=by
 subst hcall
 unfold m80 at hm
 replace hm:=ll_uncons hm;obtain ⟨a0,args_0,rfl,hm⟩:=hm
 replace hm:=ll_end hm;obtain ⟨rfl,hm⟩:=hm
 replace hm:=inv_vAgg hm;obtain ⟨l29,rfl,hm⟩:=hm
 replace hm:=ll_uncons hm;obtain ⟨v31,l29_0,rfl,hm⟩:=hm
 replace hm:=ll_uncons hm;obtain ⟨v32,l29_1,rfl,hm⟩:=hm
 replace hm:=ll_end hm;obtain ⟨rfl,hm⟩:=hm
 replace hm:=inv_toI hm;obtain ⟨x33,rfl,hm⟩:=hm
 replace hm:=inv_toI hm;obtain ⟨x35,rfl,hm⟩:=hm
 unfold m80_ at hm
 refine ⟨by simp,?_⟩
 refine .same (F':=(fr 19 [(0,(.agg ⟨[zI x33,.int .u32 x35]⟩))])) (H':=(hp 0 [])) (by kernel_rfl) (by kernel_rfl) ?_
 refine .then (.rK ?_)
 refine .ghs (fr 19 [(1,(pt 0 0))]) (hp 1 [(oC [zI x33,.int .u32 x35])]) (.k0 [] [.tmp 1 false] [1]) ?_
 refine .then (.rK ?_)
 refine .ghs (fr 19 [(1,(pt 0 0)),(3,(.slice none 0 0))]) (hp 1 [(oC [zI x33,.int .u32 x35])]) (.k0 [] [.tmp 1 false] [1,3]) ?_
 refine .join (v:=v) (fun y:Nat×Nat×LV=>((fr 19 [(3,(sc 0 0 1 y.1 y.2.1))]),(hp 1 [(oC y.2.2)]))) (fun y=>m80_0 pu n y.1 y.2.1 y.2.2) ?_ ?_
 ·rintro ⟨n78, c79, q80⟩ hm
  exact w80_0 pu n n78 c79 q80 hm
 ·refine .then (.rK ?_)
  refine .ghs (fr 19 [(1,(pt 0 0)),(3,(.slice none 0 0)),(6,zI x33),(7,(zI (0:Int)))]) (hp 1 [(oC [zI x33,.int .u32 x35])]) (.k0 [] [.tmp 1 false] [1,3,6,7]) ?_
  refine .block ?_
  refine .loopM (v:=v) (fun y:Nat×Nat×Int×Int×Int×Int×LV=>((fr 19 [(1,(pt 0 0)),(3,(sc 1 0 1 y.1 y.2.1)),(6,(zI y.2.2.1)),(7,(zI y.2.2.2.1))]),(hp 2 [(oC [(zI y.2.2.2.2.1),(.int .u32 y.2.2.2.2.2.1)]),(oC y.2.2.2.2.2.2)]))) (fun w y=>l80_1 pu n w y.1 y.2.1 y.2.2.1 y.2.2.2.1 y.2.2.2.2.1 y.2.2.2.2.2.1 y.2.2.2.2.2.2) n ⟨(0,0,x33,(0:Int),x33,x35,([]:LV)),hm,(.thaw 3 1 (by kernel_rfl) (.k0 [] [.tmp 1 false,.tmp 3 false] [1,3,6,7]))⟩ (fun _=>rfl) ?_
  rintro w0 ⟨n83,c84,z85,z86,z87,z88,q89⟩ hm
  replace hm:b80_1 pu n (l80_1 pu n w0) n83 c84 z85 z86 z87 z88 q89 = some v:=hm
  unfold b80_1 at hm
  refine .then (.rK ?_)
  replace hm:=bb_inv hm;obtain ⟨h90,hm⟩:=hm
  refine .ghs (fr 19 [(1,(pt 0 0)),(3,sc 1 0 1 n83 c84),(6,zI z85),(7,zI z86),(8,(zB (ilt z86 z85)))]) (hp 2 [(oC [zI z87,.int .u32 z88]),oC q89]) (.k [1] [] [.tmp 1 false,.tmp 3 false] [1,3,6,7,8] ⟨trF h90,trivial⟩) ?_
  refine .then ?_
  replace hm:=bb_cases hm;rcases hm with ⟨h91,hm⟩ | ⟨h91,hm⟩
  ·refine .ifT (ilt z86 z85) (by kernel_rfl) h91 ?_
   refine .skip ?_
   refine .ghs (fr 19 [(1,(pt 0 0)),(3,sc 1 0 1 n83 c84),(6,zI z85),(7,zI z86)]) (hp 2 [(oC [zI z87,.int .u32 z88]),oC q89]) (.k [1] [] [.tmp 1 false,.tmp 3 false] [1,3,6,7] ⟨trF h90,trivial⟩) ?_
   refine .join (v:=v) (fun y:Nat×Nat×Int×Int×Int×Int×LV=>((fr 19 [(1,(pt 0 0)),(3,(sc 1 0 1 y.1 y.2.1)),(6,(zI y.2.2.1)),(7,(zI y.2.2.2.1))]),(hp 2 [(oC [(zI y.2.2.2.2.1),(.int .u32 y.2.2.2.2.2.1)]),(oC y.2.2.2.2.2.2)]))) (fun y=>m80_2 pu n (l80_1 pu n w0) y.1 y.2.1 y.2.2.1 y.2.2.2.1 y.2.2.2.2.1 y.2.2.2.2.2.1 y.2.2.2.2.2.2) ?_ ?_
   ·rintro ⟨n0, c0, z0, z1, z2, z3, q1⟩ hm
    unfold m80_2 at hm
    refine .rK ?_
    replace hm:=bb_inv hm;obtain ⟨h0,hm⟩:=hm
    exact ⟨(n0,c0,z0,(wrapF .i64 (Int.add z1 (1:Int))),z2,z3,q1),hm,(.k [1] [] [.tmp 1 false,.tmp 3 false] [1,3,6,7] ⟨trF h0,trivial⟩)⟩
   ·refine .block ?_
    refine .then (.rK ?_)
    refine .ghs (fr 19 [(1,(pt 0 0)),(3,sc 1 0 1 n83 c84),(4,zI z86),(6,zI z85),(7,zI z86)]) (hp 2 [(oC [zI z87,.int .u32 z88]),oC q89]) (.k [1] [] [.tmp 1 false,.tmp 3 false] [1,3,4,6,7] ⟨trF h90,trivial⟩) ?_
    refine .then ?_
    replace hm:=oo_inv hm;obtain ⟨v0,h1,hm⟩:=hm
    replace hm:=inv_vBool hm;obtain ⟨b0,rfl,hm⟩:=hm
    refine .reg (eC 2 ((oo (pu 91 [(.agg ⟨[zI z87,.int .u32 z88]⟩),zI z86]) none fun v=>some (v,(hp 2 [(oC [zI z87,.int .u32 z88]),oC q89])))) (call_eq h1) (eE)) ?_
    refine .ghs (fr 19 [(1,(pt 0 0)),(3,sc 1 0 1 n83 c84),(4,zI z86),(6,zI z85),(7,zI z86),(12,zB b0)]) (hp 2 [(oC [zI z87,.int .u32 z88]),oC q89]) (.k [1] [] [.tmp 1 false,.tmp 3 false] [1,3,4,6,7,12] ⟨trF h90,trivial⟩) ?_
    replace hm:=bb_cases hm;rcases hm with ⟨h2,hm⟩ | ⟨h2,hm⟩
    ·refine .ifT b0 (by kernel_rfl) h2 ?_
     replace hm:=bb_inv hm;obtain ⟨h3,hm⟩:=hm
     refine .reg (eC 3 (growD 1 8 n83 c84 1 1 q89 [zI z86] [] (hp 3 [(oC [zI z87,.int .u32 z88]),oC q89,(oC [zI z86])])) (growD_eq h3) (eE)) ?_
     replace hm:=bb_inv hm;obtain ⟨h4,hm⟩:=hm
     exact ⟨((n83 + 1),(d2 (n83 + 1)),z85,z86,z87,z88,(appL (dropL 0 q89) [zI z86])),hm,(.k [3] [] [.tmp 1 false,.tmp 3 false] [1,3,6,7] ⟨trF h4,trivial⟩)⟩
    ·refine .ifF b0 (by kernel_rfl) h2 ?_
     refine .skip ?_
     exact ⟨(n83,c84,z85,z86,z87,z88,q89),hm,(.k [1] [] [.tmp 1 false,.tmp 3 false] [1,3,6,7] ⟨trF h90,trivial⟩)⟩
  ·refine .ifF (ilt z86 z85) (by kernel_rfl) h91 ?_
   refine .exit ?_
   exact ⟨(n83,c84,q89),hm,(.k [1] [] [.tmp 3 false] [3] ⟨trF h90,trivial⟩)⟩
def m74_0 (pu:PureF) (n n0 c0:Nat) (q1:LV):OV:=
 (bb (allL closed1 q1) (bb (an (Nat.ble (0 + n0 * 1) (len q1)) (allL closed1 (takeL (n0 * 1) (dropL 0 q1)))) (some (Sl.v 1 (Sl.mk n0 0 (takeL (n0 * 1) (dropL 0 q1))))) none) none)
def b74_1 (pu:PureF) (n:Nat) (ih0:Nat→Nat→LV→Nat→List Nat→Nat→List Ent→Nat→OV) (n0 c0:Nat) (q1:LV) (k1:Nat) (l0:List Nat) (k2:Nat) (e0:List Ent) (k3:Nat):OV:=
 (bb (allL (fun e=>Nat.blt (Ent.born e) k1) e0) (bb (Nat.ble k1 k2) (nxt e0 l0 (bb (allL closed1 q1) (bb (allL entClosed e0) (m74_0 pu n n0 c0 q1) none) none) (fun e1:Ent=>(bb (allL closed1 q1) (bb (allL entClosed e0) (oo (entT e0 k3 (appL l0 [(Ent.born e1)]) k3) none fun v0=>(oo (vTup v0) none fun l1=>(ll l1 none fun v1 l1=>(ll l1 none fun v2 l1=>(ll l1 (oo (toI .i64 v1) none fun x0=>(oo (toI .i64 v2) none fun x1=>(oo (toN (wrapF .i64 (Int.sub x0 (1:Int)))) none fun k4=>(bb (an (Nat.blt k4 n0) true) (bb (an (Nat.ble ((0 + k4 * 1) + 1) (len q1)) true) (bb (allL closed1 (setL ([.int .i64 x1]:LV) (0 + k4 * 1) q1)) (ih0 n0 c0 (setL ([.int .i64 x1]:LV) (0 + k4 * 1) q1) k1 (appL l0 [(Ent.born e1)]) k3 e0 k3) none) none) none)))) fun _ _=>none))))) none) none))) none) none)
def l74_1 (pu:PureF) (n w:Nat):Nat→Nat→LV→Nat→List Nat→Nat→List Ent→Nat→OV:=
 Nat.rec (motive:=fun _=>Nat→Nat→LV→Nat→List Nat→Nat→List Ent→Nat→OV) (fun _ _ _ _ _ _ _ _=>none) (fun _ ih0=>b74_1 pu n ih0) w
def m74_ (pu:PureF) (n:Nat) (x0 x1:Int):OV:=
 (oo (toN (wrapF .i64 (Int.sub x0 (1:Int)))) none fun k1=>(bb (an (Nat.ble k1 k1) (an (Nat.ble (k1 * 8) 1099511627776) (an (Nat.ble k1 1099511627776) true))) (bb (allL closed1 (zeroRow ([(.int .i64 (0:Int))]:LV) k1)) (oo (pu 10860 [(.agg ⟨[.int .i64 x0,.int .u32 x1]⟩)]) none fun v0=>(oo (vTup v0) none fun l0=>(ll l0 none fun v1 l0=>(ll l0 none fun v2 l0=>(ll l0 (bb (isMp v1 0) (oo (vMapO v2) none fun y0=>(bb (allL entClosed (MapV.es y0)) (bb (allL entClosed (MapV.es y0)) (l74_1 pu n n k1 (2 * k1 + bb true 1 0) (zeroRow ([(.int .i64 (0:Int))]:LV) k1) (MapV.clock y0) ([]:List Nat) (MapV.clock y0) (MapV.es y0) (MapV.clock y0)) none) none)) none) fun _ _=>none))))) none) none))
def m74 (pu:PureF) (n:Nat) (args:LV):OV:=
 (ll args none fun a0 args=>(ll args (oo (vAgg a0) none fun l0=>(ll l0 none fun v0 l0=>(ll l0 none fun v1 l0=>(ll l0 (oo (toI .i64 v0) none fun x0=>(oo (toI .u32 v1) none fun x1=>(m74_ pu n x0 x1))) fun _ _=>none)))) fun _ _=>none))
theorem w74_0 (pu:PureF) (n n0 c0:Nat) (q1:LV) {v:Value} (hm:m74_0 pu n n0 c0 q1 = some v):Run tt (callP tabs isP pu (inl pu)) 0 c74_15 (fr 24 [(3,sc 0 0 1 n0 c0)]) (hp 1 [oC q1]) (Fin tt 0 [.tmp 2] v):=by
 unfold m74_0 at hm
 refine .then (.rK ?_)
 replace hm:=bb_inv hm;obtain ⟨h0,hm⟩:=hm
 refine .ghs (fr 24 [(2,sc 0 0 1 n0 c0)]) (hp 1 [oC q1]) (.k [0] [] [.tmp 2 false] [2] ⟨trF h0,trivial⟩) ?_
 replace hm:=bb_inv hm;obtain ⟨h1,hm⟩:=hm
 refine .ghs (Fr.puts (fr 24 [(2,sc 0 0 1 n0 c0)]) [(2,(Sl.v 1 (Sl.mk n0 0 (takeL (n0 * 1) (dropL 0 q1)))))]) (hp 1 [.dead]) (.freezeC 0 2 1 (an (Nat.ble (0 + n0 * 1) (len q1)) (allL closed1 (takeL (n0 * 1) (dropL 0 q1)))) (F1:=(Fr.puts (fr 24 [(2,sc 0 0 1 n0 c0)]) [(2,(Sl.v 1 (Sl.mk n0 0 (takeL (n0 * 1) (dropL 0 q1)))))])) (H1:=(hp 1 [.dead])) (by kernel_rfl) (by kernel_rfl) h1 (GhS.id _ _)) ?_
 refine .ret ?_
 exact fin_ret (Sl.v 1 (Sl.mk n0 0 (takeL (n0 * 1) (dropL 0 q1)))) (by kernel_rfl) (by kernel_rfl) hm
theorem r74 {call:CallF} (pu:PureF) (n:Nat) (hcall:call = callP tabs isP pu (inl pu)) {args:LV} {v:Value} (hm:m74 pu n args = some v) (_:∀ x ∈ args,closed2 x = true):args.length≤24∧Run tt call 0 c74_18 (Fr.made 24 args) (pureHeap tabs) (Fin tt 0 [.tmp 2] v):=by
 subst hcall
 unfold m74 at hm
 replace hm:=ll_uncons hm;obtain ⟨a0,args_0,rfl,hm⟩:=hm
 replace hm:=ll_end hm;obtain ⟨rfl,hm⟩:=hm
 replace hm:=inv_vAgg hm;obtain ⟨l0,rfl,hm⟩:=hm
 replace hm:=ll_uncons hm;obtain ⟨v0,l124_0,rfl,hm⟩:=hm
 replace hm:=ll_uncons hm;obtain ⟨v1,l124_1,rfl,hm⟩:=hm
 replace hm:=ll_end hm;obtain ⟨rfl,hm⟩:=hm
 replace hm:=inv_toI hm;obtain ⟨x0,rfl,hm⟩:=hm
 replace hm:=inv_toI hm;obtain ⟨x1,rfl,hm⟩:=hm
 unfold m74_ at hm
 refine ⟨by simp,?_⟩
 refine .same (F':=(fr 24 [(0,(.agg ⟨[zI x0,.int .u32 x1]⟩))])) (H':=(hp 0 [])) (by kernel_rfl) (by kernel_rfl) ?_
 refine .then (.rK ?_)
 refine .ghs (fr 24 [(1,(pt 0 0))]) (hp 1 [(oC [zI x0,.int .u32 x1])]) (.k0 [] [.tmp 1 false] [1]) ?_
 refine .then ?_
 replace hm:=oo_inv hm;obtain ⟨k1,h0,hm⟩:=hm
 replace hm:=bb_inv hm;obtain ⟨h1,hm⟩:=hm
 refine .reg (eC 2 (some ((zI (wrapF .i64 (Int.sub x0 (1:Int)))),(hp 1 [(oC [zI x0,.int .u32 x1])]))) (show _ = some ((zI (Int.ofNat k1)),_) from (by rw [toN_some h0])) (eD (bb (an (Nat.ble k1 k1) (an (Nat.ble (k1 * 8) 1099511627776) (an (Nat.ble k1 1099511627776) true))) (some ((sc 1 0 1 k1 (2 * k1 + bb true 1 0)),(hp 2 [(oC [zI x0,.int .u32 x1]),(oC (zeroRow ([(zI (0:Int))]:LV) k1))]))) none) (bb_some h1) (eE))) ?_
 replace hm:=bb_inv hm;obtain ⟨h2,hm⟩:=hm
 refine .ghs (fr 24 [(1,(pt 0 0)),(3,(sc 1 0 1 k1 (2 * k1 + bb true 1 0)))]) (hp 2 [(oC [zI x0,.int .u32 x1]),(oC (zeroRow ([(zI (0:Int))]:LV) k1))]) (.k [1] [] [.tmp 1 false,.tmp 3 false] [1,3] ⟨trF h2,trivial⟩) ?_
 refine .join (v:=v) (fun y:Nat×Nat×LV=>((fr 24 [(3,(sc 0 0 1 y.1 y.2.1))]),(hp 1 [(oC y.2.2)]))) (fun y=>m74_0 pu n y.1 y.2.1 y.2.2) ?_ ?_
 ·rintro ⟨n0, c0, q1⟩ hm
  exact w74_0 pu n n0 c0 q1 hm
 ·refine .then ?_
  replace hm:=oo_inv hm;obtain ⟨v2,h3,hm⟩:=hm
  replace hm:=inv_vTup hm;obtain ⟨l1,rfl,hm⟩:=hm
  replace hm:=ll_uncons hm;obtain ⟨v3,l743_0,rfl,hm⟩:=hm
  replace hm:=ll_uncons hm;obtain ⟨v4,l743_1,rfl,hm⟩:=hm
  replace hm:=ll_end hm;obtain ⟨rfl,hm⟩:=hm
  replace hm:=bb_inv hm;obtain ⟨h4,hm⟩:=hm
  obtain rfl:=isMp_ok h4
  replace hm:=oo_inv hm;obtain ⟨y0,h5,hm⟩:=hm
  replace hm:=bb_inv hm;obtain ⟨h6,hm⟩:=hm
  refine .reg (eC 1 (objG tabs [[none,none]] 1 [] [false] (pu 10860) [(.agg ⟨[zI x0,.int .u32 x1]⟩)] (hp 2 [(oC [zI x0,.int .u32 x1]),(oC (zeroRow ([(zI (0:Int))]:LV) k1))])) (objG_eq (as:=[(.agg ⟨[zI x0,.int .u32 x1]⟩)]) (H1:=(hp 2 [(oC [zI x0,.int .u32 x1]),(oC (zeroRow ([(zI (0:Int))]:LV) k1))])) (gvAL_c (gvA_a (gvL_c gv_n (gvL_c gv_n gvL_n))) gvAL_n) (objF_eq (H2:=(hp 3 [(oC [zI x0,.int .u32 x1]),(oC (zeroRow ([(zI (0:Int))]:LV) k1)),(.map (MapV.es y0) (MapV.clock y0))])) (v:=(.map (some 0))) (v':=(.map (some 2))) [] [] [] [(.agg ⟨[zI x0,.int .u32 x1]⟩)] [v4] [(.map (MapV.es y0) (MapV.clock y0))] [none,none,some 0] [(false,(.map (MapV.es y0) (MapV.clock y0)))] [(.map (MapV.es y0) (MapV.clock y0))] (by kernel_rfl) mapO_n (Eq.trans (by kernel_rfl) h3) (mapO_c (vMapO_some h5) mapO_n) (mapO_c (bO_map h6) mapO_n))) (eE)) ?_
  replace hm:=bb_inv hm;obtain ⟨h7,hm⟩:=hm
  refine .ghs (fr 24 [(3,(sc 0 0 1 k1 (2 * k1 + bb true 1 0))),(12,pt 1 0)]) (hp 3 [(oC (zeroRow ([(zI (0:Int))]:LV) k1)),(.iter (some 2) (MapV.clock y0) ([]:List Nat) (MapV.clock y0)),(.map (MapV.es y0) (MapV.clock y0))]) (.k [1,2] [] [.tmp 3 false,.tmp 12 false,.itm 1 false] [3,12] ⟨trF h2,trF h7,trivial⟩) ?_
  refine .block ?_
  refine .loopM (v:=v) (fun y:Nat×Nat×LV×Nat×List Nat×Nat×List Ent×Nat=>((fr 24 [(3,(sc 0 0 1 y.1 y.2.1)),(12,pt 1 0)]),(hp 3 [(oC y.2.2.1),(.iter (some 2) y.2.2.2.1 y.2.2.2.2.1 y.2.2.2.2.2.1),(.map y.2.2.2.2.2.2.1 y.2.2.2.2.2.2.2)]))) (fun w y=>l74_1 pu n w y.1 y.2.1 y.2.2.1 y.2.2.2.1 y.2.2.2.2.1 y.2.2.2.2.2.1 y.2.2.2.2.2.2.1 y.2.2.2.2.2.2.2) n ⟨(k1,(2 * k1 + bb true 1 0),(zeroRow ([(zI (0:Int))]:LV) k1),(MapV.clock y0),([]:List Nat),(MapV.clock y0),(MapV.es y0),(MapV.clock y0)),hm,(.k [0,2] [] [.tmp 3 false,.tmp 12 false,.itm 1 false] [3,12] ⟨trF h2,trF h7,trivial⟩)⟩ (fun _=>rfl) ?_
  rintro w0 ⟨n1,c1,q2,k2,l2,k3,e0,k4⟩ hm
  replace hm:b74_1 pu n (l74_1 pu n w0) n1 c1 q2 k2 l2 k3 e0 k4 = some v:=hm
  unfold b74_1 at hm
  refine .then ?_
  replace hm:=bb_inv hm;obtain ⟨h8,hm⟩:=hm
  replace hm:=bb_inv hm;obtain ⟨h9,hm⟩:=hm
  refine .nextK (id:=1) (mid:=2) (since:=k2) (st:=k3) (clock:=k4) (seen:=l2) (es:=e0) (d:=some 13) (x:=(tp 12)) (ty:=0) (os:=[rq 14 (.extract (tp 13) 0) 4]) (by kernel_rfl) (by kernel_rfl) (by kernel_rfl) (by kernel_rfl) h8 h9 (by kernel_rfl) (fun _=>by kernel_rfl) (fun h10=>?_) (fun e1 h11=>?_)
  ·replace hm := nxt_0 hm h10
   replace hm:=bb_inv hm;obtain ⟨h12,hm⟩:=hm
   replace hm:=bb_inv hm;obtain ⟨h13,hm⟩:=hm
   refine .ghs (fr 24 [(3,sc 0 0 1 n1 c1),(12,pt 1 0),(14,zB false)]) (hp 3 [oC q2,(.iter (some 2) k2 l2 k3),(.map e0 k4)]) (.k [0,2] [] [.tmp 3 false,.tmp 12 false,.itm 1 false] [3,12,14] ⟨trF h12,trF h13,trivial⟩) ?_
   refine .then ?_
   refine .condF (by kernel_rfl) ?_
   refine .exit ?_
   exact ⟨(n1,c1,q2),hm,(.k [0] [] [.tmp 3 false] [3] ⟨trF h12,trivial⟩)⟩
  ·replace hm := nxt_1 hm h11
   replace hm:=bb_inv hm;obtain ⟨h14,hm⟩:=hm
   replace hm:=bb_inv hm;obtain ⟨h15,hm⟩:=hm
   refine .ghs (fr 24 [(3,sc 0 0 1 n1 c1),(12,pt 1 0),(14,zB true)]) (hp 3 [oC q2,(.iter (some 2) k2 (appL l2 [(Ent.born e1)]) k4),(.map e0 k4)]) (.k [0,2] [] [.tmp 3 false,.tmp 12 false,.itm 1 false] [3,12,14] ⟨trF h14,trF h15,trivial⟩) ?_
   refine .then ?_
   refine .condT (by kernel_rfl) ?_
   refine .skip ?_
   refine .ghs (fr 24 [(3,sc 0 0 1 n1 c1),(12,pt 1 0)]) (hp 3 [oC q2,(.iter (some 2) k2 (appL l2 [(Ent.born e1)]) k4),(.map e0 k4)]) (.k [0,2] [] [.tmp 3 false,.tmp 12 false,.itm 1 false] [3,12] ⟨trF h14,trF h15,trivial⟩) ?_
   refine .block ?_
   refine .then ?_
   replace hm:=oo_inv hm;obtain ⟨v5,h16,hm⟩:=hm
   replace hm:=inv_vTup hm;obtain ⟨l3,rfl,hm⟩:=hm
   replace hm:=ll_uncons hm;obtain ⟨v6,l781_0,rfl,hm⟩:=hm
   replace hm:=ll_uncons hm;obtain ⟨v7,l781_1,rfl,hm⟩:=hm
   replace hm:=ll_end hm;obtain ⟨rfl,hm⟩:=hm
   replace hm:=inv_toI hm;obtain ⟨x2,rfl,hm⟩:=hm
   replace hm:=inv_toI hm;obtain ⟨x3,rfl,hm⟩:=hm
   refine .reg (eD (keep (hp 3 [oC q2,(.iter (some 2) k2 (appL l2 [(Ent.born e1)]) k4),(.map e0 k4)]) (entT e0 k4 (appL l2 [(Ent.born e1)]) k4)) (keep_eq h16) (eE)) ?_
   refine .ghs (fr 24 [(3,sc 0 0 1 n1 c1),(4,zI x2),(5,zI x3),(12,pt 1 0)]) (hp 3 [oC q2,(.iter (some 2) k2 (appL l2 [(Ent.born e1)]) k4),(.map e0 k4)]) (.k [0,2] [] [.tmp 3 false,.tmp 12 false,.itm 1 false] [3,4,5,12] ⟨trF h14,trF h15,trivial⟩) ?_
   replace hm:=oo_inv hm;obtain ⟨k5,h17,hm⟩:=hm
   replace hm:=bb_inv hm;obtain ⟨h18,hm⟩:=hm
   replace hm:=bb_inv hm;obtain ⟨h19,hm⟩:=hm
   refine .reg (eC 2 (some ((zI (wrapF .i64 (Int.sub x2 (1:Int)))),(hp 3 [oC q2,(.iter (some 2) k2 (appL l2 [(Ent.born e1)]) k4),(.map e0 k4)]))) (show _ = some ((zI (Int.ofNat k5)),_) from (by rw [toN_some h17])) (eC 1 (keep (hp 3 [oC q2,(.iter (some 2) k2 (appL l2 [(Ent.born e1)]) k4),(.map e0 k4)]) (bb (an (Nat.blt k5 n1) true) (some (.pointer (some ⟨0,(0 + k5 * 1),none⟩))) none)) (keep_bb h18) (eD (done (bb (an (Nat.ble ((0 + k5 * 1) + 1) (len q2)) true) (some (hp 3 [(oC (setL ([zI x3]:LV) (0 + k5 * 1) q2)),(.iter (some 2) k2 (appL l2 [(Ent.born e1)]) k4),(.map e0 k4)])) none) undef) (done_bb h19) (eE)))) ?_
   replace hm:=bb_inv hm;obtain ⟨h20,hm⟩:=hm
   exact ⟨(n1,c1,(setL ([zI x3]:LV) (0 + k5 * 1) q2),k2,(appL l2 [(Ent.born e1)]),k4,e0,k4),hm,(.k [0,2] [] [.tmp 3 false,.tmp 12 false,.itm 1 false] [3,12] ⟨trF h20,trF h15,trivial⟩)⟩
def m76_0 (pu:PureF) (n:Nat) (z0:Int):OV:=
 (some (.int .i64 z0))
def m76_2 (pu:PureF) (n:Nat) (ih0:Int→Nat→List Nat→Nat→List Ent→Nat→OV) (z0 z1:Int) (b0:Bool) (k1:Nat) (l0:List Nat) (k2:Nat) (e0:List Ent) (k3:Nat):OV:=
 (bb b0 (bb (allL entClosed e0) (ih0 z1 k1 l0 k2 e0 k3) none) (bb (allL entClosed e0) (ih0 z0 k1 l0 k2 e0 k3) none))
def b76_1 (pu:PureF) (n:Nat) (ih0:Int→Nat→List Nat→Nat→List Ent→Nat→OV) (z0:Int) (k1:Nat) (l0:List Nat) (k2:Nat) (e0:List Ent) (k3:Nat):OV:=
 (bb (allL (fun e=>Nat.blt (Ent.born e) k1) e0) (bb (Nat.ble k1 k2) (nxt e0 l0 (bb (allL entClosed e0) (m76_0 pu n z0) none) (fun e1:Ent=>(bb (allL entClosed e0) (oo (entT e0 k3 (appL l0 [(Ent.born e1)]) k3) none fun v0=>(oo (vTup v0) none fun l1=>(ll l1 none fun v1 l1=>(ll l1 none fun v2 l1=>(ll l1 (oo (toI .i64 v1) none fun x0=>(oo (toI .i64 v2) none fun x1=>(bb (ilt (1:Int) x1) (bb (ieq z0 (0:Int)) (m76_2 pu n ih0 z0 x0 true k1 (appL l0 [(Ent.born e1)]) k3 e0 k3) (m76_2 pu n ih0 z0 x0 (ilt x0 z0) k1 (appL l0 [(Ent.born e1)]) k3 e0 k3)) (m76_2 pu n ih0 z0 x0 false k1 (appL l0 [(Ent.born e1)]) k3 e0 k3)))) fun _ _=>none))))) none))) none) none)
def l76_1 (pu:PureF) (n w:Nat):Int→Nat→List Nat→Nat→List Ent→Nat→OV:=
 Nat.rec (motive:=fun _=>Int→Nat→List Nat→Nat→List Ent→Nat→OV) (fun _ _ _ _ _ _=>none) (fun _ ih0=>b76_1 pu n ih0) w
def m76_ (pu:PureF) (n:Nat) (x0 x1:Int):OV:=
 (oo (pu 10860 [(.agg ⟨[.int .i64 x0,.int .u32 x1]⟩)]) none fun v0=>(oo (vTup v0) none fun l0=>(ll l0 none fun v1 l0=>(ll l0 none fun v2 l0=>(ll l0 (bb (isMp v1 0) (oo (vMapO v2) none fun y0=>(bb (allL entClosed (MapV.es y0)) (bb (allL entClosed (MapV.es y0)) (l76_1 pu n n (0:Int) (MapV.clock y0) ([]:List Nat) (MapV.clock y0) (MapV.es y0) (MapV.clock y0)) none) none)) none) fun _ _=>none)))))
def m76 (pu:PureF) (n:Nat) (args:LV):OV:=
 (ll args none fun a0 args=>(ll args (oo (vAgg a0) none fun l0=>(ll l0 none fun v0 l0=>(ll l0 none fun v1 l0=>(ll l0 (oo (toI .i64 v0) none fun x0=>(oo (toI .u32 v1) none fun x1=>(m76_ pu n x0 x1))) fun _ _=>none)))) fun _ _=>none))
theorem w76_0 (pu:PureF) (n:Nat) (z0:Int) {v:Value} (hm:m76_0 pu n z0 = some v):Run tt (callP tabs isP pu (inl pu)) 0 c76_18 (fr 27 [(3,zI z0)]) (hp 0 []) (Fin tt 0 [.tmp 2] v):=by
 unfold m76_0 at hm
 refine .then (.rK ?_)
 refine .ghs (fr 27 [(2,zI z0)]) (hp 0 []) (.k0 [] [] [2]) ?_
 refine .ret ?_
 exact fin_ret (zI z0) (by kernel_rfl) (by kernel_rfl) hm
theorem r76 {call:CallF} (pu:PureF) (n:Nat) (hcall:call = callP tabs isP pu (inl pu)) {args:LV} {v:Value} (hm:m76 pu n args = some v) (_:∀ x ∈ args,closed2 x = true):args.length≤27∧Run tt call 0 c76_21 (Fr.made 27 args) (pureHeap tabs) (Fin tt 0 [.tmp 2] v):=by
 subst hcall
 unfold m76 at hm
 replace hm:=ll_uncons hm;obtain ⟨a0,args_0,rfl,hm⟩:=hm
 replace hm:=ll_end hm;obtain ⟨rfl,hm⟩:=hm
 replace hm:=inv_vAgg hm;obtain ⟨l0,rfl,hm⟩:=hm
 replace hm:=ll_uncons hm;obtain ⟨v0,l798_0,rfl,hm⟩:=hm
 replace hm:=ll_uncons hm;obtain ⟨v1,l798_1,rfl,hm⟩:=hm
 replace hm:=ll_end hm;obtain ⟨rfl,hm⟩:=hm
 replace hm:=inv_toI hm;obtain ⟨x0,rfl,hm⟩:=hm
 replace hm:=inv_toI hm;obtain ⟨x1,rfl,hm⟩:=hm
 unfold m76_ at hm
 refine ⟨by simp,?_⟩
 refine .same (F':=(fr 27 [(0,(.agg ⟨[zI x0,.int .u32 x1]⟩))])) (H':=(hp 0 [])) (by kernel_rfl) (by kernel_rfl) ?_
 refine .then (.rK ?_)
 refine .ghs (fr 27 [(1,(pt 0 0))]) (hp 1 [(oC [zI x0,.int .u32 x1])]) (.k0 [] [.tmp 1 false] [1]) ?_
 refine .then (.rK ?_)
 refine .ghs (fr 27 [(1,(pt 0 0)),(3,(zI (0:Int)))]) (hp 1 [(oC [zI x0,.int .u32 x1])]) (.k0 [] [.tmp 1 false] [1,3]) ?_
 refine .join (v:=v) (fun y:Int=>((fr 27 [(3,zI y)]),(hp 0 []))) (fun y=>m76_0 pu n y) ?_ ?_
 ·rintro z0 hm
  exact w76_0 pu n z0 hm
 ·refine .then ?_
  replace hm:=oo_inv hm;obtain ⟨v2,h0,hm⟩:=hm
  replace hm:=inv_vTup hm;obtain ⟨l1,rfl,hm⟩:=hm
  replace hm:=ll_uncons hm;obtain ⟨v3,l900_0,rfl,hm⟩:=hm
  replace hm:=ll_uncons hm;obtain ⟨v4,l900_1,rfl,hm⟩:=hm
  replace hm:=ll_end hm;obtain ⟨rfl,hm⟩:=hm
  replace hm:=bb_inv hm;obtain ⟨h1,hm⟩:=hm
  obtain rfl:=isMp_ok h1
  replace hm:=oo_inv hm;obtain ⟨y0,h2,hm⟩:=hm
  replace hm:=bb_inv hm;obtain ⟨h3,hm⟩:=hm
  refine .reg (eC 1 (objG tabs [[none,none]] 1 [] [false] (pu 10860) [(.agg ⟨[zI x0,.int .u32 x1]⟩)] (hp 1 [(oC [zI x0,.int .u32 x1])])) (objG_eq (as:=[(.agg ⟨[zI x0,.int .u32 x1]⟩)]) (H1:=(hp 1 [(oC [zI x0,.int .u32 x1])])) (gvAL_c (gvA_a (gvL_c gv_n (gvL_c gv_n gvL_n))) gvAL_n) (objF_eq (H2:=(hp 2 [(oC [zI x0,.int .u32 x1]),(.map (MapV.es y0) (MapV.clock y0))])) (v:=(.map (some 0))) (v':=(.map (some 1))) [] [] [] [(.agg ⟨[zI x0,.int .u32 x1]⟩)] [v4] [(.map (MapV.es y0) (MapV.clock y0))] [none,some 0] [(false,(.map (MapV.es y0) (MapV.clock y0)))] [(.map (MapV.es y0) (MapV.clock y0))] (by kernel_rfl) mapO_n (Eq.trans (by kernel_rfl) h0) (mapO_c (vMapO_some h2) mapO_n) (mapO_c (bO_map h3) mapO_n))) (eE)) ?_
  replace hm:=bb_inv hm;obtain ⟨h4,hm⟩:=hm
  refine .ghs (fr 27 [(3,(zI (0:Int))),(8,(pt 0 0))]) (hp 2 [(.iter (some 1) (MapV.clock y0) ([]:List Nat) (MapV.clock y0)),(.map (MapV.es y0) (MapV.clock y0))]) (.k [1] [] [.tmp 8 false,.itm 0 false] [3,8] ⟨trF h4,trivial⟩) ?_
  refine .block ?_
  refine .loopM (v:=v) (fun y:Int×Nat×List Nat×Nat×List Ent×Nat=>((fr 27 [(3,(zI y.1)),(8,(pt 0 0))]),(hp 2 [(.iter (some 1) y.2.1 y.2.2.1 y.2.2.2.1),(.map y.2.2.2.2.1 y.2.2.2.2.2)]))) (fun w y=>l76_1 pu n w y.1 y.2.1 y.2.2.1 y.2.2.2.1 y.2.2.2.2.1 y.2.2.2.2.2) n ⟨((0:Int),(MapV.clock y0),([]:List Nat),(MapV.clock y0),(MapV.es y0),(MapV.clock y0)),hm,(.k [1] [] [.tmp 8 false,.itm 0 false] [3,8] ⟨trF h4,trivial⟩)⟩ (fun _=>rfl) ?_
  rintro w0 ⟨z1,k1,l2,k2,e0,k3⟩ hm
  replace hm:b76_1 pu n (l76_1 pu n w0) z1 k1 l2 k2 e0 k3 = some v:=hm
  unfold b76_1 at hm
  refine .then ?_
  replace hm:=bb_inv hm;obtain ⟨h5,hm⟩:=hm
  replace hm:=bb_inv hm;obtain ⟨h6,hm⟩:=hm
  refine .nextK (id:=0) (mid:=1) (since:=k1) (st:=k2) (clock:=k3) (seen:=l2) (es:=e0) (d:=some 9) (x:=(tp 8)) (ty:=0) (os:=[rq 10 (.extract (tp 9) 0) 4]) (by kernel_rfl) (by kernel_rfl) (by kernel_rfl) (by kernel_rfl) h5 h6 (by kernel_rfl) (fun _=>by kernel_rfl) (fun h7=>?_) (fun e1 h8=>?_)
  ·replace hm := nxt_0 hm h7
   replace hm:=bb_inv hm;obtain ⟨h9,hm⟩:=hm
   refine .ghs (fr 27 [(3,zI z1),(8,(pt 0 0)),(10,zB false)]) (hp 2 [(.iter (some 1) k1 l2 k2),(.map e0 k3)]) (.k [1] [] [.tmp 8 false,.itm 0 false] [3,8,10] ⟨trF h9,trivial⟩) ?_
   refine .then ?_
   refine .condF (by kernel_rfl) ?_
   refine .exit ?_
   exact ⟨z1,hm,(.k0 [] [] [3])⟩
  ·replace hm := nxt_1 hm h8
   replace hm:=bb_inv hm;obtain ⟨h10,hm⟩:=hm
   refine .ghs (fr 27 [(3,zI z1),(8,(pt 0 0)),(10,zB true)]) (hp 2 [(.iter (some 1) k1 (appL l2 [(Ent.born e1)]) k3),(.map e0 k3)]) (.k [1] [] [.tmp 8 false,.itm 0 false] [3,8,10] ⟨trF h10,trivial⟩) ?_
   refine .then ?_
   refine .condT (by kernel_rfl) ?_
   refine .skip ?_
   refine .ghs (fr 27 [(3,zI z1),(8,(pt 0 0))]) (hp 2 [(.iter (some 1) k1 (appL l2 [(Ent.born e1)]) k3),(.map e0 k3)]) (.k [1] [] [.tmp 8 false,.itm 0 false] [3,8] ⟨trF h10,trivial⟩) ?_
   refine .block ?_
   refine .then ?_
   replace hm:=oo_inv hm;obtain ⟨v5,h11,hm⟩:=hm
   replace hm:=inv_vTup hm;obtain ⟨l3,rfl,hm⟩:=hm
   replace hm:=ll_uncons hm;obtain ⟨v6,l934_0,rfl,hm⟩:=hm
   replace hm:=ll_uncons hm;obtain ⟨v7,l934_1,rfl,hm⟩:=hm
   replace hm:=ll_end hm;obtain ⟨rfl,hm⟩:=hm
   replace hm:=inv_toI hm;obtain ⟨x2,rfl,hm⟩:=hm
   replace hm:=inv_toI hm;obtain ⟨x3,rfl,hm⟩:=hm
   refine .reg (eD (keep (hp 2 [(.iter (some 1) k1 (appL l2 [(Ent.born e1)]) k3),(.map e0 k3)]) (entT e0 k3 (appL l2 [(Ent.born e1)]) k3)) (keep_eq h11) (eE)) ?_
   refine .ghs (fr 27 [(3,zI z1),(4,zI x2),(5,zI x3),(8,(pt 0 0))]) (hp 2 [(.iter (some 1) k1 (appL l2 [(Ent.born e1)]) k3),(.map e0 k3)]) (.k [1] [] [.tmp 8 false,.itm 0 false] [3,4,5,8] ⟨trF h10,trivial⟩) ?_
   refine .join (v:=v) (fun y:Int×Int×Bool×Nat×List Nat×Nat×List Ent×Nat=>((fr 27 [(3,(zI y.1)),(4,(zI y.2.1)),(8,(pt 0 0)),(24,(zB y.2.2.1))]),(hp 2 [(.iter (some 1) y.2.2.2.1 y.2.2.2.2.1 y.2.2.2.2.2.1),(.map y.2.2.2.2.2.2.1 y.2.2.2.2.2.2.2)]))) (fun y=>m76_2 pu n (l76_1 pu n w0) y.1 y.2.1 y.2.2.1 y.2.2.2.1 y.2.2.2.2.1 y.2.2.2.2.2.1 y.2.2.2.2.2.2.1 y.2.2.2.2.2.2.2) ?_ ?_
   ·rintro ⟨z2, z3, b0, k4, l4, k5, e2, k6⟩ hm
    unfold m76_2 at hm
    replace hm:=bb_cases hm;rcases hm with ⟨h12,hm⟩ | ⟨h12,hm⟩
    ·refine .ifT b0 (by kernel_rfl) h12 ?_
     refine .rK ?_
     replace hm:=bb_inv hm;obtain ⟨h13,hm⟩:=hm
     exact ⟨(z3,k4,l4,k5,e2,k6),hm,(.k [1] [] [.tmp 8 false,.itm 0 false] [3,8] ⟨trF h13,trivial⟩)⟩
    ·refine .ifF b0 (by kernel_rfl) h12 ?_
     refine .skip ?_
     replace hm:=bb_inv hm;obtain ⟨h14,hm⟩:=hm
     exact ⟨(z2,k4,l4,k5,e2,k6),hm,(.k [1] [] [.tmp 8 false,.itm 0 false] [3,8] ⟨trF h14,trivial⟩)⟩
   ·replace hm := bb_cases hm; rcases hm with ⟨h15, hm⟩ | ⟨h15, hm⟩
    ·replace hm := bb_cases hm; rcases hm with ⟨h16, hm⟩ | ⟨h16, hm⟩
     ·refine .reg (eC 1 (some ((zB (ilt (1 : Int) x3)), (hp 2 [(.iter (some 1) k1 (appL l2 [(Ent.born e1)]) k3), (.map e0 k3)]))) (show _ = some ((zB true), _) from (by rw [show (ilt (1 : Int) x3) = true from h15])) (eC 2 (some ((zB (ieq z1 (0 : Int))), (hp 2 [(.iter (some 1) k1 (appL l2 [(Ent.born e1)]) k3), (.map e0 k3)]))) (show _ = some ((zB true), _) from (by rw [show (ieq z1 (0 : Int)) = true from h16])) (eE))) ?_
      exact ⟨(z1,x2,true,k1,(appL l2 [(Ent.born e1)]),k3,e0,k3),hm,(.k [1] [] [.tmp 8 false,.itm 0 false] [3,4,8,24] ⟨trF h10,trivial⟩)⟩
     ·refine .reg (eC 1 (some ((zB (ilt (1 : Int) x3)), (hp 2 [(.iter (some 1) k1 (appL l2 [(Ent.born e1)]) k3), (.map e0 k3)]))) (show _ = some ((zB true), _) from (by rw [show (ilt (1 : Int) x3) = true from h15])) (eC 2 (some ((zB (ieq z1 (0 : Int))), (hp 2 [(.iter (some 1) k1 (appL l2 [(Ent.born e1)]) k3), (.map e0 k3)]))) (show _ = some ((zB false), _) from (by rw [show (ieq z1 (0 : Int)) = false from h16])) (eE))) ?_
      exact ⟨(z1,x2,(ilt x2 z1),k1,(appL l2 [(Ent.born e1)]),k3,e0,k3),hm,(.k [1] [] [.tmp 8 false,.itm 0 false] [3,4,8,24] ⟨trF h10,trivial⟩)⟩
    ·refine .reg (eC 1 (some ((zB (ilt (1 : Int) x3)), (hp 2 [(.iter (some 1) k1 (appL l2 [(Ent.born e1)]) k3), (.map e0 k3)]))) (show _ = some ((zB false), _) from (by rw [show (ilt (1 : Int) x3) = false from h15])) (eE)) ?_
     exact ⟨(z1,x2,false,k1,(appL l2 [(Ent.born e1)]),k3,e0,k3),hm,(.k [1] [] [.tmp 8 false,.itm 0 false] [3,4,8,24] ⟨trF h10,trivial⟩)⟩
def m78_0 (pu:PureF) (n:Nat) (b0:Bool):OV:=
 (some (.bool b0))
def m78_ (pu:PureF) (n:Nat) (x0 x1:Int):OV:=
 (oo (pu 76 [(.agg ⟨[.int .i64 x0,.int .u32 x1]⟩)]) none fun v0=>(oo (toI .i64 v0) none fun x2=>(bb (ieq x2 (0:Int)) (oo (pu 10860 [(.agg ⟨[.int .i64 x0,.int .u32 x1]⟩)]) none fun v1=>(oo (vTup v1) none fun l0=>(ll l0 none fun v2 l0=>(ll l0 none fun v3 l0=>(ll l0 (bb (isMp v2 0) (oo (vMapO v3) none fun y0=>(bb (allL entClosed (MapV.es y0)) (m78_0 pu n (ieq (Int.ofNat (len (MapV.es y0))) (wrapF .i64 (Int.sub x0 (1:Int))))) none)) none) fun _ _=>none))))) (m78_0 pu n false))))
def m78 (pu:PureF) (n:Nat) (args:LV):OV:=
 (ll args none fun a0 args=>(ll args (oo (vAgg a0) none fun l0=>(ll l0 none fun v0 l0=>(ll l0 none fun v1 l0=>(ll l0 (oo (toI .i64 v0) none fun x0=>(oo (toI .u32 v1) none fun x1=>(m78_ pu n x0 x1))) fun _ _=>none)))) fun _ _=>none))
theorem w78_0 (pu:PureF) (n:Nat) (b0:Bool) {v:Value} (hm:m78_0 pu n b0 = some v):Run tt (callP tabs isP pu (inl pu)) 0 .ret (fr 15 [(2,zB b0)]) (hp 0 []) (Fin tt 0 [.tmp 2] v):=by
 unfold m78_0 at hm
 refine .ret ?_
 exact fin_ret (zB b0) (by kernel_rfl) (by kernel_rfl) hm
theorem r78 {call:CallF} (pu:PureF) (n:Nat) (hcall:call = callP tabs isP pu (inl pu)) {args:LV} {v:Value} (hm:m78 pu n args = some v) (_:∀ x ∈ args,closed2 x = true):args.length≤15∧Run tt call 0 c78_3 (Fr.made 15 args) (pureHeap tabs) (Fin tt 0 [.tmp 2] v):=by
 subst hcall
 unfold m78 at hm
 replace hm:=ll_uncons hm;obtain ⟨a0,args_0,rfl,hm⟩:=hm
 replace hm:=ll_end hm;obtain ⟨rfl,hm⟩:=hm
 replace hm:=inv_vAgg hm;obtain ⟨l0,rfl,hm⟩:=hm
 replace hm:=ll_uncons hm;obtain ⟨v0,l961_0,rfl,hm⟩:=hm
 replace hm:=ll_uncons hm;obtain ⟨v1,l961_1,rfl,hm⟩:=hm
 replace hm:=ll_end hm;obtain ⟨rfl,hm⟩:=hm
 replace hm:=inv_toI hm;obtain ⟨x0,rfl,hm⟩:=hm
 replace hm:=inv_toI hm;obtain ⟨x1,rfl,hm⟩:=hm
 unfold m78_ at hm
 refine ⟨by simp,?_⟩
 refine .same (F':=(fr 15 [(0,(.agg ⟨[zI x0,.int .u32 x1]⟩))])) (H':=(hp 0 [])) (by kernel_rfl) (by kernel_rfl) ?_
 refine .then (.rK ?_)
 refine .ghs (fr 15 [(1,(pt 0 0))]) (hp 1 [(oC [zI x0,.int .u32 x1])]) (.k0 [] [.tmp 1 false] [1]) ?_
 refine .join (v:=v) (fun y:Bool=>((fr 15 [(2,zB y)]),(hp 0 []))) (fun y=>m78_0 pu n y) ?_ ?_
 ·rintro b0 hm
  exact w78_0 pu n b0 hm
 ·replace hm := oo_inv hm; obtain ⟨v2, h0, hm⟩ := hm
  replace hm:=inv_toI hm;obtain ⟨x2,rfl,hm⟩:=hm
  replace hm:=bb_cases hm;rcases hm with ⟨h1,hm⟩ | ⟨h1,hm⟩
  ·replace hm := oo_inv hm; obtain ⟨v3, h2, hm⟩ := hm
   replace hm:=inv_vTup hm;obtain ⟨l1,rfl,hm⟩:=hm
   replace hm:=ll_uncons hm;obtain ⟨v4,l1030_0,rfl,hm⟩:=hm
   replace hm:=ll_uncons hm;obtain ⟨v5,l1030_1,rfl,hm⟩:=hm
   replace hm:=ll_end hm;obtain ⟨rfl,hm⟩:=hm
   replace hm:=bb_inv hm;obtain ⟨h3,hm⟩:=hm
   obtain rfl:=isMp_ok h3
   replace hm:=oo_inv hm;obtain ⟨y0,h4,hm⟩:=hm
   replace hm:=bb_inv hm;obtain ⟨h5,hm⟩:=hm
   refine .reg (eC 1 ((oo (pu 76 [(.agg ⟨[zI x0,.int .u32 x1]⟩)]) none fun v=>some (v,(hp 1 [(oC [zI x0,.int .u32 x1])])))) (call_eq h0) (eD (some ((zB (ieq x2 (0:Int))),(hp 1 [(oC [zI x0,.int .u32 x1])]))) (show _ = some ((zB true),_) from (by rw [show (ieq x2 (0:Int)) = true from h1])) (eC 5 (objG tabs [[none,none]] 1 [] [false] (pu 10860) [(.agg ⟨[zI x0,.int .u32 x1]⟩)] (hp 1 [(oC [zI x0,.int .u32 x1])])) (objG_eq (as:=[(.agg ⟨[zI x0,.int .u32 x1]⟩)]) (H1:=(hp 1 [(oC [zI x0,.int .u32 x1])])) (gvAL_c (gvA_a (gvL_c gv_n (gvL_c gv_n gvL_n))) gvAL_n) (objF_eq (H2:=(hp 2 [(oC [zI x0,.int .u32 x1]),(.map (MapV.es y0) (MapV.clock y0))])) (v:=(.map (some 0))) (v':=(.map (some 1))) [] [] [] [(.agg ⟨[zI x0,.int .u32 x1]⟩)] [v5] [(.map (MapV.es y0) (MapV.clock y0))] [none,some 0] [(false,(.map (MapV.es y0) (MapV.clock y0)))] [(.map (MapV.es y0) (MapV.clock y0))] (by kernel_rfl) mapO_n (Eq.trans (by kernel_rfl) h2) (mapO_c (vMapO_some h4) mapO_n) (mapO_c (bO_map h5) mapO_n))) (eE)))) ?_
   exact ⟨(ieq (Int.ofNat (len (MapV.es y0))) (wrapF .i64 (Int.sub x0 (1:Int)))),hm,(.k0 [] [] [2])⟩
  ·refine .reg (eC 1 ((oo (pu 76 [(.agg ⟨[zI x0, .int .u32 x1]⟩)]) none fun v => some (v, (hp 1 [(oC [zI x0, .int .u32 x1])])))) (call_eq h0) (eD (some ((zB (ieq x2 (0 : Int))), (hp 1 [(oC [zI x0, .int .u32 x1])]))) (show _ = some ((zB false), _) from (by rw [show (ieq x2 (0 : Int)) = false from h1])) (eE))) ?_
   exact ⟨false,hm,(.k0 [] [] [2])⟩

def m55_ (pu:PureF) (n:Nat) (s0:Sl):OV:=
 (some (Sl.v 1 s0))
def m55 (pu:PureF) (n:Nat) (args:LV):OV:=
 (ll args none fun a0 args=>(ll args (oo (toSl 1 a0) none fun s0=>(m55_ pu n s0)) fun _ _=>none))
theorem r55 {call:CallF} (pu:PureF) (n:Nat) (hcall:call = callP tabs isP pu (inl pu)) {args:LV} {v:Value} (hm:m55 pu n args = some v) (_:∀ x ∈ args,closed2 x = true):args.length≤4∧Run tt call 0 c55_3 (Fr.made 4 args) (pureHeap tabs) (Fin tt 0 [.tmp 2] v):=by
 subst hcall
 unfold m55 at hm
 replace hm:=ll_uncons hm;obtain ⟨a0,args_0,rfl,hm⟩:=hm
 replace hm:=ll_end hm;obtain ⟨rfl,hm⟩:=hm
 replace hm:=inv_toSl hm;obtain ⟨s0,rfl,hm⟩:=hm
 unfold m55_ at hm
 refine ⟨by simp,?_⟩
 refine .same (F':=(fr 4 [(0,Sl.v 1 s0)])) (H':=(hp 0 [])) (by kernel_rfl) (by kernel_rfl) ?_
 refine .then (.rK ?_)
 refine .ghs (fr 4 [(0,Sl.v 1 s0)]) (hp 0 []) (.k0 [] [] [0]) ?_
 refine .then (.rK ?_)
 refine .ghs (fr 4 [(2,Sl.v 1 s0)]) (hp 0 []) (.k0 [] [] [2]) ?_
 refine .ret ?_
 exact fin_ret (Sl.v 1 s0) (by kernel_rfl) (by kernel_rfl) hm
def m7_3 (pu:PureF) (n:Nat) (b0:Bool):OV:=
 (some (.bool b0))
def m7_4 (pu:PureF) (n:Nat) (b0:Bool):OV:=
 (some (.bool b0))
def m7_2 (pu:PureF) (n:Nat) (z0 z1 z2:Int) (s0:Sl) (b0:Bool) (z3:Int) (s1:Sl):OV:=
 (bb (bq false (bq b0 (ieq (wrapF .i64 (Int.add (wrapF .i64 (Int.mul z0 (wrapF .i64 (Int.sub z0 (1:Int))))) (1:Int))) z1))) (some (.bool false)) (bb (nt b0) (bb (ieq z2 (12:Int)) (bb (ieq (Int.ofNat (Sl.n s1)) (0:Int)) (bb (ieq z3 (0:Int)) (oo (pu 14 []) none fun v0=>(oo (vBool v0) none fun b1=>(m7_3 pu n b1))) (m7_3 pu n false)) (m7_3 pu n false)) (m7_3 pu n false)) (bb (ieq z2 (0:Int)) (bb (ieq z3 z1) (oo (pu 23 [Sl.v 1 s1,Sl.v 1 s0]) none fun v1=>(oo (vBool v1) none fun b2=>(bb b2 (oo (pu 14 []) none fun v2=>(oo (vBool v2) none fun b3=>(m7_4 pu n b3))) (m7_4 pu n false)))) (m7_4 pu n false)) (m7_4 pu n false))))
def m7_6 (pu:PureF) (n:Nat) (ih0:Int→Int→Int→Sl→Bool→Int→Int→Int→Sl→OV) (z0 z1 z2:Int) (s0:Sl) (b0:Bool) (z3 z4 z5:Int) (s1:Sl):OV:=
 (ih0 z0 z1 z2 s0 b0 z3 (wrapF .u32 (Int.add z4 (1:Int))) z5 s1)
def m7_8 (pu:PureF) (n:Nat) (ih0:Int→Int→Int→Sl→Bool→Int→Int→Int→Sl→OV) (z0 z1 z2:Int) (s0:Sl) (b0:Bool) (z3 z4 z5:Int) (b1:Bool) (z6:Int) (s1:Sl):OV:=
 (bb b1 (oo (pu 48 [.int .u32 z3]) none fun v0=>(oo (toSl 1 v0) none fun s2=>(m7_6 pu n ih0 z0 z1 z2 s2 true z4 z5 z6 s1))) (m7_6 pu n ih0 z0 z1 z2 s0 b0 z4 z5 z6 s1))
def m7_7 (pu:PureF) (n:Nat) (ih0:Int→Int→Int→Sl→Bool→Int→Int→Int→Sl→OV) (z0 z1 z2:Int) (s0:Sl) (b0:Bool) (z3:Int) (b1:Bool) (z4 z5 z6:Int) (s1:Sl):OV:=
 (bb b1 (bb (nt b0) (m7_8 pu n ih0 z0 z1 z2 s0 b0 z3 z4 z5 true z6 s1) (oo (pu 48 [.int .u32 z3]) none fun v0=>(oo (toSl 1 v0) none fun s2=>(oo (pu 52 [Sl.v 1 s2,Sl.v 1 s0]) none fun v1=>(oo (toI .i64 v1) none fun x0=>(m7_8 pu n ih0 z0 z1 z2 s0 b0 z3 z4 z5 (ilt x0 (0:Int)) z6 s1)))))) (m7_8 pu n ih0 z0 z1 z2 s0 b0 z3 z4 z5 false z6 s1))
def b7_9 (pu:PureF) (n:Nat) (ih0:Int→Int→Int→Sl→Bool→Int→Int→Int→Sl→OV) (ih1:Int→Int→Int→Sl→Bool→Int→Bool→Int→Int→Sl→Int→Int→Int→Sl→OV) (z0 z1 z2:Int) (s0:Sl) (b0:Bool) (z3:Int) (b1:Bool) (z4 z5:Int) (s1:Sl) (z6 z7 z8:Int) (s2:Sl):OV:=
 (bb (ilt z7 z6) (oo (toN z7) none fun k1=>(bb (an (Nat.blt k1 (Sl.n s1)) true) (oo (nthL (Sl.cs s1) (k1 * 1)) none fun v0=>(oo (toI .i64 v0) none fun x0=>(bb b1 (ih1 z0 z1 z2 s0 b0 z3 (ieq x0 (1:Int)) z4 z5 s1 z6 (wrapF .i64 (Int.add (Int.ofNat k1) (1:Int))) z8 s2) (ih1 z0 z1 z2 s0 b0 z3 false z4 z5 s1 z6 (wrapF .i64 (Int.add (Int.ofNat k1) (1:Int))) z8 s2)))) none)) (m7_7 pu n ih0 z0 z1 z2 s0 b0 z3 b1 z4 z5 z8 s2))
def l7_9 (pu:PureF) (n:Nat) (ih0:Int→Int→Int→Sl→Bool→Int→Int→Int→Sl→OV) (w:Nat):Int→Int→Int→Sl→Bool→Int→Bool→Int→Int→Sl→Int→Int→Int→Sl→OV:=
 Nat.rec (motive:=fun _=>Int→Int→Int→Sl→Bool→Int→Bool→Int→Int→Sl→Int→Int→Int→Sl→OV) (fun _ _ _ _ _ _ _ _ _ _ _ _ _ _=>none) (fun _ ih1=>b7_9 pu n ih0 ih1) w
def b7_5 (pu:PureF) (n:Nat) (ih0:Int→Int→Int→Sl→Bool→Int→Int→Int→Sl→OV) (z0 z1 z2:Int) (s0:Sl) (b0:Bool) (z3 z4 z5:Int) (s1:Sl):OV:=
 (bb (ilt z4 z3) (oo (pu 50 [.int .u32 z4]) none fun v0=>(oo (toI .i64 v0) none fun x0=>(bb (nt (ieq x0 z0)) (m7_6 pu n ih0 z0 z1 z2 s0 b0 z3 z4 z5 s1) (oo (pu 51 [.int .i64 z1,.int .u32 z4]) none fun v1=>(oo (toSl 1 v1) none fun s2=>(l7_9 pu n ih0 n z0 z1 z2 s0 b0 z4 true z3 z4 s2 (Int.ofNat (Sl.n s2)) (0:Int) z5 s1)))))) (m7_2 pu n z0 z1 z2 s0 b0 z5 s1))
def l7_5 (pu:PureF) (n w:Nat):Int→Int→Int→Sl→Bool→Int→Int→Int→Sl→OV:=
 Nat.rec (motive:=fun _=>Int→Int→Int→Sl→Bool→Int→Int→Int→Sl→OV) (fun _ _ _ _ _ _ _ _ _=>none) (fun _ ih0=>b7_5 pu n ih0) w
def m7_1 (pu:PureF) (n:Nat) (z0:Int) (b0:Bool) (z1 z2:Int):OV:=
 (bb b0 (some (.bool false)) (oo (pu 35 [(.int .i64 (wrapF .i64 (Int.add (1:Int) (Int.tmod (wrapF .i64 z1) (13:Int))))),(.int .i64 (Int.tmod (wrapF .i64 z0) (7:Int)))]) none fun v0=>(oo (vTup v0) none fun l0=>(ll l0 none fun v1 l0=>(ll l0 none fun v2 l0=>(ll l0 (oo (vAgg v1) none fun l1=>(ll l1 none fun v3 l1=>(ll l1 none fun v4 l1=>(ll l1 (oo (toI .i64 v3) none fun x0=>(oo (toSl 1 v4) none fun s0=>(oo (toI .i64 v2) none fun x1=>(oo (toN (wrapF .i64 (Int.add (1:Int) (Int.tmod (wrapF .i64 z1) (13:Int))))) none fun k1=>(l7_5 pu n n (Int.tmod (wrapF .i64 z0) (7:Int)) (wrapF .i64 (Int.add (1:Int) (Int.tmod (wrapF .i64 z1) (13:Int)))) x1 (Sl.mk 0 2 []) false (shlI .u32 (1:Int) k1) (0:Int) x0 s0))))) fun _ _=>none)))) fun _ _=>none))))))
def m7_0 (pu:PureF) (n:Nat) (z0 z1 z2:Int) (b0:Bool) (z3 z4:Int):OV:=
 (oo (pu 47 [.int .i64 z1,.int .u32 z2]) none fun v0=>(oo (vAgg v0) none fun l0=>(ll l0 none fun v1 l0=>(ll l0 none fun v2 l0=>(ll l0 (oo (toI .i64 v1) none fun x0=>(oo (toSl 1 v2) none fun s0=>(oo (pu 31 [(.agg ⟨[.int .i64 x0,Sl.v 1 s0]⟩)]) none fun v3=>(oo (vTup v3) none fun l1=>(ll l1 none fun v4 l1=>(ll l1 none fun v5 l1=>(ll l1 (oo (vBool v4) none fun b1=>(oo (toI .i64 v5) none fun x1=>(oo (pu 50 [.int .u32 z2]) none fun v6=>(oo (toI .i64 v6) none fun x2=>(bb (nt (ieq x1 (0:Int))) (m7_1 pu n z0 true z3 z4) (bb b1 (bb (bq false (bq true b0)) (m7_1 pu n z0 true z3 z4) (bb b1 (m7_1 pu n z0 (nt (ieq (wrapF .i64 (Int.add (wrapF .i64 (Int.mul x2 (wrapF .i64 (Int.sub x2 (1:Int))))) (1:Int))) z1)) z3 z4) (m7_1 pu n z0 false z3 z4))) (bb (bq false (bq false b0)) (m7_1 pu n z0 true z3 z4) (bb b1 (m7_1 pu n z0 (nt (ieq (wrapF .i64 (Int.add (wrapF .i64 (Int.mul x2 (wrapF .i64 (Int.sub x2 (1:Int))))) (1:Int))) z1)) z3 z4) (m7_1 pu n z0 false z3 z4))))))))) fun _ _=>none))))))) fun _ _=>none)))))
def m7_11 (pu:PureF) (n:Nat) (ih0:Int→Int→Int→Bool→Int→Int→Int→OV) (z0 z1 z2:Int) (b0:Bool) (z3:Int) (s0:Sl) (b1:Bool) (z4 z5:Int):OV:=
 (bb b1 (some (.bool false)) (bb b0 (ih0 z0 z1 z2 (ieq (Int.ofNat (Sl.n s0)) (1:Int)) (wrapF .i64 (Int.add z3 (1:Int))) z4 z5) (ih0 z0 z1 z2 false (wrapF .i64 (Int.add z3 (1:Int))) z4 z5)))
def b7_10 (pu:PureF) (n:Nat) (ih0:Int→Int→Int→Bool→Int→Int→Int→OV) (z0 z1 z2:Int) (b0:Bool) (z3 z4 z5:Int):OV:=
 (bb (ilt z3 z1) (oo (pu 47 [.int .i64 z1,.int .u32 z2]) none fun v0=>(oo (vAgg v0) none fun l0=>(ll l0 none fun v1 l0=>(ll l0 none fun v2 l0=>(ll l0 (oo (toI .i64 v1) none fun x0=>(oo (toSl 1 v2) none fun s0=>(oo (pu 10330 [(.agg ⟨[.int .i64 x0,Sl.v 1 s0]⟩),(Sl.v 1 (Sl.mk 1 0 (takeL (1 * 1) (dropL 0 ([.int .i64 z3]:LV)))))]) none fun v3=>(oo (vTup v3) none fun l1=>(ll l1 none fun v4 l1=>(ll l1 (oo (vTup v4) none fun l2=>(ll l2 none fun v5 l2=>(ll l2 none fun v6 l2=>(ll l2 (oo (toSl 1 v5) none fun s1=>(oo (toI .i64 v6) none fun x1=>(bb (nt (ieq x1 (0:Int))) (m7_11 pu n ih0 z0 z1 z2 b0 z3 s1 true z4 z5) (oo (pu 49 [.int .i64 z1,.int .u32 z2,(.int .i64 (1:Int)),.int .i64 z3]) none fun v7=>(oo (toI .u32 v7) none fun x2=>(oo (pu 48 [(.int .u32 (aand .u32 z2 x2))]) none fun v8=>(oo (toSl 1 v8) none fun s2=>(oo (pu 23 [Sl.v 1 s1,Sl.v 1 s2]) none fun v9=>(oo (vBool v9) none fun b1=>(m7_11 pu n ih0 z0 z1 z2 b0 z3 s1 (nt b1) z4 z5)))))))))) fun _ _=>none)))) fun _ _=>none)))))) fun _ _=>none))))) (m7_0 pu n z0 z1 z2 b0 z4 z5))
def l7_10 (pu:PureF) (n w:Nat):Int→Int→Int→Bool→Int→Int→Int→OV:=
 Nat.rec (motive:=fun _=>Int→Int→Int→Bool→Int→Int→Int→OV) (fun _ _ _ _ _ _ _=>none) (fun _ ih0=>b7_10 pu n ih0) w
def m7_ (pu:PureF) (n:Nat) (x0 x1 x2:Int):OV:=
 (oo (pu 46 [(.agg ⟨[.int .u8 x0,.int .u32 x1]⟩),(.int .i64 (21:Int))]) none fun v0=>(oo (vTup v0) none fun l0=>(ll l0 none fun v1 l0=>(ll l0 none fun v2 l0=>(ll l0 (oo (toI .i64 v1) none fun x3=>(oo (toI .u32 v2) none fun x4=>(l7_10 pu n n x2 x3 x4 true (1:Int) x0 x1))) fun _ _=>none)))))
def m7 (pu:PureF) (n:Nat) (args:LV):OV:=
 (ll args none fun a0 args=>(ll args none fun a1 args=>(ll args (oo (vAgg a0) none fun l0=>(ll l0 none fun v0 l0=>(ll l0 none fun v1 l0=>(ll l0 (oo (toI .u8 v0) none fun x0=>(oo (toI .u32 v1) none fun x1=>(oo (toI .u8 a1) none fun x2=>(m7_ pu n x0 x1 x2)))) fun _ _=>none)))) fun _ _=>none)))
theorem w7_4 (pu:PureF) (n:Nat) (b0:Bool) {v:Value} (hm:m7_4 pu n b0 = some v):Run tt (callP tabs isP pu (inl pu)) 0 .ret (fr 187 [(4,zB b0)]) (hp 0 []) (Fin tt 0 [.tmp 4] v):=by
 unfold m7_4 at hm
 refine .ret ?_
 exact fin_ret (zB b0) (by kernel_rfl) (by kernel_rfl) hm
theorem w7_2 (pu:PureF) (n:Nat) (z0 z1 z2:Int) (s0:Sl) (b0:Bool) (z3:Int) (s1:Sl) {v:Value} (hm:m7_2 pu n z0 z1 z2 s0 b0 z3 s1 = some v):Run tt (callP tabs isP pu (inl pu)) 0 c7_86 (fr 187 [(14,zI z0),(15,zI z1),(16,(pt 0 0)),(17,zI z2),(18,Sl.v 1 s0),(19,zB b0)]) (hp 1 [(oC [zI z3,Sl.v 1 s1])]) (Fin tt 0 [.tmp 4] v):=by
 unfold m7_2 at hm
 refine .then ?_
 refine .then (.rK ?_)
 refine .ghs (fr 187 [(15,zI z1),(16,(pt 0 0)),(17,zI z2),(18,Sl.v 1 s0),(19,zB b0),(151,(zB (bq false (bq b0 (ieq (wrapF .i64 (Int.add (wrapF .i64 (Int.mul z0 (wrapF .i64 (Int.sub z0 (1:Int))))) (1:Int))) z1)))))]) (hp 1 [(oC [zI z3,Sl.v 1 s1])]) (.k0 [] [.tmp 16 false] [15,16,17,18,19,151]) ?_
 replace hm:=bb_cases hm;rcases hm with ⟨h0,hm⟩ | ⟨h0,hm⟩
 ·refine .ifT (bq false (bq b0 (ieq (wrapF .i64 (Int.add (wrapF .i64 (Int.mul z0 (wrapF .i64 (Int.sub z0 (1 : Int))))) (1 : Int))) z1))) (by kernel_rfl) h0 ?_
  refine .then (.rK ?_)
  refine .ghs (fr 187 [(4,zB false)]) (hp 0 []) (.k0 [] [] [4]) ?_
  refine .ret ?_
  exact fin_ret (zB false) (by kernel_rfl) (by kernel_rfl) hm
 ·refine .ifF (bq false (bq b0 (ieq (wrapF .i64 (Int.add (wrapF .i64 (Int.mul z0 (wrapF .i64 (Int.sub z0 (1 : Int))))) (1 : Int))) z1))) (by kernel_rfl) h0 ?_
  refine .skip ?_
  refine .ghs (fr 187 [(15,zI z1),(16,(pt 0 0)),(17,zI z2),(18,Sl.v 1 s0),(19,zB b0)]) (hp 1 [(oC [zI z3,Sl.v 1 s1])]) (.k0 [] [.tmp 16 false] [15,16,17,18,19]) ?_
  refine .then ?_
  refine .then (.rK ?_)
  refine .ghs (fr 187 [(15,zI z1),(16,(pt 0 0)),(17,zI z2),(18,Sl.v 1 s0),(153,(zB (nt b0)))]) (hp 1 [(oC [zI z3,Sl.v 1 s1])]) (.k0 [] [.tmp 16 false] [15,16,17,18,153]) ?_
  replace hm:=bb_cases hm;rcases hm with ⟨h1,hm⟩ | ⟨h1,hm⟩
  ·refine .ifT (nt b0) (by kernel_rfl) h1 ?_
   refine .join (v:=v) (fun y:Bool=>((fr 187 [(4,zB y)]),(hp 0 []))) (fun y=>m7_3 pu n y) ?_ ?_
   ·rintro b1 hm
    unfold m7_3 at hm
    refine .ret ?_
    exact fin_ret (zB b1) (by kernel_rfl) (by kernel_rfl) hm
   ·replace hm := bb_cases hm; rcases hm with ⟨h2, hm⟩ | ⟨h2, hm⟩
    ·replace hm := bb_cases hm; rcases hm with ⟨h3, hm⟩ | ⟨h3, hm⟩
     ·replace hm := bb_cases hm; rcases hm with ⟨h4, hm⟩ | ⟨h4, hm⟩
      ·replace hm := oo_inv hm; obtain ⟨v0, h5, hm⟩ := hm
       replace hm:=inv_vBool hm;obtain ⟨b2,rfl,hm⟩:=hm
       refine .reg (eC 1 (some ((zB (ieq z2 (12:Int))),(hp 1 [(oC [zI z3,Sl.v 1 s1])]))) (show _ = some ((zB true),_) from (by rw [show (ieq z2 (12:Int)) = true from h2])) (eC 4 (some ((zB (ieq (Int.ofNat (Sl.n s1)) (0:Int))),(hp 1 [(oC [zI z3,Sl.v 1 s1])]))) (show _ = some ((zB true),_) from (by rw [show (ieq (Int.ofNat (Sl.n s1)) (0:Int)) = true from h3])) (eC 4 (some ((zB (ieq z3 (0:Int))),(hp 1 [(oC [zI z3,Sl.v 1 s1])]))) (show _ = some ((zB true),_) from (by rw [show (ieq z3 (0:Int)) = true from h4])) (eC 2 ((oo (pu 14 []) none fun v=>some (v,(hp 1 [(oC [zI z3,Sl.v 1 s1])])))) (call_eq h5) (eE))))) ?_
       exact ⟨b2,hm,(.k0 [] [] [4])⟩
      ·refine .reg (eC 1 (some ((zB (ieq z2 (12 : Int))), (hp 1 [(oC [zI z3, Sl.v 1 s1])]))) (show _ = some ((zB true), _) from (by rw [show (ieq z2 (12 : Int)) = true from h2])) (eC 4 (some ((zB (ieq (Int.ofNat (Sl.n s1)) (0 : Int))), (hp 1 [(oC [zI z3, Sl.v 1 s1])]))) (show _ = some ((zB true), _) from (by rw [show (ieq (Int.ofNat (Sl.n s1)) (0 : Int)) = true from h3])) (eC 4 (some ((zB (ieq z3 (0 : Int))), (hp 1 [(oC [zI z3, Sl.v 1 s1])]))) (show _ = some ((zB false), _) from (by rw [show (ieq z3 (0 : Int)) = false from h4])) (eE)))) ?_
       exact ⟨false,hm,(.k0 [] [] [4])⟩
     ·refine .reg (eC 1 (some ((zB (ieq z2 (12 : Int))), (hp 1 [(oC [zI z3, Sl.v 1 s1])]))) (show _ = some ((zB true), _) from (by rw [show (ieq z2 (12 : Int)) = true from h2])) (eC 4 (some ((zB (ieq (Int.ofNat (Sl.n s1)) (0 : Int))), (hp 1 [(oC [zI z3, Sl.v 1 s1])]))) (show _ = some ((zB false), _) from (by rw [show (ieq (Int.ofNat (Sl.n s1)) (0 : Int)) = false from h3])) (eE))) ?_
      exact ⟨false,hm,(.k0 [] [] [4])⟩
    ·refine .reg (eC 1 (some ((zB (ieq z2 (12 : Int))), (hp 1 [(oC [zI z3, Sl.v 1 s1])]))) (show _ = some ((zB false), _) from (by rw [show (ieq z2 (12 : Int)) = false from h2])) (eE)) ?_
     exact ⟨false,hm,(.k0 [] [] [4])⟩
  ·refine .ifF (nt b0) (by kernel_rfl) h1 ?_
   refine .skip ?_
   refine .ghs (fr 187 [(15,zI z1),(16,(pt 0 0)),(17,zI z2),(18,Sl.v 1 s0)]) (hp 1 [(oC [zI z3,Sl.v 1 s1])]) (.k0 [] [.tmp 16 false] [15,16,17,18]) ?_
   refine .join (v:=v) (fun y:Bool=>((fr 187 [(4,zB y)]),(hp 0 []))) (fun y=>m7_4 pu n y) ?_ ?_
   ·rintro b3 hm
    exact w7_4 pu n b3 hm
   ·replace hm := bb_cases hm; rcases hm with ⟨h6, hm⟩ | ⟨h6, hm⟩
    ·replace hm := bb_cases hm; rcases hm with ⟨h7, hm⟩ | ⟨h7, hm⟩
     ·replace hm := oo_inv hm; obtain ⟨v1, h8, hm⟩ := hm
      replace hm:=inv_vBool hm;obtain ⟨b4,rfl,hm⟩:=hm
      replace hm:=bb_cases hm;rcases hm with ⟨h9,hm⟩ | ⟨h9,hm⟩
      ·replace hm := oo_inv hm; obtain ⟨v2, h10, hm⟩ := hm
       replace hm:=inv_vBool hm;obtain ⟨b5,rfl,hm⟩:=hm
       refine .reg (eC 1 (some ((zB (ieq z2 (0:Int))),(hp 1 [(oC [zI z3,Sl.v 1 s1])]))) (show _ = some ((zB true),_) from (by rw [show (ieq z2 (0:Int)) = true from h6])) (eC 4 (some ((zB (ieq z3 z1)),(hp 1 [(oC [zI z3,Sl.v 1 s1])]))) (show _ = some ((zB true),_) from (by rw [show (ieq z3 z1) = true from h7])) (eC 5 ((oo (pu 23 [Sl.v 1 s1,Sl.v 1 s0]) none fun v=>some (v,(hp 1 [(oC [zI z3,Sl.v 1 s1])])))) (show _ = some ((zB true),_) from (by have hz:(oo (pu 23 [Sl.v 1 s1,Sl.v 1 s0]) none fun v=>some (v,(hp 1 [(oC [zI z3,Sl.v 1 s1])]))) = some ((zB b4),(hp 1 [(oC [zI z3,Sl.v 1 s1])])):=(call_eq h8);rw [h9] at hz;exact hz)) (eC 2 ((oo (pu 14 []) none fun v=>some (v,(hp 1 [(oC [zI z3,Sl.v 1 s1])])))) (call_eq h10) (eE))))) ?_
       exact ⟨b5,hm,(.k0 [] [] [4])⟩
      ·refine .reg (eC 1 (some ((zB (ieq z2 (0 : Int))), (hp 1 [(oC [zI z3, Sl.v 1 s1])]))) (show _ = some ((zB true), _) from (by rw [show (ieq z2 (0 : Int)) = true from h6])) (eC 4 (some ((zB (ieq z3 z1)), (hp 1 [(oC [zI z3, Sl.v 1 s1])]))) (show _ = some ((zB true), _) from (by rw [show (ieq z3 z1) = true from h7])) (eC 5 ((oo (pu 23 [Sl.v 1 s1, Sl.v 1 s0]) none fun v => some (v, (hp 1 [(oC [zI z3, Sl.v 1 s1])])))) (show _ = some ((zB false), _) from (by have hz : (oo (pu 23 [Sl.v 1 s1, Sl.v 1 s0]) none fun v => some (v, (hp 1 [(oC [zI z3, Sl.v 1 s1])]))) = some ((zB b4), (hp 1 [(oC [zI z3, Sl.v 1 s1])])) := (call_eq h8); rw [h9] at hz; exact hz)) (eE)))) ?_
       exact ⟨false,hm,(.k0 [] [] [4])⟩
     ·refine .reg (eC 1 (some ((zB (ieq z2 (0 : Int))), (hp 1 [(oC [zI z3, Sl.v 1 s1])]))) (show _ = some ((zB true), _) from (by rw [show (ieq z2 (0 : Int)) = true from h6])) (eC 4 (some ((zB (ieq z3 z1)), (hp 1 [(oC [zI z3, Sl.v 1 s1])]))) (show _ = some ((zB false), _) from (by rw [show (ieq z3 z1) = false from h7])) (eE))) ?_
      exact ⟨false,hm,(.k0 [] [] [4])⟩
    ·refine .reg (eC 1 (some ((zB (ieq z2 (0 : Int))), (hp 1 [(oC [zI z3, Sl.v 1 s1])]))) (show _ = some ((zB false), _) from (by rw [show (ieq z2 (0 : Int)) = false from h6])) (eE)) ?_
     exact ⟨false,hm,(.k0 [] [] [4])⟩
theorem w7_0 (pu:PureF) (n:Nat) (z0 z1 z2:Int) (b0:Bool) (z3 z4:Int) {v:Value} (hm:m7_0 pu n z0 z1 z2 b0 z3 z4 = some v):Run tt (callP tabs isP pu (inl pu)) 0 c7_95 (fr 187 [(1,(zY z0)),(2,(pt 0 0)),(5,zI z1),(6,.int .u32 z2),(7,zB b0)]) (hp 1 [(oC [(zY z3),.int .u32 z4])]) (Fin tt 0 [.tmp 4] v):=by
 unfold m7_0 at hm
 refine .then ?_
 replace hm:=oo_inv hm;obtain ⟨v0,h0,hm⟩:=hm
 replace hm:=inv_vAgg hm;obtain ⟨l0,rfl,hm⟩:=hm
 replace hm:=ll_uncons hm;obtain ⟨v1,l1379_0,rfl,hm⟩:=hm
 replace hm:=ll_uncons hm;obtain ⟨v2,l1379_1,rfl,hm⟩:=hm
 replace hm:=ll_end hm;obtain ⟨rfl,hm⟩:=hm
 replace hm:=inv_toI hm;obtain ⟨x0,rfl,hm⟩:=hm
 replace hm:=inv_toSl hm;obtain ⟨s0,rfl,hm⟩:=hm
 replace hm:=oo_inv hm;obtain ⟨v3,h1,hm⟩:=hm
 replace hm:=inv_vTup hm;obtain ⟨l1,rfl,hm⟩:=hm
 replace hm:=ll_uncons hm;obtain ⟨v4,l1389_0,rfl,hm⟩:=hm
 replace hm:=ll_uncons hm;obtain ⟨v5,l1389_1,rfl,hm⟩:=hm
 replace hm:=ll_end hm;obtain ⟨rfl,hm⟩:=hm
 replace hm:=inv_vBool hm;obtain ⟨b1,rfl,hm⟩:=hm
 replace hm:=inv_toI hm;obtain ⟨x1,rfl,hm⟩:=hm
 refine .reg (eC 2 ((oo (pu 47 [zI z1,.int .u32 z2]) none fun v=>some (v,(hp 1 [(oC [(zY z3),.int .u32 z4])])))) (call_eq h0) (eD ((oo (pu 31 [(.agg ⟨[zI x0,Sl.v 1 s0]⟩)]) none fun v=>some (v,(hp 1 [(oC [(zY z3),.int .u32 z4])])))) (call_eq h1) (eE))) ?_
 refine .ghs (fr 187 [(1,(zY z0)),(2,(pt 0 0)),(5,zI z1),(6,.int .u32 z2),(7,zB b0),(11,zB b1),(12,zI x1)]) (hp 1 [(oC [(zY z3),.int .u32 z4])]) (.k0 [] [.tmp 2 false] [1,2,5,6,7,11,12]) ?_
 refine .then ?_
 replace hm:=oo_inv hm;obtain ⟨v6,h2,hm⟩:=hm
 replace hm:=inv_toI hm;obtain ⟨x2,rfl,hm⟩:=hm
 refine .reg (eC 1 ((oo (pu 50 [.int .u32 z2]) none fun v=>some (v,(hp 1 [(oC [(zY z3),.int .u32 z4])])))) (call_eq h2) (eE)) ?_
 refine .ghs (fr 187 [(1,(zY z0)),(2,(pt 0 0)),(5,zI z1),(7,zB b0),(11,zB b1),(12,zI x1),(13,zI x2)]) (hp 1 [(oC [(zY z3),.int .u32 z4])]) (.k0 [] [.tmp 2 false] [1,2,5,7,11,12,13]) ?_
 refine .then ?_
 refine .join (v:=v) (fun y:Int×Bool×Int×Int=>((fr 187 [(1,(zY y.1)),(2,(pt 0 0)),(90,(zB y.2.1))]),(hp 1 [(oC [(zY y.2.2.1),(.int .u32 y.2.2.2)])]))) (fun y=>m7_1 pu n y.1 y.2.1 y.2.2.1 y.2.2.2) ?_ ?_
 ·rintro ⟨z5, b2, z6, z7⟩ hm
  unfold m7_1 at hm
  replace hm:=bb_cases hm;rcases hm with ⟨h3,hm⟩ | ⟨h3,hm⟩
  ·refine .ifT b2 (by kernel_rfl) h3 ?_
   refine .then (.rK ?_)
   refine .ghs (fr 187 [(4,zB false)]) (hp 0 []) (.k0 [] [] [4]) ?_
   refine .ret ?_
   exact fin_ret (zB false) (by kernel_rfl) (by kernel_rfl) hm
  ·refine .ifF b2 (by kernel_rfl) h3 ?_
   refine .skip ?_
   refine .ghs (fr 187 [(1,(zY z5)),(2,(pt 0 0))]) (hp 1 [(oC [(zY z6),.int .u32 z7])]) (.k0 [] [.tmp 2 false] [1,2]) ?_
   refine .then (.rK ?_)
   refine .ghs (fr 187 [(2,(pt 0 0)),(14,(zI (Int.tmod (wrapF .i64 z5) (7:Int))))]) (hp 1 [(oC [(zY z6),.int .u32 z7])]) (.k0 [] [.tmp 2 false] [2,14]) ?_
   refine .then (.rK ?_)
   refine .ghs (fr 187 [(14,(zI (Int.tmod (wrapF .i64 z5) (7:Int)))),(15,(zI (wrapF .i64 (Int.add (1:Int) (Int.tmod (wrapF .i64 z6) (13:Int))))))]) (hp 0 []) (.k0 [] [] [14,15]) ?_
   refine .then ?_
   replace hm:=oo_inv hm;obtain ⟨v7,h4,hm⟩:=hm
   replace hm:=inv_vTup hm;obtain ⟨l2,rfl,hm⟩:=hm
   replace hm:=ll_uncons hm;obtain ⟨v8,l1436_0,rfl,hm⟩:=hm
   replace hm:=ll_uncons hm;obtain ⟨v9,l1436_1,rfl,hm⟩:=hm
   replace hm:=ll_end hm;obtain ⟨rfl,hm⟩:=hm
   replace hm:=inv_vAgg hm;obtain ⟨l3,rfl,hm⟩:=hm
   replace hm:=ll_uncons hm;obtain ⟨v10,l1440_0,rfl,hm⟩:=hm
   replace hm:=ll_uncons hm;obtain ⟨v11,l1440_1,rfl,hm⟩:=hm
   replace hm:=ll_end hm;obtain ⟨rfl,hm⟩:=hm
   replace hm:=inv_toI hm;obtain ⟨x3,rfl,hm⟩:=hm
   replace hm:=inv_toSl hm;obtain ⟨s1,rfl,hm⟩:=hm
   replace hm:=inv_toI hm;obtain ⟨x4,rfl,hm⟩:=hm
   refine .reg (eC 2 ((oo (pu 35 [(zI (wrapF .i64 (Int.add (1:Int) (Int.tmod (wrapF .i64 z6) (13:Int))))),(zI (Int.tmod (wrapF .i64 z5) (7:Int)))]) none fun v=>some (v,(hp 0 [])))) (call_eq h4) (eE)) ?_
   refine .ghs (fr 187 [(14,(zI (Int.tmod (wrapF .i64 z5) (7:Int)))),(15,(zI (wrapF .i64 (Int.add (1:Int) (Int.tmod (wrapF .i64 z6) (13:Int)))))),(16,(pt 0 0)),(17,zI x4)]) (hp 1 [(oC [zI x3,Sl.v 1 s1])]) (.k0 [] [.tmp 16 false] [14,15,16,17]) ?_
   refine .then (.rK ?_)
   refine .ghs (fr 187 [(14,(zI (Int.tmod (wrapF .i64 z5) (7:Int)))),(15,(zI (wrapF .i64 (Int.add (1:Int) (Int.tmod (wrapF .i64 z6) (13:Int)))))),(16,(pt 0 0)),(17,zI x4),(18,(.slice none 0 0))]) (hp 1 [(oC [zI x3,Sl.v 1 s1])]) (.k0 [] [.tmp 16 false] [14,15,16,17,18]) ?_
   refine .then (.rK ?_)
   refine .ghs (fr 187 [(14,(zI (Int.tmod (wrapF .i64 z5) (7:Int)))),(15,(zI (wrapF .i64 (Int.add (1:Int) (Int.tmod (wrapF .i64 z6) (13:Int)))))),(16,(pt 0 0)),(17,zI x4),(18,(.slice none 0 0)),(19,zB false)]) (hp 1 [(oC [zI x3,Sl.v 1 s1])]) (.k0 [] [.tmp 16 false] [14,15,16,17,18,19]) ?_
   refine .join (v:=v) (fun y:Int×Int×Int×Sl×Bool×Int×Sl=>((fr 187 [(14,(zI y.1)),(15,(zI y.2.1)),(16,(pt 0 0)),(17,(zI y.2.2.1)),(18,(Sl.v 1 y.2.2.2.1)),(19,(zB y.2.2.2.2.1))]),(hp 1 [(oC [(zI y.2.2.2.2.2.1),(Sl.v 1 y.2.2.2.2.2.2)])]))) (fun y=>m7_2 pu n y.1 y.2.1 y.2.2.1 y.2.2.2.1 y.2.2.2.2.1 y.2.2.2.2.2.1 y.2.2.2.2.2.2) ?_ ?_
   ·rintro ⟨z8, z9, z10, s2, b3, z11, s3⟩ hm
    exact w7_2 pu n z8 z9 z10 s2 b3 z11 s3 hm
   ·refine .then ?_
    replace hm:=oo_inv hm;obtain ⟨k1,h5,hm⟩:=hm
    refine .reg (eD (some ((zI (wrapF .i64 (Int.add (1:Int) (Int.tmod (wrapF .i64 z6) (13:Int))))),(hp 1 [(oC [zI x3,Sl.v 1 s1])]))) (show _ = some ((zI (Int.ofNat k1)),_) from (by rw [toN_some h5])) (eE)) ?_
    refine .ghs (fr 187 [(14,(zI (Int.tmod (wrapF .i64 z5) (7:Int)))),(15,(zI (wrapF .i64 (Int.add (1:Int) (Int.tmod (wrapF .i64 z6) (13:Int)))))),(16,(pt 0 0)),(17,zI x4),(18,(.slice none 0 0)),(19,zB false),(106,(.int .u32 (shlI .u32 (1:Int) k1))),(107,(.int .u32 (0:Int)))]) (hp 1 [(oC [zI x3,Sl.v 1 s1])]) (.k0 [] [.tmp 16 false] [14,15,16,17,18,19,106,107]) ?_
    refine .block ?_
    refine .loopM (v:=v) (fun y:Int×Int×Int×Sl×Bool×Int×Int×Int×Sl=>((fr 187 [(14,(zI y.1)),(15,(zI y.2.1)),(16,(pt 0 0)),(17,(zI y.2.2.1)),(18,(Sl.v 1 y.2.2.2.1)),(19,(zB y.2.2.2.2.1)),(106,(.int .u32 y.2.2.2.2.2.1)),(107,(.int .u32 y.2.2.2.2.2.2.1))]),(hp 1 [(oC [(zI y.2.2.2.2.2.2.2.1),(Sl.v 1 y.2.2.2.2.2.2.2.2)])]))) (fun w y=>l7_5 pu n w y.1 y.2.1 y.2.2.1 y.2.2.2.1 y.2.2.2.2.1 y.2.2.2.2.2.1 y.2.2.2.2.2.2.1 y.2.2.2.2.2.2.2.1 y.2.2.2.2.2.2.2.2) n ⟨((Int.tmod (wrapF .i64 z5) (7:Int)),(wrapF .i64 (Int.add (1:Int) (Int.tmod (wrapF .i64 z6) (13:Int)))),x4,(Sl.mk 0 2 []),false,(shlI .u32 (1:Int) k1),(0:Int),x3,s1),hm,(.freeze 0 18 1 (by kernel_rfl) (by kernel_rfl) (.k0 [] [.tmp 16 false] [14,15,16,17,18,19,106,107]))⟩ (fun _=>rfl) ?_
    rintro w0 ⟨z12,z13,z14,s4,b4,z15,z16,z17,s5⟩ hm
    replace hm:b7_5 pu n (l7_5 pu n w0) z12 z13 z14 s4 b4 z15 z16 z17 s5 = some v:=hm
    unfold b7_5 at hm
    refine .then (.rK ?_)
    refine .ghs (fr 187 [(14,zI z12),(15,zI z13),(16,(pt 0 0)),(17,zI z14),(18,Sl.v 1 s4),(19,zB b4),(106,.int .u32 z15),(107,.int .u32 z16),(108,(zB (ilt z16 z15)))]) (hp 1 [(oC [zI z17,Sl.v 1 s5])]) (.k0 [] [.tmp 16 false] [14,15,16,17,18,19,106,107,108]) ?_
    refine .then ?_
    replace hm:=bb_cases hm;rcases hm with ⟨h6,hm⟩ | ⟨h6,hm⟩
    ·refine .ifT (ilt z16 z15) (by kernel_rfl) h6 ?_
     refine .skip ?_
     refine .ghs (fr 187 [(14,zI z12),(15,zI z13),(16,(pt 0 0)),(17,zI z14),(18,Sl.v 1 s4),(19,zB b4),(106,.int .u32 z15),(107,.int .u32 z16)]) (hp 1 [(oC [zI z17,Sl.v 1 s5])]) (.k0 [] [.tmp 16 false] [14,15,16,17,18,19,106,107]) ?_
     refine .join (v:=v) (fun y:Int×Int×Int×Sl×Bool×Int×Int×Int×Sl=>((fr 187 [(14,(zI y.1)),(15,(zI y.2.1)),(16,(pt 0 0)),(17,(zI y.2.2.1)),(18,(Sl.v 1 y.2.2.2.1)),(19,(zB y.2.2.2.2.1)),(106,(.int .u32 y.2.2.2.2.2.1)),(107,(.int .u32 y.2.2.2.2.2.2.1))]),(hp 1 [(oC [(zI y.2.2.2.2.2.2.2.1),(Sl.v 1 y.2.2.2.2.2.2.2.2)])]))) (fun y=>m7_6 pu n (l7_5 pu n w0) y.1 y.2.1 y.2.2.1 y.2.2.2.1 y.2.2.2.2.1 y.2.2.2.2.2.1 y.2.2.2.2.2.2.1 y.2.2.2.2.2.2.2.1 y.2.2.2.2.2.2.2.2) ?_ ?_
     ·rintro ⟨z18, z19, z20, s6, b5, z21, z22, z23, s7⟩ hm
      unfold m7_6 at hm
      refine .rK ?_
      exact ⟨(z18,z19,z20,s6,b5,z21,(wrapF .u32 (Int.add z22 (1:Int))),z23,s7),hm,(.k0 [] [.tmp 16 false] [14,15,16,17,18,19,106,107])⟩
     ·refine .block ?_
      refine .then (.rK ?_)
      refine .ghs (fr 187 [(14,zI z12),(15,zI z13),(16,(pt 0 0)),(17,zI z14),(18,Sl.v 1 s4),(19,zB b4),(20,.int .u32 z16),(106,.int .u32 z15),(107,.int .u32 z16)]) (hp 1 [(oC [zI z17,Sl.v 1 s5])]) (.k0 [] [.tmp 16 false] [14,15,16,17,18,19,20,106,107]) ?_
      refine .then ?_
      refine .then ?_
      replace hm:=oo_inv hm;obtain ⟨v12,h7,hm⟩:=hm
      replace hm:=inv_toI hm;obtain ⟨x5,rfl,hm⟩:=hm
      refine .reg (eC 1 ((oo (pu 50 [.int .u32 z16]) none fun v=>some (v,(hp 1 [(oC [zI z17,Sl.v 1 s5])])))) (call_eq h7) (eE)) ?_
      refine .ghs (fr 187 [(14,zI z12),(15,zI z13),(16,(pt 0 0)),(17,zI z14),(18,Sl.v 1 s4),(19,zB b4),(20,.int .u32 z16),(106,.int .u32 z15),(107,.int .u32 z16),(113,(zB (nt (ieq x5 z12))))]) (hp 1 [(oC [zI z17,Sl.v 1 s5])]) (.k0 [] [.tmp 16 false] [14,15,16,17,18,19,20,106,107,113]) ?_
      replace hm:=bb_cases hm;rcases hm with ⟨h8,hm⟩ | ⟨h8,hm⟩
      ·refine .ifT (nt (ieq x5 z12)) (by kernel_rfl) h8 ?_
       refine .exit ?_
       exact ⟨(z12,z13,z14,s4,b4,z15,z16,z17,s5),hm,(.k0 [] [.tmp 16 false] [14,15,16,17,18,19,106,107])⟩
      ·refine .ifF (nt (ieq x5 z12)) (by kernel_rfl) h8 ?_
       refine .skip ?_
       refine .ghs (fr 187 [(14,zI z12),(15,zI z13),(16,(pt 0 0)),(17,zI z14),(18,Sl.v 1 s4),(19,zB b4),(20,.int .u32 z16),(106,.int .u32 z15),(107,.int .u32 z16)]) (hp 1 [(oC [zI z17,Sl.v 1 s5])]) (.k0 [] [.tmp 16 false] [14,15,16,17,18,19,20,106,107]) ?_
       refine .then (.rK ?_)
       refine .ghs (fr 187 [(14,zI z12),(15,zI z13),(16,(pt 0 0)),(17,zI z14),(18,Sl.v 1 s4),(19,zB b4),(20,.int .u32 z16),(21,zB true),(106,.int .u32 z15),(107,.int .u32 z16)]) (hp 1 [(oC [zI z17,Sl.v 1 s5])]) (.k0 [] [.tmp 16 false] [14,15,16,17,18,19,20,21,106,107]) ?_
       refine .join (v:=v) (fun y:Int×Int×Int×Sl×Bool×Int×Bool×Int×Int×Int×Sl=>((fr 187 [(14,(zI y.1)),(15,(zI y.2.1)),(16,(pt 0 0)),(17,(zI y.2.2.1)),(18,(Sl.v 1 y.2.2.2.1)),(19,(zB y.2.2.2.2.1)),(20,(.int .u32 y.2.2.2.2.2.1)),(21,(zB y.2.2.2.2.2.2.1)),(106,(.int .u32 y.2.2.2.2.2.2.2.1)),(107,(.int .u32 y.2.2.2.2.2.2.2.2.1))]),(hp 1 [(oC [(zI y.2.2.2.2.2.2.2.2.2.1),(Sl.v 1 y.2.2.2.2.2.2.2.2.2.2)])]))) (fun y=>m7_7 pu n (l7_5 pu n w0) y.1 y.2.1 y.2.2.1 y.2.2.2.1 y.2.2.2.2.1 y.2.2.2.2.2.1 y.2.2.2.2.2.2.1 y.2.2.2.2.2.2.2.1 y.2.2.2.2.2.2.2.2.1 y.2.2.2.2.2.2.2.2.2.1 y.2.2.2.2.2.2.2.2.2.2) ?_ ?_
       ·rintro ⟨z24, z25, z26, s8, b6, z27, b8, z28, z29, z30, s9⟩ hm
        unfold m7_7 at hm
        refine .join (v:=v) (fun y:Int×Int×Int×Sl×Bool×Int×Int×Int×Bool×Int×Sl=>((fr 187 [(14,(zI y.1)),(15,(zI y.2.1)),(16,(pt 0 0)),(17,(zI y.2.2.1)),(18,(Sl.v 1 y.2.2.2.1)),(19,(zB y.2.2.2.2.1)),(20,(.int .u32 y.2.2.2.2.2.1)),(106,(.int .u32 y.2.2.2.2.2.2.1)),(107,(.int .u32 y.2.2.2.2.2.2.2.1)),(139,(zB y.2.2.2.2.2.2.2.2.1))]),(hp 1 [(oC [(zI y.2.2.2.2.2.2.2.2.2.1),(Sl.v 1 y.2.2.2.2.2.2.2.2.2.2)])]))) (fun y=>m7_8 pu n (l7_5 pu n w0) y.1 y.2.1 y.2.2.1 y.2.2.2.1 y.2.2.2.2.1 y.2.2.2.2.2.1 y.2.2.2.2.2.2.1 y.2.2.2.2.2.2.2.1 y.2.2.2.2.2.2.2.2.1 y.2.2.2.2.2.2.2.2.2.1 y.2.2.2.2.2.2.2.2.2.2) ?_ ?_
        ·rintro ⟨z31, z32, z33, s10, b9, z34, z35, z36, b10, z37, s11⟩ hm
         unfold m7_8 at hm
         replace hm:=bb_cases hm;rcases hm with ⟨h9,hm⟩ | ⟨h9,hm⟩
         ·refine .ifT b10 (by kernel_rfl) h9 ?_
          replace hm:=oo_inv hm;obtain ⟨v13,h10,hm⟩:=hm
          replace hm:=inv_toSl hm;obtain ⟨s12,rfl,hm⟩:=hm
          refine .reg (eC 1 ((oo (pu 48 [.int .u32 z34]) none fun v=>some (v,(hp 1 [(oC [zI z37,Sl.v 1 s11])])))) (call_eq h10) (eE)) ?_
          exact ⟨(z31,z32,z33,s12,true,z35,z36,z37,s11),hm,(.k0 [] [.tmp 16 false] [14,15,16,17,18,19,106,107])⟩
         ·refine .ifF b10 (by kernel_rfl) h9 ?_
          refine .skip ?_
          exact ⟨(z31,z32,z33,s10,b9,z35,z36,z37,s11),hm,(.k0 [] [.tmp 16 false] [14,15,16,17,18,19,106,107])⟩
        ·replace hm := bb_cases hm; rcases hm with ⟨h11, hm⟩ | ⟨h11, hm⟩
         ·replace hm := bb_cases hm; rcases hm with ⟨h12, hm⟩ | ⟨h12, hm⟩
          ·refine .reg (eD (some ((zB b8), (hp 1 [(oC [zI z30, Sl.v 1 s9])]))) (show _ = some ((zB true), _) from (by rw [show b8 = true from h11])) (eC 2 (some ((zB (nt b6)), (hp 1 [(oC [zI z30, Sl.v 1 s9])]))) (show _ = some ((zB true), _) from (by rw [show (nt b6) = true from h12])) (eE))) ?_
           exact ⟨(z24,z25,z26,s8,b6,z27,z28,z29,true,z30,s9),hm,(.k0 [] [.tmp 16 false] [14,15,16,17,18,19,20,106,107,139])⟩
          ·replace hm := oo_inv hm; obtain ⟨v14, h13, hm⟩ := hm
           replace hm:=inv_toSl hm;obtain ⟨s13,rfl,hm⟩:=hm
           replace hm:=oo_inv hm;obtain ⟨v15,h14,hm⟩:=hm
           replace hm:=inv_toI hm;obtain ⟨x6,rfl,hm⟩:=hm
           refine .reg (eD (some ((zB b8),(hp 1 [(oC [zI z30,Sl.v 1 s9])]))) (show _ = some ((zB true),_) from (by rw [show b8 = true from h11])) (eC 2 (some ((zB (nt b6)),(hp 1 [(oC [zI z30,Sl.v 1 s9])]))) (show _ = some ((zB false),_) from (by rw [show (nt b6) = false from h12])) (eC 2 ((oo (pu 48 [.int .u32 z27]) none fun v=>some (v,(hp 1 [(oC [zI z30,Sl.v 1 s9])])))) (call_eq h13) (eC 1 ((oo (pu 52 [Sl.v 1 s13,Sl.v 1 s8]) none fun v=>some (v,(hp 1 [(oC [zI z30,Sl.v 1 s9])])))) (call_eq h14) (eE))))) ?_
           exact ⟨(z24,z25,z26,s8,b6,z27,z28,z29,(ilt x6 (0:Int)),z30,s9),hm,(.k0 [] [.tmp 16 false] [14,15,16,17,18,19,20,106,107,139])⟩
         ·refine .reg (eD (some ((zB b8), (hp 1 [(oC [zI z30, Sl.v 1 s9])]))) (show _ = some ((zB false), _) from (by rw [show b8 = false from h11])) (eE)) ?_
          exact ⟨(z24,z25,z26,s8,b6,z27,z28,z29,false,z30,s9),hm,(.k0 [] [.tmp 16 false] [14,15,16,17,18,19,20,106,107,139])⟩
       ·refine .then ?_
        replace hm:=oo_inv hm;obtain ⟨v16,h15,hm⟩:=hm
        replace hm:=inv_toSl hm;obtain ⟨s14,rfl,hm⟩:=hm
        refine .reg (eC 2 ((oo (pu 51 [zI z13,.int .u32 z16]) none fun v=>some (v,(hp 1 [(oC [zI z17,Sl.v 1 s5])])))) (call_eq h15) (eE)) ?_
        refine .ghs (fr 187 [(14,zI z12),(15,zI z13),(16,(pt 0 0)),(17,zI z14),(18,Sl.v 1 s4),(19,zB b4),(20,.int .u32 z16),(21,zB true),(106,.int .u32 z15),(107,.int .u32 z16),(116,Sl.v 1 s14),(117,(zI (Int.ofNat (Sl.n s14)))),(118,(zI (0:Int)))]) (hp 1 [(oC [zI z17,Sl.v 1 s5])]) (.k0 [] [.tmp 16 false] [14,15,16,17,18,19,20,21,106,107,116,117,118]) ?_
        refine .block ?_
        refine .loopM (v:=v) (fun y:Int×Int×Int×Sl×Bool×Int×Bool×Int×Int×Sl×Int×Int×Int×Sl=>((fr 187 [(14,(zI y.1)),(15,(zI y.2.1)),(16,(pt 0 0)),(17,(zI y.2.2.1)),(18,(Sl.v 1 y.2.2.2.1)),(19,(zB y.2.2.2.2.1)),(20,(.int .u32 y.2.2.2.2.2.1)),(21,(zB y.2.2.2.2.2.2.1)),(106,(.int .u32 y.2.2.2.2.2.2.2.1)),(107,(.int .u32 y.2.2.2.2.2.2.2.2.1)),(116,(Sl.v 1 y.2.2.2.2.2.2.2.2.2.1)),(117,(zI y.2.2.2.2.2.2.2.2.2.2.1)),(118,(zI y.2.2.2.2.2.2.2.2.2.2.2.1))]),(hp 1 [(oC [(zI y.2.2.2.2.2.2.2.2.2.2.2.2.1),(Sl.v 1 y.2.2.2.2.2.2.2.2.2.2.2.2.2)])]))) (fun w y=>l7_9 pu n (l7_5 pu n w0) w y.1 y.2.1 y.2.2.1 y.2.2.2.1 y.2.2.2.2.1 y.2.2.2.2.2.1 y.2.2.2.2.2.2.1 y.2.2.2.2.2.2.2.1 y.2.2.2.2.2.2.2.2.1 y.2.2.2.2.2.2.2.2.2.1 y.2.2.2.2.2.2.2.2.2.2.1 y.2.2.2.2.2.2.2.2.2.2.2.1 y.2.2.2.2.2.2.2.2.2.2.2.2.1 y.2.2.2.2.2.2.2.2.2.2.2.2.2) n ⟨(z12,z13,z14,s4,b4,z16,true,z15,z16,s14,(Int.ofNat (Sl.n s14)),(0:Int),z17,s5),hm,(.k0 [] [.tmp 16 false] [14,15,16,17,18,19,20,21,106,107,116,117,118])⟩ (fun _=>rfl) ?_
        rintro w1 ⟨z38,z39,z40,s15,b11,z41,b12,z42,z43,s16,z44,z45,z46,s17⟩ hm
        replace hm:b7_9 pu n (l7_5 pu n w0) (l7_9 pu n (l7_5 pu n w0) w1) z38 z39 z40 s15 b11 z41 b12 z42 z43 s16 z44 z45 z46 s17 = some v:=hm
        unfold b7_9 at hm
        refine .then (.rK ?_)
        refine .ghs (fr 187 [(14,zI z38),(15,zI z39),(16,(pt 0 0)),(17,zI z40),(18,Sl.v 1 s15),(19,zB b11),(20,.int .u32 z41),(21,zB b12),(106,.int .u32 z42),(107,.int .u32 z43),(116,Sl.v 1 s16),(117,zI z44),(118,zI z45),(119,(zB (ilt z45 z44)))]) (hp 1 [(oC [zI z46,Sl.v 1 s17])]) (.k0 [] [.tmp 16 false] [14,15,16,17,18,19,20,21,106,107,116,117,118,119]) ?_
        refine .then ?_
        replace hm:=bb_cases hm;rcases hm with ⟨h16,hm⟩ | ⟨h16,hm⟩
        ·refine .ifT (ilt z45 z44) (by kernel_rfl) h16 ?_
         refine .skip ?_
         refine .ghs (fr 187 [(14,zI z38),(15,zI z39),(16,(pt 0 0)),(17,zI z40),(18,Sl.v 1 s15),(19,zB b11),(20,.int .u32 z41),(21,zB b12),(106,.int .u32 z42),(107,.int .u32 z43),(116,Sl.v 1 s16),(117,zI z44),(118,zI z45)]) (hp 1 [(oC [zI z46,Sl.v 1 s17])]) (.k0 [] [.tmp 16 false] [14,15,16,17,18,19,20,21,106,107,116,117,118]) ?_
         refine .then ?_
         refine .block ?_
         refine .then ?_
         replace hm:=oo_inv hm;obtain ⟨k2,h17,hm⟩:=hm
         obtain rfl:=toN_some h17
         replace hm:=bb_inv hm;obtain ⟨h18,hm⟩:=hm
         replace hm:=oo_inv hm;obtain ⟨v17,h19,hm⟩:=hm
         replace hm:=inv_toI hm;obtain ⟨x7,rfl,hm⟩:=hm
         refine .reg (eD (keep (hp 1 [(oC [zI z46,Sl.v 1 s17])]) (bb (an (Nat.blt k2 (Sl.n s16)) true) (some (fpV (k2 * 1) (Sl.cs s16))) none)) (keep_bb h18) (eD (keep (hp 1 [(oC [zI z46,Sl.v 1 s17])]) (nthL (Sl.cs s16) (k2 * 1))) (keep_eq h19) (eE))) ?_
         refine .ghs (fr 187 [(14,zI z38),(15,zI z39),(16,(pt 0 0)),(17,zI z40),(18,Sl.v 1 s15),(19,zB b11),(20,.int .u32 z41),(21,zB b12),(23,zI x7),(106,.int .u32 z42),(107,.int .u32 z43),(116,Sl.v 1 s16),(117,zI z44),(118,(zI (Int.ofNat k2)))]) (hp 1 [(oC [zI z46,Sl.v 1 s17])]) (.k0 [] [.tmp 16 false] [14,15,16,17,18,19,20,21,23,106,107,116,117,118]) ?_
         replace hm:=bb_cases hm;rcases hm with ⟨h20,hm⟩ | ⟨h20,hm⟩
         ·refine .reg (eD (some ((zB b12), (hp 1 [(oC [zI z46, Sl.v 1 s17])]))) (show _ = some ((zB true), _) from (by rw [show b12 = true from h20])) (eE)) ?_
          refine .ghs (fr 187 [(14,zI z38),(15,zI z39),(16,(pt 0 0)),(17,zI z40),(18,Sl.v 1 s15),(19,zB b11),(20,.int .u32 z41),(21,(zB (ieq x7 (1:Int)))),(106,.int .u32 z42),(107,.int .u32 z43),(116,Sl.v 1 s16),(117,zI z44),(118,(zI (Int.ofNat k2)))]) (hp 1 [(oC [zI z46,Sl.v 1 s17])]) (.k0 [] [.tmp 16 false] [14,15,16,17,18,19,20,21,106,107,116,117,118]) ?_
          refine .rK ?_
          exact ⟨(z38,z39,z40,s15,b11,z41,(ieq x7 (1:Int)),z42,z43,s16,z44,(wrapF .i64 (Int.add (Int.ofNat k2) (1:Int))),z46,s17),hm,(.k0 [] [.tmp 16 false] [14,15,16,17,18,19,20,21,106,107,116,117,118])⟩
         ·refine .reg (eD (some ((zB b12), (hp 1 [(oC [zI z46, Sl.v 1 s17])]))) (show _ = some ((zB false), _) from (by rw [show b12 = false from h20])) (eE)) ?_
          refine .ghs (fr 187 [(14,zI z38),(15,zI z39),(16,(pt 0 0)),(17,zI z40),(18,Sl.v 1 s15),(19,zB b11),(20,.int .u32 z41),(21,zB false),(106,.int .u32 z42),(107,.int .u32 z43),(116,Sl.v 1 s16),(117,zI z44),(118,(zI (Int.ofNat k2)))]) (hp 1 [(oC [zI z46,Sl.v 1 s17])]) (.k0 [] [.tmp 16 false] [14,15,16,17,18,19,20,21,106,107,116,117,118]) ?_
          refine .rK ?_
          exact ⟨(z38,z39,z40,s15,b11,z41,false,z42,z43,s16,z44,(wrapF .i64 (Int.add (Int.ofNat k2) (1:Int))),z46,s17),hm,(.k0 [] [.tmp 16 false] [14,15,16,17,18,19,20,21,106,107,116,117,118])⟩
        ·refine .ifF (ilt z45 z44) (by kernel_rfl) h16 ?_
         refine .exit ?_
         exact ⟨(z38,z39,z40,s15,b11,z41,b12,z42,z43,z46,s17),hm,(.k0 [] [.tmp 16 false] [14,15,16,17,18,19,20,21,106,107])⟩
    ·refine .ifF (ilt z16 z15) (by kernel_rfl) h6 ?_
     refine .exit ?_
     exact ⟨(z12,z13,z14,s4,b4,z17,s5),hm,(.k0 [] [.tmp 16 false] [14,15,16,17,18,19])⟩
 ·replace hm := bb_cases hm; rcases hm with ⟨h21, hm⟩ | ⟨h21, hm⟩
  ·refine .reg (eC 1 (some ((zB (nt (ieq x1 (0 : Int)))), (hp 1 [(oC [(zY z3), .int .u32 z4])]))) (show _ = some ((zB true), _) from (by rw [show (nt (ieq x1 (0 : Int))) = true from h21])) (eE)) ?_
   exact ⟨(z0,true,z3,z4),hm,(.k0 [] [.tmp 2 false] [1,2,90])⟩
  ·replace hm := bb_cases hm; rcases hm with ⟨h22, hm⟩ | ⟨h22, hm⟩
   ·replace hm := bb_cases hm; rcases hm with ⟨h23, hm⟩ | ⟨h23, hm⟩
    ·refine .reg (eC 1 (some ((zB (nt (ieq x1 (0 : Int)))), (hp 1 [(oC [(zY z3), .int .u32 z4])]))) (show _ = some ((zB false), _) from (by rw [show (nt (ieq x1 (0 : Int))) = false from h21])) (eC 1 (some ((zB b1), (hp 1 [(oC [(zY z3), .int .u32 z4])]))) (show _ = some ((zB true), _) from (by rw [show b1 = true from h22])) (eC 1 (some ((zB (bq false (bq true b0))), (hp 1 [(oC [(zY z3), .int .u32 z4])]))) (show _ = some ((zB true), _) from (by rw [show (bq false (bq true b0)) = true from h23])) (eE)))) ?_
     exact ⟨(z0,true,z3,z4),hm,(.k0 [] [.tmp 2 false] [1,2,90])⟩
    ·replace hm := bb_cases hm; rcases hm with ⟨h24, hm⟩ | ⟨h24, hm⟩
     ·refine .reg (eC 1 (some ((zB (nt (ieq x1 (0 : Int)))), (hp 1 [(oC [(zY z3), .int .u32 z4])]))) (show _ = some ((zB false), _) from (by rw [show (nt (ieq x1 (0 : Int))) = false from h21])) (eC 1 (some ((zB b1), (hp 1 [(oC [(zY z3), .int .u32 z4])]))) (show _ = some ((zB true), _) from (by rw [show b1 = true from h22])) (eC 1 (some ((zB (bq false (bq true b0))), (hp 1 [(oC [(zY z3), .int .u32 z4])]))) (show _ = some ((zB false), _) from (by rw [show (bq false (bq true b0)) = false from h23])) (eC 2 (some ((zB b1), (hp 1 [(oC [(zY z3), .int .u32 z4])]))) (show _ = some ((zB true), _) from (by rw [show b1 = true from h24])) (eE))))) ?_
      exact ⟨(z0,(nt (ieq (wrapF .i64 (Int.add (wrapF .i64 (Int.mul x2 (wrapF .i64 (Int.sub x2 (1:Int))))) (1:Int))) z1)),z3,z4),hm,(.k0 [] [.tmp 2 false] [1,2,90])⟩
     ·refine .reg (eC 1 (some ((zB (nt (ieq x1 (0 : Int)))), (hp 1 [(oC [(zY z3), .int .u32 z4])]))) (show _ = some ((zB false), _) from (by rw [show (nt (ieq x1 (0 : Int))) = false from h21])) (eC 1 (some ((zB b1), (hp 1 [(oC [(zY z3), .int .u32 z4])]))) (show _ = some ((zB true), _) from (by rw [show b1 = true from h22])) (eC 1 (some ((zB (bq false (bq true b0))), (hp 1 [(oC [(zY z3), .int .u32 z4])]))) (show _ = some ((zB false), _) from (by rw [show (bq false (bq true b0)) = false from h23])) (eC 2 (some ((zB b1), (hp 1 [(oC [(zY z3), .int .u32 z4])]))) (show _ = some ((zB false), _) from (by rw [show b1 = false from h24])) (eE))))) ?_
      exact ⟨(z0,false,z3,z4),hm,(.k0 [] [.tmp 2 false] [1,2,90])⟩
   ·replace hm := bb_cases hm; rcases hm with ⟨h23, hm⟩ | ⟨h23, hm⟩
    ·refine .reg (eC 1 (some ((zB (nt (ieq x1 (0 : Int)))), (hp 1 [(oC [(zY z3), .int .u32 z4])]))) (show _ = some ((zB false), _) from (by rw [show (nt (ieq x1 (0 : Int))) = false from h21])) (eC 1 (some ((zB b1), (hp 1 [(oC [(zY z3), .int .u32 z4])]))) (show _ = some ((zB false), _) from (by rw [show b1 = false from h22])) (eC 1 (some ((zB (bq false (bq false b0))), (hp 1 [(oC [(zY z3), .int .u32 z4])]))) (show _ = some ((zB true), _) from (by rw [show (bq false (bq false b0)) = true from h23])) (eE)))) ?_
     exact ⟨(z0,true,z3,z4),hm,(.k0 [] [.tmp 2 false] [1,2,90])⟩
    ·replace hm := bb_cases hm; rcases hm with ⟨h24, hm⟩ | ⟨h24, hm⟩
     ·refine .reg (eC 1 (some ((zB (nt (ieq x1 (0 : Int)))), (hp 1 [(oC [(zY z3), .int .u32 z4])]))) (show _ = some ((zB false), _) from (by rw [show (nt (ieq x1 (0 : Int))) = false from h21])) (eC 1 (some ((zB b1), (hp 1 [(oC [(zY z3), .int .u32 z4])]))) (show _ = some ((zB false), _) from (by rw [show b1 = false from h22])) (eC 1 (some ((zB (bq false (bq false b0))), (hp 1 [(oC [(zY z3), .int .u32 z4])]))) (show _ = some ((zB false), _) from (by rw [show (bq false (bq false b0)) = false from h23])) (eC 2 (some ((zB b1), (hp 1 [(oC [(zY z3), .int .u32 z4])]))) (show _ = some ((zB true), _) from (by rw [show b1 = true from h24])) (eE))))) ?_
      exact ⟨(z0,(nt (ieq (wrapF .i64 (Int.add (wrapF .i64 (Int.mul x2 (wrapF .i64 (Int.sub x2 (1:Int))))) (1:Int))) z1)),z3,z4),hm,(.k0 [] [.tmp 2 false] [1,2,90])⟩
     ·refine .reg (eC 1 (some ((zB (nt (ieq x1 (0 : Int)))), (hp 1 [(oC [(zY z3), .int .u32 z4])]))) (show _ = some ((zB false), _) from (by rw [show (nt (ieq x1 (0 : Int))) = false from h21])) (eC 1 (some ((zB b1), (hp 1 [(oC [(zY z3), .int .u32 z4])]))) (show _ = some ((zB false), _) from (by rw [show b1 = false from h22])) (eC 1 (some ((zB (bq false (bq false b0))), (hp 1 [(oC [(zY z3), .int .u32 z4])]))) (show _ = some ((zB false), _) from (by rw [show (bq false (bq false b0)) = false from h23])) (eC 2 (some ((zB b1), (hp 1 [(oC [(zY z3), .int .u32 z4])]))) (show _ = some ((zB false), _) from (by rw [show b1 = false from h24])) (eE))))) ?_
      exact ⟨(z0,false,z3,z4),hm,(.k0 [] [.tmp 2 false] [1,2,90])⟩
theorem r7 {call:CallF} (pu:PureF) (n:Nat) (hcall:call = callP tabs isP pu (inl pu)) {args:LV} {v:Value} (hm:m7 pu n args = some v) (_:∀ x ∈ args,closed2 x = true):args.length≤187∧Run tt call 0 c7_99 (Fr.made 187 args) (pureHeap tabs) (Fin tt 0 [.tmp 4] v):=by
 subst hcall
 unfold m7 at hm
 replace hm:=ll_uncons hm;obtain ⟨a0,args_0,rfl,hm⟩:=hm
 replace hm:=ll_uncons hm;obtain ⟨a1,args_1,rfl,hm⟩:=hm
 replace hm:=ll_end hm;obtain ⟨rfl,hm⟩:=hm
 replace hm:=inv_vAgg hm;obtain ⟨l0,rfl,hm⟩:=hm
 replace hm:=ll_uncons hm;obtain ⟨v0,l1040_0,rfl,hm⟩:=hm
 replace hm:=ll_uncons hm;obtain ⟨v1,l1040_1,rfl,hm⟩:=hm
 replace hm:=ll_end hm;obtain ⟨rfl,hm⟩:=hm
 replace hm:=inv_toI hm;obtain ⟨x0,rfl,hm⟩:=hm
 replace hm:=inv_toI hm;obtain ⟨x1,rfl,hm⟩:=hm
 replace hm:=inv_toI hm;obtain ⟨x2,rfl,hm⟩:=hm
 unfold m7_ at hm
 refine ⟨by simp,?_⟩
 refine .same (F':=(fr 187 [(0,(.agg ⟨[(zY x0),.int .u32 x1]⟩)),(1,(zY x2))])) (H':=(hp 0 [])) (by kernel_rfl) (by kernel_rfl) ?_
 refine .then (.rK ?_)
 refine .ghs (fr 187 [(1,(zY x2)),(2,(pt 0 0))]) (hp 1 [(oC [(zY x0),.int .u32 x1])]) (.k0 [] [.tmp 2 false] [1,2]) ?_
 refine .then ?_
 replace hm:=oo_inv hm;obtain ⟨v2,h0,hm⟩:=hm
 replace hm:=inv_vTup hm;obtain ⟨l1,rfl,hm⟩:=hm
 replace hm:=ll_uncons hm;obtain ⟨v3,l1062_0,rfl,hm⟩:=hm
 replace hm:=ll_uncons hm;obtain ⟨v4,l1062_1,rfl,hm⟩:=hm
 replace hm:=ll_end hm;obtain ⟨rfl,hm⟩:=hm
 replace hm:=inv_toI hm;obtain ⟨x3,rfl,hm⟩:=hm
 replace hm:=inv_toI hm;obtain ⟨x4,rfl,hm⟩:=hm
 refine .reg (eC 1 ((oo (pu 46 [(.agg ⟨[(zY x0),.int .u32 x1]⟩),(zI (21:Int))]) none fun v=>some (v,(hp 1 [(oC [(zY x0),.int .u32 x1])])))) (call_eq h0) (eE)) ?_
 refine .ghs (fr 187 [(1,(zY x2)),(2,(pt 0 0)),(5,zI x3),(6,.int .u32 x4)]) (hp 1 [(oC [(zY x0),.int .u32 x1])]) (.k0 [] [.tmp 2 false] [1,2,5,6]) ?_
 refine .then (.rK ?_)
 refine .ghs (fr 187 [(1,(zY x2)),(2,(pt 0 0)),(5,zI x3),(6,.int .u32 x4),(7,zB true)]) (hp 1 [(oC [(zY x0),.int .u32 x1])]) (.k0 [] [.tmp 2 false] [1,2,5,6,7]) ?_
 refine .join (v:=v) (fun y:Int×Int×Int×Bool×Int×Int=>((fr 187 [(1,(zY y.1)),(2,(pt 0 0)),(5,(zI y.2.1)),(6,(.int .u32 y.2.2.1)),(7,(zB y.2.2.2.1))]),(hp 1 [(oC [(zY y.2.2.2.2.1),(.int .u32 y.2.2.2.2.2)])]))) (fun y=>m7_0 pu n y.1 y.2.1 y.2.2.1 y.2.2.2.1 y.2.2.2.2.1 y.2.2.2.2.2) ?_ ?_
 ·rintro ⟨z0, z1, z2, b0, z3, z4⟩ hm
  exact w7_0 pu n z0 z1 z2 b0 z3 z4 hm
 ·refine .then (.rK ?_)
  refine .ghs (fr 187 [(1,(zY x2)),(2,(pt 0 0)),(5,zI x3),(6,.int .u32 x4),(7,zB true),(8,(zI (1:Int)))]) (hp 1 [(oC [(zY x0),.int .u32 x1])]) (.k0 [] [.tmp 2 false] [1,2,5,6,7,8]) ?_
  refine .block ?_
  refine .loopM (v:=v) (fun y:Int×Int×Int×Bool×Int×Int×Int=>((fr 187 [(1,(zY y.1)),(2,(pt 0 0)),(5,(zI y.2.1)),(6,(.int .u32 y.2.2.1)),(7,(zB y.2.2.2.1)),(8,(zI y.2.2.2.2.1))]),(hp 1 [(oC [(zY y.2.2.2.2.2.1),(.int .u32 y.2.2.2.2.2.2)])]))) (fun w y=>l7_10 pu n w y.1 y.2.1 y.2.2.1 y.2.2.2.1 y.2.2.2.2.1 y.2.2.2.2.2.1 y.2.2.2.2.2.2) n ⟨(x2,x3,x4,true,(1:Int),x0,x1),hm,(.k0 [] [.tmp 2 false] [1,2,5,6,7,8])⟩ (fun _=>rfl) ?_
  rintro w0 ⟨z5,z6,z7,b1,z8,z9,z10⟩ hm
  replace hm:b7_10 pu n (l7_10 pu n w0) z5 z6 z7 b1 z8 z9 z10 = some v:=hm
  unfold b7_10 at hm
  refine .then ?_
  refine .then (.rK ?_)
  refine .ghs (fr 187 [(1,(zY z5)),(2,(pt 0 0)),(5,zI z6),(6,.int .u32 z7),(7,zB b1),(8,zI z8),(31,(zB (ilt z8 z6)))]) (hp 1 [(oC [(zY z9),.int .u32 z10])]) (.k0 [] [.tmp 2 false] [1,2,5,6,7,8,31]) ?_
  replace hm:=bb_cases hm;rcases hm with ⟨h1,hm⟩ | ⟨h1,hm⟩
  ·refine .ifT (ilt z8 z6) (by kernel_rfl) h1 ?_
   refine .skip ?_
   refine .ghs (fr 187 [(1,(zY z5)),(2,(pt 0 0)),(5,zI z6),(6,.int .u32 z7),(7,zB b1),(8,zI z8)]) (hp 1 [(oC [(zY z9),.int .u32 z10])]) (.k0 [] [.tmp 2 false] [1,2,5,6,7,8]) ?_
   refine .then ?_
   refine .block ?_
   refine .then ?_
   replace hm:=oo_inv hm;obtain ⟨v5,h2,hm⟩:=hm
   replace hm:=inv_vAgg hm;obtain ⟨l2,rfl,hm⟩:=hm
   replace hm:=ll_uncons hm;obtain ⟨v6,l2255_0,rfl,hm⟩:=hm
   replace hm:=ll_uncons hm;obtain ⟨v7,l2255_1,rfl,hm⟩:=hm
   replace hm:=ll_end hm;obtain ⟨rfl,hm⟩:=hm
   replace hm:=inv_toI hm;obtain ⟨x5,rfl,hm⟩:=hm
   replace hm:=inv_toSl hm;obtain ⟨s0,rfl,hm⟩:=hm
   replace hm:=oo_inv hm;obtain ⟨v8,h3,hm⟩:=hm
   replace hm:=inv_vTup hm;obtain ⟨l3,rfl,hm⟩:=hm
   replace hm:=ll_uncons hm;obtain ⟨v9,l2268_0,rfl,hm⟩:=hm
   replace hm:=ll_end hm;obtain ⟨rfl,hm⟩:=hm
   replace hm:=inv_vTup hm;obtain ⟨l4,rfl,hm⟩:=hm
   replace hm:=ll_uncons hm;obtain ⟨v10,l2271_0,rfl,hm⟩:=hm
   replace hm:=ll_uncons hm;obtain ⟨v11,l2271_1,rfl,hm⟩:=hm
   replace hm:=ll_end hm;obtain ⟨rfl,hm⟩:=hm
   replace hm:=inv_toSl hm;obtain ⟨s1,rfl,hm⟩:=hm
   replace hm:=inv_toI hm;obtain ⟨x6,rfl,hm⟩:=hm
   refine .reg (eC 2 ((oo (pu 47 [zI z6,.int .u32 z7]) none fun v=>some (v,(hp 1 [(oC [(zY z9),.int .u32 z10])])))) (call_eq h2) (eC 2 (objG tabs [[none,some 1],[some 1]] 2 [] [] (pu 10330) [(.agg ⟨[zI x5,Sl.v 1 s0]⟩),sc 1 0 1 1 3] (hp 2 [(oC [(zY z9),.int .u32 z10]),(oC [zI z8])])) (objG_eq (as:=[(.agg ⟨[zI x5,Sl.v 1 s0]⟩),(Sl.v 1 (Sl.mk 1 0 (takeL (1 * 1) (dropL 0 ([zI z8]:LV)))))]) (H1:=(hp 2 [(oC [(zY z9),.int .u32 z10]),.dead])) (gvAL_c (gvA_a (gvL_c gv_n (gvL_c (gv_s (giveV_cl (z:=1) (v:=(Sl.v 1 s0)) (H:=(hp 2 [(oC [(zY z9),.int .u32 z10]),(oC [zI z8])])) (by kernel_rfl) (by kernel_rfl) (by kernel_rfl))) gvL_n))) (gvAL_c (gvA_1 (gv_s (show giveV 1 (sc 1 0 1 1 3) (hp 2 [(oC [(zY z9),.int .u32 z10]),(oC [zI z8])]) = some ((Sl.v 1 (Sl.mk 1 0 (takeL (1 * 1) (dropL 0 ([zI z8]:LV))))),(hp 2 [(oC [(zY z9),.int .u32 z10]),.dead])) from giveV_sl 1 0 1 1 3 ([zI z8]:LV) [] (by kernel_rfl) (by kernel_rfl) (by kernel_rfl)))) gvAL_n)) (objF_eq (H2:=(hp 2 [(oC [(zY z9),.int .u32 z10]),.dead])) (v:=(.tuple ⟨[Sl.v 1 s1,zI x6]⟩)) (v':=(.tuple ⟨[Sl.v 1 s1,zI x6]⟩)) [] [] [] [(.agg ⟨[zI x5,Sl.v 1 s0]⟩),(Sl.v 1 (Sl.mk 1 0 (takeL (1 * 1) (dropL 0 ([zI z8]:LV)))))] [] [] [none,none] [] [] (by kernel_rfl) mapO_n (Eq.trans (by kernel_rfl) h3) mapO_n mapO_n)) (eE))) ?_
   refine .ghs (fr 187 [(1,(zY z5)),(2,(pt 0 0)),(5,zI z6),(6,.int .u32 z7),(7,zB b1),(8,zI z8),(9,Sl.v 1 s1),(10,zI x6)]) (hp 1 [(oC [(zY z9),.int .u32 z10])]) (.k0 [] [.tmp 2 false] [1,2,5,6,7,8,9,10]) ?_
   refine .then ?_
   refine .join (v:=v) (fun y:Int×Int×Int×Bool×Int×Sl×Bool×Int×Int=>((fr 187 [(1,(zY y.1)),(2,(pt 0 0)),(5,(zI y.2.1)),(6,(.int .u32 y.2.2.1)),(7,(zB y.2.2.2.1)),(8,(zI y.2.2.2.2.1)),(9,(Sl.v 1 y.2.2.2.2.2.1)),(56,(zB y.2.2.2.2.2.2.1))]),(hp 1 [(oC [(zY y.2.2.2.2.2.2.2.1),(.int .u32 y.2.2.2.2.2.2.2.2)])]))) (fun y=>m7_11 pu n (l7_10 pu n w0) y.1 y.2.1 y.2.2.1 y.2.2.2.1 y.2.2.2.2.1 y.2.2.2.2.2.1 y.2.2.2.2.2.2.1 y.2.2.2.2.2.2.2.1 y.2.2.2.2.2.2.2.2) ?_ ?_
   ·rintro ⟨z11, z12, z13, b2, z14, s2, b3, z15, z16⟩ hm
    unfold m7_11 at hm
    replace hm:=bb_cases hm;rcases hm with ⟨h4,hm⟩ | ⟨h4,hm⟩
    ·refine .ifT b3 (by kernel_rfl) h4 ?_
     refine .then (.rK ?_)
     refine .ghs (fr 187 [(4,zB false)]) (hp 0 []) (.k0 [] [] [4]) ?_
     refine .ret ?_
     exact fin_ret (zB false) (by kernel_rfl) (by kernel_rfl) hm
    ·refine .ifF b3 (by kernel_rfl) h4 ?_
     refine .skip ?_
     refine .ghs (fr 187 [(1,(zY z11)),(2,(pt 0 0)),(5,zI z12),(6,.int .u32 z13),(7,zB b2),(8,zI z14),(9,Sl.v 1 s2)]) (hp 1 [(oC [(zY z15),.int .u32 z16])]) (.k0 [] [.tmp 2 false] [1,2,5,6,7,8,9]) ?_
     replace hm:=bb_cases hm;rcases hm with ⟨h5,hm⟩ | ⟨h5,hm⟩
     ·refine .reg (eD (some ((zB b2), (hp 1 [(oC [(zY z15), .int .u32 z16])]))) (show _ = some ((zB true), _) from (by rw [show b2 = true from h5])) (eE)) ?_
      refine .ghs (fr 187 [(1,(zY z11)),(2,(pt 0 0)),(5,zI z12),(6,.int .u32 z13),(7,(zB (ieq (Int.ofNat (Sl.n s2)) (1:Int)))),(8,zI z14)]) (hp 1 [(oC [(zY z15),.int .u32 z16])]) (.k0 [] [.tmp 2 false] [1,2,5,6,7,8]) ?_
      refine .rK ?_
      exact ⟨(z11,z12,z13,(ieq (Int.ofNat (Sl.n s2)) (1:Int)),(wrapF .i64 (Int.add z14 (1:Int))),z15,z16),hm,(.k0 [] [.tmp 2 false] [1,2,5,6,7,8])⟩
     ·refine .reg (eD (some ((zB b2), (hp 1 [(oC [(zY z15), .int .u32 z16])]))) (show _ = some ((zB false), _) from (by rw [show b2 = false from h5])) (eE)) ?_
      refine .ghs (fr 187 [(1,(zY z11)),(2,(pt 0 0)),(5,zI z12),(6,.int .u32 z13),(7,zB false),(8,zI z14)]) (hp 1 [(oC [(zY z15),.int .u32 z16])]) (.k0 [] [.tmp 2 false] [1,2,5,6,7,8]) ?_
      refine .rK ?_
      exact ⟨(z11,z12,z13,false,(wrapF .i64 (Int.add z14 (1:Int))),z15,z16),hm,(.k0 [] [.tmp 2 false] [1,2,5,6,7,8])⟩
   ·replace hm := bb_cases hm; rcases hm with ⟨h6, hm⟩ | ⟨h6, hm⟩
    ·refine .reg (eC 1 (some ((zB (nt (ieq x6 (0 : Int)))), (hp 1 [(oC [(zY z9), .int .u32 z10])]))) (show _ = some ((zB true), _) from (by rw [show (nt (ieq x6 (0 : Int))) = true from h6])) (eE)) ?_
     exact ⟨(z5,z6,z7,b1,z8,s1,true,z9,z10),hm,(.k0 [] [.tmp 2 false] [1,2,5,6,7,8,9,56])⟩
    ·replace hm := oo_inv hm; obtain ⟨v12, h7, hm⟩ := hm
     replace hm:=inv_toI hm;obtain ⟨x7,rfl,hm⟩:=hm
     replace hm:=oo_inv hm;obtain ⟨v13,h8,hm⟩:=hm
     replace hm:=inv_toSl hm;obtain ⟨s3,rfl,hm⟩:=hm
     replace hm:=oo_inv hm;obtain ⟨v14,h9,hm⟩:=hm
     replace hm:=inv_vBool hm;obtain ⟨b4,rfl,hm⟩:=hm
     refine .reg (eC 1 (some ((zB (nt (ieq x6 (0:Int)))),(hp 1 [(oC [(zY z9),.int .u32 z10])]))) (show _ = some ((zB false),_) from (by rw [show (nt (ieq x6 (0:Int))) = false from h6])) (eC 6 ((oo (pu 49 [zI z6,.int .u32 z7,(zI (1:Int)),zI z8]) none fun v=>some (v,(hp 1 [(oC [(zY z9),.int .u32 z10])])))) (call_eq h7) (eC 1 ((oo (pu 48 [(.int .u32 (aand .u32 z7 x7))]) none fun v=>some (v,(hp 1 [(oC [(zY z9),.int .u32 z10])])))) (call_eq h8) (eD ((oo (pu 23 [Sl.v 1 s1,Sl.v 1 s3]) none fun v=>some (v,(hp 1 [(oC [(zY z9),.int .u32 z10])])))) (call_eq h9) (eE))))) ?_
     exact ⟨(z5,z6,z7,b1,z8,s1,(nt b4),z9,z10),hm,(.k0 [] [.tmp 2 false] [1,2,5,6,7,8,9,56])⟩
  ·refine .ifF (ilt z8 z6) (by kernel_rfl) h1 ?_
   refine .exit ?_
   exact ⟨(z5,z6,z7,b1,z9,z10),hm,(.k0 [] [.tmp 2 false] [1,2,5,6,7])⟩
end
end Go.RgGM
