/- Made from wip. -/
import Derived.Test.YtenlanbdolnhhaaRgIMod0x

set_option maxRecDepth 100000
set_option maxHeartbeats 20000000
set_option linter.unusedVariables false
namespace Go.RgIM
open Go.Sp Go.RgI
noncomputable section

def m62_ (pu:PureF) (n:Nat) (x5 x7 x9:Int):OV:=
 (bb (nt (ieq x5 (0:Int))) (bb (nt (ieq x5 (0:Int))) (some (.int .i64 (Int.tmod (wrapF .i64 (Int.add (Int.tmod x9 x5) x5)) x5))) none) none)
def m62 (pu:PureF) (n:Nat) (args:LV):OV:=
 (ll args none fun a0 args=>(ll args none fun a1 args=>(ll args (oo (vAgg a0) none fun l1=>(ll l1 none fun v3 l1=>(ll l1 none fun v4 l1=>(ll l1 (oo (toI .i64 v3) none fun x5=>(oo (toI .u32 v4) none fun x7=>(oo (toI .i64 a1) none fun x9=>(m62_ pu n x5 x7 x9)))) fun _ _=>none)))) fun _ _=>none)))
theorem r62 {call:CallF} (pu:PureF) (n:Nat) (hcall:call = callP tabs isP pu (inl pu)) {args:LV} {v:Value} (hm:m62 pu n args = some v) (_:∀ x ∈ args,closed2 x = true):args.length≤15∧Run tt call 0 c62_3 (Fr.made 15 args) (pureHeap tabs) (Fin tt 0 [.tmp 4] v):=by
 subst hcall
 unfold m62 at hm
 replace hm:=ll_uncons hm;obtain ⟨a0,args_0,rfl,hm⟩:=hm
 replace hm:=ll_uncons hm;obtain ⟨a1,args_1,rfl,hm⟩:=hm
 replace hm:=ll_end hm;obtain ⟨rfl,hm⟩:=hm
 replace hm:=inv_vAgg hm;obtain ⟨l1,rfl,hm⟩:=hm
 replace hm:=ll_uncons hm;obtain ⟨v3,l1_0,rfl,hm⟩:=hm
 replace hm:=ll_uncons hm;obtain ⟨v4,l1_1,rfl,hm⟩:=hm
 replace hm:=ll_end hm;obtain ⟨rfl,hm⟩:=hm
 replace hm:=inv_toI hm;obtain ⟨x5,rfl,hm⟩:=hm
 replace hm:=inv_toI hm;obtain ⟨x7,rfl,hm⟩:=hm
 replace hm:=inv_toI hm;obtain ⟨x9,rfl,hm⟩:=hm
 unfold m62_ at hm
 refine ⟨by simp,?_⟩
 refine .same (F':=(fr 15 [(0,(.agg ⟨[zI x5,.int .u32 x7]⟩)),(1,zI x9)])) (H':=(hp 0 [])) (by kernel_rfl) (by kernel_rfl) ?_
 refine .then (.rK ?_)
 refine .ghs (fr 15 [(1,zI x9),(2,(pt 0 0))]) (hp 1 [(oC [zI x5,.int .u32 x7])]) (.k0 [] [.tmp 2 false] [1,2]) ?_
 refine .then ?_
 replace hm:=bb_inv hm;obtain ⟨h13,hm⟩:=hm
 replace hm:=bb_inv hm;obtain ⟨h14,hm⟩:=hm
 refine .reg (eC 3 (keep (hp 1 [(oC [zI x5,.int .u32 x7])]) (bb (ieq x5 (0:Int)) none (some (zI (Int.tmod x9 x5))))) (keep_nb h13) (eC 5 (keep (hp 1 [(oC [zI x5,.int .u32 x7])]) (bb (ieq x5 (0:Int)) none (some (zI (Int.tmod (wrapF .i64 (Int.add (Int.tmod x9 x5) x5)) x5))))) (keep_nb h14) (eE))) ?_
 refine .ghs (fr 15 [(4,(zI (Int.tmod (wrapF .i64 (Int.add (Int.tmod x9 x5) x5)) x5)))]) (hp 0 []) (.k0 [] [] [4]) ?_
 refine .ret ?_
 exact fin_ret (zI (Int.tmod (wrapF .i64 (Int.add (Int.tmod x9 x5) x5)) x5)) (by kernel_rfl) (by kernel_rfl) hm

def m91_ (pu:PureF) (n:Nat) (x19 x21 x23:Int):OV:=
 (oo (toN x23) none fun k27=>(some (.bool (ieq (aand .u32 (shrI .u32 x21 k27) (1:Int)) (1:Int)))))
def m91 (pu:PureF) (n:Nat) (args:LV):OV:=
 (ll args none fun a0 args=>(ll args none fun a1 args=>(ll args (oo (vAgg a0) none fun l15=>(ll l15 none fun v17 l15=>(ll l15 none fun v18 l15=>(ll l15 (oo (toI .i64 v17) none fun x19=>(oo (toI .u32 v18) none fun x21=>(oo (toI .i64 a1) none fun x23=>(m91_ pu n x19 x21 x23)))) fun _ _=>none)))) fun _ _=>none)))
theorem r91 {call:CallF} (pu:PureF) (n:Nat) (hcall:call = callP tabs isP pu (inl pu)) {args:LV} {v:Value} (hm:m91 pu n args = some v) (_:∀ x ∈ args,closed2 x = true):args.length≤11∧Run tt call 0 c91_3 (Fr.made 11 args) (pureHeap tabs) (Fin tt 0 [.tmp 4] v):=by
 subst hcall
 unfold m91 at hm
 replace hm:=ll_uncons hm;obtain ⟨a0,args_0,rfl,hm⟩:=hm
 replace hm:=ll_uncons hm;obtain ⟨a1,args_1,rfl,hm⟩:=hm
 replace hm:=ll_end hm;obtain ⟨rfl,hm⟩:=hm
 replace hm:=inv_vAgg hm;obtain ⟨l15,rfl,hm⟩:=hm
 replace hm:=ll_uncons hm;obtain ⟨v17,l15_0,rfl,hm⟩:=hm
 replace hm:=ll_uncons hm;obtain ⟨v18,l15_1,rfl,hm⟩:=hm
 replace hm:=ll_end hm;obtain ⟨rfl,hm⟩:=hm
 replace hm:=inv_toI hm;obtain ⟨x19,rfl,hm⟩:=hm
 replace hm:=inv_toI hm;obtain ⟨x21,rfl,hm⟩:=hm
 replace hm:=inv_toI hm;obtain ⟨x23,rfl,hm⟩:=hm
 unfold m91_ at hm
 refine ⟨by simp,?_⟩
 refine .same (F':=(fr 11 [(0,(.agg ⟨[zI x19,.int .u32 x21]⟩)),(1,zI x23)])) (H':=(hp 0 [])) (by kernel_rfl) (by kernel_rfl) ?_
 refine .then (.rK ?_)
 refine .ghs (fr 11 [(1,zI x23),(2,(pt 0 0))]) (hp 1 [(oC [zI x19,.int .u32 x21])]) (.k0 [] [.tmp 2 false] [1,2]) ?_
 refine .then ?_
 replace hm:=oo_inv hm;obtain ⟨k27,h28,hm⟩:=hm
 obtain rfl:=toN_some h28
 refine .rK ?_
 refine .ghs (fr 11 [(4,(zB (ieq (aand .u32 (shrI .u32 x21 k27) (1:Int)) (1:Int))))]) (hp 0 []) (.k0 [] [] [4]) ?_
 refine .ret ?_
 exact fin_ret (zB (ieq (aand .u32 (shrI .u32 x21 k27) (1:Int)) (1:Int))) (by kernel_rfl) (by kernel_rfl) hm
def m80_0 (pu:PureF) (n n78 c79:Nat) (q80:LV):OV:=
 (bb (allL closed1 q80) (bb (an (Nat.ble (0 + n78 * 1) (len q80)) (allL closed1 (takeL (n78 * 1) (dropL 0 q80)))) (some (Sl.v 1 (Sl.mk n78 0 (takeL (n78 * 1) (dropL 0 q80))))) none) none)
def m80_2 (pu:PureF) (n:Nat) (ih0:Nat→Nat→Int→Int→Int→Int→LV→OV) (n0 c0:Nat) (z0 z1 z2 z3:Int) (q1:LV):OV:=
 (bb (allL closed1 q1) (ih0 n0 c0 z0 (wrapF .i64 (Int.add z1 (1:Int))) z2 z3 q1) none)
def b80_1 (pu:PureF) (n:Nat) (ih0:Nat→Nat→Int→Int→Int→Int→LV→OV) (n83 c84:Nat) (z85 z86 z87 z88:Int) (q89:LV):OV:=
 (bb (allL closed1 q89) (bb (ilt z86 z85) (oo (pu 91 [(.agg ⟨[.int .i64 z87,.int .u32 z88]⟩),.int .i64 z86]) none fun v0=>(oo (vBool v0) none fun b0=>(bb b0 (bb (growC 1 8 n83 c84 1 q89) (bb (allL closed1 (appL (dropL 0 q89) [.int .i64 z86])) (m80_2 pu n ih0 (n83 + 1) (2 * (n83 + 1) + bb false 1 0) z85 z86 z87 z88 (appL (dropL 0 q89) [.int .i64 z86])) none) none) (m80_2 pu n ih0 n83 c84 z85 z86 z87 z88 q89)))) (m80_0 pu n n83 c84 q89)) none)
def l80_1 (pu:PureF) (n w:Nat):Nat→Nat→Int→Int→Int→Int→LV→OV:=
 Nat.rec (motive:=fun _=>Nat→Nat→Int→Int→Int→Int→LV→OV) (fun _ _ _ _ _ _ _=>none) (fun _ ih0=>b80_1 pu n ih0) w
def m80_ (pu:PureF) (n:Nat) (x33 x35:Int):OV:=
 (l80_1 pu n n 0 0 x33 (0:Int) x33 x35 ([]:LV))
def m80 (pu:PureF) (n:Nat) (args:LV):OV:=
 (ll args none fun a0 args=>(ll args (oo (vAgg a0) none fun l29=>(ll l29 none fun v31 l29=>(ll l29 none fun v32 l29=>(ll l29 (oo (toI .i64 v31) none fun x33=>(oo (toI .u32 v32) none fun x35=>(m80_ pu n x33 x35))) fun _ _=>none)))) fun _ _=>none))
theorem w80_0 (pu:PureF) (n n78 c79:Nat) (q80:LV) {v:Value} (hm:m80_0 pu n n78 c79 q80 = some v):Run tt (callP tabs isP pu (inl pu)) 0 c80_20 (fr 19 [(3,sc 0 0 1 n78 c79)]) (hp 1 [oC q80]) (Fin tt 0 [.tmp 2] v):=by
 unfold m80_0 at hm
 refine .then (.rK ?_)
 replace hm:=bb_inv hm;obtain ⟨h81,hm⟩:=hm
 refine .ghs (fr 19 [(2,sc 0 0 1 n78 c79)]) (hp 1 [oC q80]) (.k [0] [] [.tmp 2 false] [2] ⟨trF h81,trivial⟩) ?_
 replace hm:=bb_inv hm;obtain ⟨h82,hm⟩:=hm
 refine .ghs (Fr.puts (fr 19 [(2,sc 0 0 1 n78 c79)]) [(2,(Sl.v 1 (Sl.mk n78 0 (takeL (n78 * 1) (dropL 0 q80)))))]) (hp 1 [.dead]) (.freezeC 0 2 1 (an (Nat.ble (0 + n78 * 1) (len q80)) (allL closed1 (takeL (n78 * 1) (dropL 0 q80)))) (F1:=(Fr.puts (fr 19 [(2,sc 0 0 1 n78 c79)]) [(2,(Sl.v 1 (Sl.mk n78 0 (takeL (n78 * 1) (dropL 0 q80)))))])) (H1:=(hp 1 [.dead])) (by kernel_rfl) (by kernel_rfl) h82 (GhS.id _ _)) ?_
 refine .ret ?_
 exact fin_ret (Sl.v 1 (Sl.mk n78 0 (takeL (n78 * 1) (dropL 0 q80)))) (by kernel_rfl) (by kernel_rfl) hm
theorem r80 {call:CallF} (pu:PureF) (n:Nat) (hcall:call = callP tabs isP pu (inl pu)) {args:LV} {v:Value} (hm:m80 pu n args = some v) (_:∀ x ∈ args,closed2 x = true):args.length≤19∧Run tt call 0 c80_23 (Fr.made 19 args) (pureHeap tabs) (Fin tt 0 [.tmp 2] v):=by
 subst hcall
 unfold m80 at hm
 replace hm:=ll_uncons hm;obtain ⟨a0,args_0,rfl,hm⟩:=hm
 replace hm:=ll_end hm;obtain ⟨rfl,hm⟩:=hm
 replace hm:=inv_vAgg hm;obtain ⟨l29,rfl,hm⟩:=hm
 replace hm:=ll_uncons hm;obtain ⟨v31,l29_0,rfl,hm⟩:=hm
 replace hm:=ll_uncons hm;obtain ⟨v32,l29_1,rfl,hm⟩:=hm
 replace hm:=ll_end hm;obtain ⟨rfl,hm⟩:=hm
 replace hm:=inv_toI hm;obtain ⟨x33,rfl,hm⟩:=hm
 replace hm:=inv_toI hm;obtain ⟨x35,rfl,hm⟩:=hm
 unfold m80_ at hm
 refine ⟨by simp,?_⟩
 refine .same (F':=(fr 19 [(0,(.agg ⟨[zI x33,.int .u32 x35]⟩))])) (H':=(hp 0 [])) (by kernel_rfl) (by kernel_rfl) ?_
 refine .then (.rK ?_)
 refine .ghs (fr 19 [(1,(pt 0 0))]) (hp 1 [(oC [zI x33,.int .u32 x35])]) (.k0 [] [.tmp 1 false] [1]) ?_
 refine .then (.rK ?_)
 refine .ghs (fr 19 [(1,(pt 0 0)),(3,(.slice none 0 0))]) (hp 1 [(oC [zI x33,.int .u32 x35])]) (.k0 [] [.tmp 1 false] [1,3]) ?_
 refine .join (v:=v) (fun y:Nat×Nat×LV=>((fr 19 [(3,(sc 0 0 1 y.1 y.2.1))]),(hp 1 [(oC y.2.2)]))) (fun y=>m80_0 pu n y.1 y.2.1 y.2.2) ?_ ?_
 ·rintro ⟨n78, c79, q80⟩ hm
  exact w80_0 pu n n78 c79 q80 hm
 ·refine .then (.rK ?_)
  refine .ghs (fr 19 [(1,(pt 0 0)),(3,(.slice none 0 0)),(6,zI x33),(7,(zI (0:Int)))]) (hp 1 [(oC [zI x33,.int .u32 x35])]) (.k0 [] [.tmp 1 false] [1,3,6,7]) ?_
  refine .block ?_
  refine .loopM (v:=v) (fun y:Nat×Nat×Int×Int×Int×Int×LV=>((fr 19 [(1,(pt 0 0)),(3,(sc 1 0 1 y.1 y.2.1)),(6,(zI y.2.2.1)),(7,(zI y.2.2.2.1))]),(hp 2 [(oC [(zI y.2.2.2.2.1),(.int .u32 y.2.2.2.2.2.1)]),(oC y.2.2.2.2.2.2)]))) (fun w y=>l80_1 pu n w y.1 y.2.1 y.2.2.1 y.2.2.2.1 y.2.2.2.2.1 y.2.2.2.2.2.1 y.2.2.2.2.2.2) n ⟨(0,0,x33,(0:Int),x33,x35,([]:LV)),hm,(.thaw 3 1 (by kernel_rfl) (.k0 [] [.tmp 1 false,.tmp 3 false] [1,3,6,7]))⟩ (fun _=>rfl) ?_
  rintro w0 ⟨n83,c84,z85,z86,z87,z88,q89⟩ hm
  replace hm:b80_1 pu n (l80_1 pu n w0) n83 c84 z85 z86 z87 z88 q89 = some v:=hm
  unfold b80_1 at hm
  refine .then (.rK ?_)
  replace hm:=bb_inv hm;obtain ⟨h90,hm⟩:=hm
  refine .ghs (fr 19 [(1,(pt 0 0)),(3,sc 1 0 1 n83 c84),(6,zI z85),(7,zI z86),(8,(zB (ilt z86 z85)))]) (hp 2 [(oC [zI z87,.int .u32 z88]),oC q89]) (.k [1] [] [.tmp 1 false,.tmp 3 false] [1,3,6,7,8] ⟨trF h90,trivial⟩) ?_
  refine .then ?_
  replace hm:=bb_cases hm;rcases hm with ⟨h91,hm⟩ | ⟨h91,hm⟩
  ·refine .ifT (ilt z86 z85) (by kernel_rfl) h91 ?_
   refine .skip ?_
   refine .ghs (fr 19 [(1,(pt 0 0)),(3,sc 1 0 1 n83 c84),(6,zI z85),(7,zI z86)]) (hp 2 [(oC [zI z87,.int .u32 z88]),oC q89]) (.k [1] [] [.tmp 1 false,.tmp 3 false] [1,3,6,7] ⟨trF h90,trivial⟩) ?_
   refine .join (v:=v) (fun y:Nat×Nat×Int×Int×Int×Int×LV=>((fr 19 [(1,(pt 0 0)),(3,(sc 1 0 1 y.1 y.2.1)),(6,(zI y.2.2.1)),(7,(zI y.2.2.2.1))]),(hp 2 [(oC [(zI y.2.2.2.2.1),(.int .u32 y.2.2.2.2.2.1)]),(oC y.2.2.2.2.2.2)]))) (fun y=>m80_2 pu n (l80_1 pu n w0) y.1 y.2.1 y.2.2.1 y.2.2.2.1 y.2.2.2.2.1 y.2.2.2.2.2.1 y.2.2.2.2.2.2) ?_ ?_
   ·rintro ⟨n0, c0, z0, z1, z2, z3, q1⟩ hm
    unfold m80_2 at hm
    refine .rK ?_
    replace hm:=bb_inv hm;obtain ⟨h0,hm⟩:=hm
    exact ⟨(n0,c0,z0,(wrapF .i64 (Int.add z1 (1:Int))),z2,z3,q1),hm,(.k [1] [] [.tmp 1 false,.tmp 3 false] [1,3,6,7] ⟨trF h0,trivial⟩)⟩
   ·refine .block ?_
    refine .then (.rK ?_)
    refine .ghs (fr 19 [(1,(pt 0 0)),(3,sc 1 0 1 n83 c84),(4,zI z86),(6,zI z85),(7,zI z86)]) (hp 2 [(oC [zI z87,.int .u32 z88]),oC q89]) (.k [1] [] [.tmp 1 false,.tmp 3 false] [1,3,4,6,7] ⟨trF h90,trivial⟩) ?_
    refine .then ?_
    replace hm:=oo_inv hm;obtain ⟨v0,h1,hm⟩:=hm
    replace hm:=inv_vBool hm;obtain ⟨b0,rfl,hm⟩:=hm
    refine .reg (eC 2 ((oo (pu 91 [(.agg ⟨[zI z87,.int .u32 z88]⟩),zI z86]) none fun v=>some (v,(hp 2 [(oC [zI z87,.int .u32 z88]),oC q89])))) (call_eq h1) (eE)) ?_
    refine .ghs (fr 19 [(1,(pt 0 0)),(3,sc 1 0 1 n83 c84),(4,zI z86),(6,zI z85),(7,zI z86),(12,zB b0)]) (hp 2 [(oC [zI z87,.int .u32 z88]),oC q89]) (.k [1] [] [.tmp 1 false,.tmp 3 false] [1,3,4,6,7,12] ⟨trF h90,trivial⟩) ?_
    replace hm:=bb_cases hm;rcases hm with ⟨h2,hm⟩ | ⟨h2,hm⟩
    ·refine .ifT b0 (by kernel_rfl) h2 ?_
     replace hm:=bb_inv hm;obtain ⟨h3,hm⟩:=hm
     refine .reg (eC 3 (growD 1 8 n83 c84 1 1 q89 [zI z86] [] (hp 3 [(oC [zI z87,.int .u32 z88]),oC q89,(oC [zI z86])])) (growD_eq h3) (eE)) ?_
     replace hm:=bb_inv hm;obtain ⟨h4,hm⟩:=hm
     exact ⟨((n83 + 1),(d2 (n83 + 1)),z85,z86,z87,z88,(appL (dropL 0 q89) [zI z86])),hm,(.k [3] [] [.tmp 1 false,.tmp 3 false] [1,3,6,7] ⟨trF h4,trivial⟩)⟩
    ·refine .ifF b0 (by kernel_rfl) h2 ?_
     refine .skip ?_
     exact ⟨(n83,c84,z85,z86,z87,z88,q89),hm,(.k [1] [] [.tmp 1 false,.tmp 3 false] [1,3,6,7] ⟨trF h90,trivial⟩)⟩
  ·refine .ifF (ilt z86 z85) (by kernel_rfl) h91 ?_
   refine .exit ?_
   exact ⟨(n83,c84,q89),hm,(.k [1] [] [.tmp 3 false] [3] ⟨trF h90,trivial⟩)⟩
def m74_0 (pu:PureF) (n n0 c0:Nat) (q1:LV):OV:=
 (bb (allL closed1 q1) (bb (an (Nat.ble (0 + n0 * 1) (len q1)) (allL closed1 (takeL (n0 * 1) (dropL 0 q1)))) (some (Sl.v 1 (Sl.mk n0 0 (takeL (n0 * 1) (dropL 0 q1))))) none) none)
def b74_1 (pu:PureF) (n:Nat) (ih0:Nat→Nat→LV→Nat→List Nat→Nat→List Ent→Nat→OV) (n0 c0:Nat) (q1:LV) (k1:Nat) (l0:List Nat) (k2:Nat) (e0:List Ent) (k3:Nat):OV:=
 (bb (allL (fun e=>Nat.blt (Ent.born e) k1) e0) (bb (Nat.ble k1 k2) (nxt e0 l0 (bb (allL closed1 q1) (bb (allL entClosed e0) (m74_0 pu n n0 c0 q1) none) none) (fun e1:Ent=>(bb (allL closed1 q1) (bb (allL entClosed e0) (oo (entT e0 k3 (appL l0 [(Ent.born e1)]) k3) none fun v0=>(oo (vTup v0) none fun l1=>(ll l1 none fun v1 l1=>(ll l1 none fun v2 l1=>(ll l1 (oo (toI .i64 v1) none fun x0=>(oo (toI .i64 v2) none fun x1=>(oo (toN (wrapF .i64 (Int.sub x0 (1:Int)))) none fun k4=>(bb (an (Nat.blt k4 n0) true) (bb (an (Nat.ble ((0 + k4 * 1) + 1) (len q1)) true) (bb (allL closed1 (setL ([.int .i64 x1]:LV) (0 + k4 * 1) q1)) (ih0 n0 c0 (setL ([.int .i64 x1]:LV) (0 + k4 * 1) q1) k1 (appL l0 [(Ent.born e1)]) k3 e0 k3) none) none) none)))) fun _ _=>none))))) none) none))) none) none)
def l74_1 (pu:PureF) (n w:Nat):Nat→Nat→LV→Nat→List Nat→Nat→List Ent→Nat→OV:=
 Nat.rec (motive:=fun _=>Nat→Nat→LV→Nat→List Nat→Nat→List Ent→Nat→OV) (fun _ _ _ _ _ _ _ _=>none) (fun _ ih0=>b74_1 pu n ih0) w
def m74_ (pu:PureF) (n:Nat) (x0 x1:Int):OV:=
 (oo (toN (wrapF .i64 (Int.sub x0 (1:Int)))) none fun k1=>(bb (an (Nat.ble k1 k1) (an (Nat.ble (k1 * 8) 1099511627776) (an (Nat.ble k1 1099511627776) true))) (bb (allL closed1 (zeroRow ([(.int .i64 (0:Int))]:LV) k1)) (oo (pu 10860 [(.agg ⟨[.int .i64 x0,.int .u32 x1]⟩)]) none fun v0=>(oo (vTup v0) none fun l0=>(ll l0 none fun v1 l0=>(ll l0 none fun v2 l0=>(ll l0 (bb (isMp v1 0) (oo (vMapO v2) none fun y0=>(bb (allL entClosed (MapV.es y0)) (bb (allL entClosed (MapV.es y0)) (l74_1 pu n n k1 (2 * k1 + bb true 1 0) (zeroRow ([(.int .i64 (0:Int))]:LV) k1) (MapV.clock y0) ([]:List Nat) (MapV.clock y0) (MapV.es y0) (MapV.clock y0)) none) none)) none) fun _ _=>none))))) none) none))
def m74 (pu:PureF) (n:Nat) (args:LV):OV:=
 (ll args none fun a0 args=>(ll args (oo (vAgg a0) none fun l0=>(ll l0 none fun v0 l0=>(ll l0 none fun v1 l0=>(ll l0 (oo (toI .i64 v0) none fun x0=>(oo (toI .u32 v1) none fun x1=>(m74_ pu n x0 x1))) fun _ _=>none)))) fun _ _=>none))
theorem w74_0 (pu:PureF) (n n0 c0:Nat) (q1:LV) {v:Value} (hm:m74_0 pu n n0 c0 q1 = some v):Run tt (callP tabs isP pu (inl pu)) 0 c74_15 (fr 24 [(3,sc 0 0 1 n0 c0)]) (hp 1 [oC q1]) (Fin tt 0 [.tmp 2] v):=by
 unfold m74_0 at hm
 refine .then (.rK ?_)
 replace hm:=bb_inv hm;obtain ⟨h0,hm⟩:=hm
 refine .ghs (fr 24 [(2,sc 0 0 1 n0 c0)]) (hp 1 [oC q1]) (.k [0] [] [.tmp 2 false] [2] ⟨trF h0,trivial⟩) ?_
 replace hm:=bb_inv hm;obtain ⟨h1,hm⟩:=hm
 refine .ghs (Fr.puts (fr 24 [(2,sc 0 0 1 n0 c0)]) [(2,(Sl.v 1 (Sl.mk n0 0 (takeL (n0 * 1) (dropL 0 q1)))))]) (hp 1 [.dead]) (.freezeC 0 2 1 (an (Nat.ble (0 + n0 * 1) (len q1)) (allL closed1 (takeL (n0 * 1) (dropL 0 q1)))) (F1:=(Fr.puts (fr 24 [(2,sc 0 0 1 n0 c0)]) [(2,(Sl.v 1 (Sl.mk n0 0 (takeL (n0 * 1) (dropL 0 q1)))))])) (H1:=(hp 1 [.dead])) (by kernel_rfl) (by kernel_rfl) h1 (GhS.id _ _)) ?_
 refine .ret ?_
 exact fin_ret (Sl.v 1 (Sl.mk n0 0 (takeL (n0 * 1) (dropL 0 q1)))) (by kernel_rfl) (by kernel_rfl) hm
theorem r74 {call:CallF} (pu:PureF) (n:Nat) (hcall:call = callP tabs isP pu (inl pu)) {args:LV} {v:Value} (hm:m74 pu n args = some v) (_:∀ x ∈ args,closed2 x = true):args.length≤24∧Run tt call 0 c74_18 (Fr.made 24 args) (pureHeap tabs) (Fin tt 0 [.tmp 2] v):=by
 subst hcall
 unfold m74 at hm
 replace hm:=ll_uncons hm;obtain ⟨a0,args_0,rfl,hm⟩:=hm
 replace hm:=ll_end hm;obtain ⟨rfl,hm⟩:=hm
 replace hm:=inv_vAgg hm;obtain ⟨l0,rfl,hm⟩:=hm
 replace hm:=ll_uncons hm;obtain ⟨v0,l124_0,rfl,hm⟩:=hm
 replace hm:=ll_uncons hm;obtain ⟨v1,l124_1,rfl,hm⟩:=hm
 replace hm:=ll_end hm;obtain ⟨rfl,hm⟩:=hm
 replace hm:=inv_toI hm;obtain ⟨x0,rfl,hm⟩:=hm
 replace hm:=inv_toI hm;obtain ⟨x1,rfl,hm⟩:=hm
 unfold m74_ at hm
 refine ⟨by simp,?_⟩
 refine .same (F':=(fr 24 [(0,(.agg ⟨[zI x0,.int .u32 x1]⟩))])) (H':=(hp 0 [])) (by kernel_rfl) (by kernel_rfl) ?_
 refine .then (.rK ?_)
 refine .ghs (fr 24 [(1,(pt 0 0))]) (hp 1 [(oC [zI x0,.int .u32 x1])]) (.k0 [] [.tmp 1 false] [1]) ?_
 refine .then ?_
 replace hm:=oo_inv hm;obtain ⟨k1,h0,hm⟩:=hm
 replace hm:=bb_inv hm;obtain ⟨h1,hm⟩:=hm
 refine .reg (eC 2 (some ((zI (wrapF .i64 (Int.sub x0 (1:Int)))),(hp 1 [(oC [zI x0,.int .u32 x1])]))) (show _ = some ((zI (Int.ofNat k1)),_) from (by rw [toN_some h0])) (eD (bb (an (Nat.ble k1 k1) (an (Nat.ble (k1 * 8) 1099511627776) (an (Nat.ble k1 1099511627776) true))) (some ((sc 1 0 1 k1 (2 * k1 + bb true 1 0)),(hp 2 [(oC [zI x0,.int .u32 x1]),(oC (zeroRow ([(zI (0:Int))]:LV) k1))]))) none) (bb_some h1) (eE))) ?_
 replace hm:=bb_inv hm;obtain ⟨h2,hm⟩:=hm
 refine .ghs (fr 24 [(1,(pt 0 0)),(3,(sc 1 0 1 k1 (2 * k1 + bb true 1 0)))]) (hp 2 [(oC [zI x0,.int .u32 x1]),(oC (zeroRow ([(zI (0:Int))]:LV) k1))]) (.k [1] [] [.tmp 1 false,.tmp 3 false] [1,3] ⟨trF h2,trivial⟩) ?_
 refine .join (v:=v) (fun y:Nat×Nat×LV=>((fr 24 [(3,(sc 0 0 1 y.1 y.2.1))]),(hp 1 [(oC y.2.2)]))) (fun y=>m74_0 pu n y.1 y.2.1 y.2.2) ?_ ?_
 ·rintro ⟨n0, c0, q1⟩ hm
  exact w74_0 pu n n0 c0 q1 hm
 ·refine .then ?_
  replace hm:=oo_inv hm;obtain ⟨v2,h3,hm⟩:=hm
  replace hm:=inv_vTup hm;obtain ⟨l1,rfl,hm⟩:=hm
  replace hm:=ll_uncons hm;obtain ⟨v3,l743_0,rfl,hm⟩:=hm
  replace hm:=ll_uncons hm;obtain ⟨v4,l743_1,rfl,hm⟩:=hm
  replace hm:=ll_end hm;obtain ⟨rfl,hm⟩:=hm
  replace hm:=bb_inv hm;obtain ⟨h4,hm⟩:=hm
  obtain rfl:=isMp_ok h4
  replace hm:=oo_inv hm;obtain ⟨y0,h5,hm⟩:=hm
  replace hm:=bb_inv hm;obtain ⟨h6,hm⟩:=hm
  refine .reg (eC 1 (objG tabs [[none,none]] 1 [] [false] (pu 10860) [(.agg ⟨[zI x0,.int .u32 x1]⟩)] (hp 2 [(oC [zI x0,.int .u32 x1]),(oC (zeroRow ([(zI (0:Int))]:LV) k1))])) (objG_eq (as:=[(.agg ⟨[zI x0,.int .u32 x1]⟩)]) (H1:=(hp 2 [(oC [zI x0,.int .u32 x1]),(oC (zeroRow ([(zI (0:Int))]:LV) k1))])) (gvAL_c (gvA_a (gvL_c gv_n (gvL_c gv_n gvL_n))) gvAL_n) (objF_eq (H2:=(hp 3 [(oC [zI x0,.int .u32 x1]),(oC (zeroRow ([(zI (0:Int))]:LV) k1)),(.map (MapV.es y0) (MapV.clock y0))])) (v:=(.map (some 0))) (v':=(.map (some 2))) [] [] [] [(.agg ⟨[zI x0,.int .u32 x1]⟩)] [v4] [(.map (MapV.es y0) (MapV.clock y0))] [none,none,some 0] [(false,(.map (MapV.es y0) (MapV.clock y0)))] [(.map (MapV.es y0) (MapV.clock y0))] (by kernel_rfl) mapO_n (Eq.trans (by kernel_rfl) h3) (mapO_c (vMapO_some h5) mapO_n) (mapO_c (bO_map h6) mapO_n))) (eE)) ?_
  replace hm:=bb_inv hm;obtain ⟨h7,hm⟩:=hm
  refine .ghs (fr 24 [(3,(sc 0 0 1 k1 (2 * k1 + bb true 1 0))),(12,pt 1 0)]) (hp 3 [(oC (zeroRow ([(zI (0:Int))]:LV) k1)),(.iter (some 2) (MapV.clock y0) ([]:List Nat) (MapV.clock y0)),(.map (MapV.es y0) (MapV.clock y0))]) (.k [1,2] [] [.tmp 3 false,.tmp 12 false,.itm 1 false] [3,12] ⟨trF h2,trF h7,trivial⟩) ?_
  refine .block ?_
  refine .loopM (v:=v) (fun y:Nat×Nat×LV×Nat×List Nat×Nat×List Ent×Nat=>((fr 24 [(3,(sc 0 0 1 y.1 y.2.1)),(12,pt 1 0)]),(hp 3 [(oC y.2.2.1),(.iter (some 2) y.2.2.2.1 y.2.2.2.2.1 y.2.2.2.2.2.1),(.map y.2.2.2.2.2.2.1 y.2.2.2.2.2.2.2)]))) (fun w y=>l74_1 pu n w y.1 y.2.1 y.2.2.1 y.2.2.2.1 y.2.2.2.2.1 y.2.2.2.2.2.1 y.2.2.2.2.2.2.1 y.2.2.2.2.2.2.2) n ⟨(k1,(2 * k1 + bb true 1 0),(zeroRow ([(zI (0:Int))]:LV) k1),(MapV.clock y0),([]:List Nat),(MapV.clock y0),(MapV.es y0),(MapV.clock y0)),hm,(.k [0,2] [] [.tmp 3 false,.tmp 12 false,.itm 1 false] [3,12] ⟨trF h2,trF h7,trivial⟩)⟩ (fun _=>rfl) ?_
  rintro w0 ⟨n1,c1,q2,k2,l2,k3,e0,k4⟩ hm
  replace hm:b74_1 pu n (l74_1 pu n w0) n1 c1 q2 k2 l2 k3 e0 k4 = some v:=hm
  unfold b74_1 at hm
  refine .then ?_
  replace hm:=bb_inv hm;obtain ⟨h8,hm⟩:=hm
  replace hm:=bb_inv hm;obtain ⟨h9,hm⟩:=hm
  refine .nextK (id:=1) (mid:=2) (since:=k2) (st:=k3) (clock:=k4) (seen:=l2) (es:=e0) (d:=some 13) (x:=(tp 12)) (ty:=0) (os:=[rq 14 (.extract (tp 13) 0) 4]) (by kernel_rfl) (by kernel_rfl) (by kernel_rfl) (by kernel_rfl) h8 h9 (by kernel_rfl) (fun _=>by kernel_rfl) (fun h10=>?_) (fun e1 h11=>?_)
  ·replace hm := nxt_0 hm h10
   replace hm:=bb_inv hm;obtain ⟨h12,hm⟩:=hm
   replace hm:=bb_inv hm;obtain ⟨h13,hm⟩:=hm
   refine .ghs (fr 24 [(3,sc 0 0 1 n1 c1),(12,pt 1 0),(14,zB false)]) (hp 3 [oC q2,(.iter (some 2) k2 l2 k3),(.map e0 k4)]) (.k [0,2] [] [.tmp 3 false,.tmp 12 false,.itm 1 false] [3,12,14] ⟨trF h12,trF h13,trivial⟩) ?_
   refine .then ?_
   refine .condF (by kernel_rfl) ?_
   refine .exit ?_
   exact ⟨(n1,c1,q2),hm,(.k [0] [] [.tmp 3 false] [3] ⟨trF h12,trivial⟩)⟩
  ·replace hm := nxt_1 hm h11
   replace hm:=bb_inv hm;obtain ⟨h14,hm⟩:=hm
   replace hm:=bb_inv hm;obtain ⟨h15,hm⟩:=hm
   refine .ghs (fr 24 [(3,sc 0 0 1 n1 c1),(12,pt 1 0),(14,zB true)]) (hp 3 [oC q2,(.iter (some 2) k2 (appL l2 [(Ent.born e1)]) k4),(.map e0 k4)]) (.k [0,2] [] [.tmp 3 false,.tmp 12 false,.itm 1 false] [3,12,14] ⟨trF h14,trF h15,trivial⟩) ?_
   refine .then ?_
   refine .condT (by kernel_rfl) ?_
   refine .skip ?_
   refine .ghs (fr 24 [(3,sc 0 0 1 n1 c1),(12,pt 1 0)]) (hp 3 [oC q2,(.iter (some 2) k2 (appL l2 [(Ent.born e1)]) k4),(.map e0 k4)]) (.k [0,2] [] [.tmp 3 false,.tmp 12 false,.itm 1 false] [3,12] ⟨trF h14,trF h15,trivial⟩) ?_
   refine .block ?_
   refine .then ?_
   replace hm:=oo_inv hm;obtain ⟨v5,h16,hm⟩:=hm
   replace hm:=inv_vTup hm;obtain ⟨l3,rfl,hm⟩:=hm
   replace hm:=ll_uncons hm;obtain ⟨v6,l781_0,rfl,hm⟩:=hm
   replace hm:=ll_uncons hm;obtain ⟨v7,l781_1,rfl,hm⟩:=hm
   replace hm:=ll_end hm;obtain ⟨rfl,hm⟩:=hm
   replace hm:=inv_toI hm;obtain ⟨x2,rfl,hm⟩:=hm
   replace hm:=inv_toI hm;obtain ⟨x3,rfl,hm⟩:=hm
   refine .reg (eD (keep (hp 3 [oC q2,(.iter (some 2) k2 (appL l2 [(Ent.born e1)]) k4),(.map e0 k4)]) (entT e0 k4 (appL l2 [(Ent.born e1)]) k4)) (keep_eq h16) (eE)) ?_
   refine .ghs (fr 24 [(3,sc 0 0 1 n1 c1),(4,zI x2),(5,zI x3),(12,pt 1 0)]) (hp 3 [oC q2,(.iter (some 2) k2 (appL l2 [(Ent.born e1)]) k4),(.map e0 k4)]) (.k [0,2] [] [.tmp 3 false,.tmp 12 false,.itm 1 false] [3,4,5,12] ⟨trF h14,trF h15,trivial⟩) ?_
   replace hm:=oo_inv hm;obtain ⟨k5,h17,hm⟩:=hm
   replace hm:=bb_inv hm;obtain ⟨h18,hm⟩:=hm
   replace hm:=bb_inv hm;obtain ⟨h19,hm⟩:=hm
   refine .reg (eC 2 (some ((zI (wrapF .i64 (Int.sub x2 (1:Int)))),(hp 3 [oC q2,(.iter (some 2) k2 (appL l2 [(Ent.born e1)]) k4),(.map e0 k4)]))) (show _ = some ((zI (Int.ofNat k5)),_) from (by rw [toN_some h17])) (eC 1 (keep (hp 3 [oC q2,(.iter (some 2) k2 (appL l2 [(Ent.born e1)]) k4),(.map e0 k4)]) (bb (an (Nat.blt k5 n1) true) (some (.pointer (some ⟨0,(0 + k5 * 1),none⟩))) none)) (keep_bb h18) (eD (done (bb (an (Nat.ble ((0 + k5 * 1) + 1) (len q2)) true) (some (hp 3 [(oC (setL ([zI x3]:LV) (0 + k5 * 1) q2)),(.iter (some 2) k2 (appL l2 [(Ent.born e1)]) k4),(.map e0 k4)])) none) undef) (done_bb h19) (eE)))) ?_
   replace hm:=bb_inv hm;obtain ⟨h20,hm⟩:=hm
   exact ⟨(n1,c1,(setL ([zI x3]:LV) (0 + k5 * 1) q2),k2,(appL l2 [(Ent.born e1)]),k4,e0,k4),hm,(.k [0,2] [] [.tmp 3 false,.tmp 12 false,.itm 1 false] [3,12] ⟨trF h20,trF h15,trivial⟩)⟩
def m76_0 (pu:PureF) (n:Nat) (z0:Int):OV:=
 (some (.int .i64 z0))
def m76_2 (pu:PureF) (n:Nat) (ih0:Int→Nat→List Nat→Nat→List Ent→Nat→OV) (z0 z1:Int) (b0:Bool) (k1:Nat) (l0:List Nat) (k2:Nat) (e0:List Ent) (k3:Nat):OV:=
 (bb b0 (bb (allL entClosed e0) (ih0 z1 k1 l0 k2 e0 k3) none) (bb (allL entClosed e0) (ih0 z0 k1 l0 k2 e0 k3) none))
def b76_1 (pu:PureF) (n:Nat) (ih0:Int→Nat→List Nat→Nat→List Ent→Nat→OV) (z0:Int) (k1:Nat) (l0:List Nat) (k2:Nat) (e0:List Ent) (k3:Nat):OV:=
 (bb (allL (fun e=>Nat.blt (Ent.born e) k1) e0) (bb (Nat.ble k1 k2) (nxt e0 l0 (bb (allL entClosed e0) (m76_0 pu n z0) none) (fun e1:Ent=>(bb (allL entClosed e0) (oo (entT e0 k3 (appL l0 [(Ent.born e1)]) k3) none fun v0=>(oo (vTup v0) none fun l1=>(ll l1 none fun v1 l1=>(ll l1 none fun v2 l1=>(ll l1 (oo (toI .i64 v1) none fun x0=>(oo (toI .i64 v2) none fun x1=>(bb (ilt (1:Int) x1) (bb (ieq z0 (0:Int)) (m76_2 pu n ih0 z0 x0 true k1 (appL l0 [(Ent.born e1)]) k3 e0 k3) (m76_2 pu n ih0 z0 x0 (ilt x0 z0) k1 (appL l0 [(Ent.born e1)]) k3 e0 k3)) (m76_2 pu n ih0 z0 x0 false k1 (appL l0 [(Ent.born e1)]) k3 e0 k3)))) fun _ _=>none))))) none))) none) none)
def l76_1 (pu:PureF) (n w:Nat):Int→Nat→List Nat→Nat→List Ent→Nat→OV:=
 Nat.rec (motive:=fun _=>Int→Nat→List Nat→Nat→List Ent→Nat→OV) (fun _ _ _ _ _ _=>none) (fun _ ih0=>b76_1 pu n ih0) w
def m76_ (pu:PureF) (n:Nat) (x0 x1:Int):OV:=
 (oo (pu 10860 [(.agg ⟨[.int .i64 x0,.int .u32 x1]⟩)]) none fun v0=>(oo (vTup v0) none fun l0=>(ll l0 none fun v1 l0=>(ll l0 none fun v2 l0=>(ll l0 (bb (isMp v1 0) (oo (vMapO v2) none fun y0=>(bb (allL entClosed (MapV.es y0)) (bb (allL entClosed (MapV.es y0)) (l76_1 pu n n (0:Int) (MapV.clock y0) ([]:List Nat) (MapV.clock y0) (MapV.es y0) (MapV.clock y0)) none) none)) none) fun _ _=>none)))))
def m76 (pu:PureF) (n:Nat) (args:LV):OV:=
 (ll args none fun a0 args=>(ll args (oo (vAgg a0) none fun l0=>(ll l0 none fun v0 l0=>(ll l0 none fun v1 l0=>(ll l0 (oo (toI .i64 v0) none fun x0=>(oo (toI .u32 v1) none fun x1=>(m76_ pu n x0 x1))) fun _ _=>none)))) fun _ _=>none))
theorem w76_0 (pu:PureF) (n:Nat) (z0:Int) {v:Value} (hm:m76_0 pu n z0 = some v):Run tt (callP tabs isP pu (inl pu)) 0 c76_18 (fr 27 [(3,zI z0)]) (hp 0 []) (Fin tt 0 [.tmp 2] v):=by
 unfold m76_0 at hm
 refine .then (.rK ?_)
 refine .ghs (fr 27 [(2,zI z0)]) (hp 0 []) (.k0 [] [] [2]) ?_
 refine .ret ?_
 exact fin_ret (zI z0) (by kernel_rfl) (by kernel_rfl) hm
theorem r76 {call:CallF} (pu:PureF) (n:Nat) (hcall:call = callP tabs isP pu (inl pu)) {args:LV} {v:Value} (hm:m76 pu n args = some v) (_:∀ x ∈ args,closed2 x = true):args.length≤27∧Run tt call 0 c76_21 (Fr.made 27 args) (pureHeap tabs) (Fin tt 0 [.tmp 2] v):=by
 subst hcall
 unfold m76 at hm
 replace hm:=ll_uncons hm;obtain ⟨a0,args_0,rfl,hm⟩:=hm
 replace hm:=ll_end hm;obtain ⟨rfl,hm⟩:=hm
 replace hm:=inv_vAgg hm;obtain ⟨l0,rfl,hm⟩:=hm
 replace hm:=ll_uncons hm;obtain ⟨v0,l798_0,rfl,hm⟩:=hm
 replace hm:=ll_uncons hm;obtain ⟨v1,l798_1,rfl,hm⟩:=hm
 replace hm:=ll_end hm;obtain ⟨rfl,hm⟩:=hm
 replace hm:=inv_toI hm;obtain ⟨x0,rfl,hm⟩:=hm
 replace hm:=inv_toI hm;obtain ⟨x1,rfl,hm⟩:=hm
 unfold m76_ at hm
 refine ⟨by simp,?_⟩
 refine .same (F':=(fr 27 [(0,(.agg ⟨[zI x0,.int .u32 x1]⟩))])) (H':=(hp 0 [])) (by kernel_rfl) (by kernel_rfl) ?_
 refine .then (.rK ?_)
 refine .ghs (fr 27 [(1,(pt 0 0))]) (hp 1 [(oC [zI x0,.int .u32 x1])]) (.k0 [] [.tmp 1 false] [1]) ?_
 refine .then (.rK ?_)
 refine .ghs (fr 27 [(1,(pt 0 0)),(3,(zI (0:Int)))]) (hp 1 [(oC [zI x0,.int .u32 x1])]) (.k0 [] [.tmp 1 false] [1,3]) ?_
 refine .join (v:=v) (fun y:Int=>((fr 27 [(3,zI y)]),(hp 0 []))) (fun y=>m76_0 pu n y) ?_ ?_
 ·rintro z0 hm
  exact w76_0 pu n z0 hm
 ·refine .then ?_
  replace hm:=oo_inv hm;obtain ⟨v2,h0,hm⟩:=hm
  replace hm:=inv_vTup hm;obtain ⟨l1,rfl,hm⟩:=hm
  replace hm:=ll_uncons hm;obtain ⟨v3,l900_0,rfl,hm⟩:=hm
  replace hm:=ll_uncons hm;obtain ⟨v4,l900_1,rfl,hm⟩:=hm
  replace hm:=ll_end hm;obtain ⟨rfl,hm⟩:=hm
  replace hm:=bb_inv hm;obtain ⟨h1,hm⟩:=hm
  obtain rfl:=isMp_ok h1
  replace hm:=oo_inv hm;obtain ⟨y0,h2,hm⟩:=hm
  replace hm:=bb_inv hm;obtain ⟨h3,hm⟩:=hm
  refine .reg (eC 1 (objG tabs [[none,none]] 1 [] [false] (pu 10860) [(.agg ⟨[zI x0,.int .u32 x1]⟩)] (hp 1 [(oC [zI x0,.int .u32 x1])])) (objG_eq (as:=[(.agg ⟨[zI x0,.int .u32 x1]⟩)]) (H1:=(hp 1 [(oC [zI x0,.int .u32 x1])])) (gvAL_c (gvA_a (gvL_c gv_n (gvL_c gv_n gvL_n))) gvAL_n) (objF_eq (H2:=(hp 2 [(oC [zI x0,.int .u32 x1]),(.map (MapV.es y0) (MapV.clock y0))])) (v:=(.map (some 0))) (v':=(.map (some 1))) [] [] [] [(.agg ⟨[zI x0,.int .u32 x1]⟩)] [v4] [(.map (MapV.es y0) (MapV.clock y0))] [none,some 0] [(false,(.map (MapV.es y0) (MapV.clock y0)))] [(.map (MapV.es y0) (MapV.clock y0))] (by kernel_rfl) mapO_n (Eq.trans (by kernel_rfl) h0) (mapO_c (vMapO_some h2) mapO_n) (mapO_c (bO_map h3) mapO_n))) (eE)) ?_
  replace hm:=bb_inv hm;obtain ⟨h4,hm⟩:=hm
  refine .ghs (fr 27 [(3,(zI (0:Int))),(8,(pt 0 0))]) (hp 2 [(.iter (some 1) (MapV.clock y0) ([]:List Nat) (MapV.clock y0)),(.map (MapV.es y0) (MapV.clock y0))]) (.k [1] [] [.tmp 8 false,.itm 0 false] [3,8] ⟨trF h4,trivial⟩) ?_
  refine .block ?_
  refine .loopM (v:=v) (fun y:Int×Nat×List Nat×Nat×List Ent×Nat=>((fr 27 [(3,(zI y.1)),(8,(pt 0 0))]),(hp 2 [(.iter (some 1) y.2.1 y.2.2.1 y.2.2.2.1),(.map y.2.2.2.2.1 y.2.2.2.2.2)]))) (fun w y=>l76_1 pu n w y.1 y.2.1 y.2.2.1 y.2.2.2.1 y.2.2.2.2.1 y.2.2.2.2.2) n ⟨((0:Int),(MapV.clock y0),([]:List Nat),(MapV.clock y0),(MapV.es y0),(MapV.clock y0)),hm,(.k [1] [] [.tmp 8 false,.itm 0 false] [3,8] ⟨trF h4,trivial⟩)⟩ (fun _=>rfl) ?_
  rintro w0 ⟨z1,k1,l2,k2,e0,k3⟩ hm
  replace hm:b76_1 pu n (l76_1 pu n w0) z1 k1 l2 k2 e0 k3 = some v:=hm
  unfold b76_1 at hm
  refine .then ?_
  replace hm:=bb_inv hm;obtain ⟨h5,hm⟩:=hm
  replace hm:=bb_inv hm;obtain ⟨h6,hm⟩:=hm
  refine .nextK (id:=0) (mid:=1) (since:=k1) (st:=k2) (clock:=k3) (seen:=l2) (es:=e0) (d:=some 9) (x:=(tp 8)) (ty:=0) (os:=[rq 10 (.extract (tp 9) 0) 4]) (by kernel_rfl) (by kernel_rfl) (by kernel_rfl) (by kernel_rfl) h5 h6 (by kernel_rfl) (fun _=>by kernel_rfl) (fun h7=>?_) (fun e1 h8=>?_)
  ·replace hm := nxt_0 hm h7
   replace hm:=bb_inv hm;obtain ⟨h9,hm⟩:=hm
   refine .ghs (fr 27 [(3,zI z1),(8,(pt 0 0)),(10,zB false)]) (hp 2 [(.iter (some 1) k1 l2 k2),(.map e0 k3)]) (.k [1] [] [.tmp 8 false,.itm 0 false] [3,8,10] ⟨trF h9,trivial⟩) ?_
   refine .then ?_
   refine .condF (by kernel_rfl) ?_
   refine .exit ?_
   exact ⟨z1,hm,(.k0 [] [] [3])⟩
  ·replace hm := nxt_1 hm h8
   replace hm:=bb_inv hm;obtain ⟨h10,hm⟩:=hm
   refine .ghs (fr 27 [(3,zI z1),(8,(pt 0 0)),(10,zB true)]) (hp 2 [(.iter (some 1) k1 (appL l2 [(Ent.born e1)]) k3),(.map e0 k3)]) (.k [1] [] [.tmp 8 false,.itm 0 false] [3,8,10] ⟨trF h10,trivial⟩) ?_
   refine .then ?_
   refine .condT (by kernel_rfl) ?_
   refine .skip ?_
   refine .ghs (fr 27 [(3,zI z1),(8,(pt 0 0))]) (hp 2 [(.iter (some 1) k1 (appL l2 [(Ent.born e1)]) k3),(.map e0 k3)]) (.k [1] [] [.tmp 8 false,.itm 0 false] [3,8] ⟨trF h10,trivial⟩) ?_
   refine .block ?_
   refine .then ?_
   replace hm:=oo_inv hm;obtain ⟨v5,h11,hm⟩:=hm
   replace hm:=inv_vTup hm;obtain ⟨l3,rfl,hm⟩:=hm
   replace hm:=ll_uncons hm;obtain ⟨v6,l934_0,rfl,hm⟩:=hm
   replace hm:=ll_uncons hm;obtain ⟨v7,l934_1,rfl,hm⟩:=hm
   replace hm:=ll_end hm;obtain ⟨rfl,hm⟩:=hm
   replace hm:=inv_toI hm;obtain ⟨x2,rfl,hm⟩:=hm
   replace hm:=inv_toI hm;obtain ⟨x3,rfl,hm⟩:=hm
   refine .reg (eD (keep (hp 2 [(.iter (some 1) k1 (appL l2 [(Ent.born e1)]) k3),(.map e0 k3)]) (entT e0 k3 (appL l2 [(Ent.born e1)]) k3)) (keep_eq h11) (eE)) ?_
   refine .ghs (fr 27 [(3,zI z1),(4,zI x2),(5,zI x3),(8,(pt 0 0))]) (hp 2 [(.iter (some 1) k1 (appL l2 [(Ent.born e1)]) k3),(.map e0 k3)]) (.k [1] [] [.tmp 8 false,.itm 0 false] [3,4,5,8] ⟨trF h10,trivial⟩) ?_
   refine .join (v:=v) (fun y:Int×Int×Bool×Nat×List Nat×Nat×List Ent×Nat=>((fr 27 [(3,(zI y.1)),(4,(zI y.2.1)),(8,(pt 0 0)),(24,(zB y.2.2.1))]),(hp 2 [(.iter (some 1) y.2.2.2.1 y.2.2.2.2.1 y.2.2.2.2.2.1),(.map y.2.2.2.2.2.2.1 y.2.2.2.2.2.2.2)]))) (fun y=>m76_2 pu n (l76_1 pu n w0) y.1 y.2.1 y.2.2.1 y.2.2.2.1 y.2.2.2.2.1 y.2.2.2.2.2.1 y.2.2.2.2.2.2.1 y.2.2.2.2.2.2.2) ?_ ?_
   ·rintro ⟨z2, z3, b0, k4, l4, k5, e2, k6⟩ hm
    unfold m76_2 at hm
    replace hm:=bb_cases hm;rcases hm with ⟨h12,hm⟩ | ⟨h12,hm⟩
    ·refine .ifT b0 (by kernel_rfl) h12 ?_
     refine .rK ?_
     replace hm:=bb_inv hm;obtain ⟨h13,hm⟩:=hm
     exact ⟨(z3,k4,l4,k5,e2,k6),hm,(.k [1] [] [.tmp 8 false,.itm 0 false] [3,8] ⟨trF h13,trivial⟩)⟩
    ·refine .ifF b0 (by kernel_rfl) h12 ?_
     refine .skip ?_
     replace hm:=bb_inv hm;obtain ⟨h14,hm⟩:=hm
     exact ⟨(z2,k4,l4,k5,e2,k6),hm,(.k [1] [] [.tmp 8 false,.itm 0 false] [3,8] ⟨trF h14,trivial⟩)⟩
   ·replace hm := bb_cases hm; rcases hm with ⟨h15, hm⟩ | ⟨h15, hm⟩
    ·replace hm := bb_cases hm; rcases hm with ⟨h16, hm⟩ | ⟨h16, hm⟩
     ·refine .reg (eC 1 (some ((zB (ilt (1 : Int) x3)), (hp 2 [(.iter (some 1) k1 (appL l2 [(Ent.born e1)]) k3), (.map e0 k3)]))) (show _ = some ((zB true), _) from (by rw [show (ilt (1 : Int) x3) = true from h15])) (eC 2 (some ((zB (ieq z1 (0 : Int))), (hp 2 [(.iter (some 1) k1 (appL l2 [(Ent.born e1)]) k3), (.map e0 k3)]))) (show _ = some ((zB true), _) from (by rw [show (ieq z1 (0 : Int)) = true from h16])) (eE))) ?_
      exact ⟨(z1,x2,true,k1,(appL l2 [(Ent.born e1)]),k3,e0,k3),hm,(.k [1] [] [.tmp 8 false,.itm 0 false] [3,4,8,24] ⟨trF h10,trivial⟩)⟩
     ·refine .reg (eC 1 (some ((zB (ilt (1 : Int) x3)), (hp 2 [(.iter (some 1) k1 (appL l2 [(Ent.born e1)]) k3), (.map e0 k3)]))) (show _ = some ((zB true), _) from (by rw [show (ilt (1 : Int) x3) = true from h15])) (eC 2 (some ((zB (ieq z1 (0 : Int))), (hp 2 [(.iter (some 1) k1 (appL l2 [(Ent.born e1)]) k3), (.map e0 k3)]))) (show _ = some ((zB false), _) from (by rw [show (ieq z1 (0 : Int)) = false from h16])) (eE))) ?_
      exact ⟨(z1,x2,(ilt x2 z1),k1,(appL l2 [(Ent.born e1)]),k3,e0,k3),hm,(.k [1] [] [.tmp 8 false,.itm 0 false] [3,4,8,24] ⟨trF h10,trivial⟩)⟩
    ·refine .reg (eC 1 (some ((zB (ilt (1 : Int) x3)), (hp 2 [(.iter (some 1) k1 (appL l2 [(Ent.born e1)]) k3), (.map e0 k3)]))) (show _ = some ((zB false), _) from (by rw [show (ilt (1 : Int) x3) = false from h15])) (eE)) ?_
     exact ⟨(z1,x2,false,k1,(appL l2 [(Ent.born e1)]),k3,e0,k3),hm,(.k [1] [] [.tmp 8 false,.itm 0 false] [3,4,8,24] ⟨trF h10,trivial⟩)⟩
def m78_0 (pu:PureF) (n:Nat) (b0:Bool):OV:=
 (some (.bool b0))
def m78_ (pu:PureF) (n:Nat) (x0 x1:Int):OV:=
 (oo (pu 76 [(.agg ⟨[.int .i64 x0,.int .u32 x1]⟩)]) none fun v0=>(oo (toI .i64 v0) none fun x2=>(bb (ieq x2 (0:Int)) (oo (pu 10860 [(.agg ⟨[.int .i64 x0,.int .u32 x1]⟩)]) none fun v1=>(oo (vTup v1) none fun l0=>(ll l0 none fun v2 l0=>(ll l0 none fun v3 l0=>(ll l0 (bb (isMp v2 0) (oo (vMapO v3) none fun y0=>(bb (allL entClosed (MapV.es y0)) (m78_0 pu n (ieq (Int.ofNat (len (MapV.es y0))) (wrapF .i64 (Int.sub x0 (1:Int))))) none)) none) fun _ _=>none))))) (m78_0 pu n false))))
def m78 (pu:PureF) (n:Nat) (args:LV):OV:=
 (ll args none fun a0 args=>(ll args (oo (vAgg a0) none fun l0=>(ll l0 none fun v0 l0=>(ll l0 none fun v1 l0=>(ll l0 (oo (toI .i64 v0) none fun x0=>(oo (toI .u32 v1) none fun x1=>(m78_ pu n x0 x1))) fun _ _=>none)))) fun _ _=>none))
theorem w78_0 (pu:PureF) (n:Nat) (b0:Bool) {v:Value} (hm:m78_0 pu n b0 = some v):Run tt (callP tabs isP pu (inl pu)) 0 .ret (fr 15 [(2,zB b0)]) (hp 0 []) (Fin tt 0 [.tmp 2] v):=by
 unfold m78_0 at hm
 refine .ret ?_
 exact fin_ret (zB b0) (by kernel_rfl) (by kernel_rfl) hm
theorem r78 {call:CallF} (pu:PureF) (n:Nat) (hcall:call = callP tabs isP pu (inl pu)) {args:LV} {v:Value} (hm:m78 pu n args = some v) (_:∀ x ∈ args,closed2 x = true):args.length≤15∧Run tt call 0 c78_3 (Fr.made 15 args) (pureHeap tabs) (Fin tt 0 [.tmp 2] v):=by
 subst hcall
 unfold m78 at hm
 replace hm:=ll_uncons hm;obtain ⟨a0,args_0,rfl,hm⟩:=hm
 replace hm:=ll_end hm;obtain ⟨rfl,hm⟩:=hm
 replace hm:=inv_vAgg hm;obtain ⟨l0,rfl,hm⟩:=hm
 replace hm:=ll_uncons hm;obtain ⟨v0,l961_0,rfl,hm⟩:=hm
 replace hm:=ll_uncons hm;obtain ⟨v1,l961_1,rfl,hm⟩:=hm
 replace hm:=ll_end hm;obtain ⟨rfl,hm⟩:=hm
 replace hm:=inv_toI hm;obtain ⟨x0,rfl,hm⟩:=hm
 replace hm:=inv_toI hm;obtain ⟨x1,rfl,hm⟩:=hm
 unfold m78_ at hm
 refine ⟨by simp,?_⟩
 refine .same (F':=(fr 15 [(0,(.agg ⟨[zI x0,.int .u32 x1]⟩))])) (H':=(hp 0 [])) (by kernel_rfl) (by kernel_rfl) ?_
 refine .then (.rK ?_)
 refine .ghs (fr 15 [(1,(pt 0 0))]) (hp 1 [(oC [zI x0,.int .u32 x1])]) (.k0 [] [.tmp 1 false] [1]) ?_
 refine .join (v:=v) (fun y:Bool=>((fr 15 [(2,zB y)]),(hp 0 []))) (fun y=>m78_0 pu n y) ?_ ?_
 ·rintro b0 hm
  exact w78_0 pu n b0 hm
 ·replace hm := oo_inv hm; obtain ⟨v2, h0, hm⟩ := hm
  replace hm:=inv_toI hm;obtain ⟨x2,rfl,hm⟩:=hm
  replace hm:=bb_cases hm;rcases hm with ⟨h1,hm⟩ | ⟨h1,hm⟩
  ·replace hm := oo_inv hm; obtain ⟨v3, h2, hm⟩ := hm
   replace hm:=inv_vTup hm;obtain ⟨l1,rfl,hm⟩:=hm
   replace hm:=ll_uncons hm;obtain ⟨v4,l1030_0,rfl,hm⟩:=hm
   replace hm:=ll_uncons hm;obtain ⟨v5,l1030_1,rfl,hm⟩:=hm
   replace hm:=ll_end hm;obtain ⟨rfl,hm⟩:=hm
   replace hm:=bb_inv hm;obtain ⟨h3,hm⟩:=hm
   obtain rfl:=isMp_ok h3
   replace hm:=oo_inv hm;obtain ⟨y0,h4,hm⟩:=hm
   replace hm:=bb_inv hm;obtain ⟨h5,hm⟩:=hm
   refine .reg (eC 1 ((oo (pu 76 [(.agg ⟨[zI x0,.int .u32 x1]⟩)]) none fun v=>some (v,(hp 1 [(oC [zI x0,.int .u32 x1])])))) (call_eq h0) (eD (some ((zB (ieq x2 (0:Int))),(hp 1 [(oC [zI x0,.int .u32 x1])]))) (show _ = some ((zB true),_) from (by rw [show (ieq x2 (0:Int)) = true from h1])) (eC 5 (objG tabs [[none,none]] 1 [] [false] (pu 10860) [(.agg ⟨[zI x0,.int .u32 x1]⟩)] (hp 1 [(oC [zI x0,.int .u32 x1])])) (objG_eq (as:=[(.agg ⟨[zI x0,.int .u32 x1]⟩)]) (H1:=(hp 1 [(oC [zI x0,.int .u32 x1])])) (gvAL_c (gvA_a (gvL_c gv_n (gvL_c gv_n gvL_n))) gvAL_n) (objF_eq (H2:=(hp 2 [(oC [zI x0,.int .u32 x1]),(.map (MapV.es y0) (MapV.clock y0))])) (v:=(.map (some 0))) (v':=(.map (some 1))) [] [] [] [(.agg ⟨[zI x0,.int .u32 x1]⟩)] [v5] [(.map (MapV.es y0) (MapV.clock y0))] [none,some 0] [(false,(.map (MapV.es y0) (MapV.clock y0)))] [(.map (MapV.es y0) (MapV.clock y0))] (by kernel_rfl) mapO_n (Eq.trans (by kernel_rfl) h2) (mapO_c (vMapO_some h4) mapO_n) (mapO_c (bO_map h5) mapO_n))) (eE)))) ?_
   exact ⟨(ieq (Int.ofNat (len (MapV.es y0))) (wrapF .i64 (Int.sub x0 (1:Int)))),hm,(.k0 [] [] [2])⟩
  ·refine .reg (eC 1 ((oo (pu 76 [(.agg ⟨[zI x0, .int .u32 x1]⟩)]) none fun v => some (v, (hp 1 [(oC [zI x0, .int .u32 x1])])))) (call_eq h0) (eD (some ((zB (ieq x2 (0 : Int))), (hp 1 [(oC [zI x0, .int .u32 x1])]))) (show _ = some ((zB false), _) from (by rw [show (ieq x2 (0 : Int)) = false from h1])) (eE))) ?_
   exact ⟨false,hm,(.k0 [] [] [2])⟩

def m55_ (pu:PureF) (n:Nat) (s0:Sl):OV:=
 (some (Sl.v 1 s0))
def m55 (pu:PureF) (n:Nat) (args:LV):OV:=
 (ll args none fun a0 args=>(ll args (oo (toSl 1 a0) none fun s0=>(m55_ pu n s0)) fun _ _=>none))
theorem r55 {call:CallF} (pu:PureF) (n:Nat) (hcall:call = callP tabs isP pu (inl pu)) {args:LV} {v:Value} (hm:m55 pu n args = some v) (_:∀ x ∈ args,closed2 x = true):args.length≤4∧Run tt call 0 c55_3 (Fr.made 4 args) (pureHeap tabs) (Fin tt 0 [.tmp 2] v):=by
 subst hcall
 unfold m55 at hm
 replace hm:=ll_uncons hm;obtain ⟨a0,args_0,rfl,hm⟩:=hm
 replace hm:=ll_end hm;obtain ⟨rfl,hm⟩:=hm
 replace hm:=inv_toSl hm;obtain ⟨s0,rfl,hm⟩:=hm
 unfold m55_ at hm
 refine ⟨by simp,?_⟩
 refine .same (F':=(fr 4 [(0,Sl.v 1 s0)])) (H':=(hp 0 [])) (by kernel_rfl) (by kernel_rfl) ?_
 refine .then (.rK ?_)
 refine .ghs (fr 4 [(0,Sl.v 1 s0)]) (hp 0 []) (.k0 [] [] [0]) ?_
 refine .then (.rK ?_)
 refine .ghs (fr 4 [(2,Sl.v 1 s0)]) (hp 0 []) (.k0 [] [] [2]) ?_
 refine .ret ?_
 exact fin_ret (Sl.v 1 s0) (by kernel_rfl) (by kernel_rfl) hm
def m11_5 (pu:PureF) (n:Nat) (b0:Bool):OV:=
 (some (.bool b0))
def m11_9 (pu:PureF) (n:Nat) (b0:Bool):OV:=
 (some (.bool b0))
def m11_8 (pu:PureF) (n:Nat) (b0:Bool) (z0:Int) (b1:Bool):OV:=
 (bb (ieq z0 (0:Int)) (bb (bq true (bq b1 (nt b0))) (oo (pu 14 []) none fun v0=>(oo (vBool v0) none fun b2=>(m11_9 pu n b2))) (m11_9 pu n false)) (bb (bq true (bq b1 false)) (oo (pu 14 []) none fun v0=>(oo (vBool v0) none fun b2=>(m11_9 pu n b2))) (m11_9 pu n false)))
def b11_10 (pu:PureF) (n:Nat) (ih0:Bool→Int→Sl→Sl→Bool→Int→Int→OV) (b0:Bool) (z0:Int) (s0 s1:Sl) (b1:Bool) (z1 z2:Int):OV:=
 (bb (ilt z2 z1) (bb b1 (ih0 b0 z0 s0 s1 true z1 (wrapF .i64 (Int.add z2 (1:Int)))) (bb (nt (Nat.beq (Sl.fl s0) 2)) (oo (toN z2) none fun k1=>(bb (Nat.ble k1 (Sl.n s0)) (bb (nt (Nat.beq (Sl.fl s0) 2)) (bb (Nat.ble k1 (Sl.n s0)) (bb (roomy (0 + (Sl.n (Sl.mk ((Sl.n s0) - k1) (bb (an (Nat.beq (Sl.n s0) (Sl.n s0)) (orr false (Nat.beq (Sl.fl s0) 1))) 1 0) (takeL (((Sl.n s0) - k1) * 1) (dropL (k1 * 1) (Sl.cs s0)))))) 8) (bb (Nat.beq (Sl.n (Sl.mk (k1 - 0) (bb (an (Nat.beq k1 (Sl.n s0)) (orr false (Nat.beq (Sl.fl s0) 1))) 1 0) (takeL ((k1 - 0) * 1) (dropL (0 * 1) (Sl.cs s0))))) 0) (bb (an (Nat.ble (0 + (Sl.n (Sl.mk ((Sl.n s0) - k1) (bb (an (Nat.beq (Sl.n s0) (Sl.n s0)) (orr false (Nat.beq (Sl.fl s0) 1))) 1 0) (takeL (((Sl.n s0) - k1) * 1) (dropL (k1 * 1) (Sl.cs s0))))) * 1) (len (takeL ((Sl.n (Sl.mk ((Sl.n s0) - k1) (bb (an (Nat.beq (Sl.n s0) (Sl.n s0)) (orr false (Nat.beq (Sl.fl s0) 1))) 1 0) (takeL (((Sl.n s0) - k1) * 1) (dropL (k1 * 1) (Sl.cs s0))))) * 1) (Sl.cs (Sl.mk ((Sl.n s0) - k1) (bb (an (Nat.beq (Sl.n s0) (Sl.n s0)) (orr false (Nat.beq (Sl.fl s0) 1))) 1 0) (takeL (((Sl.n s0) - k1) * 1) (dropL (k1 * 1) (Sl.cs s0)))))))) (allL closed1 (takeL ((Sl.n (Sl.mk ((Sl.n s0) - k1) (bb (an (Nat.beq (Sl.n s0) (Sl.n s0)) (orr false (Nat.beq (Sl.fl s0) 1))) 1 0) (takeL (((Sl.n s0) - k1) * 1) (dropL (k1 * 1) (Sl.cs s0))))) * 1) (dropL 0 (takeL ((Sl.n (Sl.mk ((Sl.n s0) - k1) (bb (an (Nat.beq (Sl.n s0) (Sl.n s0)) (orr false (Nat.beq (Sl.fl s0) 1))) 1 0) (takeL (((Sl.n s0) - k1) * 1) (dropL (k1 * 1) (Sl.cs s0))))) * 1) (Sl.cs (Sl.mk ((Sl.n s0) - k1) (bb (an (Nat.beq (Sl.n s0) (Sl.n s0)) (orr false (Nat.beq (Sl.fl s0) 1))) 1 0) (takeL (((Sl.n s0) - k1) * 1) (dropL (k1 * 1) (Sl.cs s0)))))))))) (oo (pu 10230 [(Sl.v 1 (Sl.mk (Sl.n (Sl.mk ((Sl.n s0) - k1) (bb (an (Nat.beq (Sl.n s0) (Sl.n s0)) (orr false (Nat.beq (Sl.fl s0) 1))) 1 0) (takeL (((Sl.n s0) - k1) * 1) (dropL (k1 * 1) (Sl.cs s0))))) 0 (takeL ((Sl.n (Sl.mk ((Sl.n s0) - k1) (bb (an (Nat.beq (Sl.n s0) (Sl.n s0)) (orr false (Nat.beq (Sl.fl s0) 1))) 1 0) (takeL (((Sl.n s0) - k1) * 1) (dropL (k1 * 1) (Sl.cs s0))))) * 1) (dropL 0 (takeL ((Sl.n (Sl.mk ((Sl.n s0) - k1) (bb (an (Nat.beq (Sl.n s0) (Sl.n s0)) (orr false (Nat.beq (Sl.fl s0) 1))) 1 0) (takeL (((Sl.n s0) - k1) * 1) (dropL (k1 * 1) (Sl.cs s0))))) * 1) (Sl.cs (Sl.mk ((Sl.n s0) - k1) (bb (an (Nat.beq (Sl.n s0) (Sl.n s0)) (orr false (Nat.beq (Sl.fl s0) 1))) 1 0) (takeL (((Sl.n s0) - k1) * 1) (dropL (k1 * 1) (Sl.cs s0)))))))))),Sl.v 1 s1]) none fun v0=>(oo (vTup v0) none fun l0=>(ll l0 none fun v1 l0=>(ll l0 (oo (vBool v1) none fun b2=>(ih0 b0 z0 s0 s1 b2 z1 (wrapF .i64 (Int.add (Int.ofNat k1) (1:Int))))) fun _ _=>none)))) none) (bb (an (allL scalarB (takeL ((Sl.n (Sl.mk (k1 - 0) (bb (an (Nat.beq k1 (Sl.n s0)) (orr false (Nat.beq (Sl.fl s0) 1))) 1 0) (takeL ((k1 - 0) * 1) (dropL (0 * 1) (Sl.cs s0))))) * 1) (Sl.cs (Sl.mk (k1 - 0) (bb (an (Nat.beq k1 (Sl.n s0)) (orr false (Nat.beq (Sl.fl s0) 1))) 1 0) (takeL ((k1 - 0) * 1) (dropL (0 * 1) (Sl.cs s0))))))) (growC 1 8 (Sl.n (Sl.mk ((Sl.n s0) - k1) (bb (an (Nat.beq (Sl.n s0) (Sl.n s0)) (orr false (Nat.beq (Sl.fl s0) 1))) 1 0) (takeL (((Sl.n s0) - k1) * 1) (dropL (k1 * 1) (Sl.cs s0))))) (2 * (Sl.n (Sl.mk ((Sl.n s0) - k1) (bb (an (Nat.beq (Sl.n s0) (Sl.n s0)) (orr false (Nat.beq (Sl.fl s0) 1))) 1 0) (takeL (((Sl.n s0) - k1) * 1) (dropL (k1 * 1) (Sl.cs s0))))) + bb false 1 0) (Sl.n (Sl.mk (k1 - 0) (bb (an (Nat.beq k1 (Sl.n s0)) (orr false (Nat.beq (Sl.fl s0) 1))) 1 0) (takeL ((k1 - 0) * 1) (dropL (0 * 1) (Sl.cs s0))))) (takeL ((Sl.n (Sl.mk ((Sl.n s0) - k1) (bb (an (Nat.beq (Sl.n s0) (Sl.n s0)) (orr false (Nat.beq (Sl.fl s0) 1))) 1 0) (takeL (((Sl.n s0) - k1) * 1) (dropL (k1 * 1) (Sl.cs s0))))) * 1) (Sl.cs (Sl.mk ((Sl.n s0) - k1) (bb (an (Nat.beq (Sl.n s0) (Sl.n s0)) (orr false (Nat.beq (Sl.fl s0) 1))) 1 0) (takeL (((Sl.n s0) - k1) * 1) (dropL (k1 * 1) (Sl.cs s0)))))))) (bb (an (Nat.ble (0 + ((Sl.n (Sl.mk ((Sl.n s0) - k1) (bb (an (Nat.beq (Sl.n s0) (Sl.n s0)) (orr false (Nat.beq (Sl.fl s0) 1))) 1 0) (takeL (((Sl.n s0) - k1) * 1) (dropL (k1 * 1) (Sl.cs s0))))) + (Sl.n (Sl.mk (k1 - 0) (bb (an (Nat.beq k1 (Sl.n s0)) (orr false (Nat.beq (Sl.fl s0) 1))) 1 0) (takeL ((k1 - 0) * 1) (dropL (0 * 1) (Sl.cs s0)))))) * 1) (len (appL (dropL 0 (takeL ((Sl.n (Sl.mk ((Sl.n s0) - k1) (bb (an (Nat.beq (Sl.n s0) (Sl.n s0)) (orr false (Nat.beq (Sl.fl s0) 1))) 1 0) (takeL (((Sl.n s0) - k1) * 1) (dropL (k1 * 1) (Sl.cs s0))))) * 1) (Sl.cs (Sl.mk ((Sl.n s0) - k1) (bb (an (Nat.beq (Sl.n s0) (Sl.n s0)) (orr false (Nat.beq (Sl.fl s0) 1))) 1 0) (takeL (((Sl.n s0) - k1) * 1) (dropL (k1 * 1) (Sl.cs s0))))))) (takeL ((Sl.n (Sl.mk (k1 - 0) (bb (an (Nat.beq k1 (Sl.n s0)) (orr false (Nat.beq (Sl.fl s0) 1))) 1 0) (takeL ((k1 - 0) * 1) (dropL (0 * 1) (Sl.cs s0))))) * 1) (Sl.cs (Sl.mk (k1 - 0) (bb (an (Nat.beq k1 (Sl.n s0)) (orr false (Nat.beq (Sl.fl s0) 1))) 1 0) (takeL ((k1 - 0) * 1) (dropL (0 * 1) (Sl.cs s0))))))))) (allL closed1 (takeL (((Sl.n (Sl.mk ((Sl.n s0) - k1) (bb (an (Nat.beq (Sl.n s0) (Sl.n s0)) (orr false (Nat.beq (Sl.fl s0) 1))) 1 0) (takeL (((Sl.n s0) - k1) * 1) (dropL (k1 * 1) (Sl.cs s0))))) + (Sl.n (Sl.mk (k1 - 0) (bb (an (Nat.beq k1 (Sl.n s0)) (orr false (Nat.beq (Sl.fl s0) 1))) 1 0) (takeL ((k1 - 0) * 1) (dropL (0 * 1) (Sl.cs s0)))))) * 1) (dropL 0 (appL (dropL 0 (takeL ((Sl.n (Sl.mk ((Sl.n s0) - k1) (bb (an (Nat.beq (Sl.n s0) (Sl.n s0)) (orr false (Nat.beq (Sl.fl s0) 1))) 1 0) (takeL (((Sl.n s0) - k1) * 1) (dropL (k1 * 1) (Sl.cs s0))))) * 1) (Sl.cs (Sl.mk ((Sl.n s0) - k1) (bb (an (Nat.beq (Sl.n s0) (Sl.n s0)) (orr false (Nat.beq (Sl.fl s0) 1))) 1 0) (takeL (((Sl.n s0) - k1) * 1) (dropL (k1 * 1) (Sl.cs s0))))))) (takeL ((Sl.n (Sl.mk (k1 - 0) (bb (an (Nat.beq k1 (Sl.n s0)) (orr false (Nat.beq (Sl.fl s0) 1))) 1 0) (takeL ((k1 - 0) * 1) (dropL (0 * 1) (Sl.cs s0))))) * 1) (Sl.cs (Sl.mk (k1 - 0) (bb (an (Nat.beq k1 (Sl.n s0)) (orr false (Nat.beq (Sl.fl s0) 1))) 1 0) (takeL ((k1 - 0) * 1) (dropL (0 * 1) (Sl.cs s0))))))))))) (oo (pu 10230 [(Sl.v 1 (Sl.mk ((Sl.n (Sl.mk ((Sl.n s0) - k1) (bb (an (Nat.beq (Sl.n s0) (Sl.n s0)) (orr false (Nat.beq (Sl.fl s0) 1))) 1 0) (takeL (((Sl.n s0) - k1) * 1) (dropL (k1 * 1) (Sl.cs s0))))) + (Sl.n (Sl.mk (k1 - 0) (bb (an (Nat.beq k1 (Sl.n s0)) (orr false (Nat.beq (Sl.fl s0) 1))) 1 0) (takeL ((k1 - 0) * 1) (dropL (0 * 1) (Sl.cs s0)))))) 0 (takeL (((Sl.n (Sl.mk ((Sl.n s0) - k1) (bb (an (Nat.beq (Sl.n s0) (Sl.n s0)) (orr false (Nat.beq (Sl.fl s0) 1))) 1 0) (takeL (((Sl.n s0) - k1) * 1) (dropL (k1 * 1) (Sl.cs s0))))) + (Sl.n (Sl.mk (k1 - 0) (bb (an (Nat.beq k1 (Sl.n s0)) (orr false (Nat.beq (Sl.fl s0) 1))) 1 0) (takeL ((k1 - 0) * 1) (dropL (0 * 1) (Sl.cs s0)))))) * 1) (dropL 0 (appL (dropL 0 (takeL ((Sl.n (Sl.mk ((Sl.n s0) - k1) (bb (an (Nat.beq (Sl.n s0) (Sl.n s0)) (orr false (Nat.beq (Sl.fl s0) 1))) 1 0) (takeL (((Sl.n s0) - k1) * 1) (dropL (k1 * 1) (Sl.cs s0))))) * 1) (Sl.cs (Sl.mk ((Sl.n s0) - k1) (bb (an (Nat.beq (Sl.n s0) (Sl.n s0)) (orr false (Nat.beq (Sl.fl s0) 1))) 1 0) (takeL (((Sl.n s0) - k1) * 1) (dropL (k1 * 1) (Sl.cs s0))))))) (takeL ((Sl.n (Sl.mk (k1 - 0) (bb (an (Nat.beq k1 (Sl.n s0)) (orr false (Nat.beq (Sl.fl s0) 1))) 1 0) (takeL ((k1 - 0) * 1) (dropL (0 * 1) (Sl.cs s0))))) * 1) (Sl.cs (Sl.mk (k1 - 0) (bb (an (Nat.beq k1 (Sl.n s0)) (orr false (Nat.beq (Sl.fl s0) 1))) 1 0) (takeL ((k1 - 0) * 1) (dropL (0 * 1) (Sl.cs s0))))))))))),Sl.v 1 s1]) none fun v2=>(oo (vTup v2) none fun l1=>(ll l1 none fun v3 l1=>(ll l1 (oo (vBool v3) none fun b3=>(ih0 b0 z0 s0 s1 b3 z1 (wrapF .i64 (Int.add (Int.ofNat k1) (1:Int))))) fun _ _=>none)))) none) none)) none) none) none) none)) none)) (m11_8 pu n b0 z0 b1))
def l11_10 (pu:PureF) (n w:Nat):Bool→Int→Sl→Sl→Bool→Int→Int→OV:=
 Nat.rec (motive:=fun _=>Bool→Int→Sl→Sl→Bool→Int→Int→OV) (fun _ _ _ _ _ _ _=>none) (fun _ ih0=>b11_10 pu n ih0) w
def m11_7 (pu:PureF) (n:Nat) (z0:Int) (b0:Bool) (z1:Int) (s0 s1:Sl) (z2:Int):OV:=
 (bb (nt (ieq z2 z0)) (some (.bool false)) (l11_10 pu n n b0 z1 s0 s1 false (Int.ofNat (Sl.n s0)) (0:Int)))
def m11_12 (pu:PureF) (n:Nat) (ih0:Int→Int→Bool→Int→Sl→Sl→Int→Sl→Int→Int→OV) (z0 z1:Int) (b0:Bool) (z2:Int) (s0 s1:Sl) (z3:Int) (s2:Sl) (z4 z5:Int):OV:=
 (ih0 z0 z1 b0 z2 s0 s1 z3 s2 z4 (wrapF .i64 (Int.add z5 (1:Int))))
def b11_14 (pu:PureF) (n:Nat) (ih0:Int→Int→Bool→Int→Sl→Sl→Int→Sl→Int→Int→OV) (ih1:Int→Int→Bool→Int→Sl→Sl→Int→Int→Int→Int→Sl→Int→Int→OV) (z0 z1:Int) (b0:Bool) (z2:Int) (s0 s1:Sl) (z3 z4 z5 z6:Int) (s2:Sl) (z7 z8:Int):OV:=
 (bb (nt (ilt z4 z6)) (bb (nt (ieq z0 (0:Int))) (oo (toN (Int.tmod (wrapF .i64 (Int.add z5 z6)) z0)) none fun k1=>(bb (bq false (bq (ieq (aand .u32 (shrI .u32 z1 k1) (1:Int)) (1:Int)) (ieq z6 z4))) (some (.bool false)) (ih1 z0 z1 b0 z2 s0 s1 z3 z4 z5 (wrapF .i64 (Int.add z6 (1:Int))) s2 z7 z8))) none) (m11_12 pu n ih0 z0 z1 b0 z2 s0 s1 z3 s2 z7 z8))
def l11_14 (pu:PureF) (n:Nat) (ih0:Int→Int→Bool→Int→Sl→Sl→Int→Sl→Int→Int→OV) (w:Nat):Int→Int→Bool→Int→Sl→Sl→Int→Int→Int→Int→Sl→Int→Int→OV:=
 Nat.rec (motive:=fun _=>Int→Int→Bool→Int→Sl→Sl→Int→Int→Int→Int→Sl→Int→Int→OV) (fun _ _ _ _ _ _ _ _ _ _ _ _ _=>none) (fun _ ih1=>b11_14 pu n ih0 ih1) w
def m11_13 (pu:PureF) (n:Nat) (ih0:Int→Int→Bool→Int→Sl→Sl→Int→Sl→Int→Int→OV) (z0 z1:Int) (b0:Bool) (z2:Int) (s0 s1:Sl) (z3 z4 z5:Int) (s2:Sl) (z6 z7:Int) (b1:Bool):OV:=
 (bb b1 (some (.bool false)) (oo (pu 48 [.int .u32 z1]) none fun v0=>(oo (toSl 1 v0) none fun s3=>(oo (toN z4) none fun k1=>(bb (an (Nat.blt k1 (Sl.n s3)) true) (oo (nthL (Sl.cs s3) (k1 * 1)) none fun v1=>(oo (toI .i64 v1) none fun x0=>(l11_14 pu n ih0 n z0 z1 b0 z2 s0 s1 (wrapF .i64 (Int.add z3 z5)) z5 x0 (1:Int) s2 z6 z7))) none)))))
def b11_11 (pu:PureF) (n:Nat) (ih0:Int→Int→Bool→Int→Sl→Sl→Int→Sl→Int→Int→OV) (z0 z1:Int) (b0:Bool) (z2:Int) (s0 s1:Sl) (z3:Int) (s2:Sl) (z4 z5:Int):OV:=
 (bb (ilt z5 z4) (oo (toN z5) none fun k1=>(bb (an (Nat.blt k1 (Sl.n s2)) true) (oo (nthL (Sl.cs s2) (k1 * 1)) none fun v0=>(oo (toI .i64 v0) none fun x0=>(bb (ilt x0 (1:Int)) (m11_13 pu n ih0 z0 z1 b0 z2 s0 s1 z3 (Int.ofNat k1) x0 s2 z4 (Int.ofNat k1) true) (m11_13 pu n ih0 z0 z1 b0 z2 s0 s1 z3 (Int.ofNat k1) x0 s2 z4 (Int.ofNat k1) (ilt z0 x0))))) none)) (m11_7 pu n z0 b0 z2 s0 s1 z3))
def l11_11 (pu:PureF) (n w:Nat):Int→Int→Bool→Int→Sl→Sl→Int→Sl→Int→Int→OV:=
 Nat.rec (motive:=fun _=>Int→Int→Bool→Int→Sl→Sl→Int→Sl→Int→Int→OV) (fun _ _ _ _ _ _ _ _ _ _=>none) (fun _ ih0=>b11_11 pu n ih0) w
def m11_6 (pu:PureF) (n:Nat) (z0 z1:Int) (b0:Bool) (z2:Int) (s0 s1:Sl) (b1:Bool):OV:=
 (bb b1 (some (.bool false)) (l11_11 pu n n z0 z1 b0 z2 s0 s1 (0:Int) s0 (Int.ofNat (Sl.n s0)) (0:Int)))
def m11_4 (pu:PureF) (n:Nat) (z0 z1 z2:Int) (b0:Bool) (z3:Int) (s0:Sl) (z4:Int) (s1:Sl) (z5:Int) (b1:Bool):OV:=
 (bb b1 (bb (ilt (0:Int) z1) (bb (ilt (0:Int) z2) (oo (pu 14 []) none fun v0=>(oo (vBool v0) none fun b2=>(m11_5 pu n b2))) (bb (ieq z5 (4:Int)) (oo (pu 14 []) none fun v1=>(oo (vBool v1) none fun b3=>(m11_5 pu n b3))) (m11_5 pu n false))) (bb (ieq z4 (4:Int)) (bb (ilt (0:Int) z2) (oo (pu 14 []) none fun v1=>(oo (vBool v1) none fun b3=>(m11_5 pu n b3))) (bb (ieq z5 (4:Int)) (oo (pu 14 []) none fun v2=>(oo (vBool v2) none fun b4=>(m11_5 pu n b4))) (m11_5 pu n false))) (m11_5 pu n false))) (bb (nt (ieq z4 (0:Int))) (m11_6 pu n z0 z1 b0 z3 s0 s1 true) (bb (nt (ieq z5 (0:Int))) (m11_6 pu n z0 z1 b0 z3 s0 s1 true) (oo (pu 50 [.int .u32 z1]) none fun v3=>(oo (toI .i64 v3) none fun x0=>(bb (nt (ieq (Int.ofNat (Sl.n s0)) x0)) (m11_6 pu n z0 z1 b0 z3 s0 s1 true) (oo (pu 50 [.int .u32 z2]) none fun v4=>(oo (toI .i64 v4) none fun x1=>(m11_6 pu n z0 z1 b0 z3 s0 s1 (nt (ieq (Int.ofNat (Sl.n s1)) x1)))))))))))
def m11_3 (pu:PureF) (n:Nat) (z0 z1 z2:Int) (b0:Bool) (z3:Int) (b1:Bool) (z4:Int) (s0:Sl) (z5:Int) (s1:Sl):OV:=
 (bb b1 (some (.bool false)) (oo (pu 15 [(.agg ⟨[.int .i64 z4,Sl.v 1 s0]⟩)]) none fun v0=>(oo (vTup v0) none fun l0=>(ll l0 none fun v1 l0=>(ll l0 none fun v2 l0=>(ll l0 (oo (toSl 1 v1) none fun s2=>(oo (toI .i64 v2) none fun x0=>(oo (pu 15 [(.agg ⟨[.int .i64 z5,Sl.v 1 s1]⟩)]) none fun v3=>(oo (vTup v3) none fun l1=>(ll l1 none fun v4 l1=>(ll l1 none fun v5 l1=>(ll l1 (oo (toSl 1 v4) none fun s3=>(oo (toI .i64 v5) none fun x1=>(bb (ieq z1 (0:Int)) (m11_4 pu n z0 z1 z2 b0 z3 s2 x0 s3 x1 true) (m11_4 pu n z0 z1 z2 b0 z3 s2 x0 s3 x1 (ieq z2 (0:Int)))))) fun _ _=>none))))))) fun _ _=>none))))))
def m11_2 (pu:PureF) (n:Nat) (z0 z1 z2 z3:Int) (b0:Bool) (z4 z5:Int) (b1:Bool) (z6 z7:Int) (s0:Sl) (z8:Int) (s1:Sl):OV:=
 (bb (nt (ieq z3 z5)) (m11_3 pu n z0 z1 z2 b1 z6 true z7 s0 z8 s1) (bb (bq false (bq b0 b1)) (m11_3 pu n z0 z1 z2 b1 z6 true z7 s0 z8 s1) (m11_3 pu n z0 z1 z2 b1 z6 (nt (ieq z4 z6)) z7 s0 z8 s1)))
def m11_1 (pu:PureF) (n:Nat) (z0 z1 z2 z3:Int) (b0:Bool) (z4 z5:Int) (b1:Bool) (z6 z7:Int) (s0:Sl) (z8:Int) (s1:Sl):OV:=
 (oo (pu 50 [.int .u32 z1]) none fun v0=>(oo (toI .i64 v0) none fun x0=>(oo (pu 50 [.int .u32 z2]) none fun v1=>(oo (toI .i64 v1) none fun x1=>(bb (nt (ieq x0 x1)) (m11_2 pu n z0 z1 z2 z3 b0 z4 (0:Int) false (5:Int) z7 s0 z8 s1) (m11_2 pu n z0 z1 z2 z3 b0 z4 z5 b1 z6 z7 s0 z8 s1))))))
def m11_16 (pu:PureF) (n:Nat) (ih0:Int→Int→Int→Int→Bool→Int→Int→Bool→Int→Nat→Nat→Int→Int→Int→Sl→Int→Sl→LV→OV) (z0 z1 z2 z3:Int) (b0:Bool) (z4 z5:Int) (b1:Bool) (z6:Int) (n0 c0:Nat) (z7 z8 z9:Int) (s0:Sl) (z10:Int) (s1:Sl) (q1:LV):OV:=
 (bb (allL closed1 q1) (ih0 z0 z1 z2 z3 b0 z4 z5 b1 z6 n0 c0 z7 (wrapF .i64 (Int.add z8 (1:Int))) z9 s0 z10 s1 q1) none)
def m11_18 (pu:PureF) (n:Nat) (ih0:Int→Int→Int→Int→Bool→Int→Int→Bool→Int→Nat→Nat→Int→Int→Int→Sl→Int→Sl→LV→OV) (ih1:Int→Int→Int→Int→Bool→Int→Int→Bool→Int→Int→Int→Nat→Nat→Int→Int→Int→Sl→Int→Sl→LV→OV) (z0 z1 z2 z3:Int) (b0:Bool) (z4 z5:Int) (b1:Bool) (z6 z7 z8:Int) (n0 c0:Nat) (z9 z10 z11:Int) (s0:Sl) (z12:Int) (s1:Sl) (q1:LV):OV:=
 (bb (allL closed1 q1) (ih1 z0 z1 z2 z3 b0 z4 z5 b1 z6 z7 (wrapF .i64 (Int.sub z8 (1:Int))) n0 c0 z9 z10 z11 s0 z12 s1 q1) none)
def b11_17 (pu:PureF) (n:Nat) (ih0:Int→Int→Int→Int→Bool→Int→Int→Bool→Int→Nat→Nat→Int→Int→Int→Sl→Int→Sl→LV→OV) (ih1:Int→Int→Int→Int→Bool→Int→Int→Bool→Int→Int→Int→Nat→Nat→Int→Int→Int→Sl→Int→Sl→LV→OV) (z0 z1 z2 z3:Int) (b0:Bool) (z4 z5:Int) (b1:Bool) (z6 z7 z8:Int) (n0 c0:Nat) (z9 z10 z11:Int) (s0:Sl) (z12:Int) (s1:Sl) (q1:LV):OV:=
 (bb (allL closed1 q1) (bb (nt (ilt z8 (0:Int))) (oo (pu 49 [.int .i64 z0,.int .u32 z1,.int .i64 z7,.int .i64 z8]) none fun v0=>(oo (toI .u32 v0) none fun x0=>(bb (ieq x0 z2) (m11_18 pu n ih0 ih1 z0 z1 z2 z3 b0 z4 z8 (ilt z7 (0:Int)) (0:Int) z7 z8 n0 c0 z9 z10 z11 s0 z12 s1 q1) (m11_18 pu n ih0 ih1 z0 z1 z2 z3 b0 z4 z5 b1 z6 z7 z8 n0 c0 z9 z10 z11 s0 z12 s1 q1)))) (m11_16 pu n ih0 z0 z1 z2 z3 b0 z4 z5 b1 z6 n0 c0 z9 z10 z11 s0 z12 s1 q1)) none)
def l11_17 (pu:PureF) (n:Nat) (ih0:Int→Int→Int→Int→Bool→Int→Int→Bool→Int→Nat→Nat→Int→Int→Int→Sl→Int→Sl→LV→OV) (w:Nat):Int→Int→Int→Int→Bool→Int→Int→Bool→Int→Int→Int→Nat→Nat→Int→Int→Int→Sl→Int→Sl→LV→OV:=
 Nat.rec (motive:=fun _=>Int→Int→Int→Int→Bool→Int→Int→Bool→Int→Int→Int→Nat→Nat→Int→Int→Int→Sl→Int→Sl→LV→OV) (fun _ _ _ _ _ _ _ _ _ _ _ _ _ _ _ _ _ _ _ _=>none) (fun _ ih1=>b11_17 pu n ih0 ih1) w
def b11_15 (pu:PureF) (n:Nat) (ih0:Int→Int→Int→Int→Bool→Int→Int→Bool→Int→Nat→Nat→Int→Int→Int→Sl→Int→Sl→LV→OV) (z0 z1 z2 z3:Int) (b0:Bool) (z4 z5:Int) (b1:Bool) (z6:Int) (n0 c0:Nat) (z7 z8 z9:Int) (s0:Sl) (z10:Int) (s1:Sl) (q1:LV):OV:=
 (bb (allL closed1 q1) (bb (ilt z8 z7) (oo (toN z8) none fun k1=>(bb (an (Nat.blt k1 n0) true) (oo (nthL q1 (0 + k1 * 1)) none fun v0=>(oo (toI .i64 v0) none fun x0=>(l11_17 pu n ih0 n z0 z1 z2 z3 b0 z4 z5 b1 z6 x0 (wrapF .i64 (Int.sub z0 (1:Int))) n0 c0 z7 (Int.ofNat k1) z9 s0 z10 s1 q1))) none)) (m11_1 pu n z0 z1 z2 z3 b0 z4 z5 b1 z6 z9 s0 z10 s1)) none)
def l11_15 (pu:PureF) (n w:Nat):Int→Int→Int→Int→Bool→Int→Int→Bool→Int→Nat→Nat→Int→Int→Int→Sl→Int→Sl→LV→OV:=
 Nat.rec (motive:=fun _=>Int→Int→Int→Int→Bool→Int→Int→Bool→Int→Nat→Nat→Int→Int→Int→Sl→Int→Sl→LV→OV) (fun _ _ _ _ _ _ _ _ _ _ _ _ _ _ _ _ _ _=>none) (fun _ ih0=>b11_15 pu n ih0) w
def m11_0 (pu:PureF) (n:Nat) (z0 z1 z2:Int):OV:=
 (oo (pu 47 [.int .i64 z0,.int .u32 z1]) none fun v0=>(oo (vAgg v0) none fun l0=>(ll l0 none fun v1 l0=>(ll l0 none fun v2 l0=>(ll l0 (oo (toI .i64 v1) none fun x0=>(oo (toSl 1 v2) none fun s0=>(oo (pu 47 [.int .i64 z0,.int .u32 z2]) none fun v3=>(oo (vAgg v3) none fun l1=>(ll l1 none fun v4 l1=>(ll l1 none fun v5 l1=>(ll l1 (oo (toI .i64 v4) none fun x1=>(oo (toSl 1 v5) none fun s1=>(oo (pu 21 [(.agg ⟨[.int .i64 x0,Sl.v 1 s0]⟩),(.agg ⟨[.int .i64 x1,Sl.v 1 s1]⟩)]) none fun v6=>(oo (vTup v6) none fun l2=>(ll l2 none fun v7 l2=>(ll l2 none fun v8 l2=>(ll l2 none fun v9 l2=>(ll l2 (oo (toI .i64 v7) none fun x2=>(oo (vBool v8) none fun b0=>(oo (toI .i64 v9) none fun x3=>(l11_15 pu n n z0 z1 z2 x2 b0 x3 (0:Int) false (12:Int) 2 5 (2:Int) (0:Int) x0 s0 x1 s1 ([(.int .i64 (-1:Int)),(.int .i64 (1:Int))]:LV))))) fun _ _=>none)))))))) fun _ _=>none))))))) fun _ _=>none)))))
def m11_ (pu:PureF) (n:Nat) (x0 x1 x2 x3 x4:Int):OV:=
 (oo (pu 46 [(.agg ⟨[.int .u8 x0,.int .u32 x1]⟩),(.int .i64 (21:Int))]) none fun v0=>(oo (vTup v0) none fun l0=>(ll l0 none fun v1 l0=>(ll l0 none fun v2 l0=>(ll l0 (oo (toI .i64 v1) none fun x5=>(oo (toI .u32 v2) none fun x6=>(oo (pu 49 [.int .i64 x5,.int .u32 x6,(.int .i64 (1:Int)),(.int .i64 (wrapF .i64 x3))]) none fun v3=>(oo (toI .u32 v3) none fun x7=>(bb (ieq (Int.tmod x4 (4:Int)) (0:Int)) (oo (pu 49 [.int .i64 x5,.int .u32 x6,(.int .i64 (-1:Int)),(.int .i64 (wrapF .i64 x3))]) none fun v4=>(oo (toI .u32 v4) none fun x8=>(m11_0 pu n x5 x6 x8))) (bb (ieq (Int.tmod x4 (4:Int)) (1:Int)) (oo (pu 46 [(.agg ⟨[.int .u8 x0,.int .u32 x2]⟩),(.int .i64 (21:Int))]) none fun v5=>(oo (vTup v5) none fun l1=>(ll l1 none fun v6 l1=>(ll l1 none fun v7 l1=>(ll l1 (oo (toI .i64 v6) none fun x9=>(oo (toI .u32 v7) none fun x10=>(m11_0 pu n x5 x6 x10))) fun _ _=>none))))) (m11_0 pu n x5 x6 x7))))))) fun _ _=>none)))))
def m11 (pu:PureF) (n:Nat) (args:LV):OV:=
 (ll args none fun a0 args=>(ll args none fun a1 args=>(ll args none fun a2 args=>(ll args none fun a3 args=>(ll args (oo (vAgg a0) none fun l0=>(ll l0 none fun v0 l0=>(ll l0 none fun v1 l0=>(ll l0 (oo (toI .u8 v0) none fun x0=>(oo (toI .u32 v1) none fun x1=>(oo (toI .u32 a1) none fun x2=>(oo (toI .i16 a2) none fun x3=>(oo (toI .u8 a3) none fun x4=>(m11_ pu n x0 x1 x2 x3 x4)))))) fun _ _=>none)))) fun _ _=>none)))))
theorem w11_9 (pu:PureF) (n:Nat) (b0:Bool) {v:Value} (hm:m11_9 pu n b0 = some v):Run tt (callP tabs isP pu (inl pu)) 0 .ret (fr 244 [(8,zB b0)]) (hp 0 []) (Fin tt 0 [.tmp 8] v):=by
 unfold m11_9 at hm
 refine .ret ?_
 exact fin_ret (zB b0) (by kernel_rfl) (by kernel_rfl) hm
theorem w11_8 (pu:PureF) (n:Nat) (b0:Bool) (z0:Int) (b1:Bool) {v:Value} (hm:m11_8 pu n b0 z0 b1 = some v):Run tt (callP tabs isP pu (inl pu)) 0 c11_127 (fr 244 [(18,zB b0),(19,zI z0),(32,zB b1)]) (hp 0 []) (Fin tt 0 [.tmp 8] v):=by
 unfold m11_8 at hm
 refine .join (v:=v) (fun y:Bool=>((fr 244 [(8,zB y)]),(hp 0 []))) (fun y=>m11_9 pu n y) ?_ ?_
 ·rintro b2 hm
  exact w11_9 pu n b2 hm
 ·replace hm := bb_cases hm; rcases hm with ⟨h0, hm⟩ | ⟨h0, hm⟩
  ·replace hm := bb_cases hm; rcases hm with ⟨h1, hm⟩ | ⟨h1, hm⟩
   ·replace hm := oo_inv hm; obtain ⟨v0, h2, hm⟩ := hm
    replace hm:=oo_inv hm;obtain ⟨b3,h3,hm⟩:=hm
    obtain rfl:=vBool_some h3
    refine .reg (eC 2 (some ((zB (ieq z0 (0:Int))),(hp 0 []))) (show _ = some ((zB true),_) from (by rw [show (ieq z0 (0:Int)) = true from h0])) (eC 4 (some ((zB (bq true (bq b1 (nt b0)))),(hp 0 []))) (show _ = some ((zB true),_) from (by rw [show (bq true (bq b1 (nt b0))) = true from h1])) (eC 1 ((oo (pu 14 []) none fun v=>some (v,(hp 0 [])))) (call_eq h2) (eE)))) ?_
    exact ⟨b3,hm,(.k0 [] [] [8])⟩
   ·refine .reg (eC 2 (some ((zB (ieq z0 (0 : Int))), (hp 0 []))) (show _ = some ((zB true), _) from (by rw [show (ieq z0 (0 : Int)) = true from h0])) (eC 4 (some ((zB (bq true (bq b1 (nt b0)))), (hp 0 []))) (show _ = some ((zB false), _) from (by rw [show (bq true (bq b1 (nt b0))) = false from h1])) (eE))) ?_
    exact ⟨false,hm,(.k0 [] [] [8])⟩
  ·replace hm := bb_cases hm; rcases hm with ⟨h1, hm⟩ | ⟨h1, hm⟩
   ·replace hm := oo_inv hm; obtain ⟨v0, h2, hm⟩ := hm
    replace hm:=inv_vBool hm;obtain ⟨b3,rfl,hm⟩:=hm
    refine .reg (eC 2 (some ((zB (ieq z0 (0:Int))),(hp 0 []))) (show _ = some ((zB false),_) from (by rw [show (ieq z0 (0:Int)) = false from h0])) (eC 4 (some ((zB (bq true (bq b1 false))),(hp 0 []))) (show _ = some ((zB true),_) from (by rw [show (bq true (bq b1 false)) = true from h1])) (eC 1 ((oo (pu 14 []) none fun v=>some (v,(hp 0 [])))) (call_eq h2) (eE)))) ?_
    exact ⟨b3,hm,(.k0 [] [] [8])⟩
   ·refine .reg (eC 2 (some ((zB (ieq z0 (0 : Int))), (hp 0 []))) (show _ = some ((zB false), _) from (by rw [show (ieq z0 (0 : Int)) = false from h0])) (eC 4 (some ((zB (bq true (bq b1 false))), (hp 0 []))) (show _ = some ((zB false), _) from (by rw [show (bq true (bq b1 false)) = false from h1])) (eE))) ?_
    exact ⟨false,hm,(.k0 [] [] [8])⟩
theorem w11_7 (pu:PureF) (n:Nat) (z0:Int) (b0:Bool) (z1:Int) (s0 s1:Sl) (z2:Int) {v:Value} (hm:m11_7 pu n z0 b0 z1 s0 s1 z2 = some v):Run tt (callP tabs isP pu (inl pu)) 0 c11_130 (fr 244 [(9,zI z0),(18,zB b0),(19,zI z1),(23,Sl.v 1 s0),(25,Sl.v 1 s1),(27,zI z2)]) (hp 0 []) (Fin tt 0 [.tmp 8] v):=by
 unfold m11_7 at hm
 refine .then ?_
 refine .then (.rK ?_)
 refine .ghs (fr 244 [(18,zB b0),(19,zI z1),(23,Sl.v 1 s0),(25,Sl.v 1 s1),(213,(zB (nt (ieq z2 z0))))]) (hp 0 []) (.k0 [] [] [18,19,23,25,213]) ?_
 replace hm:=bb_cases hm;rcases hm with ⟨h0,hm⟩ | ⟨h0,hm⟩
 ·refine .ifT (nt (ieq z2 z0)) (by kernel_rfl) h0 ?_
  refine .then (.rK ?_)
  refine .ghs (fr 244 [(8,zB false)]) (hp 0 []) (.k0 [] [] [8]) ?_
  refine .ret ?_
  exact fin_ret (zB false) (by kernel_rfl) (by kernel_rfl) hm
 ·refine .ifF (nt (ieq z2 z0)) (by kernel_rfl) h0 ?_
  refine .skip ?_
  refine .ghs (fr 244 [(18,zB b0),(19,zI z1),(23,Sl.v 1 s0),(25,Sl.v 1 s1)]) (hp 0 []) (.k0 [] [] [18,19,23,25]) ?_
  refine .then (.rK ?_)
  refine .ghs (fr 244 [(18,zB b0),(19,zI z1),(23,Sl.v 1 s0),(25,Sl.v 1 s1),(32,zB false)]) (hp 0 []) (.k0 [] [] [18,19,23,25,32]) ?_
  refine .join (v:=v) (fun y:Bool×Int×Bool=>((fr 244 [(18,(zB y.1)),(19,(zI y.2.1)),(32,(zB y.2.2))]),(hp 0 []))) (fun y=>m11_8 pu n y.1 y.2.1 y.2.2) ?_ ?_
  ·rintro ⟨b1, z3, b2⟩ hm
   exact w11_8 pu n b1 z3 b2 hm
  ·refine .then (.rK ?_)
   refine .ghs (fr 244 [(18,zB b0),(19,zI z1),(23,Sl.v 1 s0),(25,Sl.v 1 s1),(32,zB false),(215,(zI (Int.ofNat (Sl.n s0)))),(216,(zI (0:Int)))]) (hp 0 []) (.k0 [] [] [18,19,23,25,32,215,216]) ?_
   refine .block ?_
   refine .loopM (v:=v) (fun y:Bool×Int×Sl×Sl×Bool×Int×Int=>((fr 244 [(18,(zB y.1)),(19,(zI y.2.1)),(23,(Sl.v 1 y.2.2.1)),(25,(Sl.v 1 y.2.2.2.1)),(32,(zB y.2.2.2.2.1)),(215,(zI y.2.2.2.2.2.1)),(216,(zI y.2.2.2.2.2.2))]),(hp 0 []))) (fun w y=>l11_10 pu n w y.1 y.2.1 y.2.2.1 y.2.2.2.1 y.2.2.2.2.1 y.2.2.2.2.2.1 y.2.2.2.2.2.2) n ⟨(b0,z1,s0,s1,false,(Int.ofNat (Sl.n s0)),(0:Int)),hm,(.k0 [] [] [18,19,23,25,32,215,216])⟩ (fun _=>rfl) ?_
   rintro w0 ⟨b3,z4,s2,s3,b4,z5,z6⟩ hm
   replace hm:b11_10 pu n (l11_10 pu n w0) b3 z4 s2 s3 b4 z5 z6 = some v:=hm
   unfold b11_10 at hm
   refine .then (.rK ?_)
   refine .ghs (fr 244 [(18,zB b3),(19,zI z4),(23,Sl.v 1 s2),(25,Sl.v 1 s3),(32,zB b4),(215,zI z5),(216,zI z6),(217,(zB (ilt z6 z5)))]) (hp 0 []) (.k0 [] [] [18,19,23,25,32,215,216,217]) ?_
   refine .then ?_
   replace hm:=bb_cases hm;rcases hm with ⟨h1,hm⟩ | ⟨h1,hm⟩
   ·refine .ifT (ilt z6 z5) (by kernel_rfl) h1 ?_
    refine .skip ?_
    refine .ghs (fr 244 [(18,zB b3),(19,zI z4),(23,Sl.v 1 s2),(25,Sl.v 1 s3),(32,zB b4),(215,zI z5),(216,zI z6)]) (hp 0 []) (.k0 [] [] [18,19,23,25,32,215,216]) ?_
    refine .then ?_
    refine .block ?_
    refine .then (.rK ?_)
    refine .ghs (fr 244 [(18,zB b3),(19,zI z4),(23,Sl.v 1 s2),(25,Sl.v 1 s3),(32,zB b4),(33,zI z6),(215,zI z5),(216,zI z6)]) (hp 0 []) (.k0 [] [] [18,19,23,25,32,33,215,216]) ?_
    replace hm:=bb_cases hm;rcases hm with ⟨h2,hm⟩ | ⟨h2,hm⟩
    ·refine .reg (eD (some ((zB b4), (hp 0 []))) (show _ = some ((zB true), _) from (by rw [show b4 = true from h2])) (eE)) ?_
     refine .ghs (fr 244 [(18,zB b3),(19,zI z4),(23,Sl.v 1 s2),(25,Sl.v 1 s3),(32,zB true),(215,zI z5),(216,zI z6)]) (hp 0 []) (.k0 [] [] [18,19,23,25,32,215,216]) ?_
     refine .rK ?_
     exact ⟨(b3,z4,s2,s3,true,z5,(wrapF .i64 (Int.add z6 (1:Int)))),hm,(.k0 [] [] [18,19,23,25,32,215,216])⟩
    ·replace hm := bb_inv hm; obtain ⟨h3, hm⟩ := hm
     replace hm:=oo_inv hm;obtain ⟨k1,h4,hm⟩:=hm
     obtain rfl:=toN_some h4
     replace hm:=bb_inv hm;obtain ⟨h5,hm⟩:=hm
     replace hm:=bb_inv hm;obtain ⟨h6,hm⟩:=hm
     replace hm:=bb_inv hm;obtain ⟨h7,hm⟩:=hm
     replace hm:=bb_inv hm;obtain ⟨h8,hm⟩:=hm
     replace hm:=bb_cases hm;rcases hm with ⟨h9,hm⟩ | ⟨h9,hm⟩
     ·replace hm := bb_inv hm; obtain ⟨h10, hm⟩ := hm
      replace hm:=oo_inv hm;obtain ⟨v0,h11,hm⟩:=hm
      replace hm:=inv_vTup hm;obtain ⟨l0,rfl,hm⟩:=hm
      replace hm:=ll_uncons hm;obtain ⟨v1,l1905_0,rfl,hm⟩:=hm
      replace hm:=ll_end hm;obtain ⟨rfl,hm⟩:=hm
      replace hm:=inv_vBool hm;obtain ⟨b5,rfl,hm⟩:=hm
      refine .reg (eN 8 (Fr.puts (fr 244 [(18,zB b3),(19,zI z4),(23,Sl.v 1 s2),(25,Sl.v 1 s3),(32,zB b4),(33,(zI (Int.ofNat k1))),(215,zI z5),(216,(zI (Int.ofNat k1)))]) [(219,zB false),(220,zB false),(221,Sl.v 1 s2),(222,(zI (Int.ofNat k1))),(223,(Sl.v 1 (Sl.mk ((Sl.n s2) - k1) (bb (an (Nat.beq (Sl.n s2) (Sl.n s2)) (orr false (Nat.beq (Sl.fl s2) 1))) 1 0) (takeL (((Sl.n s2) - k1) * 1) (dropL (k1 * 1) (Sl.cs s2)))))),(225,Sl.v 1 s2),(226,(zI (Int.ofNat k1))),(227,(Sl.v 1 (Sl.mk (k1 - 0) (bb (an (Nat.beq k1 (Sl.n s2)) (orr false (Nat.beq (Sl.fl s2) 1))) 1 0) (takeL ((k1 - 0) * 1) (dropL (0 * 1) (Sl.cs s2))))))]) (hp 0 []) (eD (some ((zB b4),(hp 0 []))) (show _ = some ((zB false),_) from (by rw [show b4 = false from h2])) (eC 3 (keep (hp 0 []) (asliceFs ti3 ⟨1,(Sl.n s2),(Sl.fl s2),(Sl.cs s2)⟩ (some (zI (Int.ofNat k1))) none none)) (asliceFs_eq (c1:=true) (c2:=(Nat.ble k1 (Sl.n s2))) (l:=k1) (h:=(Sl.n s2)) h3 (by kernel_rfl) (by kernel_rfl) rfl (by kernel_rfl) h5) (eC 2 (keep (hp 0 []) (asliceFs ti3 ⟨1,(Sl.n s2),(Sl.fl s2),(Sl.cs s2)⟩ none (some (zI (Int.ofNat k1))) none)) (asliceFs_eq (c1:=(Nat.ble k1 (Sl.n s2))) (c2:=true) (l:=0) (h:=k1) h6 (by kernel_rfl) (by kernel_rfl) h7 (by kernel_rfl) rfl) (by kernel_rfl)))) (eC 1 (bb (roomy (0 + (Sl.n (Sl.mk ((Sl.n s2) - k1) (bb (an (Nat.beq (Sl.n s2) (Sl.n s2)) (orr false (Nat.beq (Sl.fl s2) 1))) 1 0) (takeL (((Sl.n s2) - k1) * 1) (dropL (k1 * 1) (Sl.cs s2)))))) 8) (some ((sc 1 0 1 (Sl.n (Sl.mk ((Sl.n s2) - k1) (bb (an (Nat.beq (Sl.n s2) (Sl.n s2)) (orr false (Nat.beq (Sl.fl s2) 1))) 1 0) (takeL (((Sl.n s2) - k1) * 1) (dropL (k1 * 1) (Sl.cs s2))))) (d2 (Sl.n (Sl.mk ((Sl.n s2) - k1) (bb (an (Nat.beq (Sl.n s2) (Sl.n s2)) (orr false (Nat.beq (Sl.fl s2) 1))) 1 0) (takeL (((Sl.n s2) - k1) * 1) (dropL (k1 * 1) (Sl.cs s2))))))),(hp 2 [(oC []),(oC (takeL ((Sl.n (Sl.mk ((Sl.n s2) - k1) (bb (an (Nat.beq (Sl.n s2) (Sl.n s2)) (orr false (Nat.beq (Sl.fl s2) 1))) 1 0) (takeL (((Sl.n s2) - k1) * 1) (dropL (k1 * 1) (Sl.cs s2))))) * 1) (Sl.cs (Sl.mk ((Sl.n s2) - k1) (bb (an (Nat.beq (Sl.n s2) (Sl.n s2)) (orr false (Nat.beq (Sl.fl s2) 1))) 1 0) (takeL (((Sl.n s2) - k1) * 1) (dropL (k1 * 1) (Sl.cs s2)))))))]))) none) (bb_some h8) (eD (appFs (hp 2 [(oC []),(oC (takeL ((Sl.n (Sl.mk ((Sl.n s2) - k1) (bb (an (Nat.beq (Sl.n s2) (Sl.n s2)) (orr false (Nat.beq (Sl.fl s2) 1))) 1 0) (takeL (((Sl.n s2) - k1) * 1) (dropL (k1 * 1) (Sl.cs s2))))) * 1) (Sl.cs (Sl.mk ((Sl.n s2) - k1) (bb (an (Nat.beq (Sl.n s2) (Sl.n s2)) (orr false (Nat.beq (Sl.fl s2) 1))) 1 0) (takeL (((Sl.n s2) - k1) * 1) (dropL (k1 * 1) (Sl.cs s2)))))))]) 1 8 (sc 1 0 1 (Sl.n (Sl.mk ((Sl.n s2) - k1) (bb (an (Nat.beq (Sl.n s2) (Sl.n s2)) (orr false (Nat.beq (Sl.fl s2) 1))) 1 0) (takeL (((Sl.n s2) - k1) * 1) (dropL (k1 * 1) (Sl.cs s2))))) (d2 (Sl.n (Sl.mk ((Sl.n s2) - k1) (bb (an (Nat.beq (Sl.n s2) (Sl.n s2)) (orr false (Nat.beq (Sl.fl s2) 1))) 1 0) (takeL (((Sl.n s2) - k1) * 1) (dropL (k1 * 1) (Sl.cs s2))))))) (Sl.mk (k1 - 0) (bb (an (Nat.beq k1 (Sl.n s2)) (orr false (Nat.beq (Sl.fl s2) 1))) 1 0) (takeL ((k1 - 0) * 1) (dropL (0 * 1) (Sl.cs s2))))) (appFs_sl0 h9) (eD (objG tabs [[some 1],[some 1]] 2 [] [] (pu 10230) [(sc 1 0 1 (Sl.n (Sl.mk ((Sl.n s2) - k1) (bb (an (Nat.beq (Sl.n s2) (Sl.n s2)) (orr false (Nat.beq (Sl.fl s2) 1))) 1 0) (takeL (((Sl.n s2) - k1) * 1) (dropL (k1 * 1) (Sl.cs s2))))) (d2 (Sl.n (Sl.mk ((Sl.n s2) - k1) (bb (an (Nat.beq (Sl.n s2) (Sl.n s2)) (orr false (Nat.beq (Sl.fl s2) 1))) 1 0) (takeL (((Sl.n s2) - k1) * 1) (dropL (k1 * 1) (Sl.cs s2))))))),Sl.v 1 s3] (hp 2 [(oC []),(oC (takeL ((Sl.n (Sl.mk ((Sl.n s2) - k1) (bb (an (Nat.beq (Sl.n s2) (Sl.n s2)) (orr false (Nat.beq (Sl.fl s2) 1))) 1 0) (takeL (((Sl.n s2) - k1) * 1) (dropL (k1 * 1) (Sl.cs s2))))) * 1) (Sl.cs (Sl.mk ((Sl.n s2) - k1) (bb (an (Nat.beq (Sl.n s2) (Sl.n s2)) (orr false (Nat.beq (Sl.fl s2) 1))) 1 0) (takeL (((Sl.n s2) - k1) * 1) (dropL (k1 * 1) (Sl.cs s2)))))))])) (objG_eq (as:=[(Sl.v 1 (Sl.mk (Sl.n (Sl.mk ((Sl.n s2) - k1) (bb (an (Nat.beq (Sl.n s2) (Sl.n s2)) (orr false (Nat.beq (Sl.fl s2) 1))) 1 0) (takeL (((Sl.n s2) - k1) * 1) (dropL (k1 * 1) (Sl.cs s2))))) 0 (takeL ((Sl.n (Sl.mk ((Sl.n s2) - k1) (bb (an (Nat.beq (Sl.n s2) (Sl.n s2)) (orr false (Nat.beq (Sl.fl s2) 1))) 1 0) (takeL (((Sl.n s2) - k1) * 1) (dropL (k1 * 1) (Sl.cs s2))))) * 1) (dropL 0 (takeL ((Sl.n (Sl.mk ((Sl.n s2) - k1) (bb (an (Nat.beq (Sl.n s2) (Sl.n s2)) (orr false (Nat.beq (Sl.fl s2) 1))) 1 0) (takeL (((Sl.n s2) - k1) * 1) (dropL (k1 * 1) (Sl.cs s2))))) * 1) (Sl.cs (Sl.mk ((Sl.n s2) - k1) (bb (an (Nat.beq (Sl.n s2) (Sl.n s2)) (orr false (Nat.beq (Sl.fl s2) 1))) 1 0) (takeL (((Sl.n s2) - k1) * 1) (dropL (k1 * 1) (Sl.cs s2)))))))))),Sl.v 1 s3]) (H1:=(hp 2 [(oC []),.dead])) (gvAL_c (gvA_1 (gv_s (show giveV 1 (sc 1 0 1 (Sl.n (Sl.mk ((Sl.n s2) - k1) (bb (an (Nat.beq (Sl.n s2) (Sl.n s2)) (orr false (Nat.beq (Sl.fl s2) 1))) 1 0) (takeL (((Sl.n s2) - k1) * 1) (dropL (k1 * 1) (Sl.cs s2))))) (d2 (Sl.n (Sl.mk ((Sl.n s2) - k1) (bb (an (Nat.beq (Sl.n s2) (Sl.n s2)) (orr false (Nat.beq (Sl.fl s2) 1))) 1 0) (takeL (((Sl.n s2) - k1) * 1) (dropL (k1 * 1) (Sl.cs s2))))))) (hp 2 [(oC []),(oC (takeL ((Sl.n (Sl.mk ((Sl.n s2) - k1) (bb (an (Nat.beq (Sl.n s2) (Sl.n s2)) (orr false (Nat.beq (Sl.fl s2) 1))) 1 0) (takeL (((Sl.n s2) - k1) * 1) (dropL (k1 * 1) (Sl.cs s2))))) * 1) (Sl.cs (Sl.mk ((Sl.n s2) - k1) (bb (an (Nat.beq (Sl.n s2) (Sl.n s2)) (orr false (Nat.beq (Sl.fl s2) 1))) 1 0) (takeL (((Sl.n s2) - k1) * 1) (dropL (k1 * 1) (Sl.cs s2)))))))]) = some ((Sl.v 1 (Sl.mk (Sl.n (Sl.mk ((Sl.n s2) - k1) (bb (an (Nat.beq (Sl.n s2) (Sl.n s2)) (orr false (Nat.beq (Sl.fl s2) 1))) 1 0) (takeL (((Sl.n s2) - k1) * 1) (dropL (k1 * 1) (Sl.cs s2))))) 0 (takeL ((Sl.n (Sl.mk ((Sl.n s2) - k1) (bb (an (Nat.beq (Sl.n s2) (Sl.n s2)) (orr false (Nat.beq (Sl.fl s2) 1))) 1 0) (takeL (((Sl.n s2) - k1) * 1) (dropL (k1 * 1) (Sl.cs s2))))) * 1) (dropL 0 (takeL ((Sl.n (Sl.mk ((Sl.n s2) - k1) (bb (an (Nat.beq (Sl.n s2) (Sl.n s2)) (orr false (Nat.beq (Sl.fl s2) 1))) 1 0) (takeL (((Sl.n s2) - k1) * 1) (dropL (k1 * 1) (Sl.cs s2))))) * 1) (Sl.cs (Sl.mk ((Sl.n s2) - k1) (bb (an (Nat.beq (Sl.n s2) (Sl.n s2)) (orr false (Nat.beq (Sl.fl s2) 1))) 1 0) (takeL (((Sl.n s2) - k1) * 1) (dropL (k1 * 1) (Sl.cs s2)))))))))),(hp 2 [(oC []),.dead])) from giveV_sl 1 0 1 (Sl.n (Sl.mk ((Sl.n s2) - k1) (bb (an (Nat.beq (Sl.n s2) (Sl.n s2)) (orr false (Nat.beq (Sl.fl s2) 1))) 1 0) (takeL (((Sl.n s2) - k1) * 1) (dropL (k1 * 1) (Sl.cs s2))))) (d2 (Sl.n (Sl.mk ((Sl.n s2) - k1) (bb (an (Nat.beq (Sl.n s2) (Sl.n s2)) (orr false (Nat.beq (Sl.fl s2) 1))) 1 0) (takeL (((Sl.n s2) - k1) * 1) (dropL (k1 * 1) (Sl.cs s2)))))) (takeL ((Sl.n (Sl.mk ((Sl.n s2) - k1) (bb (an (Nat.beq (Sl.n s2) (Sl.n s2)) (orr false (Nat.beq (Sl.fl s2) 1))) 1 0) (takeL (((Sl.n s2) - k1) * 1) (dropL (k1 * 1) (Sl.cs s2))))) * 1) (Sl.cs (Sl.mk ((Sl.n s2) - k1) (bb (an (Nat.beq (Sl.n s2) (Sl.n s2)) (orr false (Nat.beq (Sl.fl s2) 1))) 1 0) (takeL (((Sl.n s2) - k1) * 1) (dropL (k1 * 1) (Sl.cs s2)))))) [] (by kernel_rfl) (by kernel_rfl) h10))) (gvAL_c (gvA_1 (gv_s (giveV_cl (z:=1) (v:=(Sl.v 1 s3)) (H:=(hp 2 [(oC []),.dead])) (by kernel_rfl) (by kernel_rfl) (by kernel_rfl)))) gvAL_n)) (objF_eq (H2:=(hp 2 [(oC []),.dead])) (v:=(zB b5)) (v':=(zB b5)) [] [] [] [(Sl.v 1 (Sl.mk (Sl.n (Sl.mk ((Sl.n s2) - k1) (bb (an (Nat.beq (Sl.n s2) (Sl.n s2)) (orr false (Nat.beq (Sl.fl s2) 1))) 1 0) (takeL (((Sl.n s2) - k1) * 1) (dropL (k1 * 1) (Sl.cs s2))))) 0 (takeL ((Sl.n (Sl.mk ((Sl.n s2) - k1) (bb (an (Nat.beq (Sl.n s2) (Sl.n s2)) (orr false (Nat.beq (Sl.fl s2) 1))) 1 0) (takeL (((Sl.n s2) - k1) * 1) (dropL (k1 * 1) (Sl.cs s2))))) * 1) (dropL 0 (takeL ((Sl.n (Sl.mk ((Sl.n s2) - k1) (bb (an (Nat.beq (Sl.n s2) (Sl.n s2)) (orr false (Nat.beq (Sl.fl s2) 1))) 1 0) (takeL (((Sl.n s2) - k1) * 1) (dropL (k1 * 1) (Sl.cs s2))))) * 1) (Sl.cs (Sl.mk ((Sl.n s2) - k1) (bb (an (Nat.beq (Sl.n s2) (Sl.n s2)) (orr false (Nat.beq (Sl.fl s2) 1))) 1 0) (takeL (((Sl.n s2) - k1) * 1) (dropL (k1 * 1) (Sl.cs s2)))))))))),Sl.v 1 s3] [] [] [none,none] [] [] (by kernel_rfl) mapO_n (Eq.trans (by kernel_rfl) h11) mapO_n mapO_n)) (eE))))) ?_
      refine .ghs (fr 244 [(18,zB b3),(19,zI z4),(23,Sl.v 1 s2),(25,Sl.v 1 s3),(32,zB b5),(215,zI z5),(216,(zI (Int.ofNat k1)))]) (hp 0 []) (.k0 [] [] [18,19,23,25,32,215,216]) ?_
      refine .rK ?_
      exact ⟨(b3,z4,s2,s3,b5,z5,(wrapF .i64 (Int.add (Int.ofNat k1) (1:Int)))),hm,(.k0 [] [] [18,19,23,25,32,215,216])⟩
     ·replace hm := bb_inv hm; obtain ⟨h10, hm⟩ := hm
      replace hm:=bb_inv hm;obtain ⟨h12,hm⟩:=hm
      replace hm:=oo_inv hm;obtain ⟨v2,h13,hm⟩:=hm
      replace hm:=inv_vTup hm;obtain ⟨l1,rfl,hm⟩:=hm
      replace hm:=ll_uncons hm;obtain ⟨v3,l1906_0,rfl,hm⟩:=hm
      replace hm:=ll_end hm;obtain ⟨rfl,hm⟩:=hm
      replace hm:=inv_vBool hm;obtain ⟨b6,rfl,hm⟩:=hm
      refine .reg (eN 8 (Fr.puts (fr 244 [(18,zB b3),(19,zI z4),(23,Sl.v 1 s2),(25,Sl.v 1 s3),(32,zB b4),(33,(zI (Int.ofNat k1))),(215,zI z5),(216,(zI (Int.ofNat k1)))]) [(219,zB false),(220,zB false),(221,Sl.v 1 s2),(222,(zI (Int.ofNat k1))),(223,(Sl.v 1 (Sl.mk ((Sl.n s2) - k1) (bb (an (Nat.beq (Sl.n s2) (Sl.n s2)) (orr false (Nat.beq (Sl.fl s2) 1))) 1 0) (takeL (((Sl.n s2) - k1) * 1) (dropL (k1 * 1) (Sl.cs s2)))))),(225,Sl.v 1 s2),(226,(zI (Int.ofNat k1))),(227,(Sl.v 1 (Sl.mk (k1 - 0) (bb (an (Nat.beq k1 (Sl.n s2)) (orr false (Nat.beq (Sl.fl s2) 1))) 1 0) (takeL ((k1 - 0) * 1) (dropL (0 * 1) (Sl.cs s2))))))]) (hp 0 []) (eD (some ((zB b4),(hp 0 []))) (show _ = some ((zB false),_) from (by rw [show b4 = false from h2])) (eC 3 (keep (hp 0 []) (asliceFs ti3 ⟨1,(Sl.n s2),(Sl.fl s2),(Sl.cs s2)⟩ (some (zI (Int.ofNat k1))) none none)) (asliceFs_eq (c1:=true) (c2:=(Nat.ble k1 (Sl.n s2))) (l:=k1) (h:=(Sl.n s2)) h3 (by kernel_rfl) (by kernel_rfl) rfl (by kernel_rfl) h5) (eC 2 (keep (hp 0 []) (asliceFs ti3 ⟨1,(Sl.n s2),(Sl.fl s2),(Sl.cs s2)⟩ none (some (zI (Int.ofNat k1))) none)) (asliceFs_eq (c1:=(Nat.ble k1 (Sl.n s2))) (c2:=true) (l:=0) (h:=k1) h6 (by kernel_rfl) (by kernel_rfl) h7 (by kernel_rfl) rfl) (by kernel_rfl)))) (eC 1 (bb (roomy (0 + (Sl.n (Sl.mk ((Sl.n s2) - k1) (bb (an (Nat.beq (Sl.n s2) (Sl.n s2)) (orr false (Nat.beq (Sl.fl s2) 1))) 1 0) (takeL (((Sl.n s2) - k1) * 1) (dropL (k1 * 1) (Sl.cs s2)))))) 8) (some ((sc 1 0 1 (Sl.n (Sl.mk ((Sl.n s2) - k1) (bb (an (Nat.beq (Sl.n s2) (Sl.n s2)) (orr false (Nat.beq (Sl.fl s2) 1))) 1 0) (takeL (((Sl.n s2) - k1) * 1) (dropL (k1 * 1) (Sl.cs s2))))) (d2 (Sl.n (Sl.mk ((Sl.n s2) - k1) (bb (an (Nat.beq (Sl.n s2) (Sl.n s2)) (orr false (Nat.beq (Sl.fl s2) 1))) 1 0) (takeL (((Sl.n s2) - k1) * 1) (dropL (k1 * 1) (Sl.cs s2))))))),(hp 2 [(oC []),(oC (takeL ((Sl.n (Sl.mk ((Sl.n s2) - k1) (bb (an (Nat.beq (Sl.n s2) (Sl.n s2)) (orr false (Nat.beq (Sl.fl s2) 1))) 1 0) (takeL (((Sl.n s2) - k1) * 1) (dropL (k1 * 1) (Sl.cs s2))))) * 1) (Sl.cs (Sl.mk ((Sl.n s2) - k1) (bb (an (Nat.beq (Sl.n s2) (Sl.n s2)) (orr false (Nat.beq (Sl.fl s2) 1))) 1 0) (takeL (((Sl.n s2) - k1) * 1) (dropL (k1 * 1) (Sl.cs s2)))))))]))) none) (bb_some h8) (eD (appFs (hp 2 [(oC []),(oC (takeL ((Sl.n (Sl.mk ((Sl.n s2) - k1) (bb (an (Nat.beq (Sl.n s2) (Sl.n s2)) (orr false (Nat.beq (Sl.fl s2) 1))) 1 0) (takeL (((Sl.n s2) - k1) * 1) (dropL (k1 * 1) (Sl.cs s2))))) * 1) (Sl.cs (Sl.mk ((Sl.n s2) - k1) (bb (an (Nat.beq (Sl.n s2) (Sl.n s2)) (orr false (Nat.beq (Sl.fl s2) 1))) 1 0) (takeL (((Sl.n s2) - k1) * 1) (dropL (k1 * 1) (Sl.cs s2)))))))]) 1 8 (sc 1 0 1 (Sl.n (Sl.mk ((Sl.n s2) - k1) (bb (an (Nat.beq (Sl.n s2) (Sl.n s2)) (orr false (Nat.beq (Sl.fl s2) 1))) 1 0) (takeL (((Sl.n s2) - k1) * 1) (dropL (k1 * 1) (Sl.cs s2))))) (d2 (Sl.n (Sl.mk ((Sl.n s2) - k1) (bb (an (Nat.beq (Sl.n s2) (Sl.n s2)) (orr false (Nat.beq (Sl.fl s2) 1))) 1 0) (takeL (((Sl.n s2) - k1) * 1) (dropL (k1 * 1) (Sl.cs s2))))))) (Sl.mk (k1 - 0) (bb (an (Nat.beq k1 (Sl.n s2)) (orr false (Nat.beq (Sl.fl s2) 1))) 1 0) (takeL ((k1 - 0) * 1) (dropL (0 * 1) (Sl.cs s2))))) (appFs_grow (H:=(hp 2 [(oC []),(oC (takeL ((Sl.n (Sl.mk ((Sl.n s2) - k1) (bb (an (Nat.beq (Sl.n s2) (Sl.n s2)) (orr false (Nat.beq (Sl.fl s2) 1))) 1 0) (takeL (((Sl.n s2) - k1) * 1) (dropL (k1 * 1) (Sl.cs s2))))) * 1) (Sl.cs (Sl.mk ((Sl.n s2) - k1) (bb (an (Nat.beq (Sl.n s2) (Sl.n s2)) (orr false (Nat.beq (Sl.fl s2) 1))) 1 0) (takeL (((Sl.n s2) - k1) * 1) (dropL (k1 * 1) (Sl.cs s2)))))))])) (id:=1) (n:=(Sl.n (Sl.mk ((Sl.n s2) - k1) (bb (an (Nat.beq (Sl.n s2) (Sl.n s2)) (orr false (Nat.beq (Sl.fl s2) 1))) 1 0) (takeL (((Sl.n s2) - k1) * 1) (dropL (k1 * 1) (Sl.cs s2)))))) (c2:=(d2 (Sl.n (Sl.mk ((Sl.n s2) - k1) (bb (an (Nat.beq (Sl.n s2) (Sl.n s2)) (orr false (Nat.beq (Sl.fl s2) 1))) 1 0) (takeL (((Sl.n s2) - k1) * 1) (dropL (k1 * 1) (Sl.cs s2))))))) (xs:=(takeL ((Sl.n (Sl.mk ((Sl.n s2) - k1) (bb (an (Nat.beq (Sl.n s2) (Sl.n s2)) (orr false (Nat.beq (Sl.fl s2) 1))) 1 0) (takeL (((Sl.n s2) - k1) * 1) (dropL (k1 * 1) (Sl.cs s2))))) * 1) (Sl.cs (Sl.mk ((Sl.n s2) - k1) (bb (an (Nat.beq (Sl.n s2) (Sl.n s2)) (orr false (Nat.beq (Sl.fl s2) 1))) 1 0) (takeL (((Sl.n s2) - k1) * 1) (dropL (k1 * 1) (Sl.cs s2))))))) (anc:=[]) h9 (by kernel_rfl) (by kernel_rfl) h10) (eD (objG tabs [[some 1],[some 1]] 2 [] [] (pu 10230) [(sc 2 0 1 ((Sl.n (Sl.mk ((Sl.n s2) - k1) (bb (an (Nat.beq (Sl.n s2) (Sl.n s2)) (orr false (Nat.beq (Sl.fl s2) 1))) 1 0) (takeL (((Sl.n s2) - k1) * 1) (dropL (k1 * 1) (Sl.cs s2))))) + (Sl.n (Sl.mk (k1 - 0) (bb (an (Nat.beq k1 (Sl.n s2)) (orr false (Nat.beq (Sl.fl s2) 1))) 1 0) (takeL ((k1 - 0) * 1) (dropL (0 * 1) (Sl.cs s2)))))) (d2 ((Sl.n (Sl.mk ((Sl.n s2) - k1) (bb (an (Nat.beq (Sl.n s2) (Sl.n s2)) (orr false (Nat.beq (Sl.fl s2) 1))) 1 0) (takeL (((Sl.n s2) - k1) * 1) (dropL (k1 * 1) (Sl.cs s2))))) + (Sl.n (Sl.mk (k1 - 0) (bb (an (Nat.beq k1 (Sl.n s2)) (orr false (Nat.beq (Sl.fl s2) 1))) 1 0) (takeL ((k1 - 0) * 1) (dropL (0 * 1) (Sl.cs s2)))))))),Sl.v 1 s3] (hp 3 [(oC []),(oS (takeL ((Sl.n (Sl.mk ((Sl.n s2) - k1) (bb (an (Nat.beq (Sl.n s2) (Sl.n s2)) (orr false (Nat.beq (Sl.fl s2) 1))) 1 0) (takeL (((Sl.n s2) - k1) * 1) (dropL (k1 * 1) (Sl.cs s2))))) * 1) (Sl.cs (Sl.mk ((Sl.n s2) - k1) (bb (an (Nat.beq (Sl.n s2) (Sl.n s2)) (orr false (Nat.beq (Sl.fl s2) 1))) 1 0) (takeL (((Sl.n s2) - k1) * 1) (dropL (k1 * 1) (Sl.cs s2))))))),(.cells (appL (dropL 0 (takeL ((Sl.n (Sl.mk ((Sl.n s2) - k1) (bb (an (Nat.beq (Sl.n s2) (Sl.n s2)) (orr false (Nat.beq (Sl.fl s2) 1))) 1 0) (takeL (((Sl.n s2) - k1) * 1) (dropL (k1 * 1) (Sl.cs s2))))) * 1) (Sl.cs (Sl.mk ((Sl.n s2) - k1) (bb (an (Nat.beq (Sl.n s2) (Sl.n s2)) (orr false (Nat.beq (Sl.fl s2) 1))) 1 0) (takeL (((Sl.n s2) - k1) * 1) (dropL (k1 * 1) (Sl.cs s2))))))) (takeL ((Sl.n (Sl.mk (k1 - 0) (bb (an (Nat.beq k1 (Sl.n s2)) (orr false (Nat.beq (Sl.fl s2) 1))) 1 0) (takeL ((k1 - 0) * 1) (dropL (0 * 1) (Sl.cs s2))))) * 1) (Sl.cs (Sl.mk (k1 - 0) (bb (an (Nat.beq k1 (Sl.n s2)) (orr false (Nat.beq (Sl.fl s2) 1))) 1 0) (takeL ((k1 - 0) * 1) (dropL (0 * 1) (Sl.cs s2))))))) false false [1])])) (objG_eq (as:=[(Sl.v 1 (Sl.mk ((Sl.n (Sl.mk ((Sl.n s2) - k1) (bb (an (Nat.beq (Sl.n s2) (Sl.n s2)) (orr false (Nat.beq (Sl.fl s2) 1))) 1 0) (takeL (((Sl.n s2) - k1) * 1) (dropL (k1 * 1) (Sl.cs s2))))) + (Sl.n (Sl.mk (k1 - 0) (bb (an (Nat.beq k1 (Sl.n s2)) (orr false (Nat.beq (Sl.fl s2) 1))) 1 0) (takeL ((k1 - 0) * 1) (dropL (0 * 1) (Sl.cs s2)))))) 0 (takeL (((Sl.n (Sl.mk ((Sl.n s2) - k1) (bb (an (Nat.beq (Sl.n s2) (Sl.n s2)) (orr false (Nat.beq (Sl.fl s2) 1))) 1 0) (takeL (((Sl.n s2) - k1) * 1) (dropL (k1 * 1) (Sl.cs s2))))) + (Sl.n (Sl.mk (k1 - 0) (bb (an (Nat.beq k1 (Sl.n s2)) (orr false (Nat.beq (Sl.fl s2) 1))) 1 0) (takeL ((k1 - 0) * 1) (dropL (0 * 1) (Sl.cs s2)))))) * 1) (dropL 0 (appL (dropL 0 (takeL ((Sl.n (Sl.mk ((Sl.n s2) - k1) (bb (an (Nat.beq (Sl.n s2) (Sl.n s2)) (orr false (Nat.beq (Sl.fl s2) 1))) 1 0) (takeL (((Sl.n s2) - k1) * 1) (dropL (k1 * 1) (Sl.cs s2))))) * 1) (Sl.cs (Sl.mk ((Sl.n s2) - k1) (bb (an (Nat.beq (Sl.n s2) (Sl.n s2)) (orr false (Nat.beq (Sl.fl s2) 1))) 1 0) (takeL (((Sl.n s2) - k1) * 1) (dropL (k1 * 1) (Sl.cs s2))))))) (takeL ((Sl.n (Sl.mk (k1 - 0) (bb (an (Nat.beq k1 (Sl.n s2)) (orr false (Nat.beq (Sl.fl s2) 1))) 1 0) (takeL ((k1 - 0) * 1) (dropL (0 * 1) (Sl.cs s2))))) * 1) (Sl.cs (Sl.mk (k1 - 0) (bb (an (Nat.beq k1 (Sl.n s2)) (orr false (Nat.beq (Sl.fl s2) 1))) 1 0) (takeL ((k1 - 0) * 1) (dropL (0 * 1) (Sl.cs s2))))))))))),Sl.v 1 s3]) (H1:=(hp 3 [(oC []),(oS (takeL ((Sl.n (Sl.mk ((Sl.n s2) - k1) (bb (an (Nat.beq (Sl.n s2) (Sl.n s2)) (orr false (Nat.beq (Sl.fl s2) 1))) 1 0) (takeL (((Sl.n s2) - k1) * 1) (dropL (k1 * 1) (Sl.cs s2))))) * 1) (Sl.cs (Sl.mk ((Sl.n s2) - k1) (bb (an (Nat.beq (Sl.n s2) (Sl.n s2)) (orr false (Nat.beq (Sl.fl s2) 1))) 1 0) (takeL (((Sl.n s2) - k1) * 1) (dropL (k1 * 1) (Sl.cs s2))))))),.dead])) (gvAL_c (gvA_1 (gv_s (show giveV 1 (sc 2 0 1 ((Sl.n (Sl.mk ((Sl.n s2) - k1) (bb (an (Nat.beq (Sl.n s2) (Sl.n s2)) (orr false (Nat.beq (Sl.fl s2) 1))) 1 0) (takeL (((Sl.n s2) - k1) * 1) (dropL (k1 * 1) (Sl.cs s2))))) + (Sl.n (Sl.mk (k1 - 0) (bb (an (Nat.beq k1 (Sl.n s2)) (orr false (Nat.beq (Sl.fl s2) 1))) 1 0) (takeL ((k1 - 0) * 1) (dropL (0 * 1) (Sl.cs s2)))))) (d2 ((Sl.n (Sl.mk ((Sl.n s2) - k1) (bb (an (Nat.beq (Sl.n s2) (Sl.n s2)) (orr false (Nat.beq (Sl.fl s2) 1))) 1 0) (takeL (((Sl.n s2) - k1) * 1) (dropL (k1 * 1) (Sl.cs s2))))) + (Sl.n (Sl.mk (k1 - 0) (bb (an (Nat.beq k1 (Sl.n s2)) (orr false (Nat.beq (Sl.fl s2) 1))) 1 0) (takeL ((k1 - 0) * 1) (dropL (0 * 1) (Sl.cs s2)))))))) (hp 3 [(oC []),(oS (takeL ((Sl.n (Sl.mk ((Sl.n s2) - k1) (bb (an (Nat.beq (Sl.n s2) (Sl.n s2)) (orr false (Nat.beq (Sl.fl s2) 1))) 1 0) (takeL (((Sl.n s2) - k1) * 1) (dropL (k1 * 1) (Sl.cs s2))))) * 1) (Sl.cs (Sl.mk ((Sl.n s2) - k1) (bb (an (Nat.beq (Sl.n s2) (Sl.n s2)) (orr false (Nat.beq (Sl.fl s2) 1))) 1 0) (takeL (((Sl.n s2) - k1) * 1) (dropL (k1 * 1) (Sl.cs s2))))))),(.cells (appL (dropL 0 (takeL ((Sl.n (Sl.mk ((Sl.n s2) - k1) (bb (an (Nat.beq (Sl.n s2) (Sl.n s2)) (orr false (Nat.beq (Sl.fl s2) 1))) 1 0) (takeL (((Sl.n s2) - k1) * 1) (dropL (k1 * 1) (Sl.cs s2))))) * 1) (Sl.cs (Sl.mk ((Sl.n s2) - k1) (bb (an (Nat.beq (Sl.n s2) (Sl.n s2)) (orr false (Nat.beq (Sl.fl s2) 1))) 1 0) (takeL (((Sl.n s2) - k1) * 1) (dropL (k1 * 1) (Sl.cs s2))))))) (takeL ((Sl.n (Sl.mk (k1 - 0) (bb (an (Nat.beq k1 (Sl.n s2)) (orr false (Nat.beq (Sl.fl s2) 1))) 1 0) (takeL ((k1 - 0) * 1) (dropL (0 * 1) (Sl.cs s2))))) * 1) (Sl.cs (Sl.mk (k1 - 0) (bb (an (Nat.beq k1 (Sl.n s2)) (orr false (Nat.beq (Sl.fl s2) 1))) 1 0) (takeL ((k1 - 0) * 1) (dropL (0 * 1) (Sl.cs s2))))))) false false [1])]) = some ((Sl.v 1 (Sl.mk ((Sl.n (Sl.mk ((Sl.n s2) - k1) (bb (an (Nat.beq (Sl.n s2) (Sl.n s2)) (orr false (Nat.beq (Sl.fl s2) 1))) 1 0) (takeL (((Sl.n s2) - k1) * 1) (dropL (k1 * 1) (Sl.cs s2))))) + (Sl.n (Sl.mk (k1 - 0) (bb (an (Nat.beq k1 (Sl.n s2)) (orr false (Nat.beq (Sl.fl s2) 1))) 1 0) (takeL ((k1 - 0) * 1) (dropL (0 * 1) (Sl.cs s2)))))) 0 (takeL (((Sl.n (Sl.mk ((Sl.n s2) - k1) (bb (an (Nat.beq (Sl.n s2) (Sl.n s2)) (orr false (Nat.beq (Sl.fl s2) 1))) 1 0) (takeL (((Sl.n s2) - k1) * 1) (dropL (k1 * 1) (Sl.cs s2))))) + (Sl.n (Sl.mk (k1 - 0) (bb (an (Nat.beq k1 (Sl.n s2)) (orr false (Nat.beq (Sl.fl s2) 1))) 1 0) (takeL ((k1 - 0) * 1) (dropL (0 * 1) (Sl.cs s2)))))) * 1) (dropL 0 (appL (dropL 0 (takeL ((Sl.n (Sl.mk ((Sl.n s2) - k1) (bb (an (Nat.beq (Sl.n s2) (Sl.n s2)) (orr false (Nat.beq (Sl.fl s2) 1))) 1 0) (takeL (((Sl.n s2) - k1) * 1) (dropL (k1 * 1) (Sl.cs s2))))) * 1) (Sl.cs (Sl.mk ((Sl.n s2) - k1) (bb (an (Nat.beq (Sl.n s2) (Sl.n s2)) (orr false (Nat.beq (Sl.fl s2) 1))) 1 0) (takeL (((Sl.n s2) - k1) * 1) (dropL (k1 * 1) (Sl.cs s2))))))) (takeL ((Sl.n (Sl.mk (k1 - 0) (bb (an (Nat.beq k1 (Sl.n s2)) (orr false (Nat.beq (Sl.fl s2) 1))) 1 0) (takeL ((k1 - 0) * 1) (dropL (0 * 1) (Sl.cs s2))))) * 1) (Sl.cs (Sl.mk (k1 - 0) (bb (an (Nat.beq k1 (Sl.n s2)) (orr false (Nat.beq (Sl.fl s2) 1))) 1 0) (takeL ((k1 - 0) * 1) (dropL (0 * 1) (Sl.cs s2))))))))))),(hp 3 [(oC []),(oS (takeL ((Sl.n (Sl.mk ((Sl.n s2) - k1) (bb (an (Nat.beq (Sl.n s2) (Sl.n s2)) (orr false (Nat.beq (Sl.fl s2) 1))) 1 0) (takeL (((Sl.n s2) - k1) * 1) (dropL (k1 * 1) (Sl.cs s2))))) * 1) (Sl.cs (Sl.mk ((Sl.n s2) - k1) (bb (an (Nat.beq (Sl.n s2) (Sl.n s2)) (orr false (Nat.beq (Sl.fl s2) 1))) 1 0) (takeL (((Sl.n s2) - k1) * 1) (dropL (k1 * 1) (Sl.cs s2))))))),.dead])) from giveV_sl 2 0 1 ((Sl.n (Sl.mk ((Sl.n s2) - k1) (bb (an (Nat.beq (Sl.n s2) (Sl.n s2)) (orr false (Nat.beq (Sl.fl s2) 1))) 1 0) (takeL (((Sl.n s2) - k1) * 1) (dropL (k1 * 1) (Sl.cs s2))))) + (Sl.n (Sl.mk (k1 - 0) (bb (an (Nat.beq k1 (Sl.n s2)) (orr false (Nat.beq (Sl.fl s2) 1))) 1 0) (takeL ((k1 - 0) * 1) (dropL (0 * 1) (Sl.cs s2)))))) (d2 ((Sl.n (Sl.mk ((Sl.n s2) - k1) (bb (an (Nat.beq (Sl.n s2) (Sl.n s2)) (orr false (Nat.beq (Sl.fl s2) 1))) 1 0) (takeL (((Sl.n s2) - k1) * 1) (dropL (k1 * 1) (Sl.cs s2))))) + (Sl.n (Sl.mk (k1 - 0) (bb (an (Nat.beq k1 (Sl.n s2)) (orr false (Nat.beq (Sl.fl s2) 1))) 1 0) (takeL ((k1 - 0) * 1) (dropL (0 * 1) (Sl.cs s2))))))) (appL (dropL 0 (takeL ((Sl.n (Sl.mk ((Sl.n s2) - k1) (bb (an (Nat.beq (Sl.n s2) (Sl.n s2)) (orr false (Nat.beq (Sl.fl s2) 1))) 1 0) (takeL (((Sl.n s2) - k1) * 1) (dropL (k1 * 1) (Sl.cs s2))))) * 1) (Sl.cs (Sl.mk ((Sl.n s2) - k1) (bb (an (Nat.beq (Sl.n s2) (Sl.n s2)) (orr false (Nat.beq (Sl.fl s2) 1))) 1 0) (takeL (((Sl.n s2) - k1) * 1) (dropL (k1 * 1) (Sl.cs s2))))))) (takeL ((Sl.n (Sl.mk (k1 - 0) (bb (an (Nat.beq k1 (Sl.n s2)) (orr false (Nat.beq (Sl.fl s2) 1))) 1 0) (takeL ((k1 - 0) * 1) (dropL (0 * 1) (Sl.cs s2))))) * 1) (Sl.cs (Sl.mk (k1 - 0) (bb (an (Nat.beq k1 (Sl.n s2)) (orr false (Nat.beq (Sl.fl s2) 1))) 1 0) (takeL ((k1 - 0) * 1) (dropL (0 * 1) (Sl.cs s2))))))) [1] (by kernel_rfl) (by kernel_rfl) h12))) (gvAL_c (gvA_1 (gv_s (giveV_cl (z:=1) (v:=(Sl.v 1 s3)) (H:=(hp 3 [(oC []),(oS (takeL ((Sl.n (Sl.mk ((Sl.n s2) - k1) (bb (an (Nat.beq (Sl.n s2) (Sl.n s2)) (orr false (Nat.beq (Sl.fl s2) 1))) 1 0) (takeL (((Sl.n s2) - k1) * 1) (dropL (k1 * 1) (Sl.cs s2))))) * 1) (Sl.cs (Sl.mk ((Sl.n s2) - k1) (bb (an (Nat.beq (Sl.n s2) (Sl.n s2)) (orr false (Nat.beq (Sl.fl s2) 1))) 1 0) (takeL (((Sl.n s2) - k1) * 1) (dropL (k1 * 1) (Sl.cs s2))))))),.dead])) (by kernel_rfl) (by kernel_rfl) (by kernel_rfl)))) gvAL_n)) (objF_eq (H2:=(hp 3 [(oC []),(oS (takeL ((Sl.n (Sl.mk ((Sl.n s2) - k1) (bb (an (Nat.beq (Sl.n s2) (Sl.n s2)) (orr false (Nat.beq (Sl.fl s2) 1))) 1 0) (takeL (((Sl.n s2) - k1) * 1) (dropL (k1 * 1) (Sl.cs s2))))) * 1) (Sl.cs (Sl.mk ((Sl.n s2) - k1) (bb (an (Nat.beq (Sl.n s2) (Sl.n s2)) (orr false (Nat.beq (Sl.fl s2) 1))) 1 0) (takeL (((Sl.n s2) - k1) * 1) (dropL (k1 * 1) (Sl.cs s2))))))),.dead])) (v:=(zB b6)) (v':=(zB b6)) [] [] [] [(Sl.v 1 (Sl.mk ((Sl.n (Sl.mk ((Sl.n s2) - k1) (bb (an (Nat.beq (Sl.n s2) (Sl.n s2)) (orr false (Nat.beq (Sl.fl s2) 1))) 1 0) (takeL (((Sl.n s2) - k1) * 1) (dropL (k1 * 1) (Sl.cs s2))))) + (Sl.n (Sl.mk (k1 - 0) (bb (an (Nat.beq k1 (Sl.n s2)) (orr false (Nat.beq (Sl.fl s2) 1))) 1 0) (takeL ((k1 - 0) * 1) (dropL (0 * 1) (Sl.cs s2)))))) 0 (takeL (((Sl.n (Sl.mk ((Sl.n s2) - k1) (bb (an (Nat.beq (Sl.n s2) (Sl.n s2)) (orr false (Nat.beq (Sl.fl s2) 1))) 1 0) (takeL (((Sl.n s2) - k1) * 1) (dropL (k1 * 1) (Sl.cs s2))))) + (Sl.n (Sl.mk (k1 - 0) (bb (an (Nat.beq k1 (Sl.n s2)) (orr false (Nat.beq (Sl.fl s2) 1))) 1 0) (takeL ((k1 - 0) * 1) (dropL (0 * 1) (Sl.cs s2)))))) * 1) (dropL 0 (appL (dropL 0 (takeL ((Sl.n (Sl.mk ((Sl.n s2) - k1) (bb (an (Nat.beq (Sl.n s2) (Sl.n s2)) (orr false (Nat.beq (Sl.fl s2) 1))) 1 0) (takeL (((Sl.n s2) - k1) * 1) (dropL (k1 * 1) (Sl.cs s2))))) * 1) (Sl.cs (Sl.mk ((Sl.n s2) - k1) (bb (an (Nat.beq (Sl.n s2) (Sl.n s2)) (orr false (Nat.beq (Sl.fl s2) 1))) 1 0) (takeL (((Sl.n s2) - k1) * 1) (dropL (k1 * 1) (Sl.cs s2))))))) (takeL ((Sl.n (Sl.mk (k1 - 0) (bb (an (Nat.beq k1 (Sl.n s2)) (orr false (Nat.beq (Sl.fl s2) 1))) 1 0) (takeL ((k1 - 0) * 1) (dropL (0 * 1) (Sl.cs s2))))) * 1) (Sl.cs (Sl.mk (k1 - 0) (bb (an (Nat.beq k1 (Sl.n s2)) (orr false (Nat.beq (Sl.fl s2) 1))) 1 0) (takeL ((k1 - 0) * 1) (dropL (0 * 1) (Sl.cs s2))))))))))),Sl.v 1 s3] [] [] [none,none,none] [] [] (by kernel_rfl) mapO_n (Eq.trans (by kernel_rfl) h13) mapO_n mapO_n)) (eE))))) ?_
      refine .ghs (fr 244 [(18,zB b3),(19,zI z4),(23,Sl.v 1 s2),(25,Sl.v 1 s3),(32,zB b6),(215,zI z5),(216,(zI (Int.ofNat k1)))]) (hp 0 []) (.k0 [] [] [18,19,23,25,32,215,216]) ?_
      refine .rK ?_
      exact ⟨(b3,z4,s2,s3,b6,z5,(wrapF .i64 (Int.add (Int.ofNat k1) (1:Int)))),hm,(.k0 [] [] [18,19,23,25,32,215,216])⟩
   ·refine .ifF (ilt z6 z5) (by kernel_rfl) h1 ?_
    refine .exit ?_
    exact ⟨(b3,z4,b4),hm,(.k0 [] [] [18,19,32])⟩
theorem w11_2 (pu:PureF) (n:Nat) (z0 z1 z2 z3:Int) (b0:Bool) (z4 z5:Int) (b1:Bool) (z6 z7:Int) (s0:Sl) (z8:Int) (s1:Sl) {v:Value} (hm:m11_2 pu n z0 z1 z2 z3 b0 z4 z5 b1 z6 z7 s0 z8 s1 = some v):Run tt (callP tabs isP pu (inl pu)) 0 c11_137 (fr 244 [(9,zI z0),(10,.int .u32 z1),(11,.int .u32 z2),(12,(pt 0 0)),(13,pt 1 0),(14,zI z3),(15,zB b0),(16,zI z4),(17,zI z5),(18,zB b1),(19,zI z6)]) (hp 2 [(oC [zI z7,Sl.v 1 s0]),(oC [zI z8,Sl.v 1 s1])]) (Fin tt 0 [.tmp 8] v):=by
 unfold m11_2 at hm
 refine .then ?_
 refine .join (v:=v) (fun y:Int×Int×Int×Bool×Int×Bool×Int×Sl×Int×Sl=>((fr 244 [(9,(zI y.1)),(10,(.int .u32 y.2.1)),(11,(.int .u32 y.2.2.1)),(12,(pt 0 0)),(13,pt 1 0),(18,(zB y.2.2.2.1)),(19,(zI y.2.2.2.2.1)),(116,(zB y.2.2.2.2.2.1))]),(hp 2 [(oC [(zI y.2.2.2.2.2.2.1),(Sl.v 1 y.2.2.2.2.2.2.2.1)]),(oC [(zI y.2.2.2.2.2.2.2.2.1),(Sl.v 1 y.2.2.2.2.2.2.2.2.2)])]))) (fun y=>m11_3 pu n y.1 y.2.1 y.2.2.1 y.2.2.2.1 y.2.2.2.2.1 y.2.2.2.2.2.1 y.2.2.2.2.2.2.1 y.2.2.2.2.2.2.2.1 y.2.2.2.2.2.2.2.2.1 y.2.2.2.2.2.2.2.2.2) ?_ ?_
 ·rintro ⟨z9, z10, z11, b2, z12, b3, z13, s2, z14, s3⟩ hm
  unfold m11_3 at hm
  replace hm:=bb_cases hm;rcases hm with ⟨h0,hm⟩ | ⟨h0,hm⟩
  ·refine .ifT b3 (by kernel_rfl) h0 ?_
   refine .then (.rK ?_)
   refine .ghs (fr 244 [(8,zB false)]) (hp 0 []) (.k0 [] [] [8]) ?_
   refine .ret ?_
   exact fin_ret (zB false) (by kernel_rfl) (by kernel_rfl) hm
  ·refine .ifF b3 (by kernel_rfl) h0 ?_
   refine .skip ?_
   refine .ghs (fr 244 [(9,zI z9),(10,.int .u32 z10),(11,.int .u32 z11),(12,(pt 0 0)),(13,pt 1 0),(18,zB b2),(19,zI z12)]) (hp 2 [(oC [zI z13,Sl.v 1 s2]),(oC [zI z14,Sl.v 1 s3])]) (.k0 [] [.tmp 12 false,.tmp 13 false] [9,10,11,12,13,18,19]) ?_
   refine .then ?_
   replace hm:=oo_inv hm;obtain ⟨v0,h1,hm⟩:=hm
   replace hm:=inv_vTup hm;obtain ⟨l0,rfl,hm⟩:=hm
   replace hm:=ll_uncons hm;obtain ⟨v1,l1440_0,rfl,hm⟩:=hm
   replace hm:=ll_uncons hm;obtain ⟨v2,l1440_1,rfl,hm⟩:=hm
   replace hm:=ll_end hm;obtain ⟨rfl,hm⟩:=hm
   replace hm:=inv_toSl hm;obtain ⟨s4,rfl,hm⟩:=hm
   replace hm:=inv_toI hm;obtain ⟨x0,rfl,hm⟩:=hm
   refine .reg (eC 1 ((oo (pu 15 [(.agg ⟨[zI z13,Sl.v 1 s2]⟩)]) none fun v=>some (v,(hp 2 [(oC [zI z13,Sl.v 1 s2]),(oC [zI z14,Sl.v 1 s3])])))) (call_eq h1) (eE)) ?_
   refine .ghs (fr 244 [(9,zI z9),(10,.int .u32 z10),(11,.int .u32 z11),(13,(pt 0 0)),(18,zB b2),(19,zI z12),(23,Sl.v 1 s4),(24,zI x0)]) (hp 1 [(oC [zI z14,Sl.v 1 s3])]) (.k0 [] [.tmp 13 false] [9,10,11,13,18,19,23,24]) ?_
   refine .then ?_
   replace hm:=oo_inv hm;obtain ⟨v3,h2,hm⟩:=hm
   replace hm:=inv_vTup hm;obtain ⟨l1,rfl,hm⟩:=hm
   replace hm:=ll_uncons hm;obtain ⟨v4,l1460_0,rfl,hm⟩:=hm
   replace hm:=ll_uncons hm;obtain ⟨v5,l1460_1,rfl,hm⟩:=hm
   replace hm:=ll_end hm;obtain ⟨rfl,hm⟩:=hm
   replace hm:=inv_toSl hm;obtain ⟨s5,rfl,hm⟩:=hm
   replace hm:=inv_toI hm;obtain ⟨x1,rfl,hm⟩:=hm
   refine .reg (eC 1 ((oo (pu 15 [(.agg ⟨[zI z14,Sl.v 1 s3]⟩)]) none fun v=>some (v,(hp 1 [(oC [zI z14,Sl.v 1 s3])])))) (call_eq h2) (eE)) ?_
   refine .ghs (fr 244 [(9,zI z9),(10,.int .u32 z10),(11,.int .u32 z11),(18,zB b2),(19,zI z12),(23,Sl.v 1 s4),(24,zI x0),(25,Sl.v 1 s5),(26,zI x1)]) (hp 0 []) (.k0 [] [] [9,10,11,18,19,23,24,25,26]) ?_
   refine .then ?_
   refine .join (v:=v) (fun y:Int×Int×Int×Bool×Int×Sl×Int×Sl×Int×Bool=>((fr 244 [(9,(zI y.1)),(10,(.int .u32 y.2.1)),(11,(.int .u32 y.2.2.1)),(18,(zB y.2.2.2.1)),(19,(zI y.2.2.2.2.1)),(23,(Sl.v 1 y.2.2.2.2.2.1)),(24,(zI y.2.2.2.2.2.2.1)),(25,(Sl.v 1 y.2.2.2.2.2.2.2.1)),(26,(zI y.2.2.2.2.2.2.2.2.1)),(132,(zB y.2.2.2.2.2.2.2.2.2))]),(hp 0 []))) (fun y=>m11_4 pu n y.1 y.2.1 y.2.2.1 y.2.2.2.1 y.2.2.2.2.1 y.2.2.2.2.2.1 y.2.2.2.2.2.2.1 y.2.2.2.2.2.2.2.1 y.2.2.2.2.2.2.2.2.1 y.2.2.2.2.2.2.2.2.2) ?_ ?_
   ·rintro ⟨z15, z16, z17, b4, z18, s6, z19, s7, z20, b5⟩ hm
    unfold m11_4 at hm
    replace hm:=bb_cases hm;rcases hm with ⟨h3,hm⟩ | ⟨h3,hm⟩
    ·refine .ifT b5 (by kernel_rfl) h3 ?_
     refine .join (v:=v) (fun y:Bool=>((fr 244 [(8,zB y)]),(hp 0 []))) (fun y=>m11_5 pu n y) ?_ ?_
     ·rintro b6 hm
      unfold m11_5 at hm
      refine .ret ?_
      exact fin_ret (zB b6) (by kernel_rfl) (by kernel_rfl) hm
     ·replace hm := bb_cases hm; rcases hm with ⟨h4, hm⟩ | ⟨h4, hm⟩
      ·replace hm := bb_cases hm; rcases hm with ⟨h5, hm⟩ | ⟨h5, hm⟩
       ·replace hm := oo_inv hm; obtain ⟨v6, h6, hm⟩ := hm
        replace hm:=oo_inv hm;obtain ⟨b7,h7,hm⟩:=hm
        obtain rfl:=vBool_some h7
        refine .reg (eC 1 (some ((zB (ilt (0:Int) z16)),(hp 0 []))) (show _ = some ((zB true),_) from (by rw [show (ilt (0:Int) z16) = true from h4])) (eC 6 (some ((zB (ilt (0:Int) z17)),(hp 0 []))) (show _ = some ((zB true),_) from (by rw [show (ilt (0:Int) z17) = true from h5])) (eC 6 ((oo (pu 14 []) none fun v=>some (v,(hp 0 [])))) (call_eq h6) (eE)))) ?_
        exact ⟨b7,hm,(.k0 [] [] [8])⟩
       ·replace hm := bb_cases hm; rcases hm with ⟨h8, hm⟩ | ⟨h8, hm⟩
        ·replace hm := oo_inv hm; obtain ⟨v7, h9, hm⟩ := hm
         replace hm:=oo_inv hm;obtain ⟨b8,h10,hm⟩:=hm
         obtain rfl:=vBool_some h10
         refine .reg (eC 1 (some ((zB (ilt (0:Int) z16)),(hp 0 []))) (show _ = some ((zB true),_) from (by rw [show (ilt (0:Int) z16) = true from h4])) (eC 6 (some ((zB (ilt (0:Int) z17)),(hp 0 []))) (show _ = some ((zB false),_) from (by rw [show (ilt (0:Int) z17) = false from h5])) (eC 2 (some ((zB (ieq z20 (4:Int))),(hp 0 []))) (show _ = some ((zB true),_) from (by rw [show (ieq z20 (4:Int)) = true from h8])) (eC 3 ((oo (pu 14 []) none fun v=>some (v,(hp 0 [])))) (call_eq h9) (eE))))) ?_
         exact ⟨b8,hm,(.k0 [] [] [8])⟩
        ·refine .reg (eC 1 (some ((zB (ilt (0 : Int) z16)), (hp 0 []))) (show _ = some ((zB true), _) from (by rw [show (ilt (0 : Int) z16) = true from h4])) (eC 6 (some ((zB (ilt (0 : Int) z17)), (hp 0 []))) (show _ = some ((zB false), _) from (by rw [show (ilt (0 : Int) z17) = false from h5])) (eC 2 (some ((zB (ieq z20 (4 : Int))), (hp 0 []))) (show _ = some ((zB false), _) from (by rw [show (ieq z20 (4 : Int)) = false from h8])) (eE)))) ?_
         exact ⟨false,hm,(.k0 [] [] [8])⟩
      ·replace hm := bb_cases hm; rcases hm with ⟨h5, hm⟩ | ⟨h5, hm⟩
       ·replace hm := bb_cases hm; rcases hm with ⟨h8, hm⟩ | ⟨h8, hm⟩
        ·replace hm := oo_inv hm; obtain ⟨v7, h9, hm⟩ := hm
         replace hm:=inv_vBool hm;obtain ⟨b8,rfl,hm⟩:=hm
         refine .reg (eC 1 (some ((zB (ilt (0:Int) z16)),(hp 0 []))) (show _ = some ((zB false),_) from (by rw [show (ilt (0:Int) z16) = false from h4])) (eC 2 (some ((zB (ieq z19 (4:Int))),(hp 0 []))) (show _ = some ((zB true),_) from (by rw [show (ieq z19 (4:Int)) = true from h5])) (eC 3 (some ((zB (ilt (0:Int) z17)),(hp 0 []))) (show _ = some ((zB true),_) from (by rw [show (ilt (0:Int) z17) = true from h8])) (eC 6 ((oo (pu 14 []) none fun v=>some (v,(hp 0 [])))) (call_eq h9) (eE))))) ?_
         exact ⟨b8,hm,(.k0 [] [] [8])⟩
        ·replace hm := bb_cases hm; rcases hm with ⟨h6, hm⟩ | ⟨h6, hm⟩
         ·replace hm := oo_inv hm; obtain ⟨v8, h7, hm⟩ := hm
          replace hm:=inv_vBool hm;obtain ⟨b9,rfl,hm⟩:=hm
          refine .reg (eC 1 (some ((zB (ilt (0:Int) z16)),(hp 0 []))) (show _ = some ((zB false),_) from (by rw [show (ilt (0:Int) z16) = false from h4])) (eC 2 (some ((zB (ieq z19 (4:Int))),(hp 0 []))) (show _ = some ((zB true),_) from (by rw [show (ieq z19 (4:Int)) = true from h5])) (eC 3 (some ((zB (ilt (0:Int) z17)),(hp 0 []))) (show _ = some ((zB false),_) from (by rw [show (ilt (0:Int) z17) = false from h8])) (eC 2 (some ((zB (ieq z20 (4:Int))),(hp 0 []))) (show _ = some ((zB true),_) from (by rw [show (ieq z20 (4:Int)) = true from h6])) (eC 3 ((oo (pu 14 []) none fun v=>some (v,(hp 0 [])))) (call_eq h7) (eE)))))) ?_
          exact ⟨b9,hm,(.k0 [] [] [8])⟩
         ·refine .reg (eC 1 (some ((zB (ilt (0 : Int) z16)), (hp 0 []))) (show _ = some ((zB false), _) from (by rw [show (ilt (0 : Int) z16) = false from h4])) (eC 2 (some ((zB (ieq z19 (4 : Int))), (hp 0 []))) (show _ = some ((zB true), _) from (by rw [show (ieq z19 (4 : Int)) = true from h5])) (eC 3 (some ((zB (ilt (0 : Int) z17)), (hp 0 []))) (show _ = some ((zB false), _) from (by rw [show (ilt (0 : Int) z17) = false from h8])) (eC 2 (some ((zB (ieq z20 (4 : Int))), (hp 0 []))) (show _ = some ((zB false), _) from (by rw [show (ieq z20 (4 : Int)) = false from h6])) (eE))))) ?_
          exact ⟨false,hm,(.k0 [] [] [8])⟩
       ·refine .reg (eC 1 (some ((zB (ilt (0 : Int) z16)), (hp 0 []))) (show _ = some ((zB false), _) from (by rw [show (ilt (0 : Int) z16) = false from h4])) (eC 2 (some ((zB (ieq z19 (4 : Int))), (hp 0 []))) (show _ = some ((zB false), _) from (by rw [show (ieq z19 (4 : Int)) = false from h5])) (eE))) ?_
        exact ⟨false,hm,(.k0 [] [] [8])⟩
    ·refine .ifF b5 (by kernel_rfl) h3 ?_
     refine .skip ?_
     refine .ghs (fr 244 [(9,zI z15),(10,.int .u32 z16),(11,.int .u32 z17),(18,zB b4),(19,zI z18),(23,Sl.v 1 s6),(24,zI z19),(25,Sl.v 1 s7),(26,zI z20)]) (hp 0 []) (.k0 [] [] [9,10,11,18,19,23,24,25,26]) ?_
     refine .then ?_
     refine .join (v:=v) (fun y:Int×Int×Bool×Int×Sl×Sl×Bool=>((fr 244 [(9,(zI y.1)),(10,(.int .u32 y.2.1)),(18,(zB y.2.2.1)),(19,(zI y.2.2.2.1)),(23,(Sl.v 1 y.2.2.2.2.1)),(25,(Sl.v 1 y.2.2.2.2.2.1)),(169,(zB y.2.2.2.2.2.2))]),(hp 0 []))) (fun y=>m11_6 pu n y.1 y.2.1 y.2.2.1 y.2.2.2.1 y.2.2.2.2.1 y.2.2.2.2.2.1 y.2.2.2.2.2.2) ?_ ?_
     ·rintro ⟨z21, z22, b10, z23, s8, s9, b12⟩ hm
      unfold m11_6 at hm
      replace hm:=bb_cases hm;rcases hm with ⟨h11,hm⟩ | ⟨h11,hm⟩
      ·refine .ifT b12 (by kernel_rfl) h11 ?_
       refine .then (.rK ?_)
       refine .ghs (fr 244 [(8,zB false)]) (hp 0 []) (.k0 [] [] [8]) ?_
       refine .ret ?_
       exact fin_ret (zB false) (by kernel_rfl) (by kernel_rfl) hm
      ·refine .ifF b12 (by kernel_rfl) h11 ?_
       refine .skip ?_
       refine .ghs (fr 244 [(9,zI z21),(10,.int .u32 z22),(18,zB b10),(19,zI z23),(23,Sl.v 1 s8),(25,Sl.v 1 s9)]) (hp 0 []) (.k0 [] [] [9,10,18,19,23,25]) ?_
       refine .then (.rK ?_)
       refine .ghs (fr 244 [(9,zI z21),(10,.int .u32 z22),(18,zB b10),(19,zI z23),(23,Sl.v 1 s8),(25,Sl.v 1 s9),(27,(zI (0:Int)))]) (hp 0 []) (.k0 [] [] [9,10,18,19,23,25,27]) ?_
       refine .join (v:=v) (fun y:Int×Bool×Int×Sl×Sl×Int=>((fr 244 [(9,(zI y.1)),(18,(zB y.2.1)),(19,(zI y.2.2.1)),(23,(Sl.v 1 y.2.2.2.1)),(25,(Sl.v 1 y.2.2.2.2.1)),(27,(zI y.2.2.2.2.2))]),(hp 0 []))) (fun y=>m11_7 pu n y.1 y.2.1 y.2.2.1 y.2.2.2.1 y.2.2.2.2.1 y.2.2.2.2.2) ?_ ?_
       ·rintro ⟨z24, b13, z25, s10, s11, z26⟩ hm
        exact w11_7 pu n z24 b13 z25 s10 s11 z26 hm
       ·refine .then (.rK ?_)
        refine .ghs (fr 244 [(9,zI z21),(10,.int .u32 z22),(18,zB b10),(19,zI z23),(23,Sl.v 1 s8),(25,Sl.v 1 s9),(27,(zI (0:Int))),(170,Sl.v 1 s8),(171,(zI (Int.ofNat (Sl.n s8)))),(172,(zI (0:Int)))]) (hp 0 []) (.k0 [] [] [9,10,18,19,23,25,27,170,171,172]) ?_
        refine .block ?_
        refine .loopM (v:=v) (fun y:Int×Int×Bool×Int×Sl×Sl×Int×Sl×Int×Int=>((fr 244 [(9,(zI y.1)),(10,(.int .u32 y.2.1)),(18,(zB y.2.2.1)),(19,(zI y.2.2.2.1)),(23,(Sl.v 1 y.2.2.2.2.1)),(25,(Sl.v 1 y.2.2.2.2.2.1)),(27,(zI y.2.2.2.2.2.2.1)),(170,(Sl.v 1 y.2.2.2.2.2.2.2.1)),(171,(zI y.2.2.2.2.2.2.2.2.1)),(172,(zI y.2.2.2.2.2.2.2.2.2))]),(hp 0 []))) (fun w y=>l11_11 pu n w y.1 y.2.1 y.2.2.1 y.2.2.2.1 y.2.2.2.2.1 y.2.2.2.2.2.1 y.2.2.2.2.2.2.1 y.2.2.2.2.2.2.2.1 y.2.2.2.2.2.2.2.2.1 y.2.2.2.2.2.2.2.2.2) n ⟨(z21,z22,b10,z23,s8,s9,(0:Int),s8,(Int.ofNat (Sl.n s8)),(0:Int)),hm,(.k0 [] [] [9,10,18,19,23,25,27,170,171,172])⟩ (fun _=>rfl) ?_
        rintro w0 ⟨z27,z28,b16,z29,s12,s13,z30,s14,z31,z32⟩ hm
        replace hm:b11_11 pu n (l11_11 pu n w0) z27 z28 b16 z29 s12 s13 z30 s14 z31 z32 = some v:=hm
        unfold b11_11 at hm
        refine .then (.rK ?_)
        refine .ghs (fr 244 [(9,zI z27),(10,.int .u32 z28),(18,zB b16),(19,zI z29),(23,Sl.v 1 s12),(25,Sl.v 1 s13),(27,zI z30),(170,Sl.v 1 s14),(171,zI z31),(172,zI z32),(173,(zB (ilt z32 z31)))]) (hp 0 []) (.k0 [] [] [9,10,18,19,23,25,27,170,171,172,173]) ?_
        refine .then ?_
        replace hm:=bb_cases hm;rcases hm with ⟨h12,hm⟩ | ⟨h12,hm⟩
        ·refine .ifT (ilt z32 z31) (by kernel_rfl) h12 ?_
         refine .skip ?_
         refine .ghs (fr 244 [(9,zI z27),(10,.int .u32 z28),(18,zB b16),(19,zI z29),(23,Sl.v 1 s12),(25,Sl.v 1 s13),(27,zI z30),(170,Sl.v 1 s14),(171,zI z31),(172,zI z32)]) (hp 0 []) (.k0 [] [] [9,10,18,19,23,25,27,170,171,172]) ?_
         refine .join (v:=v) (fun y:Int×Int×Bool×Int×Sl×Sl×Int×Sl×Int×Int=>((fr 244 [(9,(zI y.1)),(10,(.int .u32 y.2.1)),(18,(zB y.2.2.1)),(19,(zI y.2.2.2.1)),(23,(Sl.v 1 y.2.2.2.2.1)),(25,(Sl.v 1 y.2.2.2.2.2.1)),(27,(zI y.2.2.2.2.2.2.1)),(170,(Sl.v 1 y.2.2.2.2.2.2.2.1)),(171,(zI y.2.2.2.2.2.2.2.2.1)),(172,(zI y.2.2.2.2.2.2.2.2.2))]),(hp 0 []))) (fun y=>m11_12 pu n (l11_11 pu n w0) y.1 y.2.1 y.2.2.1 y.2.2.2.1 y.2.2.2.2.1 y.2.2.2.2.2.1 y.2.2.2.2.2.2.1 y.2.2.2.2.2.2.2.1 y.2.2.2.2.2.2.2.2.1 y.2.2.2.2.2.2.2.2.2) ?_ ?_
         ·rintro ⟨z33, z34, b18, z35, s15, s16, z36, s17, z37, z38⟩ hm
          unfold m11_12 at hm
          refine .rK ?_
          exact ⟨(z33,z34,b18,z35,s15,s16,z36,s17,z37,(wrapF .i64 (Int.add z38 (1:Int)))),hm,(.k0 [] [] [9,10,18,19,23,25,27,170,171,172])⟩
         ·refine .block ?_
          refine .then ?_
          replace hm:=oo_inv hm;obtain ⟨k1,h13,hm⟩:=hm
          obtain rfl:=toN_some h13
          replace hm:=bb_inv hm;obtain ⟨h14,hm⟩:=hm
          replace hm:=oo_inv hm;obtain ⟨v9,h15,hm⟩:=hm
          replace hm:=inv_toI hm;obtain ⟨x2,rfl,hm⟩:=hm
          refine .reg (eC 1 (keep (hp 0 []) (bb (an (Nat.blt k1 (Sl.n s14)) true) (some (fpV (k1 * 1) (Sl.cs s14))) none)) (keep_bb h14) (eD (keep (hp 0 []) (nthL (Sl.cs s14) (k1 * 1))) (keep_eq h15) (eE))) ?_
          refine .ghs (fr 244 [(9,zI z27),(10,.int .u32 z28),(18,zB b16),(19,zI z29),(23,Sl.v 1 s12),(25,Sl.v 1 s13),(27,zI z30),(28,(zI (Int.ofNat k1))),(29,zI x2),(170,Sl.v 1 s14),(171,zI z31),(172,(zI (Int.ofNat k1)))]) (hp 0 []) (.k0 [] [] [9,10,18,19,23,25,27,28,29,170,171,172]) ?_
          refine .then ?_
          refine .join (v:=v) (fun y:Int×Int×Bool×Int×Sl×Sl×Int×Int×Int×Sl×Int×Int×Bool=>((fr 244 [(9,(zI y.1)),(10,(.int .u32 y.2.1)),(18,(zB y.2.2.1)),(19,(zI y.2.2.2.1)),(23,(Sl.v 1 y.2.2.2.2.1)),(25,(Sl.v 1 y.2.2.2.2.2.1)),(27,(zI y.2.2.2.2.2.2.1)),(28,(zI y.2.2.2.2.2.2.2.1)),(29,(zI y.2.2.2.2.2.2.2.2.1)),(170,(Sl.v 1 y.2.2.2.2.2.2.2.2.2.1)),(171,(zI y.2.2.2.2.2.2.2.2.2.2.1)),(172,(zI y.2.2.2.2.2.2.2.2.2.2.2.1)),(183,(zB y.2.2.2.2.2.2.2.2.2.2.2.2))]),(hp 0 []))) (fun y=>m11_13 pu n (l11_11 pu n w0) y.1 y.2.1 y.2.2.1 y.2.2.2.1 y.2.2.2.2.1 y.2.2.2.2.2.1 y.2.2.2.2.2.2.1 y.2.2.2.2.2.2.2.1 y.2.2.2.2.2.2.2.2.1 y.2.2.2.2.2.2.2.2.2.1 y.2.2.2.2.2.2.2.2.2.2.1 y.2.2.2.2.2.2.2.2.2.2.2.1 y.2.2.2.2.2.2.2.2.2.2.2.2) ?_ ?_
          ·rintro ⟨z39, z40, b20, z41, s18, s19, z42, z43, z44, s20, z45, z46, b22⟩ hm
           unfold m11_13 at hm
           replace hm:=bb_cases hm;rcases hm with ⟨h16,hm⟩ | ⟨h16,hm⟩
           ·refine .ifT b22 (by kernel_rfl) h16 ?_
            refine .then (.rK ?_)
            refine .ghs (fr 244 [(8,zB false)]) (hp 0 []) (.k0 [] [] [8]) ?_
            refine .ret ?_
            exact fin_ret (zB false) (by kernel_rfl) (by kernel_rfl) hm
           ·refine .ifF b22 (by kernel_rfl) h16 ?_
            refine .skip ?_
            refine .ghs (fr 244 [(9,zI z39),(10,.int .u32 z40),(18,zB b20),(19,zI z41),(23,Sl.v 1 s18),(25,Sl.v 1 s19),(27,zI z42),(28,zI z43),(29,zI z44),(170,Sl.v 1 s20),(171,zI z45),(172,zI z46)]) (hp 0 []) (.k0 [] [] [9,10,18,19,23,25,27,28,29,170,171,172]) ?_
            refine .then (.rK ?_)
            refine .ghs (fr 244 [(9,zI z39),(10,.int .u32 z40),(18,zB b20),(19,zI z41),(23,Sl.v 1 s18),(25,Sl.v 1 s19),(27,(zI (wrapF .i64 (Int.add z42 z44)))),(28,zI z43),(29,zI z44),(170,Sl.v 1 s20),(171,zI z45),(172,zI z46)]) (hp 0 []) (.k0 [] [] [9,10,18,19,23,25,27,28,29,170,171,172]) ?_
            refine .then ?_
            replace hm:=oo_inv hm;obtain ⟨v10,h17,hm⟩:=hm
            replace hm:=inv_toSl hm;obtain ⟨s21,rfl,hm⟩:=hm
            replace hm:=oo_inv hm;obtain ⟨k2,h18,hm⟩:=hm
            obtain rfl:=toN_some h18
            replace hm:=bb_inv hm;obtain ⟨h19,hm⟩:=hm
            replace hm:=oo_inv hm;obtain ⟨v11,h20,hm⟩:=hm
            replace hm:=inv_toI hm;obtain ⟨x3,rfl,hm⟩:=hm
            refine .reg (eC 1 ((oo (pu 48 [.int .u32 z40]) none fun v=>some (v,(hp 0 [])))) (call_eq h17) (eC 1 (keep (hp 0 []) (bb (an (Nat.blt k2 (Sl.n s21)) true) (some (fpV (k2 * 1) (Sl.cs s21))) none)) (keep_bb h19) (eD (keep (hp 0 []) (nthL (Sl.cs s21) (k2 * 1))) (keep_eq h20) (eE)))) ?_
            refine .ghs (fr 244 [(9,zI z39),(10,.int .u32 z40),(18,zB b20),(19,zI z41),(23,Sl.v 1 s18),(25,Sl.v 1 s19),(27,(zI (wrapF .i64 (Int.add z42 z44)))),(29,zI z44),(30,zI x3),(170,Sl.v 1 s20),(171,zI z45),(172,zI z46)]) (hp 0 []) (.k0 [] [] [9,10,18,19,23,25,27,29,30,170,171,172]) ?_
            refine .then (.rK ?_)
            refine .ghs (fr 244 [(9,zI z39),(10,.int .u32 z40),(18,zB b20),(19,zI z41),(23,Sl.v 1 s18),(25,Sl.v 1 s19),(27,(zI (wrapF .i64 (Int.add z42 z44)))),(29,zI z44),(30,zI x3),(31,(zI (1:Int))),(170,Sl.v 1 s20),(171,zI z45),(172,zI z46)]) (hp 0 []) (.k0 [] [] [9,10,18,19,23,25,27,29,30,31,170,171,172]) ?_
            refine .block ?_
            refine .loopM (v:=v) (fun y:Int×Int×Bool×Int×Sl×Sl×Int×Int×Int×Int×Sl×Int×Int=>((fr 244 [(9,(zI y.1)),(10,(.int .u32 y.2.1)),(18,(zB y.2.2.1)),(19,(zI y.2.2.2.1)),(23,(Sl.v 1 y.2.2.2.2.1)),(25,(Sl.v 1 y.2.2.2.2.2.1)),(27,(zI y.2.2.2.2.2.2.1)),(29,(zI y.2.2.2.2.2.2.2.1)),(30,(zI y.2.2.2.2.2.2.2.2.1)),(31,(zI y.2.2.2.2.2.2.2.2.2.1)),(170,(Sl.v 1 y.2.2.2.2.2.2.2.2.2.2.1)),(171,(zI y.2.2.2.2.2.2.2.2.2.2.2.1)),(172,(zI y.2.2.2.2.2.2.2.2.2.2.2.2))]),(hp 0 []))) (fun w y=>l11_14 pu n (l11_11 pu n w0) w y.1 y.2.1 y.2.2.1 y.2.2.2.1 y.2.2.2.2.1 y.2.2.2.2.2.1 y.2.2.2.2.2.2.1 y.2.2.2.2.2.2.2.1 y.2.2.2.2.2.2.2.2.1 y.2.2.2.2.2.2.2.2.2.1 y.2.2.2.2.2.2.2.2.2.2.1 y.2.2.2.2.2.2.2.2.2.2.2.1 y.2.2.2.2.2.2.2.2.2.2.2.2) n ⟨(z39,z40,b20,z41,s18,s19,(wrapF .i64 (Int.add z42 z44)),z44,x3,(1:Int),s20,z45,z46),hm,(.k0 [] [] [9,10,18,19,23,25,27,29,30,31,170,171,172])⟩ (fun _=>rfl) ?_
            rintro w1 ⟨z47,z48,b26,z49,s22,s23,z50,z51,z52,z53,s24,z54,z55⟩ hm
            replace hm:b11_14 pu n (l11_11 pu n w0) (l11_14 pu n (l11_11 pu n w0) w1) z47 z48 b26 z49 s22 s23 z50 z51 z52 z53 s24 z54 z55 = some v:=hm
            unfold b11_14 at hm
            refine .then ?_
            refine .then (.rK ?_)
            refine .ghs (fr 244 [(9,zI z47),(10,.int .u32 z48),(18,zB b26),(19,zI z49),(23,Sl.v 1 s22),(25,Sl.v 1 s23),(27,zI z50),(29,zI z51),(30,zI z52),(31,zI z53),(170,Sl.v 1 s24),(171,zI z54),(172,zI z55),(194,(zB (nt (ilt z51 z53))))]) (hp 0 []) (.k0 [] [] [9,10,18,19,23,25,27,29,30,31,170,171,172,194]) ?_
            replace hm:=bb_cases hm;rcases hm with ⟨h21,hm⟩ | ⟨h21,hm⟩
            ·refine .ifT (nt (ilt z51 z53)) (by kernel_rfl) h21 ?_
             refine .skip ?_
             refine .ghs (fr 244 [(9,zI z47),(10,.int .u32 z48),(18,zB b26),(19,zI z49),(23,Sl.v 1 s22),(25,Sl.v 1 s23),(27,zI z50),(29,zI z51),(30,zI z52),(31,zI z53),(170,Sl.v 1 s24),(171,zI z54),(172,zI z55)]) (hp 0 []) (.k0 [] [] [9,10,18,19,23,25,27,29,30,31,170,171,172]) ?_
             refine .then ?_
             refine .block ?_
             refine .then ?_
             replace hm:=bb_inv hm;obtain ⟨h22,hm⟩:=hm
             replace hm:=oo_inv hm;obtain ⟨k3,h23,hm⟩:=hm
             refine .reg (eC 5 (keep (hp 0 []) (bb (ieq z47 (0:Int)) none (some (zI (Int.tmod (wrapF .i64 (Int.add z52 z53)) z47))))) (show _ = some ((zI (Int.ofNat k3)),_) from (nat_eq (X:=(Int.tmod (wrapF .i64 (Int.add z52 z53)) z47)) (keep_nb h22) h23)) (eE)) ?_
             refine .ghs (fr 244 [(9,zI z47),(10,.int .u32 z48),(18,zB b26),(19,zI z49),(23,Sl.v 1 s22),(25,Sl.v 1 s23),(27,zI z50),(29,zI z51),(30,zI z52),(31,zI z53),(170,Sl.v 1 s24),(171,zI z54),(172,zI z55),(209,(zB (bq false (bq (ieq (aand .u32 (shrI .u32 z48 k3) (1:Int)) (1:Int)) (ieq z53 z51)))))]) (hp 0 []) (.k0 [] [] [9,10,18,19,23,25,27,29,30,31,170,171,172,209]) ?_
             replace hm:=bb_cases hm;rcases hm with ⟨h24,hm⟩ | ⟨h24,hm⟩
             ·refine .ifT (bq false (bq (ieq (aand .u32 (shrI .u32 z48 k3) (1 : Int)) (1 : Int)) (ieq z53 z51))) (by kernel_rfl) h24 ?_
              refine .then (.rK ?_)
              refine .ghs (fr 244 [(8,zB false)]) (hp 0 []) (.k0 [] [] [8]) ?_
              refine .ret ?_
              exact fin_ret (zB false) (by kernel_rfl) (by kernel_rfl) hm
             ·refine .ifF (bq false (bq (ieq (aand .u32 (shrI .u32 z48 k3) (1 : Int)) (1 : Int)) (ieq z53 z51))) (by kernel_rfl) h24 ?_
              refine .skip ?_
              refine .ghs (fr 244 [(9,zI z47),(10,.int .u32 z48),(18,zB b26),(19,zI z49),(23,Sl.v 1 s22),(25,Sl.v 1 s23),(27,zI z50),(29,zI z51),(30,zI z52),(31,zI z53),(170,Sl.v 1 s24),(171,zI z54),(172,zI z55)]) (hp 0 []) (.k0 [] [] [9,10,18,19,23,25,27,29,30,31,170,171,172]) ?_
              refine .rK ?_
              exact ⟨(z47,z48,b26,z49,s22,s23,z50,z51,z52,(wrapF .i64 (Int.add z53 (1:Int))),s24,z54,z55),hm,(.k0 [] [] [9,10,18,19,23,25,27,29,30,31,170,171,172])⟩
            ·refine .ifF (nt (ilt z51 z53)) (by kernel_rfl) h21 ?_
             refine .exit ?_
             exact ⟨(z47,z48,b26,z49,s22,s23,z50,s24,z54,z55),hm,(.k0 [] [] [9,10,18,19,23,25,27,170,171,172])⟩
          ·replace hm := bb_cases hm; rcases hm with ⟨h25, hm⟩ | ⟨h25, hm⟩
           ·refine .reg (eC 1 (some ((zB (ilt x2 (1 : Int))), (hp 0 []))) (show _ = some ((zB true), _) from (by rw [show (ilt x2 (1 : Int)) = true from h25])) (eE)) ?_
            exact ⟨(z27,z28,b16,z29,s12,s13,z30,(Int.ofNat k1),x2,s14,z31,(Int.ofNat k1),true),hm,(.k0 [] [] [9,10,18,19,23,25,27,28,29,170,171,172,183])⟩
           ·refine .reg (eC 1 (some ((zB (ilt x2 (1 : Int))), (hp 0 []))) (show _ = some ((zB false), _) from (by rw [show (ilt x2 (1 : Int)) = false from h25])) (eE)) ?_
            exact ⟨(z27,z28,b16,z29,s12,s13,z30,(Int.ofNat k1),x2,s14,z31,(Int.ofNat k1),(ilt z27 x2)),hm,(.k0 [] [] [9,10,18,19,23,25,27,28,29,170,171,172,183])⟩
        ·refine .ifF (ilt z32 z31) (by kernel_rfl) h12 ?_
         refine .exit ?_
         exact ⟨(z27,b16,z29,s12,s13,z30),hm,(.k0 [] [] [9,18,19,23,25,27])⟩
     ·replace hm := bb_cases hm; rcases hm with ⟨h26, hm⟩ | ⟨h26, hm⟩
      ·refine .reg (eC 1 (some ((zB (nt (ieq z19 (0 : Int)))), (hp 0 []))) (show _ = some ((zB true), _) from (by rw [show (nt (ieq z19 (0 : Int))) = true from h26])) (eE)) ?_
       exact ⟨(z15,z16,b4,z18,s6,s7,true),hm,(.k0 [] [] [9,10,18,19,23,25,169])⟩
      ·replace hm := bb_cases hm; rcases hm with ⟨h27, hm⟩ | ⟨h27, hm⟩
       ·refine .reg (eC 1 (some ((zB (nt (ieq z19 (0 : Int)))), (hp 0 []))) (show _ = some ((zB false), _) from (by rw [show (nt (ieq z19 (0 : Int))) = false from h26])) (eC 2 (some ((zB (nt (ieq z20 (0 : Int)))), (hp 0 []))) (show _ = some ((zB true), _) from (by rw [show (nt (ieq z20 (0 : Int))) = true from h27])) (eE))) ?_
        exact ⟨(z15,z16,b4,z18,s6,s7,true),hm,(.k0 [] [] [9,10,18,19,23,25,169])⟩
       ·replace hm := oo_inv hm; obtain ⟨v12, h28, hm⟩ := hm
        replace hm:=inv_toI hm;obtain ⟨x4,rfl,hm⟩:=hm
        replace hm:=bb_cases hm;rcases hm with ⟨h29,hm⟩ | ⟨h29,hm⟩
        ·refine .reg (eC 1 (some ((zB (nt (ieq z19 (0 : Int)))), (hp 0 []))) (show _ = some ((zB false), _) from (by rw [show (nt (ieq z19 (0 : Int))) = false from h26])) (eC 2 (some ((zB (nt (ieq z20 (0 : Int)))), (hp 0 []))) (show _ = some ((zB false), _) from (by rw [show (nt (ieq z20 (0 : Int))) = false from h27])) (eC 5 ((oo (pu 50 [.int .u32 z16]) none fun v => some (v, (hp 0 [])))) (call_eq h28) (eD (some ((zB (nt (ieq (Int.ofNat (Sl.n s6)) x4))), (hp 0 []))) (show _ = some ((zB true), _) from (by rw [show (nt (ieq (Int.ofNat (Sl.n s6)) x4)) = true from h29])) (eE))))) ?_
         exact ⟨(z15,z16,b4,z18,s6,s7,true),hm,(.k0 [] [] [9,10,18,19,23,25,169])⟩
        ·replace hm := oo_inv hm; obtain ⟨v13, h30, hm⟩ := hm
         replace hm:=inv_toI hm;obtain ⟨x5,rfl,hm⟩:=hm
         refine .reg (eC 1 (some ((zB (nt (ieq z19 (0:Int)))),(hp 0 []))) (show _ = some ((zB false),_) from (by rw [show (nt (ieq z19 (0:Int))) = false from h26])) (eC 2 (some ((zB (nt (ieq z20 (0:Int)))),(hp 0 []))) (show _ = some ((zB false),_) from (by rw [show (nt (ieq z20 (0:Int))) = false from h27])) (eC 5 ((oo (pu 50 [.int .u32 z16]) none fun v=>some (v,(hp 0 [])))) (call_eq h28) (eD (some ((zB (nt (ieq (Int.ofNat (Sl.n s6)) x4))),(hp 0 []))) (show _ = some ((zB false),_) from (by rw [show (nt (ieq (Int.ofNat (Sl.n s6)) x4)) = false from h29])) (eC 5 ((oo (pu 50 [.int .u32 z17]) none fun v=>some (v,(hp 0 [])))) (call_eq h30) (eE)))))) ?_
         exact ⟨(z15,z16,b4,z18,s6,s7,(nt (ieq (Int.ofNat (Sl.n s7)) x5))),hm,(.k0 [] [] [9,10,18,19,23,25,169])⟩
   ·replace hm := bb_cases hm; rcases hm with ⟨h31, hm⟩ | ⟨h31, hm⟩
    ·refine .reg (eC 1 (some ((zB (ieq z10 (0 : Int))), (hp 0 []))) (show _ = some ((zB true), _) from (by rw [show (ieq z10 (0 : Int)) = true from h31])) (eE)) ?_
     exact ⟨(z9,z10,z11,b2,z12,s4,x0,s5,x1,true),hm,(.k0 [] [] [9,10,11,18,19,23,24,25,26,132])⟩
    ·refine .reg (eC 1 (some ((zB (ieq z10 (0 : Int))), (hp 0 []))) (show _ = some ((zB false), _) from (by rw [show (ieq z10 (0 : Int)) = false from h31])) (eE)) ?_
     exact ⟨(z9,z10,z11,b2,z12,s4,x0,s5,x1,(ieq z11 (0:Int))),hm,(.k0 [] [] [9,10,11,18,19,23,24,25,26,132])⟩
 ·replace hm := bb_cases hm; rcases hm with ⟨h32, hm⟩ | ⟨h32, hm⟩
  ·refine .reg (eC 2 (some ((zB (nt (ieq z3 z5))), (hp 2 [(oC [zI z7, Sl.v 1 s0]), (oC [zI z8, Sl.v 1 s1])]))) (show _ = some ((zB true), _) from (by rw [show (nt (ieq z3 z5)) = true from h32])) (eE)) ?_
   exact ⟨(z0,z1,z2,b1,z6,true,z7,s0,z8,s1),hm,(.k0 [] [.tmp 12 false,.tmp 13 false] [9,10,11,12,13,18,19,116])⟩
  ·replace hm := bb_cases hm; rcases hm with ⟨h33, hm⟩ | ⟨h33, hm⟩
   ·refine .reg (eC 2 (some ((zB (nt (ieq z3 z5))), (hp 2 [(oC [zI z7, Sl.v 1 s0]), (oC [zI z8, Sl.v 1 s1])]))) (show _ = some ((zB false), _) from (by rw [show (nt (ieq z3 z5)) = false from h32])) (eC 3 (some ((zB (bq false (bq b0 b1))), (hp 2 [(oC [zI z7, Sl.v 1 s0]), (oC [zI z8, Sl.v 1 s1])]))) (show _ = some ((zB true), _) from (by rw [show (bq false (bq b0 b1)) = true from h33])) (eE))) ?_
    exact ⟨(z0,z1,z2,b1,z6,true,z7,s0,z8,s1),hm,(.k0 [] [.tmp 12 false,.tmp 13 false] [9,10,11,12,13,18,19,116])⟩
   ·refine .reg (eC 2 (some ((zB (nt (ieq z3 z5))), (hp 2 [(oC [zI z7, Sl.v 1 s0]), (oC [zI z8, Sl.v 1 s1])]))) (show _ = some ((zB false), _) from (by rw [show (nt (ieq z3 z5)) = false from h32])) (eC 3 (some ((zB (bq false (bq b0 b1))), (hp 2 [(oC [zI z7, Sl.v 1 s0]), (oC [zI z8, Sl.v 1 s1])]))) (show _ = some ((zB false), _) from (by rw [show (bq false (bq b0 b1)) = false from h33])) (eE))) ?_
    exact ⟨(z0,z1,z2,b1,z6,(nt (ieq z4 z6)),z7,s0,z8,s1),hm,(.k0 [] [.tmp 12 false,.tmp 13 false] [9,10,11,12,13,18,19,116])⟩
theorem w11_1 (pu:PureF) (n:Nat) (z0 z1 z2 z3:Int) (b0:Bool) (z4 z5:Int) (b1:Bool) (z6 z7:Int) (s0:Sl) (z8:Int) (s1:Sl) {v:Value} (hm:m11_1 pu n z0 z1 z2 z3 b0 z4 z5 b1 z6 z7 s0 z8 s1 = some v):Run tt (callP tabs isP pu (inl pu)) 0 c11_138 (fr 244 [(9,zI z0),(10,.int .u32 z1),(11,.int .u32 z2),(12,(pt 0 0)),(13,pt 1 0),(14,zI z3),(15,zB b0),(16,zI z4),(17,zI z5),(18,zB b1),(19,zI z6)]) (hp 2 [(oC [zI z7,Sl.v 1 s0]),(oC [zI z8,Sl.v 1 s1])]) (Fin tt 0 [.tmp 8] v):=by
 unfold m11_1 at hm
 refine .join (v:=v) (fun y:Int×Int×Int×Int×Bool×Int×Int×Bool×Int×Int×Sl×Int×Sl=>((fr 244 [(9,(zI y.1)),(10,(.int .u32 y.2.1)),(11,(.int .u32 y.2.2.1)),(12,(pt 0 0)),(13,pt 1 0),(14,(zI y.2.2.2.1)),(15,(zB y.2.2.2.2.1)),(16,(zI y.2.2.2.2.2.1)),(17,(zI y.2.2.2.2.2.2.1)),(18,(zB y.2.2.2.2.2.2.2.1)),(19,(zI y.2.2.2.2.2.2.2.2.1))]),(hp 2 [(oC [(zI y.2.2.2.2.2.2.2.2.2.1),(Sl.v 1 y.2.2.2.2.2.2.2.2.2.2.1)]),(oC [(zI y.2.2.2.2.2.2.2.2.2.2.2.1),(Sl.v 1 y.2.2.2.2.2.2.2.2.2.2.2.2)])]))) (fun y=>m11_2 pu n y.1 y.2.1 y.2.2.1 y.2.2.2.1 y.2.2.2.2.1 y.2.2.2.2.2.1 y.2.2.2.2.2.2.1 y.2.2.2.2.2.2.2.1 y.2.2.2.2.2.2.2.2.1 y.2.2.2.2.2.2.2.2.2.1 y.2.2.2.2.2.2.2.2.2.2.1 y.2.2.2.2.2.2.2.2.2.2.2.1 y.2.2.2.2.2.2.2.2.2.2.2.2) ?_ ?_
 ·rintro ⟨z9, z10, z11, z12, b2, z13, z14, b3, z15, z16, s2, z17, s3⟩ hm
  exact w11_2 pu n z9 z10 z11 z12 b2 z13 z14 b3 z15 z16 s2 z17 s3 hm
 ·refine .then ?_
  replace hm:=oo_inv hm;obtain ⟨v0,h0,hm⟩:=hm
  replace hm:=inv_toI hm;obtain ⟨x0,rfl,hm⟩:=hm
  replace hm:=oo_inv hm;obtain ⟨v1,h1,hm⟩:=hm
  replace hm:=inv_toI hm;obtain ⟨x1,rfl,hm⟩:=hm
  refine .reg (eC 1 ((oo (pu 50 [.int .u32 z1]) none fun v=>some (v,(hp 2 [(oC [zI z7,Sl.v 1 s0]),(oC [zI z8,Sl.v 1 s1])])))) (call_eq h0) (eC 1 ((oo (pu 50 [.int .u32 z2]) none fun v=>some (v,(hp 2 [(oC [zI z7,Sl.v 1 s0]),(oC [zI z8,Sl.v 1 s1])])))) (call_eq h1) (eE))) ?_
  refine .ghs (fr 244 [(9,zI z0),(10,.int .u32 z1),(11,.int .u32 z2),(12,(pt 0 0)),(13,pt 1 0),(14,zI z3),(15,zB b0),(16,zI z4),(17,zI z5),(18,zB b1),(19,zI z6),(103,(zB (nt (ieq x0 x1))))]) (hp 2 [(oC [zI z7,Sl.v 1 s0]),(oC [zI z8,Sl.v 1 s1])]) (.k0 [] [.tmp 12 false,.tmp 13 false] [9,10,11,12,13,14,15,16,17,18,19,103]) ?_
  replace hm:=bb_cases hm;rcases hm with ⟨h2,hm⟩ | ⟨h2,hm⟩
  ·refine .ifT (nt (ieq x0 x1)) (by kernel_rfl) h2 ?_
   refine .rK ?_
   exact ⟨(z0,z1,z2,z3,b0,z4,(0:Int),false,(5:Int),z7,s0,z8,s1),hm,(.k0 [] [.tmp 12 false,.tmp 13 false] [9,10,11,12,13,14,15,16,17,18,19])⟩
  ·refine .ifF (nt (ieq x0 x1)) (by kernel_rfl) h2 ?_
   refine .skip ?_
   exact ⟨(z0,z1,z2,z3,b0,z4,z5,b1,z6,z7,s0,z8,s1),hm,(.k0 [] [.tmp 12 false,.tmp 13 false] [9,10,11,12,13,14,15,16,17,18,19])⟩
theorem w11_0 (pu:PureF) (n:Nat) (z0 z1 z2:Int) {v:Value} (hm:m11_0 pu n z0 z1 z2 = some v):Run tt (callP tabs isP pu (inl pu)) 0 c11_142 (fr 244 [(9,zI z0),(10,.int .u32 z1),(11,.int .u32 z2)]) (hp 0 []) (Fin tt 0 [.tmp 8] v):=by
 unfold m11_0 at hm
 refine .then ?_
 replace hm:=oo_inv hm;obtain ⟨v0,h0,hm⟩:=hm
 replace hm:=inv_vAgg hm;obtain ⟨l0,rfl,hm⟩:=hm
 replace hm:=ll_uncons hm;obtain ⟨v1,l1137_0,rfl,hm⟩:=hm
 replace hm:=ll_uncons hm;obtain ⟨v2,l1137_1,rfl,hm⟩:=hm
 replace hm:=ll_end hm;obtain ⟨rfl,hm⟩:=hm
 replace hm:=inv_toI hm;obtain ⟨x0,rfl,hm⟩:=hm
 replace hm:=inv_toSl hm;obtain ⟨s0,rfl,hm⟩:=hm
 replace hm:=oo_inv hm;obtain ⟨v3,h1,hm⟩:=hm
 replace hm:=inv_vAgg hm;obtain ⟨l1,rfl,hm⟩:=hm
 replace hm:=ll_uncons hm;obtain ⟨v4,l1147_0,rfl,hm⟩:=hm
 replace hm:=ll_uncons hm;obtain ⟨v5,l1147_1,rfl,hm⟩:=hm
 replace hm:=ll_end hm;obtain ⟨rfl,hm⟩:=hm
 replace hm:=inv_toI hm;obtain ⟨x1,rfl,hm⟩:=hm
 replace hm:=inv_toSl hm;obtain ⟨s1,rfl,hm⟩:=hm
 refine .reg (eC 2 ((oo (pu 47 [zI z0,.int .u32 z1]) none fun v=>some (v,(hp 0 [])))) (call_eq h0) (eC 2 ((oo (pu 47 [zI z0,.int .u32 z2]) none fun v=>some (v,(hp 0 [])))) (call_eq h1) (eE))) ?_
 refine .ghs (fr 244 [(9,zI z0),(10,.int .u32 z1),(11,.int .u32 z2),(12,(pt 0 0)),(13,pt 1 0)]) (hp 2 [(oC [zI x0,Sl.v 1 s0]),(oC [zI x1,Sl.v 1 s1])]) (.k0 [] [.tmp 12 false,.tmp 13 false] [9,10,11,12,13]) ?_
 refine .then ?_
 replace hm:=oo_inv hm;obtain ⟨v6,h2,hm⟩:=hm
 replace hm:=inv_vTup hm;obtain ⟨l2,rfl,hm⟩:=hm
 replace hm:=ll_uncons hm;obtain ⟨v7,l1170_0,rfl,hm⟩:=hm
 replace hm:=ll_uncons hm;obtain ⟨v8,l1170_1,rfl,hm⟩:=hm
 replace hm:=ll_uncons hm;obtain ⟨v9,l1170_2,rfl,hm⟩:=hm
 replace hm:=ll_end hm;obtain ⟨rfl,hm⟩:=hm
 replace hm:=inv_toI hm;obtain ⟨x2,rfl,hm⟩:=hm
 replace hm:=inv_vBool hm;obtain ⟨b0,rfl,hm⟩:=hm
 replace hm:=inv_toI hm;obtain ⟨x3,rfl,hm⟩:=hm
 refine .reg (eC 2 ((oo (pu 21 [(.agg ⟨[zI x0,Sl.v 1 s0]⟩),(.agg ⟨[zI x1,Sl.v 1 s1]⟩)]) none fun v=>some (v,(hp 2 [(oC [zI x0,Sl.v 1 s0]),(oC [zI x1,Sl.v 1 s1])])))) (call_eq h2) (eE)) ?_
 refine .ghs (fr 244 [(9,zI z0),(10,.int .u32 z1),(11,.int .u32 z2),(12,(pt 0 0)),(13,pt 1 0),(14,zI x2),(15,zB b0),(16,zI x3)]) (hp 2 [(oC [zI x0,Sl.v 1 s0]),(oC [zI x1,Sl.v 1 s1])]) (.k0 [] [.tmp 12 false,.tmp 13 false] [9,10,11,12,13,14,15,16]) ?_
 refine .then (.rK ?_)
 refine .ghs (fr 244 [(9,zI z0),(10,.int .u32 z1),(11,.int .u32 z2),(12,(pt 0 0)),(13,pt 1 0),(14,zI x2),(15,zB b0),(16,zI x3),(17,(zI (0:Int))),(18,zB false),(19,(zI (12:Int)))]) (hp 2 [(oC [zI x0,Sl.v 1 s0]),(oC [zI x1,Sl.v 1 s1])]) (.k0 [] [.tmp 12 false,.tmp 13 false] [9,10,11,12,13,14,15,16,17,18,19]) ?_
 refine .join (v:=v) (fun y:Int×Int×Int×Int×Bool×Int×Int×Bool×Int×Int×Sl×Int×Sl=>((fr 244 [(9,(zI y.1)),(10,(.int .u32 y.2.1)),(11,(.int .u32 y.2.2.1)),(12,(pt 0 0)),(13,pt 1 0),(14,(zI y.2.2.2.1)),(15,(zB y.2.2.2.2.1)),(16,(zI y.2.2.2.2.2.1)),(17,(zI y.2.2.2.2.2.2.1)),(18,(zB y.2.2.2.2.2.2.2.1)),(19,(zI y.2.2.2.2.2.2.2.2.1))]),(hp 2 [(oC [(zI y.2.2.2.2.2.2.2.2.2.1),(Sl.v 1 y.2.2.2.2.2.2.2.2.2.2.1)]),(oC [(zI y.2.2.2.2.2.2.2.2.2.2.2.1),(Sl.v 1 y.2.2.2.2.2.2.2.2.2.2.2.2)])]))) (fun y=>m11_1 pu n y.1 y.2.1 y.2.2.1 y.2.2.2.1 y.2.2.2.2.1 y.2.2.2.2.2.1 y.2.2.2.2.2.2.1 y.2.2.2.2.2.2.2.1 y.2.2.2.2.2.2.2.2.1 y.2.2.2.2.2.2.2.2.2.1 y.2.2.2.2.2.2.2.2.2.2.1 y.2.2.2.2.2.2.2.2.2.2.2.1 y.2.2.2.2.2.2.2.2.2.2.2.2) ?_ ?_
 ·rintro ⟨z3, z4, z5, z6, b1, z7, z8, b2, z9, z10, s2, z11, s3⟩ hm
  exact w11_1 pu n z3 z4 z5 z6 b1 z7 z8 b2 z9 z10 s2 z11 s3 hm
 ·refine .then (.rK ?_)
  refine .ghs (fr 244 [(9,zI z0),(10,.int .u32 z1),(11,.int .u32 z2),(12,(pt 0 0)),(13,pt 1 0),(14,zI x2),(15,zB b0),(16,zI x3),(17,(zI (0:Int))),(18,zB false),(19,(zI (12:Int))),(76,sc 2 0 1 2 5),(77,(zI (2:Int))),(78,(zI (0:Int)))]) (hp 3 [(oC [zI x0,Sl.v 1 s0]),(oC [zI x1,Sl.v 1 s1]),(oC [(zI (-1:Int)),(zI (1:Int))])]) (.k0 [] [.tmp 12 false,.tmp 13 false,.tmp 76 false] [9,10,11,12,13,14,15,16,17,18,19,76,77,78]) ?_
  refine .block ?_
  refine .loopM (v:=v) (fun y:Int×Int×Int×Int×Bool×Int×Int×Bool×Int×Nat×Nat×Int×Int×Int×Sl×Int×Sl×LV=>((fr 244 [(9,(zI y.1)),(10,(.int .u32 y.2.1)),(11,(.int .u32 y.2.2.1)),(12,(pt 0 0)),(13,pt 1 0),(14,(zI y.2.2.2.1)),(15,(zB y.2.2.2.2.1)),(16,(zI y.2.2.2.2.2.1)),(17,(zI y.2.2.2.2.2.2.1)),(18,(zB y.2.2.2.2.2.2.2.1)),(19,(zI y.2.2.2.2.2.2.2.2.1)),(76,(sc 2 0 1 y.2.2.2.2.2.2.2.2.2.1 y.2.2.2.2.2.2.2.2.2.2.1)),(77,(zI y.2.2.2.2.2.2.2.2.2.2.2.1)),(78,(zI y.2.2.2.2.2.2.2.2.2.2.2.2.1))]),(hp 3 [(oC [(zI y.2.2.2.2.2.2.2.2.2.2.2.2.2.1),(Sl.v 1 y.2.2.2.2.2.2.2.2.2.2.2.2.2.2.1)]),(oC [(zI y.2.2.2.2.2.2.2.2.2.2.2.2.2.2.2.1),(Sl.v 1 y.2.2.2.2.2.2.2.2.2.2.2.2.2.2.2.2.1)]),(oC y.2.2.2.2.2.2.2.2.2.2.2.2.2.2.2.2.2)]))) (fun w y=>l11_15 pu n w y.1 y.2.1 y.2.2.1 y.2.2.2.1 y.2.2.2.2.1 y.2.2.2.2.2.1 y.2.2.2.2.2.2.1 y.2.2.2.2.2.2.2.1 y.2.2.2.2.2.2.2.2.1 y.2.2.2.2.2.2.2.2.2.1 y.2.2.2.2.2.2.2.2.2.2.1 y.2.2.2.2.2.2.2.2.2.2.2.1 y.2.2.2.2.2.2.2.2.2.2.2.2.1 y.2.2.2.2.2.2.2.2.2.2.2.2.2.1 y.2.2.2.2.2.2.2.2.2.2.2.2.2.2.1 y.2.2.2.2.2.2.2.2.2.2.2.2.2.2.2.1 y.2.2.2.2.2.2.2.2.2.2.2.2.2.2.2.2.1 y.2.2.2.2.2.2.2.2.2.2.2.2.2.2.2.2.2) n ⟨(z0,z1,z2,x2,b0,x3,(0:Int),false,(12:Int),2,5,(2:Int),(0:Int),x0,s0,x1,s1,([(zI (-1:Int)),(zI (1:Int))]:LV)),hm,(.k0 [] [.tmp 12 false,.tmp 13 false,.tmp 76 false] [9,10,11,12,13,14,15,16,17,18,19,76,77,78])⟩ (fun _=>rfl) ?_
  rintro w0 ⟨z12,z13,z14,z15,b3,z16,z17,b4,z18,n0,c0,z19,z20,z21,s4,z22,s5,q1⟩ hm
  replace hm:b11_15 pu n (l11_15 pu n w0) z12 z13 z14 z15 b3 z16 z17 b4 z18 n0 c0 z19 z20 z21 s4 z22 s5 q1 = some v:=hm
  unfold b11_15 at hm
  refine .then (.rK ?_)
  replace hm:=bb_inv hm;obtain ⟨h3,hm⟩:=hm
  refine .ghs (fr 244 [(9,zI z12),(10,.int .u32 z13),(11,.int .u32 z14),(12,(pt 0 0)),(13,pt 1 0),(14,zI z15),(15,zB b3),(16,zI z16),(17,zI z17),(18,zB b4),(19,zI z18),(76,sc 2 0 1 n0 c0),(77,zI z19),(78,zI z20),(79,(zB (ilt z20 z19)))]) (hp 3 [(oC [zI z21,Sl.v 1 s4]),(oC [zI z22,Sl.v 1 s5]),oC q1]) (.k [2] [] [.tmp 12 false,.tmp 13 false,.tmp 76 false] [9,10,11,12,13,14,15,16,17,18,19,76,77,78,79] ⟨trF h3,trivial⟩) ?_
  refine .then ?_
  replace hm:=bb_cases hm;rcases hm with ⟨h4,hm⟩ | ⟨h4,hm⟩
  ·refine .ifT (ilt z20 z19) (by kernel_rfl) h4 ?_
   refine .skip ?_
   refine .ghs (fr 244 [(9,zI z12),(10,.int .u32 z13),(11,.int .u32 z14),(12,(pt 0 0)),(13,pt 1 0),(14,zI z15),(15,zB b3),(16,zI z16),(17,zI z17),(18,zB b4),(19,zI z18),(76,sc 2 0 1 n0 c0),(77,zI z19),(78,zI z20)]) (hp 3 [(oC [zI z21,Sl.v 1 s4]),(oC [zI z22,Sl.v 1 s5]),oC q1]) (.k [2] [] [.tmp 12 false,.tmp 13 false,.tmp 76 false] [9,10,11,12,13,14,15,16,17,18,19,76,77,78] ⟨trF h3,trivial⟩) ?_
   refine .join (v:=v) (fun y:Int×Int×Int×Int×Bool×Int×Int×Bool×Int×Nat×Nat×Int×Int×Int×Sl×Int×Sl×LV=>((fr 244 [(9,(zI y.1)),(10,(.int .u32 y.2.1)),(11,(.int .u32 y.2.2.1)),(12,(pt 0 0)),(13,pt 1 0),(14,(zI y.2.2.2.1)),(15,(zB y.2.2.2.2.1)),(16,(zI y.2.2.2.2.2.1)),(17,(zI y.2.2.2.2.2.2.1)),(18,(zB y.2.2.2.2.2.2.2.1)),(19,(zI y.2.2.2.2.2.2.2.2.1)),(76,(sc 2 0 1 y.2.2.2.2.2.2.2.2.2.1 y.2.2.2.2.2.2.2.2.2.2.1)),(77,(zI y.2.2.2.2.2.2.2.2.2.2.2.1)),(78,(zI y.2.2.2.2.2.2.2.2.2.2.2.2.1))]),(hp 3 [(oC [(zI y.2.2.2.2.2.2.2.2.2.2.2.2.2.1),(Sl.v 1 y.2.2.2.2.2.2.2.2.2.2.2.2.2.2.1)]),(oC [(zI y.2.2.2.2.2.2.2.2.2.2.2.2.2.2.2.1),(Sl.v 1 y.2.2.2.2.2.2.2.2.2.2.2.2.2.2.2.2.1)]),(oC y.2.2.2.2.2.2.2.2.2.2.2.2.2.2.2.2.2)]))) (fun y=>m11_16 pu n (l11_15 pu n w0) y.1 y.2.1 y.2.2.1 y.2.2.2.1 y.2.2.2.2.1 y.2.2.2.2.2.1 y.2.2.2.2.2.2.1 y.2.2.2.2.2.2.2.1 y.2.2.2.2.2.2.2.2.1 y.2.2.2.2.2.2.2.2.2.1 y.2.2.2.2.2.2.2.2.2.2.1 y.2.2.2.2.2.2.2.2.2.2.2.1 y.2.2.2.2.2.2.2.2.2.2.2.2.1 y.2.2.2.2.2.2.2.2.2.2.2.2.2.1 y.2.2.2.2.2.2.2.2.2.2.2.2.2.2.1 y.2.2.2.2.2.2.2.2.2.2.2.2.2.2.2.1 y.2.2.2.2.2.2.2.2.2.2.2.2.2.2.2.2.1 y.2.2.2.2.2.2.2.2.2.2.2.2.2.2.2.2.2) ?_ ?_
   ·rintro ⟨z23, z24, z25, z26, b5, z27, z28, b6, z29, n1, c1, z30, z31, z32, s6, z33, s7, q2⟩ hm
    unfold m11_16 at hm
    refine .rK ?_
    replace hm:=bb_inv hm;obtain ⟨h5,hm⟩:=hm
    exact ⟨(z23,z24,z25,z26,b5,z27,z28,b6,z29,n1,c1,z30,(wrapF .i64 (Int.add z31 (1:Int))),z32,s6,z33,s7,q2),hm,(.k [2] [] [.tmp 12 false,.tmp 13 false,.tmp 76 false] [9,10,11,12,13,14,15,16,17,18,19,76,77,78] ⟨trF h5,trivial⟩)⟩
   ·refine .block ?_
    refine .then ?_
    replace hm:=oo_inv hm;obtain ⟨k1,h6,hm⟩:=hm
    obtain rfl:=toN_some h6
    replace hm:=bb_inv hm;obtain ⟨h7,hm⟩:=hm
    replace hm:=oo_inv hm;obtain ⟨v10,h8,hm⟩:=hm
    replace hm:=inv_toI hm;obtain ⟨x4,rfl,hm⟩:=hm
    refine .reg (eD (keep (hp 3 [(oC [zI z21,Sl.v 1 s4]),(oC [zI z22,Sl.v 1 s5]),oC q1]) (bb (an (Nat.blt k1 n0) true) (some (.pointer (some ⟨2,(0 + k1 * 1),none⟩))) none)) (keep_bb h7) (eD (keep (hp 3 [(oC [zI z21,Sl.v 1 s4]),(oC [zI z22,Sl.v 1 s5]),oC q1]) (nthL q1 (0 + k1 * 1))) (keep_eq h8) (eE))) ?_
    refine .ghs (fr 244 [(9,zI z12),(10,.int .u32 z13),(11,.int .u32 z14),(12,(pt 0 0)),(13,pt 1 0),(14,zI z15),(15,zB b3),(16,zI z16),(17,zI z17),(18,zB b4),(19,zI z18),(21,zI x4),(76,sc 2 0 1 n0 c0),(77,zI z19),(78,(zI (Int.ofNat k1)))]) (hp 3 [(oC [zI z21,Sl.v 1 s4]),(oC [zI z22,Sl.v 1 s5]),oC q1]) (.k [2] [] [.tmp 12 false,.tmp 13 false,.tmp 76 false] [9,10,11,12,13,14,15,16,17,18,19,21,76,77,78] ⟨trF h3,trivial⟩) ?_
    refine .then (.rK ?_)
    refine .ghs (fr 244 [(9,zI z12),(10,.int .u32 z13),(11,.int .u32 z14),(12,(pt 0 0)),(13,pt 1 0),(14,zI z15),(15,zB b3),(16,zI z16),(17,zI z17),(18,zB b4),(19,zI z18),(21,zI x4),(22,(zI (wrapF .i64 (Int.sub z12 (1:Int))))),(76,sc 2 0 1 n0 c0),(77,zI z19),(78,(zI (Int.ofNat k1)))]) (hp 3 [(oC [zI z21,Sl.v 1 s4]),(oC [zI z22,Sl.v 1 s5]),oC q1]) (.k [2] [] [.tmp 12 false,.tmp 13 false,.tmp 76 false] [9,10,11,12,13,14,15,16,17,18,19,21,22,76,77,78] ⟨trF h3,trivial⟩) ?_
    refine .block ?_
    refine .loopM (v:=v) (fun y:Int×Int×Int×Int×Bool×Int×Int×Bool×Int×Int×Int×Nat×Nat×Int×Int×Int×Sl×Int×Sl×LV=>((fr 244 [(9,(zI y.1)),(10,(.int .u32 y.2.1)),(11,(.int .u32 y.2.2.1)),(12,(pt 0 0)),(13,pt 1 0),(14,(zI y.2.2.2.1)),(15,(zB y.2.2.2.2.1)),(16,(zI y.2.2.2.2.2.1)),(17,(zI y.2.2.2.2.2.2.1)),(18,(zB y.2.2.2.2.2.2.2.1)),(19,(zI y.2.2.2.2.2.2.2.2.1)),(21,(zI y.2.2.2.2.2.2.2.2.2.1)),(22,(zI y.2.2.2.2.2.2.2.2.2.2.1)),(76,(sc 2 0 1 y.2.2.2.2.2.2.2.2.2.2.2.1 y.2.2.2.2.2.2.2.2.2.2.2.2.1)),(77,(zI y.2.2.2.2.2.2.2.2.2.2.2.2.2.1)),(78,(zI y.2.2.2.2.2.2.2.2.2.2.2.2.2.2.1))]),(hp 3 [(oC [(zI y.2.2.2.2.2.2.2.2.2.2.2.2.2.2.2.1),(Sl.v 1 y.2.2.2.2.2.2.2.2.2.2.2.2.2.2.2.2.1)]),(oC [(zI y.2.2.2.2.2.2.2.2.2.2.2.2.2.2.2.2.2.1),(Sl.v 1 y.2.2.2.2.2.2.2.2.2.2.2.2.2.2.2.2.2.2.1)]),(oC y.2.2.2.2.2.2.2.2.2.2.2.2.2.2.2.2.2.2.2)]))) (fun w y=>l11_17 pu n (l11_15 pu n w0) w y.1 y.2.1 y.2.2.1 y.2.2.2.1 y.2.2.2.2.1 y.2.2.2.2.2.1 y.2.2.2.2.2.2.1 y.2.2.2.2.2.2.2.1 y.2.2.2.2.2.2.2.2.1 y.2.2.2.2.2.2.2.2.2.1 y.2.2.2.2.2.2.2.2.2.2.1 y.2.2.2.2.2.2.2.2.2.2.2.1 y.2.2.2.2.2.2.2.2.2.2.2.2.1 y.2.2.2.2.2.2.2.2.2.2.2.2.2.1 y.2.2.2.2.2.2.2.2.2.2.2.2.2.2.1 y.2.2.2.2.2.2.2.2.2.2.2.2.2.2.2.1 y.2.2.2.2.2.2.2.2.2.2.2.2.2.2.2.2.1 y.2.2.2.2.2.2.2.2.2.2.2.2.2.2.2.2.2.1 y.2.2.2.2.2.2.2.2.2.2.2.2.2.2.2.2.2.2.1 y.2.2.2.2.2.2.2.2.2.2.2.2.2.2.2.2.2.2.2) n ⟨(z12,z13,z14,z15,b3,z16,z17,b4,z18,x4,(wrapF .i64 (Int.sub z12 (1:Int))),n0,c0,z19,(Int.ofNat k1),z21,s4,z22,s5,q1),hm,(.k [2] [] [.tmp 12 false,.tmp 13 false,.tmp 76 false] [9,10,11,12,13,14,15,16,17,18,19,21,22,76,77,78] ⟨trF h3,trivial⟩)⟩ (fun _=>rfl) ?_
    rintro w1 ⟨z34,z35,z36,z37,b7,z38,z39,b8,z40,z41,z42,n2,c2,z43,z44,z45,s8,z46,s9,q3⟩ hm
    replace hm:b11_17 pu n (l11_15 pu n w0) (l11_17 pu n (l11_15 pu n w0) w1) z34 z35 z36 z37 b7 z38 z39 b8 z40 z41 z42 n2 c2 z43 z44 z45 s8 z46 s9 q3 = some v:=hm
    unfold b11_17 at hm
    refine .then ?_
    refine .then (.rK ?_)
    replace hm:=bb_inv hm;obtain ⟨h9,hm⟩:=hm
    refine .ghs (fr 244 [(9,zI z34),(10,.int .u32 z35),(11,.int .u32 z36),(12,(pt 0 0)),(13,pt 1 0),(14,zI z37),(15,zB b7),(16,zI z38),(17,zI z39),(18,zB b8),(19,zI z40),(21,zI z41),(22,zI z42),(76,sc 2 0 1 n2 c2),(77,zI z43),(78,zI z44),(85,(zB (nt (ilt z42 (0:Int)))))]) (hp 3 [(oC [zI z45,Sl.v 1 s8]),(oC [zI z46,Sl.v 1 s9]),oC q3]) (.k [2] [] [.tmp 12 false,.tmp 13 false,.tmp 76 false] [9,10,11,12,13,14,15,16,17,18,19,21,22,76,77,78,85] ⟨trF h9,trivial⟩) ?_
    replace hm:=bb_cases hm;rcases hm with ⟨h10,hm⟩ | ⟨h10,hm⟩
    ·refine .ifT (nt (ilt z42 (0 : Int))) (by kernel_rfl) h10 ?_
     refine .skip ?_
     refine .ghs (fr 244 [(9,zI z34),(10,.int .u32 z35),(11,.int .u32 z36),(12,(pt 0 0)),(13,pt 1 0),(14,zI z37),(15,zB b7),(16,zI z38),(17,zI z39),(18,zB b8),(19,zI z40),(21,zI z41),(22,zI z42),(76,sc 2 0 1 n2 c2),(77,zI z43),(78,zI z44)]) (hp 3 [(oC [zI z45,Sl.v 1 s8]),(oC [zI z46,Sl.v 1 s9]),oC q3]) (.k [2] [] [.tmp 12 false,.tmp 13 false,.tmp 76 false] [9,10,11,12,13,14,15,16,17,18,19,21,22,76,77,78] ⟨trF h9,trivial⟩) ?_
     refine .join (v:=v) (fun y:Int×Int×Int×Int×Bool×Int×Int×Bool×Int×Int×Int×Nat×Nat×Int×Int×Int×Sl×Int×Sl×LV=>((fr 244 [(9,(zI y.1)),(10,(.int .u32 y.2.1)),(11,(.int .u32 y.2.2.1)),(12,(pt 0 0)),(13,pt 1 0),(14,(zI y.2.2.2.1)),(15,(zB y.2.2.2.2.1)),(16,(zI y.2.2.2.2.2.1)),(17,(zI y.2.2.2.2.2.2.1)),(18,(zB y.2.2.2.2.2.2.2.1)),(19,(zI y.2.2.2.2.2.2.2.2.1)),(21,(zI y.2.2.2.2.2.2.2.2.2.1)),(22,(zI y.2.2.2.2.2.2.2.2.2.2.1)),(76,(sc 2 0 1 y.2.2.2.2.2.2.2.2.2.2.2.1 y.2.2.2.2.2.2.2.2.2.2.2.2.1)),(77,(zI y.2.2.2.2.2.2.2.2.2.2.2.2.2.1)),(78,(zI y.2.2.2.2.2.2.2.2.2.2.2.2.2.2.1))]),(hp 3 [(oC [(zI y.2.2.2.2.2.2.2.2.2.2.2.2.2.2.2.1),(Sl.v 1 y.2.2.2.2.2.2.2.2.2.2.2.2.2.2.2.2.1)]),(oC [(zI y.2.2.2.2.2.2.2.2.2.2.2.2.2.2.2.2.2.1),(Sl.v 1 y.2.2.2.2.2.2.2.2.2.2.2.2.2.2.2.2.2.2.1)]),(oC y.2.2.2.2.2.2.2.2.2.2.2.2.2.2.2.2.2.2.2)]))) (fun y=>m11_18 pu n (l11_15 pu n w0) (l11_17 pu n (l11_15 pu n w0) w1) y.1 y.2.1 y.2.2.1 y.2.2.2.1 y.2.2.2.2.1 y.2.2.2.2.2.1 y.2.2.2.2.2.2.1 y.2.2.2.2.2.2.2.1 y.2.2.2.2.2.2.2.2.1 y.2.2.2.2.2.2.2.2.2.1 y.2.2.2.2.2.2.2.2.2.2.1 y.2.2.2.2.2.2.2.2.2.2.2.1 y.2.2.2.2.2.2.2.2.2.2.2.2.1 y.2.2.2.2.2.2.2.2.2.2.2.2.2.1 y.2.2.2.2.2.2.2.2.2.2.2.2.2.2.1 y.2.2.2.2.2.2.2.2.2.2.2.2.2.2.2.1 y.2.2.2.2.2.2.2.2.2.2.2.2.2.2.2.2.1 y.2.2.2.2.2.2.2.2.2.2.2.2.2.2.2.2.2.1 y.2.2.2.2.2.2.2.2.2.2.2.2.2.2.2.2.2.2.1 y.2.2.2.2.2.2.2.2.2.2.2.2.2.2.2.2.2.2.2) ?_ ?_
     ·rintro ⟨z47, z48, z49, z50, b9, z51, z52, b10, z53, z54, z55, n3, c3, z56, z57, z58, s10, z59, s11, q4⟩ hm
      unfold m11_18 at hm
      refine .rK ?_
      replace hm:=bb_inv hm;obtain ⟨h11,hm⟩:=hm
      exact ⟨(z47,z48,z49,z50,b9,z51,z52,b10,z53,z54,(wrapF .i64 (Int.sub z55 (1:Int))),n3,c3,z56,z57,z58,s10,z59,s11,q4),hm,(.k [2] [] [.tmp 12 false,.tmp 13 false,.tmp 76 false] [9,10,11,12,13,14,15,16,17,18,19,21,22,76,77,78] ⟨trF h11,trivial⟩)⟩
     ·refine .block ?_
      refine .then ?_
      replace hm:=oo_inv hm;obtain ⟨v11,h12,hm⟩:=hm
      replace hm:=inv_toI hm;obtain ⟨x5,rfl,hm⟩:=hm
      refine .reg (eC 4 ((oo (pu 49 [zI z34,.int .u32 z35,zI z41,zI z42]) none fun v=>some (v,(hp 3 [(oC [zI z45,Sl.v 1 s8]),(oC [zI z46,Sl.v 1 s9]),oC q3])))) (call_eq h12) (eE)) ?_
      refine .ghs (fr 244 [(9,zI z34),(10,.int .u32 z35),(11,.int .u32 z36),(12,(pt 0 0)),(13,pt 1 0),(14,zI z37),(15,zB b7),(16,zI z38),(17,zI z39),(18,zB b8),(19,zI z40),(21,zI z41),(22,zI z42),(76,sc 2 0 1 n2 c2),(77,zI z43),(78,zI z44),(94,(zB (ieq x5 z36)))]) (hp 3 [(oC [zI z45,Sl.v 1 s8]),(oC [zI z46,Sl.v 1 s9]),oC q3]) (.k [2] [] [.tmp 12 false,.tmp 13 false,.tmp 76 false] [9,10,11,12,13,14,15,16,17,18,19,21,22,76,77,78,94] ⟨trF h9,trivial⟩) ?_
      replace hm:=bb_cases hm;rcases hm with ⟨h13,hm⟩ | ⟨h13,hm⟩
      ·refine .ifT (ieq x5 z36) (by kernel_rfl) h13 ?_
       refine .rK ?_
       exact ⟨(z34,z35,z36,z37,b7,z38,z42,(ilt z41 (0:Int)),(0:Int),z41,z42,n2,c2,z43,z44,z45,s8,z46,s9,q3),hm,(.k [2] [] [.tmp 12 false,.tmp 13 false,.tmp 76 false] [9,10,11,12,13,14,15,16,17,18,19,21,22,76,77,78] ⟨trF h9,trivial⟩)⟩
      ·refine .ifF (ieq x5 z36) (by kernel_rfl) h13 ?_
       refine .skip ?_
       exact ⟨(z34,z35,z36,z37,b7,z38,z39,b8,z40,z41,z42,n2,c2,z43,z44,z45,s8,z46,s9,q3),hm,(.k [2] [] [.tmp 12 false,.tmp 13 false,.tmp 76 false] [9,10,11,12,13,14,15,16,17,18,19,21,22,76,77,78] ⟨trF h9,trivial⟩)⟩
    ·refine .ifF (nt (ilt z42 (0 : Int))) (by kernel_rfl) h10 ?_
     refine .exit ?_
     exact ⟨(z34,z35,z36,z37,b7,z38,z39,b8,z40,n2,c2,z43,z44,z45,s8,z46,s9,q3),hm,(.k [2] [] [.tmp 12 false,.tmp 13 false,.tmp 76 false] [9,10,11,12,13,14,15,16,17,18,19,76,77,78] ⟨trF h9,trivial⟩)⟩
  ·refine .ifF (ilt z20 z19) (by kernel_rfl) h4 ?_
   refine .exit ?_
   exact ⟨(z12,z13,z14,z15,b3,z16,z17,b4,z18,z21,s4,z22,s5),hm,(.k0 [] [.tmp 12 false,.tmp 13 false] [9,10,11,12,13,14,15,16,17,18,19])⟩
theorem r11 {call:CallF} (pu:PureF) (n:Nat) (hcall:call = callP tabs isP pu (inl pu)) {args:LV} {v:Value} (hm:m11 pu n args = some v) (_:∀ x ∈ args,closed2 x = true):args.length≤244∧Run tt call 0 c11_146 (Fr.made 244 args) (pureHeap tabs) (Fin tt 0 [.tmp 8] v):=by
 subst hcall
 unfold m11 at hm
 replace hm:=ll_uncons hm;obtain ⟨a0,args_0,rfl,hm⟩:=hm
 replace hm:=ll_uncons hm;obtain ⟨a1,args_1,rfl,hm⟩:=hm
 replace hm:=ll_uncons hm;obtain ⟨a2,args_2,rfl,hm⟩:=hm
 replace hm:=ll_uncons hm;obtain ⟨a3,args_3,rfl,hm⟩:=hm
 replace hm:=ll_end hm;obtain ⟨rfl,hm⟩:=hm
 replace hm:=inv_vAgg hm;obtain ⟨l0,rfl,hm⟩:=hm
 replace hm:=ll_uncons hm;obtain ⟨v0,l1040_0,rfl,hm⟩:=hm
 replace hm:=ll_uncons hm;obtain ⟨v1,l1040_1,rfl,hm⟩:=hm
 replace hm:=ll_end hm;obtain ⟨rfl,hm⟩:=hm
 replace hm:=inv_toI hm;obtain ⟨x0,rfl,hm⟩:=hm
 replace hm:=inv_toI hm;obtain ⟨x1,rfl,hm⟩:=hm
 replace hm:=inv_toI hm;obtain ⟨x2,rfl,hm⟩:=hm
 replace hm:=inv_toI hm;obtain ⟨x3,rfl,hm⟩:=hm
 replace hm:=inv_toI hm;obtain ⟨x4,rfl,hm⟩:=hm
 unfold m11_ at hm
 refine ⟨by simp,?_⟩
 refine .same (F':=(fr 244 [(0,(.agg ⟨[(zY x0),.int .u32 x1]⟩)),(1,.int .u32 x2),(2,.int .i16 x3),(3,(zY x4))])) (H':=(hp 0 [])) (by kernel_rfl) (by kernel_rfl) ?_
 refine .then (.rK ?_)
 refine .ghs (fr 244 [(1,.int .u32 x2),(2,.int .i16 x3),(3,(zY x4)),(4,(pt 0 0))]) (hp 1 [(oC [(zY x0),.int .u32 x1])]) (.k0 [] [.tmp 4 false] [1,2,3,4]) ?_
 refine .then ?_
 replace hm:=oo_inv hm;obtain ⟨v2,h0,hm⟩:=hm
 replace hm:=inv_vTup hm;obtain ⟨l1,rfl,hm⟩:=hm
 replace hm:=ll_uncons hm;obtain ⟨v3,l1066_0,rfl,hm⟩:=hm
 replace hm:=ll_uncons hm;obtain ⟨v4,l1066_1,rfl,hm⟩:=hm
 replace hm:=ll_end hm;obtain ⟨rfl,hm⟩:=hm
 replace hm:=inv_toI hm;obtain ⟨x5,rfl,hm⟩:=hm
 replace hm:=inv_toI hm;obtain ⟨x6,rfl,hm⟩:=hm
 refine .reg (eC 1 ((oo (pu 46 [(.agg ⟨[(zY x0),.int .u32 x1]⟩),(zI (21:Int))]) none fun v=>some (v,(hp 1 [(oC [(zY x0),.int .u32 x1])])))) (call_eq h0) (eE)) ?_
 refine .ghs (fr 244 [(1,.int .u32 x2),(2,.int .i16 x3),(3,(zY x4)),(4,(pt 0 0)),(9,zI x5),(10,.int .u32 x6)]) (hp 1 [(oC [(zY x0),.int .u32 x1])]) (.k0 [] [.tmp 4 false] [1,2,3,4,9,10]) ?_
 refine .then ?_
 replace hm:=oo_inv hm;obtain ⟨v5,h1,hm⟩:=hm
 replace hm:=inv_toI hm;obtain ⟨x7,rfl,hm⟩:=hm
 refine .reg (eC 4 ((oo (pu 49 [zI x5,.int .u32 x6,(zI (1:Int)),(zI (wrapF .i64 x3))]) none fun v=>some (v,(hp 1 [(oC [(zY x0),.int .u32 x1])])))) (call_eq h1) (eE)) ?_
 refine .ghs (fr 244 [(1,.int .u32 x2),(2,.int .i16 x3),(3,(zY x4)),(4,(pt 0 0)),(9,zI x5),(10,.int .u32 x6),(11,.int .u32 x7)]) (hp 1 [(oC [(zY x0),.int .u32 x1])]) (.k0 [] [.tmp 4 false] [1,2,3,4,9,10,11]) ?_
 refine .join (v:=v) (fun y:Int×Int×Int=>((fr 244 [(9,(zI y.1)),(10,(.int .u32 y.2.1)),(11,(.int .u32 y.2.2))]),(hp 0 []))) (fun y=>m11_0 pu n y.1 y.2.1 y.2.2) ?_ ?_
 ·rintro ⟨z0, z1, z2⟩ hm
  exact w11_0 pu n z0 z1 z2 hm
 ·refine .then (.rK ?_)
  refine .ghs (fr 244 [(1,.int .u32 x2),(2,.int .i16 x3),(4,(pt 0 0)),(9,zI x5),(10,.int .u32 x6),(11,.int .u32 x7),(45,(zY (Int.tmod x4 (4:Int))))]) (hp 1 [(oC [(zY x0),.int .u32 x1])]) (.k0 [] [.tmp 4 false] [1,2,4,9,10,11,45]) ?_
  refine .block ?_
  refine .then (.rK ?_)
  refine .ghs (fr 244 [(1,.int .u32 x2),(2,.int .i16 x3),(4,(pt 0 0)),(9,zI x5),(10,.int .u32 x6),(11,.int .u32 x7),(45,(zY (Int.tmod x4 (4:Int)))),(46,(zB (ieq (Int.tmod x4 (4:Int)) (0:Int))))]) (hp 1 [(oC [(zY x0),.int .u32 x1])]) (.k0 [] [.tmp 4 false] [1,2,4,9,10,11,45,46]) ?_
  replace hm:=bb_cases hm;rcases hm with ⟨h2,hm⟩ | ⟨h2,hm⟩
  ·refine .ifT (ieq (Int.tmod x4 (4 : Int)) (0 : Int)) (by kernel_rfl) h2 ?_
   replace hm:=oo_inv hm;obtain ⟨v6,h3,hm⟩:=hm
   replace hm:=inv_toI hm;obtain ⟨x8,rfl,hm⟩:=hm
   refine .reg (eC 4 ((oo (pu 49 [zI x5,.int .u32 x6,(zI (-1:Int)),(zI (wrapF .i64 x3))]) none fun v=>some (v,(hp 1 [(oC [(zY x0),.int .u32 x1])])))) (call_eq h3) (eE)) ?_
   exact ⟨(x5,x6,x8),hm,(.k0 [] [] [9,10,11])⟩
  ·refine .ifF (ieq (Int.tmod x4 (4 : Int)) (0 : Int)) (by kernel_rfl) h2 ?_
   refine .then (.rK ?_)
   refine .ghs (fr 244 [(1,.int .u32 x2),(4,(pt 0 0)),(9,zI x5),(10,.int .u32 x6),(11,.int .u32 x7),(53,(zB (ieq (Int.tmod x4 (4:Int)) (1:Int))))]) (hp 1 [(oC [(zY x0),.int .u32 x1])]) (.k0 [] [.tmp 4 false] [1,4,9,10,11,53]) ?_
   replace hm:=bb_cases hm;rcases hm with ⟨h4,hm⟩ | ⟨h4,hm⟩
   ·refine .ifT (ieq (Int.tmod x4 (4 : Int)) (1 : Int)) (by kernel_rfl) h4 ?_
    replace hm:=oo_inv hm;obtain ⟨v7,h5,hm⟩:=hm
    replace hm:=inv_vTup hm;obtain ⟨l2,rfl,hm⟩:=hm
    replace hm:=ll_uncons hm;obtain ⟨v8,l2338_0,rfl,hm⟩:=hm
    replace hm:=ll_uncons hm;obtain ⟨v9,l2338_1,rfl,hm⟩:=hm
    replace hm:=ll_end hm;obtain ⟨rfl,hm⟩:=hm
    replace hm:=inv_toI hm;obtain ⟨x9,rfl,hm⟩:=hm
    replace hm:=inv_toI hm;obtain ⟨x10,rfl,hm⟩:=hm
    refine .reg (eC 4 ((oo (pu 46 [(.agg ⟨[(zY x0),.int .u32 x2]⟩),(zI (21:Int))]) none fun v=>some (v,(hp 1 [(oC [(zY x0),.int .u32 x1])])))) (call_eq h5) (eE)) ?_
    exact ⟨(x5,x6,x10),hm,(.k0 [] [] [9,10,11])⟩
   ·refine .ifF (ieq (Int.tmod x4 (4 : Int)) (1 : Int)) (by kernel_rfl) h4 ?_
    refine .skip ?_
    exact ⟨(x5,x6,x7),hm,(.k0 [] [] [9,10,11])⟩
end
end Go.RgIM
