/- Made from wip. -/
import Derived.Test.YtkhedoaiejjcfaaHvRMod1x

set_option maxRecDepth 100000
set_option maxHeartbeats 20000000
set_option linter.unusedVariables false
namespace Go.HvRM
open Go.Sp Go.HvR
noncomputable section

def m45_ (pu:PureF) (n:Nat) (q1:LV):OV:=
 (bb (allL closed1 q1) (bb (allL closed1 zA51) (bb (Nat.ble (0 + 22 * 1) (len zA51)) (bb (Nat.ble (0 + 22 * 1) (len q1)) (bb (Nat.ble (1 + 21 * 1) (len q1)) (bb (an (Nat.ble (0 + len (takeL (21 * 1) (dropL 1 q1))) (len zA51)) (allL scalarB (takeL (21 * 1) (dropL 1 q1)))) (bb (allL closed1 (setL (takeL (21 * 1) (dropL 1 q1)) 0 zA51)) (bb (an (Nat.ble (0 + 1) (len (setL (takeL (21 * 1) (dropL 1 q1)) 0 zA51))) true) (bb (allL closed1 (setL ([(.int .i64 (0:Int))]:LV) 0 (setL (takeL (21 * 1) (dropL 1 q1)) 0 zA51))) (bb (Nat.ble (0 + 22) (len q1)) (oo (pu 54 [(.agg ⟨(takeL 22 (dropL 0 q1))⟩)]) none fun v0=>(oo (toI .i64 v0) none fun x0=>(bb (allL closed2 [(.agg ⟨(takeL 22 (dropL 0 q1))⟩)]) (oo (toN x0) none fun k1=>(bb (Nat.blt k1 22) (oo (nthL (setL ([(.int .i64 (0:Int))]:LV) 0 (setL (takeL (21 * 1) (dropL 1 q1)) 0 zA51)) (0 + k1 * 1)) none fun v1=>(oo (toI .i64 v1) none fun x1=>(bb (Nat.blt k1 22) (bb (an (Nat.ble ((0 + k1 * 1) + 1) (len (setL ([(.int .i64 (0:Int))]:LV) 0 (setL (takeL (21 * 1) (dropL 1 q1)) 0 zA51)))) true) (bb (allL closed1 (setL ([(.int .i64 (wrapF .i64 (Int.add x1 (1:Int))))]:LV) (0 + k1 * 1) (setL ([(.int .i64 (0:Int))]:LV) 0 (setL (takeL (21 * 1) (dropL 1 q1)) 0 zA51)))) (bb (Nat.ble (0 + 22) (len (setL ([(.int .i64 (wrapF .i64 (Int.add x1 (1:Int))))]:LV) (0 + k1 * 1) (setL ([(.int .i64 (0:Int))]:LV) 0 (setL (takeL (21 * 1) (dropL 1 q1)) 0 zA51))))) (bb (Nat.beq (len (takeL 22 (dropL 0 (setL ([(.int .i64 (wrapF .i64 (Int.add x1 (1:Int))))]:LV) (0 + k1 * 1) (setL ([(.int .i64 (0:Int))]:LV) 0 (setL (takeL (21 * 1) (dropL 1 q1)) 0 zA51)))))) 22) (bb (an (Nat.ble (0 + len (takeL 22 (dropL 0 (setL ([(.int .i64 (wrapF .i64 (Int.add x1 (1:Int))))]:LV) (0 + k1 * 1) (setL ([(.int .i64 (0:Int))]:LV) 0 (setL (takeL (21 * 1) (dropL 1 q1)) 0 zA51)))))) (len zA51)) (allL scalarB (takeL 22 (dropL 0 (setL ([(.int .i64 (wrapF .i64 (Int.add x1 (1:Int))))]:LV) (0 + k1 * 1) (setL ([(.int .i64 (0:Int))]:LV) 0 (setL (takeL (21 * 1) (dropL 1 q1)) 0 zA51))))))) (bb (allL closed1 (setL (takeL 22 (dropL 0 (setL ([(.int .i64 (wrapF .i64 (Int.add x1 (1:Int))))]:LV) (0 + k1 * 1) (setL ([(.int .i64 (0:Int))]:LV) 0 (setL (takeL (21 * 1) (dropL 1 q1)) 0 zA51))))) 0 zA51)) (bb (Nat.ble (0 + 22) (len (setL (takeL 22 (dropL 0 (setL ([(.int .i64 (wrapF .i64 (Int.add x1 (1:Int))))]:LV) (0 + k1 * 1) (setL ([(.int .i64 (0:Int))]:LV) 0 (setL (takeL (21 * 1) (dropL 1 q1)) 0 zA51))))) 0 zA51))) (bb (closedV (.agg ⟨(takeL 22 (dropL 0 (setL (takeL 22 (dropL 0 (setL ([(.int .i64 (wrapF .i64 (Int.add x1 (1:Int))))]:LV) (0 + k1 * 1) (setL ([(.int .i64 (0:Int))]:LV) 0 (setL (takeL (21 * 1) (dropL 1 q1)) 0 zA51))))) 0 zA51)))⟩)) (some (.agg ⟨(takeL 22 (dropL 0 (setL (takeL 22 (dropL 0 (setL ([(.int .i64 (wrapF .i64 (Int.add x1 (1:Int))))]:LV) (0 + k1 * 1) (setL ([(.int .i64 (0:Int))]:LV) 0 (setL (takeL (21 * 1) (dropL 1 q1)) 0 zA51))))) 0 zA51)))⟩)) none) none) none) none) none) none) none) none) none))) none)) none))) none) none) none) none) none) none) none) none) none) none)
def m45 (pu:PureF) (n:Nat) (args:LV):OV:=
 (ll args none fun a0 args=>(ll args (oo (vAgg a0) none fun q1=>(bb (an (Nat.beq (len q1) 22) (allL closed1 q1)) (m45_ pu n q1) none)) fun _ _=>none))
theorem r45 {call:CallF} (pu:PureF) (n:Nat) (hcall:call = callP tabs isP pu (inl pu)) {args:LV} {v:Value} (hm:m45 pu n args = some v) (_:∀ x ∈ args,closed2 x = true):args.length≤15∧Run tt call 0 c45_11 (Fr.made 15 args) (pureHeap tabs) (Fin tt 0 [.cell 2 51] v):=by
 subst hcall
 unfold m45 at hm
 replace hm:=ll_uncons hm;obtain ⟨a0,args_0,rfl,hm⟩:=hm
 replace hm:=ll_end hm;obtain ⟨rfl,hm⟩:=hm
 replace hm:=inv_vAgg hm;obtain ⟨q1,rfl,hm⟩:=hm
 replace hm:=bb_inv hm;obtain ⟨h0,hm⟩:=hm
 unfold m45_ at hm
 refine ⟨by simp,?_⟩
 refine .same (F':=(fr 15 [(0,(.agg ⟨q1⟩))])) (H':=(hp 0 [])) (by kernel_rfl) (by kernel_rfl) ?_
 refine .then (.rK ?_)
 replace hm:=bb_inv hm;obtain ⟨h1,hm⟩:=hm
 replace hm:=bb_inv hm;obtain ⟨h2,hm⟩:=hm
 refine .ghs (fr 15 [(1,(pt 0 0)),(2,pt 1 0)]) (hp 2 [oC q1,oC zA51]) (.k [0,1] [] [.tmp 1 false,.tmp 2 false] [1,2] ⟨trF h1,trF h2,trivial⟩) ?_
 refine .then (.rK ?_)
 refine .ghs (fr 15 [(1,(pt 0 0)),(2,pt 1 0),(3,(pt 2 0))]) (hp 3 [oC q1,oC zA51,oC zA51]) (.k [0,1,2] [] [.tmp 1 false,.tmp 2 false,.tmp 3 false] [1,2,3] ⟨trF h1,trF h2,trF h2,trivial⟩) ?_
 refine .then ?_
 replace hm:=bb_inv hm;obtain ⟨h3,hm⟩:=hm
 replace hm:=bb_inv hm;obtain ⟨h4,hm⟩:=hm
 replace hm:=bb_inv hm;obtain ⟨h5,hm⟩:=hm
 replace hm:=bb_inv hm;obtain ⟨h6,hm⟩:=hm
 refine .reg (eD (keep (hp 3 [oC q1,oC zA51,oC zA51]) (bb (Nat.ble (0 + 22 * 1) (len zA51)) (some (sc 2 0 1 22 45)) none)) (keep_bb h3) (eD (keep (hp 3 [oC q1,oC zA51,oC zA51]) (bb (Nat.ble (0 + 22 * 1) (len q1)) (some (sc 0 1 1 21 43)) none)) (keep_bb h4) (eD (oo (bb (Nat.ble (1 + 21 * 1) (len q1)) (some (takeL (21 * 1) (dropL 1 q1))) none) none fun new=>oo (bb (an (Nat.ble (0 + len new) (len zA51)) (allL scalarB new)) (some (hp 3 [oC q1,oC zA51,(oC (setL new 0 zA51))])) none) none fun H'=>some ((zI (21:Int)),H')) (copy_eq' (G:=fun new=>(hp 3 [oC q1,oC zA51,(oC (setL new 0 zA51))])) (E:=fun new=>(an (Nat.ble (0 + len new) (len zA51)) (allL scalarB new))) h5 rfl h6) (eE)))) ?_
 replace hm:=bb_inv hm;obtain ⟨h7,hm⟩:=hm
 refine .ghs (fr 15 [(1,(pt 0 0)),(2,pt 1 0),(3,(pt 2 0))]) (hp 3 [oC q1,oC zA51,(oC (setL (takeL (21 * 1) (dropL 1 q1)) 0 zA51))]) (.k [0,1,2] [] [.tmp 1 false,.tmp 2 false,.tmp 3 false] [1,2,3] ⟨trF h1,trF h2,trF h7,trivial⟩) ?_
 refine .then ?_
 replace hm:=bb_inv hm;obtain ⟨h8,hm⟩:=hm
 refine .reg (eC 1 (done (bb (an (Nat.ble (0 + 1) (len (setL (takeL (21 * 1) (dropL 1 q1)) 0 zA51))) true) (some (hp 3 [oC q1,oC zA51,(oC (setL ([(zI (0:Int))]:LV) 0 (setL (takeL (21 * 1) (dropL 1 q1)) 0 zA51)))])) none) undef) (done_bb h8) (eE)) ?_
 replace hm:=bb_inv hm;obtain ⟨h9,hm⟩:=hm
 refine .ghs (fr 15 [(1,(pt 0 0)),(2,pt 1 0),(3,(pt 2 0))]) (hp 3 [oC q1,oC zA51,(oC (setL ([(zI (0:Int))]:LV) 0 (setL (takeL (21 * 1) (dropL 1 q1)) 0 zA51)))]) (.k [0,1,2] [] [.tmp 1 false,.tmp 2 false,.tmp 3 false] [1,2,3] ⟨trF h1,trF h2,trF h9,trivial⟩) ?_
 refine .then ?_
 replace hm:=bb_inv hm;obtain ⟨h10,hm⟩:=hm
 replace hm:=oo_inv hm;obtain ⟨v0,h11,hm⟩:=hm
 replace hm:=inv_toI hm;obtain ⟨x0,rfl,hm⟩:=hm
 replace hm:=bb_inv hm;obtain ⟨h12,hm⟩:=hm
 replace hm:=oo_inv hm;obtain ⟨k1,h13,hm⟩:=hm
 obtain rfl:=toN_some h13
 replace hm:=bb_inv hm;obtain ⟨h14,hm⟩:=hm
 replace hm:=oo_inv hm;obtain ⟨v1,h15,hm⟩:=hm
 replace hm:=inv_toI hm;obtain ⟨x1,rfl,hm⟩:=hm
 replace hm:=bb_inv hm;obtain ⟨h16,hm⟩:=hm
 replace hm:=bb_inv hm;obtain ⟨h17,hm⟩:=hm
 refine .reg (eN 3 (Fr.puts (fr 15 [(1,(pt 0 0)),(2,pt 1 0),(3,(pt 2 0))]) [(8,(.agg ⟨(takeL 22 (dropL 0 q1))⟩)),(9,(zI (Int.ofNat k1))),(10,(.pointer (some ⟨2,(0 + k1 * 1),none⟩)))]) (hp 3 [oC q1,oC zA51,(oC (setL ([(zI (0:Int))]:LV) 0 (setL (takeL (21 * 1) (dropL 1 q1)) 0 zA51)))]) (eD (keep (hp 3 [oC q1,oC zA51,(oC (setL ([(zI (0:Int))]:LV) 0 (setL (takeL (21 * 1) (dropL 1 q1)) 0 zA51)))]) (bb (Nat.ble (0 + 22) (len q1)) (some (.agg ⟨(takeL 22 (dropL 0 q1))⟩)) none)) (keep_bb h10) (eD (bb (allL closed2 [(.agg ⟨(takeL 22 (dropL 0 q1))⟩)]) (oo (pu 54 [(.agg ⟨(takeL 22 (dropL 0 q1))⟩)]) none fun v=>some (v,(hp 3 [oC q1,oC zA51,(oC (setL ([(zI (0:Int))]:LV) 0 (setL (takeL (21 * 1) (dropL 1 q1)) 0 zA51)))]))) (oo (mapO (purify (hp 3 [oC q1,oC zA51,(oC (setL ([(zI (0:Int))]:LV) 0 (setL (takeL (21 * 1) (dropL 1 q1)) 0 zA51)))])) [(.agg ⟨(takeL 22 (dropL 0 q1))⟩)]) none fun l1=>oo (pu 54 l1) none fun v=>bb (plainT v) (some (v,(hp 3 [oC q1,oC zA51,(oC (setL ([(zI (0:Int))]:LV) 0 (setL (takeL (21 * 1) (dropL 1 q1)) 0 zA51)))]))) none)) (callc_eq h12 h11) (eD (keep (hp 3 [oC q1,oC zA51,(oC (setL ([(zI (0:Int))]:LV) 0 (setL (takeL (21 * 1) (dropL 1 q1)) 0 zA51)))]) (bb (Nat.blt k1 22) (some (.pointer (some ⟨2,(0 + k1 * 1),none⟩))) none)) (keep_bb h14) (by kernel_rfl)))) (eD (keep (hp 3 [oC q1,oC zA51,(oC (setL ([(zI (0:Int))]:LV) 0 (setL (takeL (21 * 1) (dropL 1 q1)) 0 zA51)))]) (nthL (setL ([(zI (0:Int))]:LV) 0 (setL (takeL (21 * 1) (dropL 1 q1)) 0 zA51)) (0 + k1 * 1))) (keep_eq h15) (eC 1 (keep (hp 3 [oC q1,oC zA51,(oC (setL ([(zI (0:Int))]:LV) 0 (setL (takeL (21 * 1) (dropL 1 q1)) 0 zA51)))]) (bb (Nat.blt k1 22) (some (.pointer (some ⟨2,(0 + k1 * 1),none⟩))) none)) (keep_bb h16) (eD (done (bb (an (Nat.ble ((0 + k1 * 1) + 1) (len (setL ([(zI (0:Int))]:LV) 0 (setL (takeL (21 * 1) (dropL 1 q1)) 0 zA51)))) true) (some (hp 3 [oC q1,oC zA51,(oC (setL ([(zI (wrapF .i64 (Int.add x1 (1:Int))))]:LV) (0 + k1 * 1) (setL ([(zI (0:Int))]:LV) 0 (setL (takeL (21 * 1) (dropL 1 q1)) 0 zA51))))])) none) undef) (done_bb h17) (eE))))) ?_
 replace hm:=bb_inv hm;obtain ⟨h18,hm⟩:=hm
 refine .ghs (fr 15 [(2,(pt 0 0)),(3,pt 1 0)]) (hp 2 [oC zA51,(oC (setL ([(zI (wrapF .i64 (Int.add x1 (1:Int))))]:LV) (0 + k1 * 1) (setL ([(zI (0:Int))]:LV) 0 (setL (takeL (21 * 1) (dropL 1 q1)) 0 zA51))))]) (.k [1,2] [] [.tmp 2 false,.tmp 3 false] [2,3] ⟨trF h2,trF h18,trivial⟩) ?_
 refine .then ?_
 replace hm:=bb_inv hm;obtain ⟨h19,hm⟩:=hm
 replace hm:=bb_inv hm;obtain ⟨h20,hm⟩:=hm
 replace hm:=bb_inv hm;obtain ⟨h21,hm⟩:=hm
 refine .reg (eD (keep (hp 2 [oC zA51,(oC (setL ([(zI (wrapF .i64 (Int.add x1 (1:Int))))]:LV) (0 + k1 * 1) (setL ([(zI (0:Int))]:LV) 0 (setL (takeL (21 * 1) (dropL 1 q1)) 0 zA51))))]) (bb (Nat.ble (0 + 22) (len (setL ([(zI (wrapF .i64 (Int.add x1 (1:Int))))]:LV) (0 + k1 * 1) (setL ([(zI (0:Int))]:LV) 0 (setL (takeL (21 * 1) (dropL 1 q1)) 0 zA51))))) (some (.agg ⟨(takeL 22 (dropL 0 (setL ([(zI (wrapF .i64 (Int.add x1 (1:Int))))]:LV) (0 + k1 * 1) (setL ([(zI (0:Int))]:LV) 0 (setL (takeL (21 * 1) (dropL 1 q1)) 0 zA51)))))⟩)) none)) (keep_bb h19) (eD (done (bb (Nat.beq (len (takeL 22 (dropL 0 (setL ([(zI (wrapF .i64 (Int.add x1 (1:Int))))]:LV) (0 + k1 * 1) (setL ([(zI (0:Int))]:LV) 0 (setL (takeL (21 * 1) (dropL 1 q1)) 0 zA51)))))) 22) (bb (an (Nat.ble (0 + len (takeL 22 (dropL 0 (setL ([(zI (wrapF .i64 (Int.add x1 (1:Int))))]:LV) (0 + k1 * 1) (setL ([(zI (0:Int))]:LV) 0 (setL (takeL (21 * 1) (dropL 1 q1)) 0 zA51)))))) (len zA51)) (allL scalarB (takeL 22 (dropL 0 (setL ([(zI (wrapF .i64 (Int.add x1 (1:Int))))]:LV) (0 + k1 * 1) (setL ([(zI (0:Int))]:LV) 0 (setL (takeL (21 * 1) (dropL 1 q1)) 0 zA51))))))) (some (hp 2 [(oC (setL (takeL 22 (dropL 0 (setL ([(zI (wrapF .i64 (Int.add x1 (1:Int))))]:LV) (0 + k1 * 1) (setL ([(zI (0:Int))]:LV) 0 (setL (takeL (21 * 1) (dropL 1 q1)) 0 zA51))))) 0 zA51)),(oC (setL ([(zI (wrapF .i64 (Int.add x1 (1:Int))))]:LV) (0 + k1 * 1) (setL ([(zI (0:Int))]:LV) 0 (setL (takeL (21 * 1) (dropL 1 q1)) 0 zA51))))])) none) none) undef) (done_bb2 h20 h21) (eE))) ?_
 replace hm:=bb_inv hm;obtain ⟨h22,hm⟩:=hm
 refine .ghs (fr 15 [(2,(pt 0 0))]) (hp 1 [(oC (setL (takeL 22 (dropL 0 (setL ([(zI (wrapF .i64 (Int.add x1 (1:Int))))]:LV) (0 + k1 * 1) (setL ([(zI (0:Int))]:LV) 0 (setL (takeL (21 * 1) (dropL 1 q1)) 0 zA51))))) 0 zA51))]) (.k [0] [] [.tmp 2 false] [2] ⟨trF h22,trivial⟩) ?_
 refine .ret ?_
 replace hm:=bb_inv hm;obtain ⟨h23,hm⟩:=hm
 replace hm:=bb_inv hm;obtain ⟨h24,hm⟩:=hm
 exact fin_ret (.agg ⟨(takeL 22 (dropL 0 (setL (takeL 22 (dropL 0 (setL ([(zI (wrapF .i64 (Int.add x1 (1:Int))))]:LV) (0 + k1 * 1) (setL ([(zI (0:Int))]:LV) 0 (setL (takeL (21 * 1) (dropL 1 q1)) 0 zA51))))) 0 zA51)))⟩) (aresults_of (aresultsL_cons (show aresult _ _ _ _ = some (.agg ⟨(takeL 22 (dropL 0 (setL (takeL 22 (dropL 0 (setL ([(zI (wrapF .i64 (Int.add x1 (1:Int))))]:LV) (0 + k1 * 1) (setL ([(zI (0:Int))]:LV) 0 (setL (takeL (21 * 1) (dropL 1 q1)) 0 zA51))))) 0 zA51)))⟩) from (eq_bb (c:=(Nat.ble (0 + 22) (len (setL (takeL 22 (dropL 0 (setL ([(zI (wrapF .i64 (Int.add x1 (1:Int))))]:LV) (0 + k1 * 1) (setL ([(zI (0:Int))]:LV) 0 (setL (takeL (21 * 1) (dropL 1 q1)) 0 zA51))))) 0 zA51)))) (by kernel_rfl) h23)) rfl) (by kernel_rfl)) h24 hm
def m46_0 (pu:PureF) (n n0 c0:Nat) (q1:LV):OV:=
 (bb (allL closed1 q1) (bb (an (Nat.ble (0 + n0 * 1) (len q1)) (allL closed1 (takeL (n0 * 1) (dropL 0 q1)))) (some (Sl.v 1 (Sl.mk n0 0 (takeL (n0 * 1) (dropL 0 q1))))) none) none)
def b46_1 (pu:PureF) (n:Nat) (ih0:Nat→Nat→Int→LV→LV→OV) (n0 c0:Nat) (z0:Int) (q1:LV) (q2:LV):OV:=
 (bb (allL closed1 q1) (bb (allL closed1 q2) (bb (ilt (0:Int) z0) (oo (toN z0) none fun k1=>(bb (Nat.blt k1 22) (oo (nthL q1 (0 + k1 * 1)) none fun v0=>(oo (toI .i64 v0) none fun x0=>(oo (pu 63 [(Sl.v 1 (Sl.mk 1 0 (takeL (1 * 1) (dropL 0 ([(.int .i64 (Int.ofNat k1))]:LV))))),.int .i64 x0]) none fun v1=>(oo (toSl 1 v1) none fun s0=>(bb (Nat.beq (Sl.n s0) 0) (ih0 n0 c0 (wrapF .i64 (Int.sub (Int.ofNat k1) (1:Int))) q1 q2) (bb (an (allL scalarB (takeL ((Sl.n s0) * 1) (Sl.cs s0))) (growC 1 8 n0 c0 (Sl.n s0) q2)) (bb (allL closed1 (appL (dropL 0 q2) (takeL ((Sl.n s0) * 1) (Sl.cs s0)))) (ih0 (n0 + (Sl.n s0)) (2 * (n0 + (Sl.n s0)) + bb false 1 0) (wrapF .i64 (Int.sub (Int.ofNat k1) (1:Int))) q1 (appL (dropL 0 q2) (takeL ((Sl.n s0) * 1) (Sl.cs s0)))) none) none)))))) none)) (m46_0 pu n n0 c0 q2)) none) none)
def l46_1 (pu:PureF) (n w:Nat):Nat→Nat→Int→LV→LV→OV:=
 Nat.rec (motive:=fun _=>Nat→Nat→Int→LV→LV→OV) (fun _ _ _ _ _=>none) (fun _ ih0=>b46_1 pu n ih0) w
def m46_ (pu:PureF) (n:Nat) (q1:LV):OV:=
 (bb (allL closed1 q1) (l46_1 pu n n 0 0 (21:Int) q1 ([]:LV)) none)
def m46 (pu:PureF) (n:Nat) (args:LV):OV:=
 (ll args none fun a0 args=>(ll args (oo (vAgg a0) none fun q1=>(bb (an (Nat.beq (len q1) 22) (allL closed1 q1)) (m46_ pu n q1) none)) fun _ _=>none))
theorem w46_0 (pu:PureF) (n n0 c0:Nat) (q1:LV) {v:Value} (hm:m46_0 pu n n0 c0 q1 = some v):Run tt (callP tabs isP pu (inl pu)) 0 c46_15 (fr 18 [(3,sc 0 0 1 n0 c0)]) (hp 1 [oC q1]) (FinL tt 0 1 [.tmp 2] v):=by
 unfold m46_0 at hm
 refine .then (.rK ?_)
 replace hm:=bb_inv hm;obtain ⟨h0,hm⟩:=hm
 refine .ghs (fr 18 [(2,sc 0 0 1 n0 c0)]) (hp 1 [oC q1]) (.k [0] [] [.tmp 2 false] [2] ⟨trF h0,trivial⟩) ?_
 refine .ret ?_
 replace hm:=bb_inv hm;obtain ⟨h1,hm⟩:=hm
 exact finL_ret 0 0 c0 n0 [] q1 (by kernel_rfl) (by kernel_rfl) (by kernel_rfl) h1 hm
theorem r46 {call:CallF} (pu:PureF) (n:Nat) (hcall:call = callP tabs isP pu (inl pu)) {args:LV} {v:Value} (hm:m46 pu n args = some v) (_:∀ x ∈ args,closed2 x = true):args.length≤18∧Run tt call 0 c46_18 (Fr.made 18 args) (pureHeap tabs) (FinL tt 0 1 [.tmp 2] v):=by
 subst hcall
 unfold m46 at hm
 replace hm:=ll_uncons hm;obtain ⟨a0,args_0,rfl,hm⟩:=hm
 replace hm:=ll_end hm;obtain ⟨rfl,hm⟩:=hm
 replace hm:=inv_vAgg hm;obtain ⟨q1,rfl,hm⟩:=hm
 replace hm:=bb_inv hm;obtain ⟨h0,hm⟩:=hm
 unfold m46_ at hm
 refine ⟨by simp,?_⟩
 refine .same (F':=(fr 18 [(0,(.agg ⟨q1⟩))])) (H':=(hp 0 [])) (by kernel_rfl) (by kernel_rfl) ?_
 refine .then (.rK ?_)
 replace hm:=bb_inv hm;obtain ⟨h1,hm⟩:=hm
 refine .ghs (fr 18 [(1,(pt 0 0))]) (hp 1 [oC q1]) (.k [0] [] [.tmp 1 false] [1] ⟨trF h1,trivial⟩) ?_
 refine .then (.rK ?_)
 refine .ghs (fr 18 [(1,(pt 0 0)),(3,(.slice none 0 0))]) (hp 1 [oC q1]) (.k [0] [] [.tmp 1 false] [1,3] ⟨trF h1,trivial⟩) ?_
 refine .join (v:=v) (fun y:Nat×Nat×LV=>((fr 18 [(3,(sc 0 0 1 y.1 y.2.1))]),(hp 1 [(oC y.2.2)]))) (fun y=>m46_0 pu n y.1 y.2.1 y.2.2) ?_ ?_
 ·rintro ⟨n0, c0, q2⟩ hm
  exact w46_0 pu n n0 c0 q2 hm
 ·refine .then (.rK ?_)
  refine .ghs (fr 18 [(1,(pt 0 0)),(3,(.slice none 0 0)),(4,(zI (21:Int)))]) (hp 1 [oC q1]) (.k [0] [] [.tmp 1 false] [1,3,4] ⟨trF h1,trivial⟩) ?_
  refine .block ?_
  refine .loopM (v:=v) (fun y:Nat×Nat×Int×LV×LV=>((fr 18 [(1,(pt 0 0)),(3,(sc 1 0 1 y.1 y.2.1)),(4,(zI y.2.2.1))]),(hp 2 [(oC y.2.2.2.1),(oC y.2.2.2.2)]))) (fun w y=>l46_1 pu n w y.1 y.2.1 y.2.2.1 y.2.2.2.1 y.2.2.2.2) n ⟨(0,0,(21:Int),q1,([]:LV)),hm,(.thaw 3 1 (by kernel_rfl) (.k [0] [] [.tmp 1 false,.tmp 3 false] [1,3,4] ⟨trF h1,trivial⟩))⟩ (fun _=>rfl) ?_
  rintro w0 ⟨n1,c1,z0,q3,q4⟩ hm
  replace hm:b46_1 pu n (l46_1 pu n w0) n1 c1 z0 q3 q4 = some v:=hm
  unfold b46_1 at hm
  refine .then ?_
  refine .then (.rK ?_)
  replace hm:=bb_inv hm;obtain ⟨h2,hm⟩:=hm
  replace hm:=bb_inv hm;obtain ⟨h3,hm⟩:=hm
  refine .ghs (fr 18 [(1,(pt 0 0)),(3,sc 1 0 1 n1 c1),(4,zI z0),(6,(zB (ilt (0:Int) z0)))]) (hp 2 [oC q3,oC q4]) (.k [0,1] [] [.tmp 1 false,.tmp 3 false] [1,3,4,6] ⟨trF h2,trF h3,trivial⟩) ?_
  replace hm:=bb_cases hm;rcases hm with ⟨h4,hm⟩ | ⟨h4,hm⟩
  ·refine .ifT (ilt (0 : Int) z0) (by kernel_rfl) h4 ?_
   refine .skip ?_
   refine .ghs (fr 18 [(1,(pt 0 0)),(3,sc 1 0 1 n1 c1),(4,zI z0)]) (hp 2 [oC q3,oC q4]) (.k [0,1] [] [.tmp 1 false,.tmp 3 false] [1,3,4] ⟨trF h2,trF h3,trivial⟩) ?_
   refine .then ?_
   refine .block ?_
   replace hm:=oo_inv hm;obtain ⟨k1,h5,hm⟩:=hm
   obtain rfl:=toN_some h5
   replace hm:=bb_inv hm;obtain ⟨h6,hm⟩:=hm
   replace hm:=oo_inv hm;obtain ⟨v0,h7,hm⟩:=hm
   replace hm:=inv_toI hm;obtain ⟨x0,rfl,hm⟩:=hm
   replace hm:=oo_inv hm;obtain ⟨v1,h8,hm⟩:=hm
   replace hm:=inv_toSl hm;obtain ⟨s0,rfl,hm⟩:=hm
   replace hm:=bb_cases hm;rcases hm with ⟨h9,hm⟩ | ⟨h9,hm⟩
   ·refine .reg (eC 4 (keep (hp 3 [oC q3, oC q4, (oC [(zI (Int.ofNat k1))])]) (bb (Nat.blt k1 22) (some (.pointer (some ⟨0, (0 + k1 * 1), none⟩))) none)) (keep_bb h6) (eD (keep (hp 3 [oC q3, oC q4, (oC [(zI (Int.ofNat k1))])]) (nthL q3 (0 + k1 * 1))) (keep_eq h7) (eD (giveF tabs 1 (pu 63) [sc 2 0 1 1 3, zI x0] (hp 3 [oC q3, oC q4, (oC [(zI (Int.ofNat k1))])])) (giveF_eq (giveL_cons (show giveV 1 (sc 2 0 1 1 3) (hp 3 [oC q3, oC q4, (oC [(zI (Int.ofNat k1))])]) = some ((Sl.v 1 (Sl.mk 1 0 (takeL (1 * 1) (dropL 0 ([(zI (Int.ofNat k1))] : LV))))), (hp 3 [oC q3, oC q4, .dead])) from giveV_sl 2 0 1 1 3 ([(zI (Int.ofNat k1))] : LV) [] (by kernel_rfl) (by kernel_rfl) (by kernel_rfl)) (giveL_cons (giveV_cl (z := 1) (v := (zI x0)) (H := (hp 3 [oC q3, oC q4, .dead])) (by kernel_rfl) (by kernel_rfl) (by kernel_rfl)) giveL_nil)) (by kernel_rfl) h8) (eD (appFs (hp 3 [oC q3, oC q4, .dead]) 1 8 (sc 1 0 1 n1 c1) s0) (appFs_sl0 h9) (eE))))) ?_
    refine .ghs (fr 18 [(1,(pt 0 0)),(3,sc 1 0 1 n1 c1),(4,(zI (Int.ofNat k1)))]) (hp 2 [oC q3,oC q4]) (.k [0,1] [] [.tmp 1 false,.tmp 3 false] [1,3,4] ⟨trF h2,trF h3,trivial⟩) ?_
    refine .rK ?_
    exact ⟨(n1,c1,(wrapF .i64 (Int.sub (Int.ofNat k1) (1:Int))),q3,q4),hm,(.k [0,1] [] [.tmp 1 false,.tmp 3 false] [1,3,4] ⟨trF h2,trF h3,trivial⟩)⟩
   ·replace hm := bb_inv hm; obtain ⟨h10, hm⟩ := hm
    refine .reg (eC 4 (keep (hp 3 [oC q3,oC q4,(oC [(zI (Int.ofNat k1))])]) (bb (Nat.blt k1 22) (some (.pointer (some ⟨0,(0 + k1 * 1),none⟩))) none)) (keep_bb h6) (eD (keep (hp 3 [oC q3,oC q4,(oC [(zI (Int.ofNat k1))])]) (nthL q3 (0 + k1 * 1))) (keep_eq h7) (eD (giveF tabs 1 (pu 63) [sc 2 0 1 1 3,zI x0] (hp 3 [oC q3,oC q4,(oC [(zI (Int.ofNat k1))])])) (giveF_eq (giveL_cons (show giveV 1 (sc 2 0 1 1 3) (hp 3 [oC q3,oC q4,(oC [(zI (Int.ofNat k1))])]) = some ((Sl.v 1 (Sl.mk 1 0 (takeL (1 * 1) (dropL 0 ([(zI (Int.ofNat k1))]:LV))))),(hp 3 [oC q3,oC q4,.dead])) from giveV_sl 2 0 1 1 3 ([(zI (Int.ofNat k1))]:LV) [] (by kernel_rfl) (by kernel_rfl) (by kernel_rfl)) (giveL_cons (giveV_cl (z:=1) (v:=(zI x0)) (H:=(hp 3 [oC q3,oC q4,.dead])) (by kernel_rfl) (by kernel_rfl) (by kernel_rfl)) giveL_nil)) (by kernel_rfl) h8) (eD (appFs (hp 3 [oC q3,oC q4,.dead]) 1 8 (sc 1 0 1 n1 c1) s0) (appFs_grow (H:=(hp 3 [oC q3,oC q4,.dead])) (id:=1) (n:=n1) (c2:=c1) (xs:=q4) (anc:=[]) h9 (by kernel_rfl) (by kernel_rfl) h10) (eE))))) ?_
    replace hm:=bb_inv hm;obtain ⟨h11,hm⟩:=hm
    refine .ghs (fr 18 [(1,(pt 0 0)),(3,(sc 1 0 1 (n1 + (Sl.n s0)) (d2 (n1 + (Sl.n s0))))),(4,(zI (Int.ofNat k1)))]) (hp 2 [oC q3,(oC (appL (dropL 0 q4) (takeL ((Sl.n s0) * 1) (Sl.cs s0))))]) (.k [0,3] [] [.tmp 1 false,.tmp 3 false] [1,3,4] ⟨trF h2,trF h11,trivial⟩) ?_
    refine .rK ?_
    exact ⟨((n1 + (Sl.n s0)),(d2 (n1 + (Sl.n s0))),(wrapF .i64 (Int.sub (Int.ofNat k1) (1:Int))),q3,(appL (dropL 0 q4) (takeL ((Sl.n s0) * 1) (Sl.cs s0)))),hm,(.k [0,1] [] [.tmp 1 false,.tmp 3 false] [1,3,4] ⟨trF h2,trF h11,trivial⟩)⟩
  ·refine .ifF (ilt (0 : Int) z0) (by kernel_rfl) h4 ?_
   refine .exit ?_
   exact ⟨(n1,c1,q4),hm,(.k [1] [] [.tmp 3 false] [3] ⟨trF h3,trivial⟩)⟩
def m47_0 (pu:PureF) (n:Nat):OV:=
 (some (.bool true))
def b47_1 (pu:PureF) (n:Nat) (ih0:Int→Nat→Nat→Int→Int→LV→OV) (z0:Int) (n0 c0:Nat) (z1 z2:Int) (q1:LV):OV:=
 (bb (allL closed1 q1) (bb (ilt z2 z1) (oo (toN z2) none fun k1=>(bb (an (Nat.blt k1 n0) true) (oo (nthL q1 (0 + k1 * 1)) none fun v0=>(oo (toI .i64 v0) none fun x0=>(oo (pu 32 [(.int .i64 (wrapF .i64 (Int.sub z0 (Int.ofNat k1)))),.int .i64 x0,(.int .i64 (wrapF .i64 (Int.sub (wrapF .i64 (Int.add z0 (1:Int))) (Int.ofNat k1))))]) none fun v1=>(oo (vBool v1) none fun b0=>(bb (nt b0) (some (.bool false)) (ih0 z0 n0 c0 z1 (wrapF .i64 (Int.add (Int.ofNat k1) (1:Int))) q1)))))) none)) (m47_0 pu n)) none)
def l47_1 (pu:PureF) (n w:Nat):Int→Nat→Nat→Int→Int→LV→OV:=
 Nat.rec (motive:=fun _=>Int→Nat→Nat→Int→Int→LV→OV) (fun _ _ _ _ _ _=>none) (fun _ ih0=>b47_1 pu n ih0) w
def b47_2 (pu:PureF) (n:Nat) (ih0:Int→Nat→Nat→Int→Int→LV→OV) (z0:Int) (n0 c0:Nat) (z1 z2:Int) (q1:LV):OV:=
 (bb (allL closed1 q1) (bb (ilt z2 z1) (oo (toN z2) none fun k1=>(bb (an (Nat.blt k1 n0) true) (oo (nthL q1 (0 + k1 * 1)) none fun v0=>(oo (toI .i64 v0) none fun x0=>(oo (pu 32 [(.int .i64 (wrapF .i64 (Int.sub z0 (Int.ofNat k1)))),.int .i64 x0,(.int .i64 (wrapF .i64 (Int.sub (wrapF .i64 (Int.add z0 (1:Int))) (Int.ofNat k1))))]) none fun v1=>(oo (vBool v1) none fun b0=>(bb (nt b0) (some (.bool false)) (ih0 z0 n0 c0 z1 (wrapF .i64 (Int.add (Int.ofNat k1) (1:Int))) q1)))))) none)) (m47_0 pu n)) none)
def l47_2 (pu:PureF) (n w:Nat):Int→Nat→Nat→Int→Int→LV→OV:=
 Nat.rec (motive:=fun _=>Int→Nat→Nat→Int→Int→LV→OV) (fun _ _ _ _ _ _=>none) (fun _ ih0=>b47_2 pu n ih0) w
def m47_ (pu:PureF) (n:Nat) (q1:LV):OV:=
 (bb (allL closed1 q1) (bb (Nat.ble (0 + 22) (len q1)) (oo (pu 46 [(.agg ⟨(takeL 22 (dropL 0 q1))⟩)]) none fun v0=>(oo (toSl 1 v0) none fun s0=>(bb (allL closed2 [(.agg ⟨(takeL 22 (dropL 0 q1))⟩)]) (bb (allL closed1 (Sl.cs s0)) (bb (Nat.ble (0 + 22) (len q1)) (oo (pu 48 [(.agg ⟨(takeL 22 (dropL 0 q1))⟩)]) none fun v1=>(oo (toI .i64 v1) none fun x0=>(bb (allL closed2 [(.agg ⟨(takeL 22 (dropL 0 q1))⟩)]) (oo (pu 33 [.int .i64 x0]) none fun v2=>(oo (vTup v2) none fun l0=>(ll l0 none fun v3 l0=>(ll l0 none fun v4 l0=>(ll l0 (oo (toI .i64 v3) none fun x1=>(oo (toI .i64 v4) none fun x2=>(bb (ilt (wrapF .i64 (Int.add x1 (1:Int))) (Int.ofNat (Sl.n s0))) (some (.bool false)) (oo (toN (wrapF .i64 (Int.sub (wrapF .i64 (Int.add x1 (1:Int))) (Int.ofNat (Sl.n s0))))) none fun k1=>(bb (Nat.beq k1 0) (bb (an (Nat.ble k1 1000000) (roomy k1 8)) (l47_1 pu n n x1 (Sl.n s0) (2 * (Sl.n s0) + bb false 1 0) (Int.ofNat (Sl.n s0)) (0:Int) (Sl.cs s0)) none) (bb (an (Nat.ble k1 1000000) (roomy k1 8)) (bb (an (allL scalarB (zeroRow ([(.int .i64 (0:Int))]:LV) k1)) (growC 1 8 (Sl.n s0) (2 * (Sl.n s0) + bb false 1 0) k1 (Sl.cs s0))) (bb (allL closed1 (appL (dropL 0 (Sl.cs s0)) (zeroRow ([(.int .i64 (0:Int))]:LV) k1))) (l47_2 pu n n x1 ((Sl.n s0) + k1) (2 * ((Sl.n s0) + k1) + bb false 1 0) (Int.ofNat ((Sl.n s0) + k1)) (0:Int) (appL (dropL 0 (Sl.cs s0)) (zeroRow ([(.int .i64 (0:Int))]:LV) k1))) none) none) none)))))) fun _ _=>none))))) none))) none) none) none))) none) none)
def m47 (pu:PureF) (n:Nat) (args:LV):OV:=
 (ll args none fun a0 args=>(ll args (oo (vAgg a0) none fun q1=>(bb (an (Nat.beq (len q1) 22) (allL closed1 q1)) (m47_ pu n q1) none)) fun _ _=>none))
theorem w47_0 (pu:PureF) (n:Nat) {v:Value} (hm:m47_0 pu n = some v):Run tt (callP tabs isP pu (inl pu)) 0 c47_27 (fr 45 []) (hp 0 []) (Fin tt 0 [.tmp 2] v):=by
 unfold m47_0 at hm
 refine .then (.rK ?_)
 refine .ghs (fr 45 [(2,zB true)]) (hp 0 []) (.k0 [] [] [2]) ?_
 refine .ret ?_
 exact fin_ret (zB true) (by kernel_rfl) (by kernel_rfl) hm
theorem r47 {call:CallF} (pu:PureF) (n:Nat) (hcall:call = callP tabs isP pu (inl pu)) {args:LV} {v:Value} (hm:m47 pu n args = some v) (_:∀ x ∈ args,closed2 x = true):args.length≤45∧Run tt call 0 c47_32 (Fr.made 45 args) (pureHeap tabs) (Fin tt 0 [.tmp 2] v):=by
 subst hcall
 unfold m47 at hm
 replace hm:=ll_uncons hm;obtain ⟨a0,args_0,rfl,hm⟩:=hm
 replace hm:=ll_end hm;obtain ⟨rfl,hm⟩:=hm
 replace hm:=inv_vAgg hm;obtain ⟨q1,rfl,hm⟩:=hm
 replace hm:=bb_inv hm;obtain ⟨h0,hm⟩:=hm
 unfold m47_ at hm
 refine ⟨by simp,?_⟩
 refine .same (F':=(fr 45 [(0,(.agg ⟨q1⟩))])) (H':=(hp 0 [])) (by kernel_rfl) (by kernel_rfl) ?_
 refine .then (.rK ?_)
 replace hm:=bb_inv hm;obtain ⟨h1,hm⟩:=hm
 refine .ghs (fr 45 [(1,(pt 0 0))]) (hp 1 [oC q1]) (.k [0] [] [.tmp 1 false] [1] ⟨trF h1,trivial⟩) ?_
 refine .then ?_
 replace hm:=bb_inv hm;obtain ⟨h2,hm⟩:=hm
 replace hm:=oo_inv hm;obtain ⟨v0,h3,hm⟩:=hm
 replace hm:=inv_toSl hm;obtain ⟨s0,rfl,hm⟩:=hm
 replace hm:=bb_inv hm;obtain ⟨h4,hm⟩:=hm
 refine .reg (eD (keep (hp 1 [oC q1]) (bb (Nat.ble (0 + 22) (len q1)) (some (.agg ⟨(takeL 22 (dropL 0 q1))⟩)) none)) (keep_bb h2) (eD (bb (allL closed2 [(.agg ⟨(takeL 22 (dropL 0 q1))⟩)]) (oo (pu 46 [(.agg ⟨(takeL 22 (dropL 0 q1))⟩)]) none fun v=>oo (toSl 1 v) none fun s=>some (((sc 1 0 1 (Sl.n s) (d2 (Sl.n s))),(hp 2 [oC q1,(oC (Sl.cs s))])):Value×AHeap)) none) ((bb_true' h4).trans (live_eq (sz:=1) (k:=fun s=>(((sc 1 0 1 (Sl.n s) (d2 (Sl.n s))),(hp 2 [oC q1,(oC (Sl.cs s))])):Value×AHeap)) h3)) (eE))) ?_
 replace hm:=bb_inv hm;obtain ⟨h5,hm⟩:=hm
 refine .ghs (fr 45 [(1,(pt 0 0)),(3,(sc 1 0 1 (Sl.n s0) (d2 (Sl.n s0))))]) (hp 2 [oC q1,(oC (Sl.cs s0))]) (.k [0,1] [] [.tmp 1 false,.tmp 3 false] [1,3] ⟨trF h1,trF h5,trivial⟩) ?_
 refine .then ?_
 replace hm:=bb_inv hm;obtain ⟨h6,hm⟩:=hm
 replace hm:=oo_inv hm;obtain ⟨v1,h7,hm⟩:=hm
 replace hm:=inv_toI hm;obtain ⟨x0,rfl,hm⟩:=hm
 replace hm:=bb_inv hm;obtain ⟨h8,hm⟩:=hm
 replace hm:=oo_inv hm;obtain ⟨v2,h9,hm⟩:=hm
 replace hm:=inv_vTup hm;obtain ⟨l0,rfl,hm⟩:=hm
 replace hm:=ll_uncons hm;obtain ⟨v3,l106389_0,rfl,hm⟩:=hm
 replace hm:=ll_uncons hm;obtain ⟨v4,l106389_1,rfl,hm⟩:=hm
 replace hm:=ll_end hm;obtain ⟨rfl,hm⟩:=hm
 replace hm:=inv_toI hm;obtain ⟨x1,rfl,hm⟩:=hm
 replace hm:=inv_toI hm;obtain ⟨x2,rfl,hm⟩:=hm
 refine .reg (eD (keep (hp 2 [oC q1,(oC (Sl.cs s0))]) (bb (Nat.ble (0 + 22) (len q1)) (some (.agg ⟨(takeL 22 (dropL 0 q1))⟩)) none)) (keep_bb h6) (eD (bb (allL closed2 [(.agg ⟨(takeL 22 (dropL 0 q1))⟩)]) (oo (pu 48 [(.agg ⟨(takeL 22 (dropL 0 q1))⟩)]) none fun v=>some (v,(hp 2 [oC q1,(oC (Sl.cs s0))]))) (oo (mapO (purify (hp 2 [oC q1,(oC (Sl.cs s0))])) [(.agg ⟨(takeL 22 (dropL 0 q1))⟩)]) none fun l1=>oo (pu 48 l1) none fun v=>bb (plainT v) (some (v,(hp 2 [oC q1,(oC (Sl.cs s0))]))) none)) (callc_eq h8 h7) (eD ((oo (pu 33 [zI x0]) none fun v=>some (v,(hp 2 [oC q1,(oC (Sl.cs s0))])))) (call_eq h9) (eE)))) ?_
 refine .ghs (fr 45 [(3,(sc 0 0 1 (Sl.n s0) (d2 (Sl.n s0)))),(4,zI x1)]) (hp 1 [(oC (Sl.cs s0))]) (.k [1] [] [.tmp 3 false] [3,4] ⟨trF h5,trivial⟩) ?_
 refine .then ?_
 refine .then (.rK ?_)
 refine .ghs (fr 45 [(3,(sc 0 0 1 (Sl.n s0) (d2 (Sl.n s0)))),(4,zI x1),(20,(zB (ilt (wrapF .i64 (Int.add x1 (1:Int))) (Int.ofNat (Sl.n s0)))))]) (hp 1 [(oC (Sl.cs s0))]) (.k [0] [] [.tmp 3 false] [3,4,20] ⟨trF h5,trivial⟩) ?_
 replace hm:=bb_cases hm;rcases hm with ⟨h10,hm⟩ | ⟨h10,hm⟩
 ·refine .ifT (ilt (wrapF .i64 (Int.add x1 (1 : Int))) (Int.ofNat (Sl.n s0))) (by kernel_rfl) h10 ?_
  refine .then (.rK ?_)
  refine .ghs (fr 45 [(2,zB false)]) (hp 0 []) (.k0 [] [] [2]) ?_
  refine .ret ?_
  exact fin_ret (zB false) (by kernel_rfl) (by kernel_rfl) hm
 ·refine .ifF (ilt (wrapF .i64 (Int.add x1 (1 : Int))) (Int.ofNat (Sl.n s0))) (by kernel_rfl) h10 ?_
  refine .skip ?_
  refine .ghs (fr 45 [(3,(sc 0 0 1 (Sl.n s0) (d2 (Sl.n s0)))),(4,zI x1)]) (hp 1 [(oC (Sl.cs s0))]) (.k [0] [] [.tmp 3 false] [3,4] ⟨trF h5,trivial⟩) ?_
  refine .join (v:=v) (fun y:Unit=>((fr 45 []),(hp 0 []))) (fun y=>m47_0 pu n) ?_ ?_
  ·rintro _ hm
   exact w47_0 pu n hm
  ·refine .then ?_
   replace hm:=oo_inv hm;obtain ⟨k1,h11,hm⟩:=hm
   replace hm:=bb_cases hm;rcases hm with ⟨h12,hm⟩ | ⟨h12,hm⟩
   ·replace hm := bb_inv hm; obtain ⟨h13, hm⟩ := hm
    refine .reg (eC 5 (some ((zI (wrapF .i64 (Int.sub (wrapF .i64 (Int.add x1 (1:Int))) (Int.ofNat (Sl.n s0))))),(hp 1 [(oC (Sl.cs s0))]))) (show _ = some ((zI (Int.ofNat k1)),_) from (by rw [toN_some h11])) (eD (appZ (hp 1 [(oC (Sl.cs s0))]) 1 8 ([(zI (0:Int))]:LV) (sc 0 0 1 (Sl.n s0) (d2 (Sl.n s0))) k1) (appZ_0 h13 h12) (eE))) ?_
    refine .ghs (fr 45 [(4,zI x1),(27,(sc 0 0 1 (Sl.n s0) (d2 (Sl.n s0)))),(28,(zI (Int.ofNat (Sl.n s0)))),(29,(zI (0:Int)))]) (hp 1 [(oC (Sl.cs s0))]) (.k [0] [] [.tmp 27 false] [4,27,28,29] ⟨trF h5,trivial⟩) ?_
    refine .block ?_
    refine .loopM (v:=v) (fun y:Int×Nat×Nat×Int×Int×LV=>((fr 45 [(4,(zI y.1)),(27,(sc 0 0 1 y.2.1 y.2.2.1)),(28,(zI y.2.2.2.1)),(29,(zI y.2.2.2.2.1))]),(hp 1 [(oC y.2.2.2.2.2)]))) (fun w y=>l47_1 pu n w y.1 y.2.1 y.2.2.1 y.2.2.2.1 y.2.2.2.2.1 y.2.2.2.2.2) n ⟨(x1,(Sl.n s0),(d2 (Sl.n s0)),(Int.ofNat (Sl.n s0)),(0:Int),(Sl.cs s0)),hm,(.k [0] [] [.tmp 27 false] [4,27,28,29] ⟨trF h5,trivial⟩)⟩ (fun _=>rfl) ?_
    rintro w0 ⟨z0,n0,c0,z1,z2,q2⟩ hm
    replace hm:b47_1 pu n (l47_1 pu n w0) z0 n0 c0 z1 z2 q2 = some v:=hm
    unfold b47_1 at hm
    refine .then (.rK ?_)
    replace hm:=bb_inv hm;obtain ⟨h14,hm⟩:=hm
    refine .ghs (fr 45 [(4,zI z0),(27,sc 0 0 1 n0 c0),(28,zI z1),(29,zI z2),(30,(zB (ilt z2 z1)))]) (hp 1 [oC q2]) (.k [0] [] [.tmp 27 false] [4,27,28,29,30] ⟨trF h14,trivial⟩) ?_
    refine .then ?_
    replace hm:=bb_cases hm;rcases hm with ⟨h15,hm⟩ | ⟨h15,hm⟩
    ·refine .ifT (ilt z2 z1) (by kernel_rfl) h15 ?_
     refine .skip ?_
     refine .ghs (fr 45 [(4,zI z0),(27,sc 0 0 1 n0 c0),(28,zI z1),(29,zI z2)]) (hp 1 [oC q2]) (.k [0] [] [.tmp 27 false] [4,27,28,29] ⟨trF h14,trivial⟩) ?_
     refine .then ?_
     refine .block ?_
     refine .then ?_
     replace hm:=oo_inv hm;obtain ⟨k2,h16,hm⟩:=hm
     obtain rfl:=toN_some h16
     replace hm:=bb_inv hm;obtain ⟨h17,hm⟩:=hm
     replace hm:=oo_inv hm;obtain ⟨v5,h18,hm⟩:=hm
     replace hm:=inv_toI hm;obtain ⟨x3,rfl,hm⟩:=hm
     refine .reg (eC 1 (keep (hp 1 [oC q2]) (bb (an (Nat.blt k2 n0) true) (some (.pointer (some ⟨0,(0 + k2 * 1),none⟩))) none)) (keep_bb h17) (eD (keep (hp 1 [oC q2]) (nthL q2 (0 + k2 * 1))) (keep_eq h18) (eE))) ?_
     refine .ghs (fr 45 [(4,zI z0),(6,(zI (Int.ofNat k2))),(7,zI x3),(27,sc 0 0 1 n0 c0),(28,zI z1),(29,(zI (Int.ofNat k2)))]) (hp 1 [oC q2]) (.k [0] [] [.tmp 27 false] [4,6,7,27,28,29] ⟨trF h14,trivial⟩) ?_
     refine .then ?_
     replace hm:=oo_inv hm;obtain ⟨v6,h19,hm⟩:=hm
     replace hm:=inv_vBool hm;obtain ⟨b0,rfl,hm⟩:=hm
     refine .reg (eC 8 ((oo (pu 32 [(zI (wrapF .i64 (Int.sub z0 (Int.ofNat k2)))),zI x3,(zI (wrapF .i64 (Int.sub (wrapF .i64 (Int.add z0 (1:Int))) (Int.ofNat k2))))]) none fun v=>some (v,(hp 1 [oC q2])))) (call_eq h19) (eE)) ?_
     refine .ghs (fr 45 [(4,zI z0),(27,sc 0 0 1 n0 c0),(28,zI z1),(29,(zI (Int.ofNat k2))),(43,(zB (nt b0)))]) (hp 1 [oC q2]) (.k [0] [] [.tmp 27 false] [4,27,28,29,43] ⟨trF h14,trivial⟩) ?_
     replace hm:=bb_cases hm;rcases hm with ⟨h20,hm⟩ | ⟨h20,hm⟩
     ·refine .ifT (nt b0) (by kernel_rfl) h20 ?_
      refine .then (.rK ?_)
      refine .ghs (fr 45 [(2,zB false)]) (hp 0 []) (.k0 [] [] [2]) ?_
      refine .ret ?_
      exact fin_ret (zB false) (by kernel_rfl) (by kernel_rfl) hm
     ·refine .ifF (nt b0) (by kernel_rfl) h20 ?_
      refine .skip ?_
      refine .ghs (fr 45 [(4,zI z0),(27,sc 0 0 1 n0 c0),(28,zI z1),(29,(zI (Int.ofNat k2)))]) (hp 1 [oC q2]) (.k [0] [] [.tmp 27 false] [4,27,28,29] ⟨trF h14,trivial⟩) ?_
      refine .rK ?_
      exact ⟨(z0,n0,c0,z1,(wrapF .i64 (Int.add (Int.ofNat k2) (1:Int))),q2),hm,(.k [0] [] [.tmp 27 false] [4,27,28,29] ⟨trF h14,trivial⟩)⟩
    ·refine .ifF (ilt z2 z1) (by kernel_rfl) h15 ?_
     refine .exit ?_
     exact ⟨(),hm,(.k0 [] [] [])⟩
   ·replace hm := bb_inv hm; obtain ⟨h13, hm⟩ := hm
    replace hm:=bb_inv hm;obtain ⟨h21,hm⟩:=hm
    refine .reg (eC 5 (some ((zI (wrapF .i64 (Int.sub (wrapF .i64 (Int.add x1 (1:Int))) (Int.ofNat (Sl.n s0))))),(hp 1 [(oC (Sl.cs s0))]))) (show _ = some ((zI (Int.ofNat k1)),_) from (by rw [toN_some h11])) (eD (appZ (hp 1 [(oC (Sl.cs s0))]) 1 8 ([(zI (0:Int))]:LV) (sc 0 0 1 (Sl.n s0) (d2 (Sl.n s0))) k1) (appZ_grow (H:=(hp 1 [(oC (Sl.cs s0))])) (id:=0) (n:=(Sl.n s0)) (c2:=(d2 (Sl.n s0))) (xs:=(Sl.cs s0)) (anc:=[]) h13 h12 (by kernel_rfl) (by kernel_rfl) h21) (eE))) ?_
    replace hm:=bb_inv hm;obtain ⟨h22,hm⟩:=hm
    refine .ghs (fr 45 [(4,zI x1),(27,(sc 0 0 1 ((Sl.n s0) + k1) (d2 ((Sl.n s0) + k1)))),(28,(zI (Int.ofNat ((Sl.n s0) + k1)))),(29,(zI (0:Int)))]) (hp 1 [(oC (appL (dropL 0 (Sl.cs s0)) (zeroRow ([(zI (0:Int))]:LV) k1)))]) (.k [1] [] [.tmp 27 false] [4,27,28,29] ⟨trF h22,trivial⟩) ?_
    refine .block ?_
    refine .loopM (v:=v) (fun y:Int×Nat×Nat×Int×Int×LV=>((fr 45 [(4,(zI y.1)),(27,(sc 0 0 1 y.2.1 y.2.2.1)),(28,(zI y.2.2.2.1)),(29,(zI y.2.2.2.2.1))]),(hp 1 [(oC y.2.2.2.2.2)]))) (fun w y=>l47_2 pu n w y.1 y.2.1 y.2.2.1 y.2.2.2.1 y.2.2.2.2.1 y.2.2.2.2.2) n ⟨(x1,((Sl.n s0) + k1),(d2 ((Sl.n s0) + k1)),(Int.ofNat ((Sl.n s0) + k1)),(0:Int),(appL (dropL 0 (Sl.cs s0)) (zeroRow ([(zI (0:Int))]:LV) k1))),hm,(.k [0] [] [.tmp 27 false] [4,27,28,29] ⟨trF h22,trivial⟩)⟩ (fun _=>rfl) ?_
    rintro w0 ⟨z3,n1,c1,z4,z5,q3⟩ hm
    replace hm:b47_2 pu n (l47_2 pu n w0) z3 n1 c1 z4 z5 q3 = some v:=hm
    unfold b47_2 at hm
    refine .then (.rK ?_)
    replace hm:=bb_inv hm;obtain ⟨h23,hm⟩:=hm
    refine .ghs (fr 45 [(4,zI z3),(27,sc 0 0 1 n1 c1),(28,zI z4),(29,zI z5),(30,(zB (ilt z5 z4)))]) (hp 1 [oC q3]) (.k [0] [] [.tmp 27 false] [4,27,28,29,30] ⟨trF h23,trivial⟩) ?_
    refine .then ?_
    replace hm:=bb_cases hm;rcases hm with ⟨h24,hm⟩ | ⟨h24,hm⟩
    ·refine .ifT (ilt z5 z4) (by kernel_rfl) h24 ?_
     refine .skip ?_
     refine .ghs (fr 45 [(4,zI z3),(27,sc 0 0 1 n1 c1),(28,zI z4),(29,zI z5)]) (hp 1 [oC q3]) (.k [0] [] [.tmp 27 false] [4,27,28,29] ⟨trF h23,trivial⟩) ?_
     refine .then ?_
     refine .block ?_
     refine .then ?_
     replace hm:=oo_inv hm;obtain ⟨k3,h25,hm⟩:=hm
     obtain rfl:=toN_some h25
     replace hm:=bb_inv hm;obtain ⟨h26,hm⟩:=hm
     replace hm:=oo_inv hm;obtain ⟨v7,h27,hm⟩:=hm
     replace hm:=inv_toI hm;obtain ⟨x4,rfl,hm⟩:=hm
     refine .reg (eC 1 (keep (hp 1 [oC q3]) (bb (an (Nat.blt k3 n1) true) (some (.pointer (some ⟨0,(0 + k3 * 1),none⟩))) none)) (keep_bb h26) (eD (keep (hp 1 [oC q3]) (nthL q3 (0 + k3 * 1))) (keep_eq h27) (eE))) ?_
     refine .ghs (fr 45 [(4,zI z3),(6,(zI (Int.ofNat k3))),(7,zI x4),(27,sc 0 0 1 n1 c1),(28,zI z4),(29,(zI (Int.ofNat k3)))]) (hp 1 [oC q3]) (.k [0] [] [.tmp 27 false] [4,6,7,27,28,29] ⟨trF h23,trivial⟩) ?_
     refine .then ?_
     replace hm:=oo_inv hm;obtain ⟨v8,h28,hm⟩:=hm
     replace hm:=inv_vBool hm;obtain ⟨b1,rfl,hm⟩:=hm
     refine .reg (eC 8 ((oo (pu 32 [(zI (wrapF .i64 (Int.sub z3 (Int.ofNat k3)))),zI x4,(zI (wrapF .i64 (Int.sub (wrapF .i64 (Int.add z3 (1:Int))) (Int.ofNat k3))))]) none fun v=>some (v,(hp 1 [oC q3])))) (call_eq h28) (eE)) ?_
     refine .ghs (fr 45 [(4,zI z3),(27,sc 0 0 1 n1 c1),(28,zI z4),(29,(zI (Int.ofNat k3))),(43,(zB (nt b1)))]) (hp 1 [oC q3]) (.k [0] [] [.tmp 27 false] [4,27,28,29,43] ⟨trF h23,trivial⟩) ?_
     replace hm:=bb_cases hm;rcases hm with ⟨h29,hm⟩ | ⟨h29,hm⟩
     ·refine .ifT (nt b1) (by kernel_rfl) h29 ?_
      refine .then (.rK ?_)
      refine .ghs (fr 45 [(2,zB false)]) (hp 0 []) (.k0 [] [] [2]) ?_
      refine .ret ?_
      exact fin_ret (zB false) (by kernel_rfl) (by kernel_rfl) hm
     ·refine .ifF (nt b1) (by kernel_rfl) h29 ?_
      refine .skip ?_
      refine .ghs (fr 45 [(4,zI z3),(27,sc 0 0 1 n1 c1),(28,zI z4),(29,(zI (Int.ofNat k3)))]) (hp 1 [oC q3]) (.k [0] [] [.tmp 27 false] [4,27,28,29] ⟨trF h23,trivial⟩) ?_
      refine .rK ?_
      exact ⟨(z3,n1,c1,z4,(wrapF .i64 (Int.add (Int.ofNat k3) (1:Int))),q3),hm,(.k [0] [] [.tmp 27 false] [4,27,28,29] ⟨trF h23,trivial⟩)⟩
    ·refine .ifF (ilt z5 z4) (by kernel_rfl) h24 ?_
     refine .exit ?_
     exact ⟨(),hm,(.k0 [] [] [])⟩
def m48_0 (pu:PureF) (n:Nat) (z0:Int):OV:=
 (some (.int .i64 z0))
def b48_1 (pu:PureF) (n:Nat) (ih0:Int→Int→Int→Int→Int→Int→Int→Int→Int→Int→Int→Int→Int→Int→Int→Int→Int→Int→Int→Int→Int→Int→Int→Int→OV) (z0 z1 z2 z3 z4 z5 z6 z7 z8 z9 z10 z11 z12 z13 z14 z15 z16 z17 z18 z19 z20 z21 z22 z23:Int):OV:=
 (bb (ilt z23 (22:Int)) (oo (toN z23) none fun k1=>(bb (Nat.blt k1 22) (oo (nthL ([.int .i64 z1,.int .i64 z2,.int .i64 z3,.int .i64 z4,.int .i64 z5,.int .i64 z6,.int .i64 z7,.int .i64 z8,.int .i64 z9,.int .i64 z10,.int .i64 z11,.int .i64 z12,.int .i64 z13,.int .i64 z14,.int .i64 z15,.int .i64 z16,.int .i64 z17,.int .i64 z18,.int .i64 z19,.int .i64 z20,.int .i64 z21,.int .i64 z22]:LV) (k1 * 1)) none fun v0=>(oo (toI .i64 v0) none fun x0=>(ih0 (wrapF .i64 (Int.add z0 (wrapF .i64 (Int.mul (Int.ofNat k1) x0)))) z1 z2 z3 z4 z5 z6 z7 z8 z9 z10 z11 z12 z13 z14 z15 z16 z17 z18 z19 z20 z21 z22 (wrapF .i64 (Int.add (Int.ofNat k1) (1:Int)))))) none)) (m48_0 pu n z0))
def l48_1 (pu:PureF) (n w:Nat):Int→Int→Int→Int→Int→Int→Int→Int→Int→Int→Int→Int→Int→Int→Int→Int→Int→Int→Int→Int→Int→Int→Int→Int→OV:=
 Nat.rec (motive:=fun _=>Int→Int→Int→Int→Int→Int→Int→Int→Int→Int→Int→Int→Int→Int→Int→Int→Int→Int→Int→Int→Int→Int→Int→Int→OV) (fun _ _ _ _ _ _ _ _ _ _ _ _ _ _ _ _ _ _ _ _ _ _ _ _=>none) (fun _ ih0=>b48_1 pu n ih0) w
def m48_ (pu:PureF) (n:Nat) (x0 x1 x2 x3 x4 x5 x6 x7 x8 x9 x10 x11 x12 x13 x14 x15 x16 x17 x18 x19 x20 x21:Int):OV:=
 (l48_1 pu n n (0:Int) x0 x1 x2 x3 x4 x5 x6 x7 x8 x9 x10 x11 x12 x13 x14 x15 x16 x17 x18 x19 x20 x21 (0:Int))
def m48 (pu:PureF) (n:Nat) (args:LV):OV:=
 (ll args none fun a0 args=>(ll args (oo (vAgg a0) none fun l0=>(ll l0 none fun v0 l0=>(ll l0 none fun v1 l0=>(ll l0 none fun v2 l0=>(ll l0 none fun v3 l0=>(ll l0 none fun v4 l0=>(ll l0 none fun v5 l0=>(ll l0 none fun v6 l0=>(ll l0 none fun v7 l0=>(ll l0 none fun v8 l0=>(ll l0 none fun v9 l0=>(ll l0 none fun v10 l0=>(ll l0 none fun v11 l0=>(ll l0 none fun v12 l0=>(ll l0 none fun v13 l0=>(ll l0 none fun v14 l0=>(ll l0 none fun v15 l0=>(ll l0 none fun v16 l0=>(ll l0 none fun v17 l0=>(ll l0 none fun v18 l0=>(ll l0 none fun v19 l0=>(ll l0 none fun v20 l0=>(ll l0 none fun v21 l0=>(ll l0 (oo (toI .i64 v0) none fun x0=>(oo (toI .i64 v1) none fun x1=>(oo (toI .i64 v2) none fun x2=>(oo (toI .i64 v3) none fun x3=>(oo (toI .i64 v4) none fun x4=>(oo (toI .i64 v5) none fun x5=>(oo (toI .i64 v6) none fun x6=>(oo (toI .i64 v7) none fun x7=>(oo (toI .i64 v8) none fun x8=>(oo (toI .i64 v9) none fun x9=>(oo (toI .i64 v10) none fun x10=>(oo (toI .i64 v11) none fun x11=>(oo (toI .i64 v12) none fun x12=>(oo (toI .i64 v13) none fun x13=>(oo (toI .i64 v14) none fun x14=>(oo (toI .i64 v15) none fun x15=>(oo (toI .i64 v16) none fun x16=>(oo (toI .i64 v17) none fun x17=>(oo (toI .i64 v18) none fun x18=>(oo (toI .i64 v19) none fun x19=>(oo (toI .i64 v20) none fun x20=>(oo (toI .i64 v21) none fun x21=>(m48_ pu n x0 x1 x2 x3 x4 x5 x6 x7 x8 x9 x10 x11 x12 x13 x14 x15 x16 x17 x18 x19 x20 x21))))))))))))))))))))))) fun _ _=>none)))))))))))))))))))))))) fun _ _=>none))
theorem w48_0 (pu:PureF) (n:Nat) (z0:Int) {v:Value} (hm:m48_0 pu n z0 = some v):Run tt (callP tabs isP pu (inl pu)) 0 c48_17 (fr 18 [(3,zI z0)]) (hp 0 []) (Fin tt 0 [.tmp 2] v):=by
 unfold m48_0 at hm
 refine .then (.rK ?_)
 refine .ghs (fr 18 [(2,zI z0)]) (hp 0 []) (.k0 [] [] [2]) ?_
 refine .ret ?_
 exact fin_ret (zI z0) (by kernel_rfl) (by kernel_rfl) hm
theorem r48 {call:CallF} (pu:PureF) (n:Nat) (hcall:call = callP tabs isP pu (inl pu)) {args:LV} {v:Value} (hm:m48 pu n args = some v) (_:∀ x ∈ args,closed2 x = true):args.length≤18∧Run tt call 0 c48_20 (Fr.made 18 args) (pureHeap tabs) (Fin tt 0 [.tmp 2] v):=by
 subst hcall
 unfold m48 at hm
 replace hm:=ll_uncons hm;obtain ⟨a0,args_0,rfl,hm⟩:=hm
 replace hm:=ll_end hm;obtain ⟨rfl,hm⟩:=hm
 replace hm:=inv_vAgg hm;obtain ⟨l0,rfl,hm⟩:=hm
 replace hm:=ll_uncons hm;obtain ⟨v0,l106544_0,rfl,hm⟩:=hm
 replace hm:=ll_uncons hm;obtain ⟨v1,l106544_1,rfl,hm⟩:=hm
 replace hm:=ll_uncons hm;obtain ⟨v2,l106544_2,rfl,hm⟩:=hm
 replace hm:=ll_uncons hm;obtain ⟨v3,l106544_3,rfl,hm⟩:=hm
 replace hm:=ll_uncons hm;obtain ⟨v4,l106544_4,rfl,hm⟩:=hm
 replace hm:=ll_uncons hm;obtain ⟨v5,l106544_5,rfl,hm⟩:=hm
 replace hm:=ll_uncons hm;obtain ⟨v6,l106544_6,rfl,hm⟩:=hm
 replace hm:=ll_uncons hm;obtain ⟨v7,l106544_7,rfl,hm⟩:=hm
 replace hm:=ll_uncons hm;obtain ⟨v8,l106544_8,rfl,hm⟩:=hm
 replace hm:=ll_uncons hm;obtain ⟨v9,l106544_9,rfl,hm⟩:=hm
 replace hm:=ll_uncons hm;obtain ⟨v10,l106544_10,rfl,hm⟩:=hm
 replace hm:=ll_uncons hm;obtain ⟨v11,l106544_11,rfl,hm⟩:=hm
 replace hm:=ll_uncons hm;obtain ⟨v12,l106544_12,rfl,hm⟩:=hm
 replace hm:=ll_uncons hm;obtain ⟨v13,l106544_13,rfl,hm⟩:=hm
 replace hm:=ll_uncons hm;obtain ⟨v14,l106544_14,rfl,hm⟩:=hm
 replace hm:=ll_uncons hm;obtain ⟨v15,l106544_15,rfl,hm⟩:=hm
 replace hm:=ll_uncons hm;obtain ⟨v16,l106544_16,rfl,hm⟩:=hm
 replace hm:=ll_uncons hm;obtain ⟨v17,l106544_17,rfl,hm⟩:=hm
 replace hm:=ll_uncons hm;obtain ⟨v18,l106544_18,rfl,hm⟩:=hm
 replace hm:=ll_uncons hm;obtain ⟨v19,l106544_19,rfl,hm⟩:=hm
 replace hm:=ll_uncons hm;obtain ⟨v20,l106544_20,rfl,hm⟩:=hm
 replace hm:=ll_uncons hm;obtain ⟨v21,l106544_21,rfl,hm⟩:=hm
 replace hm:=ll_end hm;obtain ⟨rfl,hm⟩:=hm
 replace hm:=inv_toI hm;obtain ⟨x0,rfl,hm⟩:=hm
 replace hm:=inv_toI hm;obtain ⟨x1,rfl,hm⟩:=hm
 replace hm:=inv_toI hm;obtain ⟨x2,rfl,hm⟩:=hm
 replace hm:=inv_toI hm;obtain ⟨x3,rfl,hm⟩:=hm
 replace hm:=inv_toI hm;obtain ⟨x4,rfl,hm⟩:=hm
 replace hm:=inv_toI hm;obtain ⟨x5,rfl,hm⟩:=hm
 replace hm:=inv_toI hm;obtain ⟨x6,rfl,hm⟩:=hm
 replace hm:=inv_toI hm;obtain ⟨x7,rfl,hm⟩:=hm
 replace hm:=inv_toI hm;obtain ⟨x8,rfl,hm⟩:=hm
 replace hm:=inv_toI hm;obtain ⟨x9,rfl,hm⟩:=hm
 replace hm:=inv_toI hm;obtain ⟨x10,rfl,hm⟩:=hm
 replace hm:=inv_toI hm;obtain ⟨x11,rfl,hm⟩:=hm
 replace hm:=inv_toI hm;obtain ⟨x12,rfl,hm⟩:=hm
 replace hm:=inv_toI hm;obtain ⟨x13,rfl,hm⟩:=hm
 replace hm:=inv_toI hm;obtain ⟨x14,rfl,hm⟩:=hm
 replace hm:=inv_toI hm;obtain ⟨x15,rfl,hm⟩:=hm
 replace hm:=inv_toI hm;obtain ⟨x16,rfl,hm⟩:=hm
 replace hm:=inv_toI hm;obtain ⟨x17,rfl,hm⟩:=hm
 replace hm:=inv_toI hm;obtain ⟨x18,rfl,hm⟩:=hm
 replace hm:=inv_toI hm;obtain ⟨x19,rfl,hm⟩:=hm
 replace hm:=inv_toI hm;obtain ⟨x20,rfl,hm⟩:=hm
 replace hm:=inv_toI hm;obtain ⟨x21,rfl,hm⟩:=hm
 unfold m48_ at hm
 refine ⟨by simp,?_⟩
 refine .same (F':=(fr 18 [(0,(.agg ⟨[zI x0,zI x1,zI x2,zI x3,zI x4,zI x5,zI x6,zI x7,zI x8,zI x9,zI x10,zI x11,zI x12,zI x13,zI x14,zI x15,zI x16,zI x17,zI x18,zI x19,zI x20,zI x21]⟩))])) (H':=(hp 0 [])) (by kernel_rfl) (by kernel_rfl) ?_
 refine .then (.rK ?_)
 refine .ghs (fr 18 [(1,(pt 0 0))]) (hp 1 [(oC [zI x0,zI x1,zI x2,zI x3,zI x4,zI x5,zI x6,zI x7,zI x8,zI x9,zI x10,zI x11,zI x12,zI x13,zI x14,zI x15,zI x16,zI x17,zI x18,zI x19,zI x20,zI x21])]) (.k0 [] [.tmp 1 false] [1]) ?_
 refine .then (.rK ?_)
 refine .ghs (fr 18 [(1,(pt 0 0)),(3,(zI (0:Int)))]) (hp 1 [(oC [zI x0,zI x1,zI x2,zI x3,zI x4,zI x5,zI x6,zI x7,zI x8,zI x9,zI x10,zI x11,zI x12,zI x13,zI x14,zI x15,zI x16,zI x17,zI x18,zI x19,zI x20,zI x21])]) (.k0 [] [.tmp 1 false] [1,3]) ?_
 refine .join (v:=v) (fun y:Int=>((fr 18 [(3,zI y)]),(hp 0 []))) (fun y=>m48_0 pu n y) ?_ ?_
 ·rintro z0 hm
  exact w48_0 pu n z0 hm
 ·refine .then (.rK ?_)
  refine .ghs (fr 18 [(3,(zI (0:Int))),(6,(.agg ⟨[zI x0,zI x1,zI x2,zI x3,zI x4,zI x5,zI x6,zI x7,zI x8,zI x9,zI x10,zI x11,zI x12,zI x13,zI x14,zI x15,zI x16,zI x17,zI x18,zI x19,zI x20,zI x21]⟩)),(7,(zI (0:Int)))]) (hp 0 []) (.k0 [] [] [3,6,7]) ?_
  refine .block ?_
  refine .loopM (v:=v) (fun y:Int×Int×Int×Int×Int×Int×Int×Int×Int×Int×Int×Int×Int×Int×Int×Int×Int×Int×Int×Int×Int×Int×Int×Int=>((fr 18 [(3,(zI y.1)),(6,(.agg ⟨[(zI y.2.1),(zI y.2.2.1),(zI y.2.2.2.1),(zI y.2.2.2.2.1),(zI y.2.2.2.2.2.1),(zI y.2.2.2.2.2.2.1),(zI y.2.2.2.2.2.2.2.1),(zI y.2.2.2.2.2.2.2.2.1),(zI y.2.2.2.2.2.2.2.2.2.1),(zI y.2.2.2.2.2.2.2.2.2.2.1),(zI y.2.2.2.2.2.2.2.2.2.2.2.1),(zI y.2.2.2.2.2.2.2.2.2.2.2.2.1),(zI y.2.2.2.2.2.2.2.2.2.2.2.2.2.1),(zI y.2.2.2.2.2.2.2.2.2.2.2.2.2.2.1),(zI y.2.2.2.2.2.2.2.2.2.2.2.2.2.2.2.1),(zI y.2.2.2.2.2.2.2.2.2.2.2.2.2.2.2.2.1),(zI y.2.2.2.2.2.2.2.2.2.2.2.2.2.2.2.2.2.1),(zI y.2.2.2.2.2.2.2.2.2.2.2.2.2.2.2.2.2.2.1),(zI y.2.2.2.2.2.2.2.2.2.2.2.2.2.2.2.2.2.2.2.1),(zI y.2.2.2.2.2.2.2.2.2.2.2.2.2.2.2.2.2.2.2.2.1),(zI y.2.2.2.2.2.2.2.2.2.2.2.2.2.2.2.2.2.2.2.2.2.1),(zI y.2.2.2.2.2.2.2.2.2.2.2.2.2.2.2.2.2.2.2.2.2.2.1)]⟩)),(7,(zI y.2.2.2.2.2.2.2.2.2.2.2.2.2.2.2.2.2.2.2.2.2.2.2))]),(hp 0 []))) (fun w y=>l48_1 pu n w y.1 y.2.1 y.2.2.1 y.2.2.2.1 y.2.2.2.2.1 y.2.2.2.2.2.1 y.2.2.2.2.2.2.1 y.2.2.2.2.2.2.2.1 y.2.2.2.2.2.2.2.2.1 y.2.2.2.2.2.2.2.2.2.1 y.2.2.2.2.2.2.2.2.2.2.1 y.2.2.2.2.2.2.2.2.2.2.2.1 y.2.2.2.2.2.2.2.2.2.2.2.2.1 y.2.2.2.2.2.2.2.2.2.2.2.2.2.1 y.2.2.2.2.2.2.2.2.2.2.2.2.2.2.1 y.2.2.2.2.2.2.2.2.2.2.2.2.2.2.2.1 y.2.2.2.2.2.2.2.2.2.2.2.2.2.2.2.2.1 y.2.2.2.2.2.2.2.2.2.2.2.2.2.2.2.2.2.1 y.2.2.2.2.2.2.2.2.2.2.2.2.2.2.2.2.2.2.1 y.2.2.2.2.2.2.2.2.2.2.2.2.2.2.2.2.2.2.2.1 y.2.2.2.2.2.2.2.2.2.2.2.2.2.2.2.2.2.2.2.2.1 y.2.2.2.2.2.2.2.2.2.2.2.2.2.2.2.2.2.2.2.2.2.1 y.2.2.2.2.2.2.2.2.2.2.2.2.2.2.2.2.2.2.2.2.2.2.1 y.2.2.2.2.2.2.2.2.2.2.2.2.2.2.2.2.2.2.2.2.2.2.2) n ⟨((0:Int),x0,x1,x2,x3,x4,x5,x6,x7,x8,x9,x10,x11,x12,x13,x14,x15,x16,x17,x18,x19,x20,x21,(0:Int)),hm,(.k0 [] [] [3,6,7])⟩ (fun _=>rfl) ?_
  rintro w0 ⟨z1,z2,z3,z4,z5,z6,z7,z8,z9,z10,z11,z12,z13,z14,z15,z16,z17,z18,z19,z20,z21,z22,z23,z24⟩ hm
  replace hm:b48_1 pu n (l48_1 pu n w0) z1 z2 z3 z4 z5 z6 z7 z8 z9 z10 z11 z12 z13 z14 z15 z16 z17 z18 z19 z20 z21 z22 z23 z24 = some v:=hm
  unfold b48_1 at hm
  refine .then (.rK ?_)
  refine .ghs (fr 18 [(3,zI z1),(6,(.agg ⟨[zI z2,zI z3,zI z4,zI z5,zI z6,zI z7,zI z8,zI z9,zI z10,zI z11,zI z12,zI z13,zI z14,zI z15,zI z16,zI z17,zI z18,zI z19,zI z20,zI z21,zI z22,zI z23]⟩)),(7,zI z24),(8,(zB (ilt z24 (22:Int))))]) (hp 0 []) (.k0 [] [] [3,6,7,8]) ?_
  refine .then ?_
  replace hm:=bb_cases hm;rcases hm with ⟨h0,hm⟩ | ⟨h0,hm⟩
  ·refine .ifT (ilt z24 (22 : Int)) (by kernel_rfl) h0 ?_
   refine .skip ?_
   refine .ghs (fr 18 [(3,zI z1),(6,(.agg ⟨[zI z2,zI z3,zI z4,zI z5,zI z6,zI z7,zI z8,zI z9,zI z10,zI z11,zI z12,zI z13,zI z14,zI z15,zI z16,zI z17,zI z18,zI z19,zI z20,zI z21,zI z22,zI z23]⟩)),(7,zI z24)]) (hp 0 []) (.k0 [] [] [3,6,7]) ?_
   refine .then ?_
   refine .block ?_
   refine .then ?_
   replace hm:=oo_inv hm;obtain ⟨k1,h1,hm⟩:=hm
   obtain rfl:=toN_some h1
   replace hm:=bb_inv hm;obtain ⟨h2,hm⟩:=hm
   replace hm:=oo_inv hm;obtain ⟨v22,h3,hm⟩:=hm
   replace hm:=inv_toI hm;obtain ⟨x22,rfl,hm⟩:=hm
   refine .reg (eC 1 (keep (hp 0 []) (bb (Nat.blt k1 22) (nthL ([zI z2,zI z3,zI z4,zI z5,zI z6,zI z7,zI z8,zI z9,zI z10,zI z11,zI z12,zI z13,zI z14,zI z15,zI z16,zI z17,zI z18,zI z19,zI z20,zI z21,zI z22,zI z23]:LV) (k1 * 1)) none)) (keep_bbo h2 h3) (eE)) ?_
   refine .ghs (fr 18 [(3,zI z1),(4,(zI (Int.ofNat k1))),(5,zI x22),(6,(.agg ⟨[zI z2,zI z3,zI z4,zI z5,zI z6,zI z7,zI z8,zI z9,zI z10,zI z11,zI z12,zI z13,zI z14,zI z15,zI z16,zI z17,zI z18,zI z19,zI z20,zI z21,zI z22,zI z23]⟩)),(7,(zI (Int.ofNat k1)))]) (hp 0 []) (.k0 [] [] [3,4,5,6,7]) ?_
   refine .rK ?_
   refine .ghs (fr 18 [(3,(zI (wrapF .i64 (Int.add z1 (wrapF .i64 (Int.mul (Int.ofNat k1) x22)))))),(6,(.agg ⟨[zI z2,zI z3,zI z4,zI z5,zI z6,zI z7,zI z8,zI z9,zI z10,zI z11,zI z12,zI z13,zI z14,zI z15,zI z16,zI z17,zI z18,zI z19,zI z20,zI z21,zI z22,zI z23]⟩)),(7,(zI (Int.ofNat k1)))]) (hp 0 []) (.k0 [] [] [3,6,7]) ?_
   refine .rK ?_
   exact ⟨((wrapF .i64 (Int.add z1 (wrapF .i64 (Int.mul (Int.ofNat k1) x22)))),z2,z3,z4,z5,z6,z7,z8,z9,z10,z11,z12,z13,z14,z15,z16,z17,z18,z19,z20,z21,z22,z23,(wrapF .i64 (Int.add (Int.ofNat k1) (1:Int)))),hm,(.k0 [] [] [3,6,7])⟩
  ·refine .ifF (ilt z24 (22 : Int)) (by kernel_rfl) h0 ?_
   refine .exit ?_
   exact ⟨z1,hm,(.k0 [] [] [3])⟩
end
end Go.HvRM
