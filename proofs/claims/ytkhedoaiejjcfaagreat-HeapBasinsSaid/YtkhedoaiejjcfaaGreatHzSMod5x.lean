/- Made from wip. -/
import Derived.Test.YtkhedoaiejjcfaaGreatHzSMod1x

set_option maxRecDepth 100000
set_option maxHeartbeats 20000000
set_option linter.unusedVariables false
namespace Go.HzSM
open Go.Sp Go.HzS
noncomputable section
def b55_0 (pu:PureF) (n:Nat) (ih0:Int→LV→LV→OV) (z0:Int) (q1:LV) (q2:LV):OV:=
 (bb (allL closed1 q1) (bb (allL closed1 q2) (bb (Nat.ble (0 + 22) (len q1)) (oo (pu 29 [(.agg ⟨(takeL 22 (dropL 0 q1))⟩)]) none fun v0=>(oo (vBool v0) none fun b0=>(bb (allL closed2 [(.agg ⟨(takeL 22 (dropL 0 q1))⟩)]) (bb (nt b0) (bb (Nat.ble (0 + 22) (len q1)) (oo (pu 59 [(.agg ⟨(takeL 22 (dropL 0 q1))⟩)]) none fun v1=>(oo (vAgg v1) none fun q3=>(bb (an (Nat.beq (len q3) 22) (allL closed1 q3)) (bb (allL closed2 [(.agg ⟨(takeL 22 (dropL 0 q1))⟩)]) (bb (Nat.beq (len q3) 22) (bb (an (Nat.ble (0 + len q3) (len q1)) (allL scalarB q3)) (bb (allL closed1 (setL q3 0 q1)) (ih0 (wrapF .i64 (Int.add z0 (1:Int))) (setL q3 0 q1) q2) none) none) none) none) none))) none) (bb (Nat.ble (0 + 22) (len q1)) (bb (Nat.beq (len (takeL 22 (dropL 0 q1))) 22) (bb (an (Nat.ble (0 + len (takeL 22 (dropL 0 q1))) (len q2)) (allL scalarB (takeL 22 (dropL 0 q1)))) (bb (allL closed1 (setL (takeL 22 (dropL 0 q1)) 0 q2)) (bb (Nat.ble (0 + 22) (len (setL (takeL 22 (dropL 0 q1)) 0 q2))) (bb (closedV (.tuple ⟨[.int .i64 z0,(.agg ⟨(takeL 22 (dropL 0 (setL (takeL 22 (dropL 0 q1)) 0 q2)))⟩)]⟩)) (some (.tuple ⟨[.int .i64 z0,(.agg ⟨(takeL 22 (dropL 0 (setL (takeL 22 (dropL 0 q1)) 0 q2)))⟩)]⟩)) none) none) none) none) none) none)) none))) none) none) none)
def l55_0 (pu:PureF) (n w:Nat):Int→LV→LV→OV:=
 Nat.rec (motive:=fun _=>Int→LV→LV→OV) (fun _ _ _=>none) (fun _ ih0=>b55_0 pu n ih0) w
def m55_ (pu:PureF) (n:Nat) (q1:LV):OV:=
 (bb (allL closed1 q1) (bb (allL closed1 zA54) (bb (Nat.ble (0 + 22) (len q1)) (oo (pu 29 [(.agg ⟨(takeL 22 (dropL 0 q1))⟩)]) none fun v0=>(oo (vBool v0) none fun b0=>(bb (allL closed2 [(.agg ⟨(takeL 22 (dropL 0 q1))⟩)]) (bb (nt b0) (bb (Nat.ble (0 + 22) (len q1)) (oo (pu 59 [(.agg ⟨(takeL 22 (dropL 0 q1))⟩)]) none fun v1=>(oo (vAgg v1) none fun q2=>(bb (an (Nat.beq (len q2) 22) (allL closed1 q2)) (bb (allL closed2 [(.agg ⟨(takeL 22 (dropL 0 q1))⟩)]) (bb (Nat.beq (len q2) 22) (bb (an (Nat.ble (0 + len q2) (len q1)) (allL scalarB q2)) (bb (allL closed1 (setL q2 0 q1)) (l55_0 pu n n (1:Int) (setL q2 0 q1) zA54) none) none) none) none) none))) none) (bb (Nat.ble (0 + 22) (len q1)) (bb (Nat.beq (len (takeL 22 (dropL 0 q1))) 22) (bb (an (Nat.ble (0 + len (takeL 22 (dropL 0 q1))) (len zA54)) (allL scalarB (takeL 22 (dropL 0 q1)))) (bb (allL closed1 (setL (takeL 22 (dropL 0 q1)) 0 zA54)) (bb (Nat.ble (0 + 22) (len (setL (takeL 22 (dropL 0 q1)) 0 zA54))) (bb (closedV (.tuple ⟨[(.int .i64 (0:Int)),(.agg ⟨(takeL 22 (dropL 0 (setL (takeL 22 (dropL 0 q1)) 0 zA54)))⟩)]⟩)) (some (.tuple ⟨[(.int .i64 (0:Int)),(.agg ⟨(takeL 22 (dropL 0 (setL (takeL 22 (dropL 0 q1)) 0 zA54)))⟩)]⟩)) none) none) none) none) none) none)) none))) none) none) none)
def m55 (pu:PureF) (n:Nat) (args:LV):OV:=
 (ll args none fun a0 args=>(ll args (oo (vAgg a0) none fun q1=>(bb (an (Nat.beq (len q1) 22) (allL closed1 q1)) (m55_ pu n q1) none)) fun _ _=>none))
theorem r55 {call:CallF} (pu:PureF) (n:Nat) (hcall:call = callP tabs isP pu (inl pu)) {args:LV} {v:Value} (hm:m55 pu n args = some v) (_:∀ x ∈ args,closed2 x = true):args.length≤14∧Run tt call 0 c55_26 (Fr.made 14 args) (pureHeap tabs) (Fin tt 0 [.tmp 2,.cell 3 54] v):=by
 subst hcall
 unfold m55 at hm
 replace hm:=ll_uncons hm;obtain ⟨a0,args_0,rfl,hm⟩:=hm
 replace hm:=ll_end hm;obtain ⟨rfl,hm⟩:=hm
 replace hm:=inv_vAgg hm;obtain ⟨q1,rfl,hm⟩:=hm
 replace hm:=bb_inv hm;obtain ⟨h0,hm⟩:=hm
 unfold m55_ at hm
 refine ⟨by simp,?_⟩
 refine .same (F':=(fr 14 [(0,(.agg ⟨q1⟩))])) (H':=(hp 0 [])) (by kernel_rfl) (by kernel_rfl) ?_
 refine .then (.rK ?_)
 replace hm:=bb_inv hm;obtain ⟨h1,hm⟩:=hm
 replace hm:=bb_inv hm;obtain ⟨h2,hm⟩:=hm
 refine .ghs (fr 14 [(1,(pt 0 0)),(3,pt 1 0)]) (hp 2 [oC q1,oC zA54]) (.k [0,1] [] [.tmp 1 false,.tmp 3 false] [1,3] ⟨trF h1,trF h2,trivial⟩) ?_
 refine .scopeM (v:=v) (fun y:Int×LV×LV=>((fr 14 [(1,(pt 0 0)),(3,pt 1 0),(4,(zI y.1))]),(hp 2 [(oC y.2.1),(oC y.2.2)]))) (fun w y=>l55_0 pu n w y.1 y.2.1 y.2.2) n (fun _=>rfl) ?_ ?_
 ·refine .then (.rK ?_)
  refine .ghs (fr 14 [(1,(pt 0 0)),(3,pt 1 0),(4,(zI (0:Int)))]) (hp 2 [oC q1,oC zA54]) (.k [0,1] [] [.tmp 1 false,.tmp 3 false] [1,3,4] ⟨trF h1,trF h2,trivial⟩) ?_
  refine .then ?_
  refine .label ?_
  refine .ghs (fr 14 [(1,(pt 0 0)),(3,pt 1 0),(4,(zI (0:Int)))]) (hp 2 [oC q1,oC zA54]) (.k [0,1] [] [.tmp 1 false,.tmp 3 false] [1,3,4] ⟨trF h1,trF h2,trivial⟩) ?_
  refine .then ?_
  refine .then ?_
  replace hm:=bb_inv hm;obtain ⟨h3,hm⟩:=hm
  replace hm:=oo_inv hm;obtain ⟨v0,h4,hm⟩:=hm
  replace hm:=inv_vBool hm;obtain ⟨b0,rfl,hm⟩:=hm
  replace hm:=bb_inv hm;obtain ⟨h5,hm⟩:=hm
  refine .reg (eD (keep (hp 2 [oC q1,oC zA54]) (bb (Nat.ble (0 + 22) (len q1)) (some (.agg ⟨(takeL 22 (dropL 0 q1))⟩)) none)) (keep_bb h3) (eD (bb (allL closed2 [(.agg ⟨(takeL 22 (dropL 0 q1))⟩)]) (oo (pu 29 [(.agg ⟨(takeL 22 (dropL 0 q1))⟩)]) none fun v=>some (v,(hp 2 [oC q1,oC zA54]))) (oo (mapO (purify (hp 2 [oC q1,oC zA54])) [(.agg ⟨(takeL 22 (dropL 0 q1))⟩)]) none fun l1=>oo (pu 29 l1) none fun v=>bb (plainT v) (some (v,(hp 2 [oC q1,oC zA54]))) none)) (callc_eq h5 h4) (eE))) ?_
  refine .ghs (fr 14 [(1,(pt 0 0)),(3,pt 1 0),(4,(zI (0:Int))),(7,(zB (nt b0)))]) (hp 2 [oC q1,oC zA54]) (.k [0,1] [] [.tmp 1 false,.tmp 3 false] [1,3,4,7] ⟨trF h1,trF h2,trivial⟩) ?_
  replace hm:=bb_cases hm;rcases hm with ⟨h6,hm⟩ | ⟨h6,hm⟩
  ·refine .ifT (nt b0) (by kernel_rfl) h6 ?_
   refine .then ?_
   replace hm:=bb_inv hm;obtain ⟨h7,hm⟩:=hm
   replace hm:=oo_inv hm;obtain ⟨v1,h8,hm⟩:=hm
   replace hm:=inv_vAgg hm;obtain ⟨q2,rfl,hm⟩:=hm
   replace hm:=bb_inv hm;obtain ⟨h9,hm⟩:=hm
   replace hm:=bb_inv hm;obtain ⟨h10,hm⟩:=hm
   replace hm:=bb_inv hm;obtain ⟨h11,hm⟩:=hm
   replace hm:=bb_inv hm;obtain ⟨h12,hm⟩:=hm
   refine .reg (eD (keep (hp 2 [oC q1,oC zA54]) (bb (Nat.ble (0 + 22) (len q1)) (some (.agg ⟨(takeL 22 (dropL 0 q1))⟩)) none)) (keep_bb h7) (eD (bb (allL closed2 [(.agg ⟨(takeL 22 (dropL 0 q1))⟩)]) (oo (pu 59 [(.agg ⟨(takeL 22 (dropL 0 q1))⟩)]) none fun v=>some (v,(hp 2 [oC q1,oC zA54]))) (oo (mapO (purify (hp 2 [oC q1,oC zA54])) [(.agg ⟨(takeL 22 (dropL 0 q1))⟩)]) none fun l1=>oo (pu 59 l1) none fun v=>bb (plainT v) (some (v,(hp 2 [oC q1,oC zA54]))) none)) (callc_eq h10 h8) (eD (done (bb (Nat.beq (len q2) 22) (bb (an (Nat.ble (0 + len q2) (len q1)) (allL scalarB q2)) (some (hp 2 [(oC (setL q2 0 q1)),oC zA54])) none) none) undef) (done_bb2 h11 h12) (eE)))) ?_
   replace hm:=bb_inv hm;obtain ⟨h13,hm⟩:=hm
   refine .ghs (fr 14 [(1,(pt 0 0)),(3,pt 1 0),(4,(zI (0:Int)))]) (hp 2 [(oC (setL q2 0 q1)),oC zA54]) (.k [0,1] [] [.tmp 1 false,.tmp 3 false] [1,3,4] ⟨trF h13,trF h2,trivial⟩) ?_
   refine .then (.rK ?_)
   refine .ghs (fr 14 [(1,(pt 0 0)),(3,pt 1 0),(4,(zI (1:Int)))]) (hp 2 [(oC (setL q2 0 q1)),oC zA54]) (.k [0,1] [] [.tmp 1 false,.tmp 3 false] [1,3,4] ⟨trF h13,trF h2,trivial⟩) ?_
   refine .goto ?_
   exact ⟨rfl,((1:Int),(setL q2 0 q1),zA54),hm,(.k [0,1] [] [.tmp 1 false,.tmp 3 false] [1,3,4] ⟨trF h13,trF h2,trivial⟩)⟩
  ·refine .ifF (nt b0) (by kernel_rfl) h6 ?_
   refine .skip ?_
   refine .ghs (fr 14 [(1,(pt 0 0)),(3,pt 1 0),(4,(zI (0:Int)))]) (hp 2 [oC q1,oC zA54]) (.k [0,1] [] [.tmp 1 false,.tmp 3 false] [1,3,4] ⟨trF h1,trF h2,trivial⟩) ?_
   refine .then ?_
   replace hm:=bb_inv hm;obtain ⟨h14,hm⟩:=hm
   replace hm:=bb_inv hm;obtain ⟨h15,hm⟩:=hm
   replace hm:=bb_inv hm;obtain ⟨h16,hm⟩:=hm
   refine .reg (eC 1 (keep (hp 2 [oC q1,oC zA54]) (bb (Nat.ble (0 + 22) (len q1)) (some (.agg ⟨(takeL 22 (dropL 0 q1))⟩)) none)) (keep_bb h14) (eC 1 (done (bb (Nat.beq (len (takeL 22 (dropL 0 q1))) 22) (bb (an (Nat.ble (0 + len (takeL 22 (dropL 0 q1))) (len zA54)) (allL scalarB (takeL 22 (dropL 0 q1)))) (some (hp 2 [oC q1,(oC (setL (takeL 22 (dropL 0 q1)) 0 zA54))])) none) none) undef) (done_bb2 h15 h16) (eE))) ?_
   replace hm:=bb_inv hm;obtain ⟨h17,hm⟩:=hm
   refine .ghs (fr 14 [(2,(zI (0:Int))),(3,(pt 0 0))]) (hp 1 [(oC (setL (takeL 22 (dropL 0 q1)) 0 zA54))]) (.k [1] [] [.tmp 3 false] [2,3] ⟨trF h17,trivial⟩) ?_
   refine .ret ?_
   replace hm:=bb_inv hm;obtain ⟨h18,hm⟩:=hm
   replace hm:=bb_inv hm;obtain ⟨h19,hm⟩:=hm
   exact fin_ret (.tuple ⟨[(zI (0:Int)),(.agg ⟨(takeL 22 (dropL 0 (setL (takeL 22 (dropL 0 q1)) 0 zA54)))⟩)]⟩) (aresults_of (aresultsL_cons (show aresult _ _ _ _ = some (zI (0:Int)) from (by kernel_rfl)) (aresultsL_cons (show aresult _ _ _ _ = some (.agg ⟨(takeL 22 (dropL 0 (setL (takeL 22 (dropL 0 q1)) 0 zA54)))⟩) from (eq_bb (c:=(Nat.ble (0 + 22) (len (setL (takeL 22 (dropL 0 q1)) 0 zA54)))) (by kernel_rfl) h18)) rfl)) (by kernel_rfl)) h19 hm
 ·rintro w0 ⟨z0, q3, q4⟩ hm
  replace hm:b55_0 pu n (l55_0 pu n w0) z0 q3 q4 = some v:=hm
  unfold b55_0 at hm
  refine .then ?_
  refine .skip ?_
  replace hm:=bb_inv hm;obtain ⟨h20,hm⟩:=hm
  replace hm:=bb_inv hm;obtain ⟨h21,hm⟩:=hm
  refine .ghs (fr 14 [(1,(pt 0 0)),(3,pt 1 0),(4,zI z0)]) (hp 2 [oC q3,oC q4]) (.k [0,1] [] [.tmp 1 false,.tmp 3 false] [1,3,4] ⟨trF h20,trF h21,trivial⟩) ?_
  refine .then ?_
  refine .then ?_
  replace hm:=bb_inv hm;obtain ⟨h22,hm⟩:=hm
  replace hm:=oo_inv hm;obtain ⟨v2,h23,hm⟩:=hm
  replace hm:=inv_vBool hm;obtain ⟨b1,rfl,hm⟩:=hm
  replace hm:=bb_inv hm;obtain ⟨h24,hm⟩:=hm
  refine .reg (eD (keep (hp 2 [oC q3,oC q4]) (bb (Nat.ble (0 + 22) (len q3)) (some (.agg ⟨(takeL 22 (dropL 0 q3))⟩)) none)) (keep_bb h22) (eD (bb (allL closed2 [(.agg ⟨(takeL 22 (dropL 0 q3))⟩)]) (oo (pu 29 [(.agg ⟨(takeL 22 (dropL 0 q3))⟩)]) none fun v=>some (v,(hp 2 [oC q3,oC q4]))) (oo (mapO (purify (hp 2 [oC q3,oC q4])) [(.agg ⟨(takeL 22 (dropL 0 q3))⟩)]) none fun l1=>oo (pu 29 l1) none fun v=>bb (plainT v) (some (v,(hp 2 [oC q3,oC q4]))) none)) (callc_eq h24 h23) (eE))) ?_
  refine .ghs (fr 14 [(1,(pt 0 0)),(3,pt 1 0),(4,zI z0),(7,(zB (nt b1)))]) (hp 2 [oC q3,oC q4]) (.k [0,1] [] [.tmp 1 false,.tmp 3 false] [1,3,4,7] ⟨trF h20,trF h21,trivial⟩) ?_
  replace hm:=bb_cases hm;rcases hm with ⟨h25,hm⟩ | ⟨h25,hm⟩
  ·refine .ifT (nt b1) (by kernel_rfl) h25 ?_
   refine .then ?_
   replace hm:=bb_inv hm;obtain ⟨h26,hm⟩:=hm
   replace hm:=oo_inv hm;obtain ⟨v3,h27,hm⟩:=hm
   replace hm:=inv_vAgg hm;obtain ⟨q5,rfl,hm⟩:=hm
   replace hm:=bb_inv hm;obtain ⟨h28,hm⟩:=hm
   replace hm:=bb_inv hm;obtain ⟨h29,hm⟩:=hm
   replace hm:=bb_inv hm;obtain ⟨h30,hm⟩:=hm
   replace hm:=bb_inv hm;obtain ⟨h31,hm⟩:=hm
   refine .reg (eD (keep (hp 2 [oC q3,oC q4]) (bb (Nat.ble (0 + 22) (len q3)) (some (.agg ⟨(takeL 22 (dropL 0 q3))⟩)) none)) (keep_bb h26) (eD (bb (allL closed2 [(.agg ⟨(takeL 22 (dropL 0 q3))⟩)]) (oo (pu 59 [(.agg ⟨(takeL 22 (dropL 0 q3))⟩)]) none fun v=>some (v,(hp 2 [oC q3,oC q4]))) (oo (mapO (purify (hp 2 [oC q3,oC q4])) [(.agg ⟨(takeL 22 (dropL 0 q3))⟩)]) none fun l1=>oo (pu 59 l1) none fun v=>bb (plainT v) (some (v,(hp 2 [oC q3,oC q4]))) none)) (callc_eq h29 h27) (eD (done (bb (Nat.beq (len q5) 22) (bb (an (Nat.ble (0 + len q5) (len q3)) (allL scalarB q5)) (some (hp 2 [(oC (setL q5 0 q3)),oC q4])) none) none) undef) (done_bb2 h30 h31) (eE)))) ?_
   replace hm:=bb_inv hm;obtain ⟨h32,hm⟩:=hm
   refine .ghs (fr 14 [(1,(pt 0 0)),(3,pt 1 0),(4,zI z0)]) (hp 2 [(oC (setL q5 0 q3)),oC q4]) (.k [0,1] [] [.tmp 1 false,.tmp 3 false] [1,3,4] ⟨trF h32,trF h21,trivial⟩) ?_
   refine .then (.rK ?_)
   refine .ghs (fr 14 [(1,(pt 0 0)),(3,pt 1 0),(4,(zI (wrapF .i64 (Int.add z0 (1:Int)))))]) (hp 2 [(oC (setL q5 0 q3)),oC q4]) (.k [0,1] [] [.tmp 1 false,.tmp 3 false] [1,3,4] ⟨trF h32,trF h21,trivial⟩) ?_
   refine .goto ?_
   exact ⟨rfl,((wrapF .i64 (Int.add z0 (1:Int))),(setL q5 0 q3),q4),hm,(.k [0,1] [] [.tmp 1 false,.tmp 3 false] [1,3,4] ⟨trF h32,trF h21,trivial⟩)⟩
  ·refine .ifF (nt b1) (by kernel_rfl) h25 ?_
   refine .skip ?_
   refine .ghs (fr 14 [(1,(pt 0 0)),(3,pt 1 0),(4,zI z0)]) (hp 2 [oC q3,oC q4]) (.k [0,1] [] [.tmp 1 false,.tmp 3 false] [1,3,4] ⟨trF h20,trF h21,trivial⟩) ?_
   refine .then ?_
   replace hm:=bb_inv hm;obtain ⟨h33,hm⟩:=hm
   replace hm:=bb_inv hm;obtain ⟨h34,hm⟩:=hm
   replace hm:=bb_inv hm;obtain ⟨h35,hm⟩:=hm
   refine .reg (eC 1 (keep (hp 2 [oC q3,oC q4]) (bb (Nat.ble (0 + 22) (len q3)) (some (.agg ⟨(takeL 22 (dropL 0 q3))⟩)) none)) (keep_bb h33) (eC 1 (done (bb (Nat.beq (len (takeL 22 (dropL 0 q3))) 22) (bb (an (Nat.ble (0 + len (takeL 22 (dropL 0 q3))) (len q4)) (allL scalarB (takeL 22 (dropL 0 q3)))) (some (hp 2 [oC q3,(oC (setL (takeL 22 (dropL 0 q3)) 0 q4))])) none) none) undef) (done_bb2 h34 h35) (eE))) ?_
   replace hm:=bb_inv hm;obtain ⟨h36,hm⟩:=hm
   refine .ghs (fr 14 [(2,zI z0),(3,(pt 0 0))]) (hp 1 [(oC (setL (takeL 22 (dropL 0 q3)) 0 q4))]) (.k [1] [] [.tmp 3 false] [2,3] ⟨trF h36,trivial⟩) ?_
   refine .ret ?_
   replace hm:=bb_inv hm;obtain ⟨h37,hm⟩:=hm
   replace hm:=bb_inv hm;obtain ⟨h38,hm⟩:=hm
   exact fin_ret (.tuple ⟨[zI z0,(.agg ⟨(takeL 22 (dropL 0 (setL (takeL 22 (dropL 0 q3)) 0 q4)))⟩)]⟩) (aresults_of (aresultsL_cons (show aresult _ _ _ _ = some (zI z0) from (by kernel_rfl)) (aresultsL_cons (show aresult _ _ _ _ = some (.agg ⟨(takeL 22 (dropL 0 (setL (takeL 22 (dropL 0 q3)) 0 q4)))⟩) from (eq_bb (c:=(Nat.ble (0 + 22) (len (setL (takeL 22 (dropL 0 q3)) 0 q4)))) (by kernel_rfl) h37)) rfl)) (by kernel_rfl)) h38 hm
def m56_0 (pu:PureF) (n n0 c0:Nat) (q1:LV):OV:=
 (bb (allL closed1 q1) (bb (an (Nat.ble (0 + n0 * 1) (len q1)) (allL closed1 (takeL (n0 * 1) (dropL 0 q1)))) (some (Sl.v 1 (Sl.mk n0 0 (takeL (n0 * 1) (dropL 0 q1))))) none) none)
def b56_1 (pu:PureF) (n:Nat) (ih0:Nat→Nat→Int→LV→LV→OV) (n0 c0:Nat) (z0:Int) (q1:LV) (q2:LV):OV:=
 (bb (allL closed1 q1) (bb (allL closed1 q2) (bb (ilt (0:Int) z0) (oo (toN z0) none fun k1=>(bb (Nat.blt k1 22) (oo (nthL q1 (0 + k1 * 1)) none fun v0=>(oo (toI .i64 v0) none fun x0=>(oo (pu 68 [(Sl.v 1 (Sl.mk 1 0 (takeL (1 * 1) (dropL 0 ([(.int .i64 (Int.ofNat k1))]:LV))))),.int .i64 x0]) none fun v1=>(oo (toSl 1 v1) none fun s0=>(bb (Nat.beq (Sl.n s0) 0) (ih0 n0 c0 (wrapF .i64 (Int.sub (Int.ofNat k1) (1:Int))) q1 q2) (bb (an (allL scalarB (takeL ((Sl.n s0) * 1) (Sl.cs s0))) (growC 1 8 n0 c0 (Sl.n s0) q2)) (bb (allL closed1 (appL (dropL 0 q2) (takeL ((Sl.n s0) * 1) (Sl.cs s0)))) (ih0 (n0 + (Sl.n s0)) (2 * (n0 + (Sl.n s0)) + bb false 1 0) (wrapF .i64 (Int.sub (Int.ofNat k1) (1:Int))) q1 (appL (dropL 0 q2) (takeL ((Sl.n s0) * 1) (Sl.cs s0)))) none) none)))))) none)) (m56_0 pu n n0 c0 q2)) none) none)
def l56_1 (pu:PureF) (n w:Nat):Nat→Nat→Int→LV→LV→OV:=
 Nat.rec (motive:=fun _=>Nat→Nat→Int→LV→LV→OV) (fun _ _ _ _ _=>none) (fun _ ih0=>b56_1 pu n ih0) w
def m56_ (pu:PureF) (n:Nat) (q1:LV):OV:=
 (bb (allL closed1 q1) (l56_1 pu n n 0 0 (21:Int) q1 ([]:LV)) none)
def m56 (pu:PureF) (n:Nat) (args:LV):OV:=
 (ll args none fun a0 args=>(ll args (oo (vAgg a0) none fun q1=>(bb (an (Nat.beq (len q1) 22) (allL closed1 q1)) (m56_ pu n q1) none)) fun _ _=>none))
theorem w56_0 (pu:PureF) (n n0 c0:Nat) (q1:LV) {v:Value} (hm:m56_0 pu n n0 c0 q1 = some v):Run tt (callP tabs isP pu (inl pu)) 0 c56_15 (fr 18 [(3,sc 0 0 1 n0 c0)]) (hp 1 [oC q1]) (FinL tt 0 1 [.tmp 2] v):=by
 unfold m56_0 at hm
 refine .then (.rK ?_)
 replace hm:=bb_inv hm;obtain ⟨h0,hm⟩:=hm
 refine .ghs (fr 18 [(2,sc 0 0 1 n0 c0)]) (hp 1 [oC q1]) (.k [0] [] [.tmp 2 false] [2] ⟨trF h0,trivial⟩) ?_
 refine .ret ?_
 replace hm:=bb_inv hm;obtain ⟨h1,hm⟩:=hm
 exact finL_ret 0 0 c0 n0 [] q1 (by kernel_rfl) (by kernel_rfl) (by kernel_rfl) h1 hm
theorem r56 {call:CallF} (pu:PureF) (n:Nat) (hcall:call = callP tabs isP pu (inl pu)) {args:LV} {v:Value} (hm:m56 pu n args = some v) (_:∀ x ∈ args,closed2 x = true):args.length≤18∧Run tt call 0 c56_18 (Fr.made 18 args) (pureHeap tabs) (FinL tt 0 1 [.tmp 2] v):=by
 subst hcall
 unfold m56 at hm
 replace hm:=ll_uncons hm;obtain ⟨a0,args_0,rfl,hm⟩:=hm
 replace hm:=ll_end hm;obtain ⟨rfl,hm⟩:=hm
 replace hm:=inv_vAgg hm;obtain ⟨q1,rfl,hm⟩:=hm
 replace hm:=bb_inv hm;obtain ⟨h0,hm⟩:=hm
 unfold m56_ at hm
 refine ⟨by simp,?_⟩
 refine .same (F':=(fr 18 [(0,(.agg ⟨q1⟩))])) (H':=(hp 0 [])) (by kernel_rfl) (by kernel_rfl) ?_
 refine .then (.rK ?_)
 replace hm:=bb_inv hm;obtain ⟨h1,hm⟩:=hm
 refine .ghs (fr 18 [(1,(pt 0 0))]) (hp 1 [oC q1]) (.k [0] [] [.tmp 1 false] [1] ⟨trF h1,trivial⟩) ?_
 refine .then (.rK ?_)
 refine .ghs (fr 18 [(1,(pt 0 0)),(3,(.slice none 0 0))]) (hp 1 [oC q1]) (.k [0] [] [.tmp 1 false] [1,3] ⟨trF h1,trivial⟩) ?_
 refine .join (v:=v) (fun y:Nat×Nat×LV=>((fr 18 [(3,(sc 0 0 1 y.1 y.2.1))]),(hp 1 [(oC y.2.2)]))) (fun y=>m56_0 pu n y.1 y.2.1 y.2.2) ?_ ?_
 ·rintro ⟨n0, c0, q2⟩ hm
  exact w56_0 pu n n0 c0 q2 hm
 ·refine .then (.rK ?_)
  refine .ghs (fr 18 [(1,(pt 0 0)),(3,(.slice none 0 0)),(4,(zI (21:Int)))]) (hp 1 [oC q1]) (.k [0] [] [.tmp 1 false] [1,3,4] ⟨trF h1,trivial⟩) ?_
  refine .block ?_
  refine .loopM (v:=v) (fun y:Nat×Nat×Int×LV×LV=>((fr 18 [(1,(pt 0 0)),(3,(sc 1 0 1 y.1 y.2.1)),(4,(zI y.2.2.1))]),(hp 2 [(oC y.2.2.2.1),(oC y.2.2.2.2)]))) (fun w y=>l56_1 pu n w y.1 y.2.1 y.2.2.1 y.2.2.2.1 y.2.2.2.2) n ⟨(0,0,(21:Int),q1,([]:LV)),hm,(.thaw 3 1 (by kernel_rfl) (.k [0] [] [.tmp 1 false,.tmp 3 false] [1,3,4] ⟨trF h1,trivial⟩))⟩ (fun _=>rfl) ?_
  rintro w0 ⟨n1,c1,z0,q3,q4⟩ hm
  replace hm:b56_1 pu n (l56_1 pu n w0) n1 c1 z0 q3 q4 = some v:=hm
  unfold b56_1 at hm
  refine .then ?_
  refine .then (.rK ?_)
  replace hm:=bb_inv hm;obtain ⟨h2,hm⟩:=hm
  replace hm:=bb_inv hm;obtain ⟨h3,hm⟩:=hm
  refine .ghs (fr 18 [(1,(pt 0 0)),(3,sc 1 0 1 n1 c1),(4,zI z0),(6,(zB (ilt (0:Int) z0)))]) (hp 2 [oC q3,oC q4]) (.k [0,1] [] [.tmp 1 false,.tmp 3 false] [1,3,4,6] ⟨trF h2,trF h3,trivial⟩) ?_
  replace hm:=bb_cases hm;rcases hm with ⟨h4,hm⟩ | ⟨h4,hm⟩
  ·refine .ifT (ilt (0 : Int) z0) (by kernel_rfl) h4 ?_
   refine .skip ?_
   refine .ghs (fr 18 [(1,(pt 0 0)),(3,sc 1 0 1 n1 c1),(4,zI z0)]) (hp 2 [oC q3,oC q4]) (.k [0,1] [] [.tmp 1 false,.tmp 3 false] [1,3,4] ⟨trF h2,trF h3,trivial⟩) ?_
   refine .then ?_
   refine .block ?_
   replace hm:=oo_inv hm;obtain ⟨k1,h5,hm⟩:=hm
   obtain rfl:=toN_some h5
   replace hm:=bb_inv hm;obtain ⟨h6,hm⟩:=hm
   replace hm:=oo_inv hm;obtain ⟨v0,h7,hm⟩:=hm
   replace hm:=inv_toI hm;obtain ⟨x0,rfl,hm⟩:=hm
   replace hm:=oo_inv hm;obtain ⟨v1,h8,hm⟩:=hm
   replace hm:=inv_toSl hm;obtain ⟨s0,rfl,hm⟩:=hm
   replace hm:=bb_cases hm;rcases hm with ⟨h9,hm⟩ | ⟨h9,hm⟩
   ·refine .reg (eC 4 (keep (hp 3 [oC q3, oC q4, (oC [(zI (Int.ofNat k1))])]) (bb (Nat.blt k1 22) (some (.pointer (some ⟨0, (0 + k1 * 1), none⟩))) none)) (keep_bb h6) (eD (keep (hp 3 [oC q3, oC q4, (oC [(zI (Int.ofNat k1))])]) (nthL q3 (0 + k1 * 1))) (keep_eq h7) (eD (giveF tabs 1 (pu 68) [sc 2 0 1 1 3, zI x0] (hp 3 [oC q3, oC q4, (oC [(zI (Int.ofNat k1))])])) (giveF_eq (giveL_cons (show giveV 1 (sc 2 0 1 1 3) (hp 3 [oC q3, oC q4, (oC [(zI (Int.ofNat k1))])]) = some ((Sl.v 1 (Sl.mk 1 0 (takeL (1 * 1) (dropL 0 ([(zI (Int.ofNat k1))] : LV))))), (hp 3 [oC q3, oC q4, .dead])) from giveV_sl 2 0 1 1 3 ([(zI (Int.ofNat k1))] : LV) [] (by kernel_rfl) (by kernel_rfl) (by kernel_rfl)) (giveL_cons (giveV_cl (z := 1) (v := (zI x0)) (H := (hp 3 [oC q3, oC q4, .dead])) (by kernel_rfl) (by kernel_rfl) (by kernel_rfl)) giveL_nil)) (by kernel_rfl) h8) (eD (appFs (hp 3 [oC q3, oC q4, .dead]) 1 8 (sc 1 0 1 n1 c1) s0) (appFs_sl0 h9) (eE))))) ?_
    refine .ghs (fr 18 [(1,(pt 0 0)),(3,sc 1 0 1 n1 c1),(4,(zI (Int.ofNat k1)))]) (hp 2 [oC q3,oC q4]) (.k [0,1] [] [.tmp 1 false,.tmp 3 false] [1,3,4] ⟨trF h2,trF h3,trivial⟩) ?_
    refine .rK ?_
    exact ⟨(n1,c1,(wrapF .i64 (Int.sub (Int.ofNat k1) (1:Int))),q3,q4),hm,(.k [0,1] [] [.tmp 1 false,.tmp 3 false] [1,3,4] ⟨trF h2,trF h3,trivial⟩)⟩
   ·replace hm := bb_inv hm; obtain ⟨h10, hm⟩ := hm
    refine .reg (eC 4 (keep (hp 3 [oC q3,oC q4,(oC [(zI (Int.ofNat k1))])]) (bb (Nat.blt k1 22) (some (.pointer (some ⟨0,(0 + k1 * 1),none⟩))) none)) (keep_bb h6) (eD (keep (hp 3 [oC q3,oC q4,(oC [(zI (Int.ofNat k1))])]) (nthL q3 (0 + k1 * 1))) (keep_eq h7) (eD (giveF tabs 1 (pu 68) [sc 2 0 1 1 3,zI x0] (hp 3 [oC q3,oC q4,(oC [(zI (Int.ofNat k1))])])) (giveF_eq (giveL_cons (show giveV 1 (sc 2 0 1 1 3) (hp 3 [oC q3,oC q4,(oC [(zI (Int.ofNat k1))])]) = some ((Sl.v 1 (Sl.mk 1 0 (takeL (1 * 1) (dropL 0 ([(zI (Int.ofNat k1))]:LV))))),(hp 3 [oC q3,oC q4,.dead])) from giveV_sl 2 0 1 1 3 ([(zI (Int.ofNat k1))]:LV) [] (by kernel_rfl) (by kernel_rfl) (by kernel_rfl)) (giveL_cons (giveV_cl (z:=1) (v:=(zI x0)) (H:=(hp 3 [oC q3,oC q4,.dead])) (by kernel_rfl) (by kernel_rfl) (by kernel_rfl)) giveL_nil)) (by kernel_rfl) h8) (eD (appFs (hp 3 [oC q3,oC q4,.dead]) 1 8 (sc 1 0 1 n1 c1) s0) (appFs_grow (H:=(hp 3 [oC q3,oC q4,.dead])) (id:=1) (n:=n1) (c2:=c1) (xs:=q4) (anc:=[]) h9 (by kernel_rfl) (by kernel_rfl) h10) (eE))))) ?_
    replace hm:=bb_inv hm;obtain ⟨h11,hm⟩:=hm
    refine .ghs (fr 18 [(1,(pt 0 0)),(3,(sc 1 0 1 (n1 + (Sl.n s0)) (d2 (n1 + (Sl.n s0))))),(4,(zI (Int.ofNat k1)))]) (hp 2 [oC q3,(oC (appL (dropL 0 q4) (takeL ((Sl.n s0) * 1) (Sl.cs s0))))]) (.k [0,3] [] [.tmp 1 false,.tmp 3 false] [1,3,4] ⟨trF h2,trF h11,trivial⟩) ?_
    refine .rK ?_
    exact ⟨((n1 + (Sl.n s0)),(d2 (n1 + (Sl.n s0))),(wrapF .i64 (Int.sub (Int.ofNat k1) (1:Int))),q3,(appL (dropL 0 q4) (takeL ((Sl.n s0) * 1) (Sl.cs s0)))),hm,(.k [0,1] [] [.tmp 1 false,.tmp 3 false] [1,3,4] ⟨trF h2,trF h11,trivial⟩)⟩
  ·refine .ifF (ilt (0 : Int) z0) (by kernel_rfl) h4 ?_
   refine .exit ?_
   exact ⟨(n1,c1,q4),hm,(.k [1] [] [.tmp 3 false] [3] ⟨trF h3,trivial⟩)⟩
def m57_0 (pu:PureF) (n:Nat) (z0:Int):OV:=
 (some (.int .i64 z0))
def b57_1 (pu:PureF) (n:Nat) (ih0:Int→Int→Int→Int→Int→Int→Int→Int→Int→Int→Int→Int→Int→Int→Int→Int→Int→Int→Int→Int→Int→Int→Int→Int→OV) (z0 z1 z2 z3 z4 z5 z6 z7 z8 z9 z10 z11 z12 z13 z14 z15 z16 z17 z18 z19 z20 z21 z22 z23:Int):OV:=
 (bb (ilt z23 (22:Int)) (oo (toN z23) none fun k1=>(bb (Nat.blt k1 22) (oo (nthL ([.int .i64 z1,.int .i64 z2,.int .i64 z3,.int .i64 z4,.int .i64 z5,.int .i64 z6,.int .i64 z7,.int .i64 z8,.int .i64 z9,.int .i64 z10,.int .i64 z11,.int .i64 z12,.int .i64 z13,.int .i64 z14,.int .i64 z15,.int .i64 z16,.int .i64 z17,.int .i64 z18,.int .i64 z19,.int .i64 z20,.int .i64 z21,.int .i64 z22]:LV) (k1 * 1)) none fun v0=>(oo (toI .i64 v0) none fun x0=>(ih0 (wrapF .i64 (Int.add z0 (wrapF .i64 (Int.mul (Int.ofNat k1) x0)))) z1 z2 z3 z4 z5 z6 z7 z8 z9 z10 z11 z12 z13 z14 z15 z16 z17 z18 z19 z20 z21 z22 (wrapF .i64 (Int.add (Int.ofNat k1) (1:Int)))))) none)) (m57_0 pu n z0))
def l57_1 (pu:PureF) (n w:Nat):Int→Int→Int→Int→Int→Int→Int→Int→Int→Int→Int→Int→Int→Int→Int→Int→Int→Int→Int→Int→Int→Int→Int→Int→OV:=
 Nat.rec (motive:=fun _=>Int→Int→Int→Int→Int→Int→Int→Int→Int→Int→Int→Int→Int→Int→Int→Int→Int→Int→Int→Int→Int→Int→Int→Int→OV) (fun _ _ _ _ _ _ _ _ _ _ _ _ _ _ _ _ _ _ _ _ _ _ _ _=>none) (fun _ ih0=>b57_1 pu n ih0) w
def m57_ (pu:PureF) (n:Nat) (x0 x1 x2 x3 x4 x5 x6 x7 x8 x9 x10 x11 x12 x13 x14 x15 x16 x17 x18 x19 x20 x21:Int):OV:=
 (l57_1 pu n n (0:Int) x0 x1 x2 x3 x4 x5 x6 x7 x8 x9 x10 x11 x12 x13 x14 x15 x16 x17 x18 x19 x20 x21 (0:Int))
def m57 (pu:PureF) (n:Nat) (args:LV):OV:=
 (ll args none fun a0 args=>(ll args (oo (vAgg a0) none fun l0=>(ll l0 none fun v0 l0=>(ll l0 none fun v1 l0=>(ll l0 none fun v2 l0=>(ll l0 none fun v3 l0=>(ll l0 none fun v4 l0=>(ll l0 none fun v5 l0=>(ll l0 none fun v6 l0=>(ll l0 none fun v7 l0=>(ll l0 none fun v8 l0=>(ll l0 none fun v9 l0=>(ll l0 none fun v10 l0=>(ll l0 none fun v11 l0=>(ll l0 none fun v12 l0=>(ll l0 none fun v13 l0=>(ll l0 none fun v14 l0=>(ll l0 none fun v15 l0=>(ll l0 none fun v16 l0=>(ll l0 none fun v17 l0=>(ll l0 none fun v18 l0=>(ll l0 none fun v19 l0=>(ll l0 none fun v20 l0=>(ll l0 none fun v21 l0=>(ll l0 (oo (toI .i64 v0) none fun x0=>(oo (toI .i64 v1) none fun x1=>(oo (toI .i64 v2) none fun x2=>(oo (toI .i64 v3) none fun x3=>(oo (toI .i64 v4) none fun x4=>(oo (toI .i64 v5) none fun x5=>(oo (toI .i64 v6) none fun x6=>(oo (toI .i64 v7) none fun x7=>(oo (toI .i64 v8) none fun x8=>(oo (toI .i64 v9) none fun x9=>(oo (toI .i64 v10) none fun x10=>(oo (toI .i64 v11) none fun x11=>(oo (toI .i64 v12) none fun x12=>(oo (toI .i64 v13) none fun x13=>(oo (toI .i64 v14) none fun x14=>(oo (toI .i64 v15) none fun x15=>(oo (toI .i64 v16) none fun x16=>(oo (toI .i64 v17) none fun x17=>(oo (toI .i64 v18) none fun x18=>(oo (toI .i64 v19) none fun x19=>(oo (toI .i64 v20) none fun x20=>(oo (toI .i64 v21) none fun x21=>(m57_ pu n x0 x1 x2 x3 x4 x5 x6 x7 x8 x9 x10 x11 x12 x13 x14 x15 x16 x17 x18 x19 x20 x21))))))))))))))))))))))) fun _ _=>none)))))))))))))))))))))))) fun _ _=>none))
theorem w57_0 (pu:PureF) (n:Nat) (z0:Int) {v:Value} (hm:m57_0 pu n z0 = some v):Run tt (callP tabs isP pu (inl pu)) 0 c57_17 (fr 18 [(3,zI z0)]) (hp 0 []) (Fin tt 0 [.tmp 2] v):=by
 unfold m57_0 at hm
 refine .then (.rK ?_)
 refine .ghs (fr 18 [(2,zI z0)]) (hp 0 []) (.k0 [] [] [2]) ?_
 refine .ret ?_
 exact fin_ret (zI z0) (by kernel_rfl) (by kernel_rfl) hm
theorem r57 {call:CallF} (pu:PureF) (n:Nat) (hcall:call = callP tabs isP pu (inl pu)) {args:LV} {v:Value} (hm:m57 pu n args = some v) (_:∀ x ∈ args,closed2 x = true):args.length≤18∧Run tt call 0 c57_20 (Fr.made 18 args) (pureHeap tabs) (Fin tt 0 [.tmp 2] v):=by
 subst hcall
 unfold m57 at hm
 replace hm:=ll_uncons hm;obtain ⟨a0,args_0,rfl,hm⟩:=hm
 replace hm:=ll_end hm;obtain ⟨rfl,hm⟩:=hm
 replace hm:=inv_vAgg hm;obtain ⟨l0,rfl,hm⟩:=hm
 replace hm:=ll_uncons hm;obtain ⟨v0,l7367_0,rfl,hm⟩:=hm
 replace hm:=ll_uncons hm;obtain ⟨v1,l7367_1,rfl,hm⟩:=hm
 replace hm:=ll_uncons hm;obtain ⟨v2,l7367_2,rfl,hm⟩:=hm
 replace hm:=ll_uncons hm;obtain ⟨v3,l7367_3,rfl,hm⟩:=hm
 replace hm:=ll_uncons hm;obtain ⟨v4,l7367_4,rfl,hm⟩:=hm
 replace hm:=ll_uncons hm;obtain ⟨v5,l7367_5,rfl,hm⟩:=hm
 replace hm:=ll_uncons hm;obtain ⟨v6,l7367_6,rfl,hm⟩:=hm
 replace hm:=ll_uncons hm;obtain ⟨v7,l7367_7,rfl,hm⟩:=hm
 replace hm:=ll_uncons hm;obtain ⟨v8,l7367_8,rfl,hm⟩:=hm
 replace hm:=ll_uncons hm;obtain ⟨v9,l7367_9,rfl,hm⟩:=hm
 replace hm:=ll_uncons hm;obtain ⟨v10,l7367_10,rfl,hm⟩:=hm
 replace hm:=ll_uncons hm;obtain ⟨v11,l7367_11,rfl,hm⟩:=hm
 replace hm:=ll_uncons hm;obtain ⟨v12,l7367_12,rfl,hm⟩:=hm
 replace hm:=ll_uncons hm;obtain ⟨v13,l7367_13,rfl,hm⟩:=hm
 replace hm:=ll_uncons hm;obtain ⟨v14,l7367_14,rfl,hm⟩:=hm
 replace hm:=ll_uncons hm;obtain ⟨v15,l7367_15,rfl,hm⟩:=hm
 replace hm:=ll_uncons hm;obtain ⟨v16,l7367_16,rfl,hm⟩:=hm
 replace hm:=ll_uncons hm;obtain ⟨v17,l7367_17,rfl,hm⟩:=hm
 replace hm:=ll_uncons hm;obtain ⟨v18,l7367_18,rfl,hm⟩:=hm
 replace hm:=ll_uncons hm;obtain ⟨v19,l7367_19,rfl,hm⟩:=hm
 replace hm:=ll_uncons hm;obtain ⟨v20,l7367_20,rfl,hm⟩:=hm
 replace hm:=ll_uncons hm;obtain ⟨v21,l7367_21,rfl,hm⟩:=hm
 replace hm:=ll_end hm;obtain ⟨rfl,hm⟩:=hm
 replace hm:=inv_toI hm;obtain ⟨x0,rfl,hm⟩:=hm
 replace hm:=inv_toI hm;obtain ⟨x1,rfl,hm⟩:=hm
 replace hm:=inv_toI hm;obtain ⟨x2,rfl,hm⟩:=hm
 replace hm:=inv_toI hm;obtain ⟨x3,rfl,hm⟩:=hm
 replace hm:=inv_toI hm;obtain ⟨x4,rfl,hm⟩:=hm
 replace hm:=inv_toI hm;obtain ⟨x5,rfl,hm⟩:=hm
 replace hm:=inv_toI hm;obtain ⟨x6,rfl,hm⟩:=hm
 replace hm:=inv_toI hm;obtain ⟨x7,rfl,hm⟩:=hm
 replace hm:=inv_toI hm;obtain ⟨x8,rfl,hm⟩:=hm
 replace hm:=inv_toI hm;obtain ⟨x9,rfl,hm⟩:=hm
 replace hm:=inv_toI hm;obtain ⟨x10,rfl,hm⟩:=hm
 replace hm:=inv_toI hm;obtain ⟨x11,rfl,hm⟩:=hm
 replace hm:=inv_toI hm;obtain ⟨x12,rfl,hm⟩:=hm
 replace hm:=inv_toI hm;obtain ⟨x13,rfl,hm⟩:=hm
 replace hm:=inv_toI hm;obtain ⟨x14,rfl,hm⟩:=hm
 replace hm:=inv_toI hm;obtain ⟨x15,rfl,hm⟩:=hm
 replace hm:=inv_toI hm;obtain ⟨x16,rfl,hm⟩:=hm
 replace hm:=inv_toI hm;obtain ⟨x17,rfl,hm⟩:=hm
 replace hm:=inv_toI hm;obtain ⟨x18,rfl,hm⟩:=hm
 replace hm:=inv_toI hm;obtain ⟨x19,rfl,hm⟩:=hm
 replace hm:=inv_toI hm;obtain ⟨x20,rfl,hm⟩:=hm
 replace hm:=inv_toI hm;obtain ⟨x21,rfl,hm⟩:=hm
 unfold m57_ at hm
 refine ⟨by simp,?_⟩
 refine .same (F':=(fr 18 [(0,(.agg ⟨[zI x0,zI x1,zI x2,zI x3,zI x4,zI x5,zI x6,zI x7,zI x8,zI x9,zI x10,zI x11,zI x12,zI x13,zI x14,zI x15,zI x16,zI x17,zI x18,zI x19,zI x20,zI x21]⟩))])) (H':=(hp 0 [])) (by kernel_rfl) (by kernel_rfl) ?_
 refine .then (.rK ?_)
 refine .ghs (fr 18 [(1,(pt 0 0))]) (hp 1 [(oC [zI x0,zI x1,zI x2,zI x3,zI x4,zI x5,zI x6,zI x7,zI x8,zI x9,zI x10,zI x11,zI x12,zI x13,zI x14,zI x15,zI x16,zI x17,zI x18,zI x19,zI x20,zI x21])]) (.k0 [] [.tmp 1 false] [1]) ?_
 refine .then (.rK ?_)
 refine .ghs (fr 18 [(1,(pt 0 0)),(3,(zI (0:Int)))]) (hp 1 [(oC [zI x0,zI x1,zI x2,zI x3,zI x4,zI x5,zI x6,zI x7,zI x8,zI x9,zI x10,zI x11,zI x12,zI x13,zI x14,zI x15,zI x16,zI x17,zI x18,zI x19,zI x20,zI x21])]) (.k0 [] [.tmp 1 false] [1,3]) ?_
 refine .join (v:=v) (fun y:Int=>((fr 18 [(3,zI y)]),(hp 0 []))) (fun y=>m57_0 pu n y) ?_ ?_
 ·rintro z0 hm
  exact w57_0 pu n z0 hm
 ·refine .then (.rK ?_)
  refine .ghs (fr 18 [(3,(zI (0:Int))),(6,(.agg ⟨[zI x0,zI x1,zI x2,zI x3,zI x4,zI x5,zI x6,zI x7,zI x8,zI x9,zI x10,zI x11,zI x12,zI x13,zI x14,zI x15,zI x16,zI x17,zI x18,zI x19,zI x20,zI x21]⟩)),(7,(zI (0:Int)))]) (hp 0 []) (.k0 [] [] [3,6,7]) ?_
  refine .block ?_
  refine .loopM (v:=v) (fun y:Int×Int×Int×Int×Int×Int×Int×Int×Int×Int×Int×Int×Int×Int×Int×Int×Int×Int×Int×Int×Int×Int×Int×Int=>((fr 18 [(3,(zI y.1)),(6,(.agg ⟨[(zI y.2.1),(zI y.2.2.1),(zI y.2.2.2.1),(zI y.2.2.2.2.1),(zI y.2.2.2.2.2.1),(zI y.2.2.2.2.2.2.1),(zI y.2.2.2.2.2.2.2.1),(zI y.2.2.2.2.2.2.2.2.1),(zI y.2.2.2.2.2.2.2.2.2.1),(zI y.2.2.2.2.2.2.2.2.2.2.1),(zI y.2.2.2.2.2.2.2.2.2.2.2.1),(zI y.2.2.2.2.2.2.2.2.2.2.2.2.1),(zI y.2.2.2.2.2.2.2.2.2.2.2.2.2.1),(zI y.2.2.2.2.2.2.2.2.2.2.2.2.2.2.1),(zI y.2.2.2.2.2.2.2.2.2.2.2.2.2.2.2.1),(zI y.2.2.2.2.2.2.2.2.2.2.2.2.2.2.2.2.1),(zI y.2.2.2.2.2.2.2.2.2.2.2.2.2.2.2.2.2.1),(zI y.2.2.2.2.2.2.2.2.2.2.2.2.2.2.2.2.2.2.1),(zI y.2.2.2.2.2.2.2.2.2.2.2.2.2.2.2.2.2.2.2.1),(zI y.2.2.2.2.2.2.2.2.2.2.2.2.2.2.2.2.2.2.2.2.1),(zI y.2.2.2.2.2.2.2.2.2.2.2.2.2.2.2.2.2.2.2.2.2.1),(zI y.2.2.2.2.2.2.2.2.2.2.2.2.2.2.2.2.2.2.2.2.2.2.1)]⟩)),(7,(zI y.2.2.2.2.2.2.2.2.2.2.2.2.2.2.2.2.2.2.2.2.2.2.2))]),(hp 0 []))) (fun w y=>l57_1 pu n w y.1 y.2.1 y.2.2.1 y.2.2.2.1 y.2.2.2.2.1 y.2.2.2.2.2.1 y.2.2.2.2.2.2.1 y.2.2.2.2.2.2.2.1 y.2.2.2.2.2.2.2.2.1 y.2.2.2.2.2.2.2.2.2.1 y.2.2.2.2.2.2.2.2.2.2.1 y.2.2.2.2.2.2.2.2.2.2.2.1 y.2.2.2.2.2.2.2.2.2.2.2.2.1 y.2.2.2.2.2.2.2.2.2.2.2.2.2.1 y.2.2.2.2.2.2.2.2.2.2.2.2.2.2.1 y.2.2.2.2.2.2.2.2.2.2.2.2.2.2.2.1 y.2.2.2.2.2.2.2.2.2.2.2.2.2.2.2.2.1 y.2.2.2.2.2.2.2.2.2.2.2.2.2.2.2.2.2.1 y.2.2.2.2.2.2.2.2.2.2.2.2.2.2.2.2.2.2.1 y.2.2.2.2.2.2.2.2.2.2.2.2.2.2.2.2.2.2.2.1 y.2.2.2.2.2.2.2.2.2.2.2.2.2.2.2.2.2.2.2.2.1 y.2.2.2.2.2.2.2.2.2.2.2.2.2.2.2.2.2.2.2.2.2.1 y.2.2.2.2.2.2.2.2.2.2.2.2.2.2.2.2.2.2.2.2.2.2.1 y.2.2.2.2.2.2.2.2.2.2.2.2.2.2.2.2.2.2.2.2.2.2.2) n ⟨((0:Int),x0,x1,x2,x3,x4,x5,x6,x7,x8,x9,x10,x11,x12,x13,x14,x15,x16,x17,x18,x19,x20,x21,(0:Int)),hm,(.k0 [] [] [3,6,7])⟩ (fun _=>rfl) ?_
  rintro w0 ⟨z1,z2,z3,z4,z5,z6,z7,z8,z9,z10,z11,z12,z13,z14,z15,z16,z17,z18,z19,z20,z21,z22,z23,z24⟩ hm
  replace hm:b57_1 pu n (l57_1 pu n w0) z1 z2 z3 z4 z5 z6 z7 z8 z9 z10 z11 z12 z13 z14 z15 z16 z17 z18 z19 z20 z21 z22 z23 z24 = some v:=hm
  unfold b57_1 at hm
  refine .then (.rK ?_)
  refine .ghs (fr 18 [(3,zI z1),(6,(.agg ⟨[zI z2,zI z3,zI z4,zI z5,zI z6,zI z7,zI z8,zI z9,zI z10,zI z11,zI z12,zI z13,zI z14,zI z15,zI z16,zI z17,zI z18,zI z19,zI z20,zI z21,zI z22,zI z23]⟩)),(7,zI z24),(8,(zB (ilt z24 (22:Int))))]) (hp 0 []) (.k0 [] [] [3,6,7,8]) ?_
  refine .then ?_
  replace hm:=bb_cases hm;rcases hm with ⟨h0,hm⟩ | ⟨h0,hm⟩
  ·refine .ifT (ilt z24 (22 : Int)) (by kernel_rfl) h0 ?_
   refine .skip ?_
   refine .ghs (fr 18 [(3,zI z1),(6,(.agg ⟨[zI z2,zI z3,zI z4,zI z5,zI z6,zI z7,zI z8,zI z9,zI z10,zI z11,zI z12,zI z13,zI z14,zI z15,zI z16,zI z17,zI z18,zI z19,zI z20,zI z21,zI z22,zI z23]⟩)),(7,zI z24)]) (hp 0 []) (.k0 [] [] [3,6,7]) ?_
   refine .then ?_
   refine .block ?_
   refine .then ?_
   replace hm:=oo_inv hm;obtain ⟨k1,h1,hm⟩:=hm
   obtain rfl:=toN_some h1
   replace hm:=bb_inv hm;obtain ⟨h2,hm⟩:=hm
   replace hm:=oo_inv hm;obtain ⟨v22,h3,hm⟩:=hm
   replace hm:=inv_toI hm;obtain ⟨x22,rfl,hm⟩:=hm
   refine .reg (eC 1 (keep (hp 0 []) (bb (Nat.blt k1 22) (nthL ([zI z2,zI z3,zI z4,zI z5,zI z6,zI z7,zI z8,zI z9,zI z10,zI z11,zI z12,zI z13,zI z14,zI z15,zI z16,zI z17,zI z18,zI z19,zI z20,zI z21,zI z22,zI z23]:LV) (k1 * 1)) none)) (keep_bbo h2 h3) (eE)) ?_
   refine .ghs (fr 18 [(3,zI z1),(4,(zI (Int.ofNat k1))),(5,zI x22),(6,(.agg ⟨[zI z2,zI z3,zI z4,zI z5,zI z6,zI z7,zI z8,zI z9,zI z10,zI z11,zI z12,zI z13,zI z14,zI z15,zI z16,zI z17,zI z18,zI z19,zI z20,zI z21,zI z22,zI z23]⟩)),(7,(zI (Int.ofNat k1)))]) (hp 0 []) (.k0 [] [] [3,4,5,6,7]) ?_
   refine .rK ?_
   refine .ghs (fr 18 [(3,(zI (wrapF .i64 (Int.add z1 (wrapF .i64 (Int.mul (Int.ofNat k1) x22)))))),(6,(.agg ⟨[zI z2,zI z3,zI z4,zI z5,zI z6,zI z7,zI z8,zI z9,zI z10,zI z11,zI z12,zI z13,zI z14,zI z15,zI z16,zI z17,zI z18,zI z19,zI z20,zI z21,zI z22,zI z23]⟩)),(7,(zI (Int.ofNat k1)))]) (hp 0 []) (.k0 [] [] [3,6,7]) ?_
   refine .rK ?_
   exact ⟨((wrapF .i64 (Int.add z1 (wrapF .i64 (Int.mul (Int.ofNat k1) x22)))),z2,z3,z4,z5,z6,z7,z8,z9,z10,z11,z12,z13,z14,z15,z16,z17,z18,z19,z20,z21,z22,z23,(wrapF .i64 (Int.add (Int.ofNat k1) (1:Int)))),hm,(.k0 [] [] [3,6,7])⟩
  ·refine .ifF (ilt z24 (22 : Int)) (by kernel_rfl) h0 ?_
   refine .exit ?_
   exact ⟨z1,hm,(.k0 [] [] [3])⟩

def m59_ (pu:PureF) (n:Nat) (q1:LV):OV:=
 (bb (allL closed1 q1) (bb (allL closed1 zA54) (bb (Nat.ble (0 + 22 * 1) (len zA54)) (bb (Nat.ble (0 + 22 * 1) (len q1)) (bb (Nat.ble (1 + 21 * 1) (len q1)) (bb (an (Nat.ble (0 + len (takeL (21 * 1) (dropL 1 q1))) (len zA54)) (allL scalarB (takeL (21 * 1) (dropL 1 q1)))) (bb (allL closed1 (setL (takeL (21 * 1) (dropL 1 q1)) 0 zA54)) (bb (an (Nat.ble (0 + 1) (len (setL (takeL (21 * 1) (dropL 1 q1)) 0 zA54))) true) (bb (allL closed1 (setL ([(.int .i64 (0:Int))]:LV) 0 (setL (takeL (21 * 1) (dropL 1 q1)) 0 zA54))) (bb (Nat.ble (0 + 22) (len q1)) (oo (pu 65 [(.agg ⟨(takeL 22 (dropL 0 q1))⟩)]) none fun v0=>(oo (toI .i64 v0) none fun x0=>(bb (allL closed2 [(.agg ⟨(takeL 22 (dropL 0 q1))⟩)]) (oo (toN x0) none fun k1=>(bb (Nat.blt k1 22) (oo (nthL (setL ([(.int .i64 (0:Int))]:LV) 0 (setL (takeL (21 * 1) (dropL 1 q1)) 0 zA54)) (0 + k1 * 1)) none fun v1=>(oo (toI .i64 v1) none fun x1=>(bb (Nat.blt k1 22) (bb (an (Nat.ble ((0 + k1 * 1) + 1) (len (setL ([(.int .i64 (0:Int))]:LV) 0 (setL (takeL (21 * 1) (dropL 1 q1)) 0 zA54)))) true) (bb (allL closed1 (setL ([(.int .i64 (wrapF .i64 (Int.add x1 (1:Int))))]:LV) (0 + k1 * 1) (setL ([(.int .i64 (0:Int))]:LV) 0 (setL (takeL (21 * 1) (dropL 1 q1)) 0 zA54)))) (bb (Nat.ble (0 + 22) (len (setL ([(.int .i64 (wrapF .i64 (Int.add x1 (1:Int))))]:LV) (0 + k1 * 1) (setL ([(.int .i64 (0:Int))]:LV) 0 (setL (takeL (21 * 1) (dropL 1 q1)) 0 zA54))))) (bb (Nat.beq (len (takeL 22 (dropL 0 (setL ([(.int .i64 (wrapF .i64 (Int.add x1 (1:Int))))]:LV) (0 + k1 * 1) (setL ([(.int .i64 (0:Int))]:LV) 0 (setL (takeL (21 * 1) (dropL 1 q1)) 0 zA54)))))) 22) (bb (an (Nat.ble (0 + len (takeL 22 (dropL 0 (setL ([(.int .i64 (wrapF .i64 (Int.add x1 (1:Int))))]:LV) (0 + k1 * 1) (setL ([(.int .i64 (0:Int))]:LV) 0 (setL (takeL (21 * 1) (dropL 1 q1)) 0 zA54)))))) (len zA54)) (allL scalarB (takeL 22 (dropL 0 (setL ([(.int .i64 (wrapF .i64 (Int.add x1 (1:Int))))]:LV) (0 + k1 * 1) (setL ([(.int .i64 (0:Int))]:LV) 0 (setL (takeL (21 * 1) (dropL 1 q1)) 0 zA54))))))) (bb (allL closed1 (setL (takeL 22 (dropL 0 (setL ([(.int .i64 (wrapF .i64 (Int.add x1 (1:Int))))]:LV) (0 + k1 * 1) (setL ([(.int .i64 (0:Int))]:LV) 0 (setL (takeL (21 * 1) (dropL 1 q1)) 0 zA54))))) 0 zA54)) (bb (Nat.ble (0 + 22) (len (setL (takeL 22 (dropL 0 (setL ([(.int .i64 (wrapF .i64 (Int.add x1 (1:Int))))]:LV) (0 + k1 * 1) (setL ([(.int .i64 (0:Int))]:LV) 0 (setL (takeL (21 * 1) (dropL 1 q1)) 0 zA54))))) 0 zA54))) (bb (closedV (.agg ⟨(takeL 22 (dropL 0 (setL (takeL 22 (dropL 0 (setL ([(.int .i64 (wrapF .i64 (Int.add x1 (1:Int))))]:LV) (0 + k1 * 1) (setL ([(.int .i64 (0:Int))]:LV) 0 (setL (takeL (21 * 1) (dropL 1 q1)) 0 zA54))))) 0 zA54)))⟩)) (some (.agg ⟨(takeL 22 (dropL 0 (setL (takeL 22 (dropL 0 (setL ([(.int .i64 (wrapF .i64 (Int.add x1 (1:Int))))]:LV) (0 + k1 * 1) (setL ([(.int .i64 (0:Int))]:LV) 0 (setL (takeL (21 * 1) (dropL 1 q1)) 0 zA54))))) 0 zA54)))⟩)) none) none) none) none) none) none) none) none) none))) none)) none))) none) none) none) none) none) none) none) none) none) none)
def m59 (pu:PureF) (n:Nat) (args:LV):OV:=
 (ll args none fun a0 args=>(ll args (oo (vAgg a0) none fun q1=>(bb (an (Nat.beq (len q1) 22) (allL closed1 q1)) (m59_ pu n q1) none)) fun _ _=>none))
theorem r59 {call:CallF} (pu:PureF) (n:Nat) (hcall:call = callP tabs isP pu (inl pu)) {args:LV} {v:Value} (hm:m59 pu n args = some v) (_:∀ x ∈ args,closed2 x = true):args.length≤15∧Run tt call 0 c59_11 (Fr.made 15 args) (pureHeap tabs) (Fin tt 0 [.cell 2 54] v):=by
 subst hcall
 unfold m59 at hm
 replace hm:=ll_uncons hm;obtain ⟨a0,args_0,rfl,hm⟩:=hm
 replace hm:=ll_end hm;obtain ⟨rfl,hm⟩:=hm
 replace hm:=inv_vAgg hm;obtain ⟨q1,rfl,hm⟩:=hm
 replace hm:=bb_inv hm;obtain ⟨h0,hm⟩:=hm
 unfold m59_ at hm
 refine ⟨by simp,?_⟩
 refine .same (F':=(fr 15 [(0,(.agg ⟨q1⟩))])) (H':=(hp 0 [])) (by kernel_rfl) (by kernel_rfl) ?_
 refine .then (.rK ?_)
 replace hm:=bb_inv hm;obtain ⟨h1,hm⟩:=hm
 replace hm:=bb_inv hm;obtain ⟨h2,hm⟩:=hm
 refine .ghs (fr 15 [(1,(pt 0 0)),(2,pt 1 0)]) (hp 2 [oC q1,oC zA54]) (.k [0,1] [] [.tmp 1 false,.tmp 2 false] [1,2] ⟨trF h1,trF h2,trivial⟩) ?_
 refine .then (.rK ?_)
 refine .ghs (fr 15 [(1,(pt 0 0)),(2,pt 1 0),(3,(pt 2 0))]) (hp 3 [oC q1,oC zA54,oC zA54]) (.k [0,1,2] [] [.tmp 1 false,.tmp 2 false,.tmp 3 false] [1,2,3] ⟨trF h1,trF h2,trF h2,trivial⟩) ?_
 refine .then ?_
 replace hm:=bb_inv hm;obtain ⟨h3,hm⟩:=hm
 replace hm:=bb_inv hm;obtain ⟨h4,hm⟩:=hm
 replace hm:=bb_inv hm;obtain ⟨h5,hm⟩:=hm
 replace hm:=bb_inv hm;obtain ⟨h6,hm⟩:=hm
 refine .reg (eD (keep (hp 3 [oC q1,oC zA54,oC zA54]) (bb (Nat.ble (0 + 22 * 1) (len zA54)) (some (sc 2 0 1 22 45)) none)) (keep_bb h3) (eD (keep (hp 3 [oC q1,oC zA54,oC zA54]) (bb (Nat.ble (0 + 22 * 1) (len q1)) (some (sc 0 1 1 21 43)) none)) (keep_bb h4) (eD (oo (bb (Nat.ble (1 + 21 * 1) (len q1)) (some (takeL (21 * 1) (dropL 1 q1))) none) none fun new=>oo (bb (an (Nat.ble (0 + len new) (len zA54)) (allL scalarB new)) (some (hp 3 [oC q1,oC zA54,(oC (setL new 0 zA54))])) none) none fun H'=>some ((zI (21:Int)),H')) (copy_eq' (G:=fun new=>(hp 3 [oC q1,oC zA54,(oC (setL new 0 zA54))])) (E:=fun new=>(an (Nat.ble (0 + len new) (len zA54)) (allL scalarB new))) h5 rfl h6) (eE)))) ?_
 replace hm:=bb_inv hm;obtain ⟨h7,hm⟩:=hm
 refine .ghs (fr 15 [(1,(pt 0 0)),(2,pt 1 0),(3,(pt 2 0))]) (hp 3 [oC q1,oC zA54,(oC (setL (takeL (21 * 1) (dropL 1 q1)) 0 zA54))]) (.k [0,1,2] [] [.tmp 1 false,.tmp 2 false,.tmp 3 false] [1,2,3] ⟨trF h1,trF h2,trF h7,trivial⟩) ?_
 refine .then ?_
 replace hm:=bb_inv hm;obtain ⟨h8,hm⟩:=hm
 refine .reg (eC 1 (done (bb (an (Nat.ble (0 + 1) (len (setL (takeL (21 * 1) (dropL 1 q1)) 0 zA54))) true) (some (hp 3 [oC q1,oC zA54,(oC (setL ([(zI (0:Int))]:LV) 0 (setL (takeL (21 * 1) (dropL 1 q1)) 0 zA54)))])) none) undef) (done_bb h8) (eE)) ?_
 replace hm:=bb_inv hm;obtain ⟨h9,hm⟩:=hm
 refine .ghs (fr 15 [(1,(pt 0 0)),(2,pt 1 0),(3,(pt 2 0))]) (hp 3 [oC q1,oC zA54,(oC (setL ([(zI (0:Int))]:LV) 0 (setL (takeL (21 * 1) (dropL 1 q1)) 0 zA54)))]) (.k [0,1,2] [] [.tmp 1 false,.tmp 2 false,.tmp 3 false] [1,2,3] ⟨trF h1,trF h2,trF h9,trivial⟩) ?_
 refine .then ?_
 replace hm:=bb_inv hm;obtain ⟨h10,hm⟩:=hm
 replace hm:=oo_inv hm;obtain ⟨v0,h11,hm⟩:=hm
 replace hm:=inv_toI hm;obtain ⟨x0,rfl,hm⟩:=hm
 replace hm:=bb_inv hm;obtain ⟨h12,hm⟩:=hm
 replace hm:=oo_inv hm;obtain ⟨k1,h13,hm⟩:=hm
 obtain rfl:=toN_some h13
 replace hm:=bb_inv hm;obtain ⟨h14,hm⟩:=hm
 replace hm:=oo_inv hm;obtain ⟨v1,h15,hm⟩:=hm
 replace hm:=inv_toI hm;obtain ⟨x1,rfl,hm⟩:=hm
 replace hm:=bb_inv hm;obtain ⟨h16,hm⟩:=hm
 replace hm:=bb_inv hm;obtain ⟨h17,hm⟩:=hm
 refine .reg (eN 3 (Fr.puts (fr 15 [(1,(pt 0 0)),(2,pt 1 0),(3,(pt 2 0))]) [(8,(.agg ⟨(takeL 22 (dropL 0 q1))⟩)),(9,(zI (Int.ofNat k1))),(10,(.pointer (some ⟨2,(0 + k1 * 1),none⟩)))]) (hp 3 [oC q1,oC zA54,(oC (setL ([(zI (0:Int))]:LV) 0 (setL (takeL (21 * 1) (dropL 1 q1)) 0 zA54)))]) (eD (keep (hp 3 [oC q1,oC zA54,(oC (setL ([(zI (0:Int))]:LV) 0 (setL (takeL (21 * 1) (dropL 1 q1)) 0 zA54)))]) (bb (Nat.ble (0 + 22) (len q1)) (some (.agg ⟨(takeL 22 (dropL 0 q1))⟩)) none)) (keep_bb h10) (eD (bb (allL closed2 [(.agg ⟨(takeL 22 (dropL 0 q1))⟩)]) (oo (pu 65 [(.agg ⟨(takeL 22 (dropL 0 q1))⟩)]) none fun v=>some (v,(hp 3 [oC q1,oC zA54,(oC (setL ([(zI (0:Int))]:LV) 0 (setL (takeL (21 * 1) (dropL 1 q1)) 0 zA54)))]))) (oo (mapO (purify (hp 3 [oC q1,oC zA54,(oC (setL ([(zI (0:Int))]:LV) 0 (setL (takeL (21 * 1) (dropL 1 q1)) 0 zA54)))])) [(.agg ⟨(takeL 22 (dropL 0 q1))⟩)]) none fun l1=>oo (pu 65 l1) none fun v=>bb (plainT v) (some (v,(hp 3 [oC q1,oC zA54,(oC (setL ([(zI (0:Int))]:LV) 0 (setL (takeL (21 * 1) (dropL 1 q1)) 0 zA54)))]))) none)) (callc_eq h12 h11) (eD (keep (hp 3 [oC q1,oC zA54,(oC (setL ([(zI (0:Int))]:LV) 0 (setL (takeL (21 * 1) (dropL 1 q1)) 0 zA54)))]) (bb (Nat.blt k1 22) (some (.pointer (some ⟨2,(0 + k1 * 1),none⟩))) none)) (keep_bb h14) (by kernel_rfl)))) (eD (keep (hp 3 [oC q1,oC zA54,(oC (setL ([(zI (0:Int))]:LV) 0 (setL (takeL (21 * 1) (dropL 1 q1)) 0 zA54)))]) (nthL (setL ([(zI (0:Int))]:LV) 0 (setL (takeL (21 * 1) (dropL 1 q1)) 0 zA54)) (0 + k1 * 1))) (keep_eq h15) (eC 1 (keep (hp 3 [oC q1,oC zA54,(oC (setL ([(zI (0:Int))]:LV) 0 (setL (takeL (21 * 1) (dropL 1 q1)) 0 zA54)))]) (bb (Nat.blt k1 22) (some (.pointer (some ⟨2,(0 + k1 * 1),none⟩))) none)) (keep_bb h16) (eD (done (bb (an (Nat.ble ((0 + k1 * 1) + 1) (len (setL ([(zI (0:Int))]:LV) 0 (setL (takeL (21 * 1) (dropL 1 q1)) 0 zA54)))) true) (some (hp 3 [oC q1,oC zA54,(oC (setL ([(zI (wrapF .i64 (Int.add x1 (1:Int))))]:LV) (0 + k1 * 1) (setL ([(zI (0:Int))]:LV) 0 (setL (takeL (21 * 1) (dropL 1 q1)) 0 zA54))))])) none) undef) (done_bb h17) (eE))))) ?_
 replace hm:=bb_inv hm;obtain ⟨h18,hm⟩:=hm
 refine .ghs (fr 15 [(2,(pt 0 0)),(3,pt 1 0)]) (hp 2 [oC zA54,(oC (setL ([(zI (wrapF .i64 (Int.add x1 (1:Int))))]:LV) (0 + k1 * 1) (setL ([(zI (0:Int))]:LV) 0 (setL (takeL (21 * 1) (dropL 1 q1)) 0 zA54))))]) (.k [1,2] [] [.tmp 2 false,.tmp 3 false] [2,3] ⟨trF h2,trF h18,trivial⟩) ?_
 refine .then ?_
 replace hm:=bb_inv hm;obtain ⟨h19,hm⟩:=hm
 replace hm:=bb_inv hm;obtain ⟨h20,hm⟩:=hm
 replace hm:=bb_inv hm;obtain ⟨h21,hm⟩:=hm
 refine .reg (eD (keep (hp 2 [oC zA54,(oC (setL ([(zI (wrapF .i64 (Int.add x1 (1:Int))))]:LV) (0 + k1 * 1) (setL ([(zI (0:Int))]:LV) 0 (setL (takeL (21 * 1) (dropL 1 q1)) 0 zA54))))]) (bb (Nat.ble (0 + 22) (len (setL ([(zI (wrapF .i64 (Int.add x1 (1:Int))))]:LV) (0 + k1 * 1) (setL ([(zI (0:Int))]:LV) 0 (setL (takeL (21 * 1) (dropL 1 q1)) 0 zA54))))) (some (.agg ⟨(takeL 22 (dropL 0 (setL ([(zI (wrapF .i64 (Int.add x1 (1:Int))))]:LV) (0 + k1 * 1) (setL ([(zI (0:Int))]:LV) 0 (setL (takeL (21 * 1) (dropL 1 q1)) 0 zA54)))))⟩)) none)) (keep_bb h19) (eD (done (bb (Nat.beq (len (takeL 22 (dropL 0 (setL ([(zI (wrapF .i64 (Int.add x1 (1:Int))))]:LV) (0 + k1 * 1) (setL ([(zI (0:Int))]:LV) 0 (setL (takeL (21 * 1) (dropL 1 q1)) 0 zA54)))))) 22) (bb (an (Nat.ble (0 + len (takeL 22 (dropL 0 (setL ([(zI (wrapF .i64 (Int.add x1 (1:Int))))]:LV) (0 + k1 * 1) (setL ([(zI (0:Int))]:LV) 0 (setL (takeL (21 * 1) (dropL 1 q1)) 0 zA54)))))) (len zA54)) (allL scalarB (takeL 22 (dropL 0 (setL ([(zI (wrapF .i64 (Int.add x1 (1:Int))))]:LV) (0 + k1 * 1) (setL ([(zI (0:Int))]:LV) 0 (setL (takeL (21 * 1) (dropL 1 q1)) 0 zA54))))))) (some (hp 2 [(oC (setL (takeL 22 (dropL 0 (setL ([(zI (wrapF .i64 (Int.add x1 (1:Int))))]:LV) (0 + k1 * 1) (setL ([(zI (0:Int))]:LV) 0 (setL (takeL (21 * 1) (dropL 1 q1)) 0 zA54))))) 0 zA54)),(oC (setL ([(zI (wrapF .i64 (Int.add x1 (1:Int))))]:LV) (0 + k1 * 1) (setL ([(zI (0:Int))]:LV) 0 (setL (takeL (21 * 1) (dropL 1 q1)) 0 zA54))))])) none) none) undef) (done_bb2 h20 h21) (eE))) ?_
 replace hm:=bb_inv hm;obtain ⟨h22,hm⟩:=hm
 refine .ghs (fr 15 [(2,(pt 0 0))]) (hp 1 [(oC (setL (takeL 22 (dropL 0 (setL ([(zI (wrapF .i64 (Int.add x1 (1:Int))))]:LV) (0 + k1 * 1) (setL ([(zI (0:Int))]:LV) 0 (setL (takeL (21 * 1) (dropL 1 q1)) 0 zA54))))) 0 zA54))]) (.k [0] [] [.tmp 2 false] [2] ⟨trF h22,trivial⟩) ?_
 refine .ret ?_
 replace hm:=bb_inv hm;obtain ⟨h23,hm⟩:=hm
 replace hm:=bb_inv hm;obtain ⟨h24,hm⟩:=hm
 exact fin_ret (.agg ⟨(takeL 22 (dropL 0 (setL (takeL 22 (dropL 0 (setL ([(zI (wrapF .i64 (Int.add x1 (1:Int))))]:LV) (0 + k1 * 1) (setL ([(zI (0:Int))]:LV) 0 (setL (takeL (21 * 1) (dropL 1 q1)) 0 zA54))))) 0 zA54)))⟩) (aresults_of (aresultsL_cons (show aresult _ _ _ _ = some (.agg ⟨(takeL 22 (dropL 0 (setL (takeL 22 (dropL 0 (setL ([(zI (wrapF .i64 (Int.add x1 (1:Int))))]:LV) (0 + k1 * 1) (setL ([(zI (0:Int))]:LV) 0 (setL (takeL (21 * 1) (dropL 1 q1)) 0 zA54))))) 0 zA54)))⟩) from (eq_bb (c:=(Nat.ble (0 + 22) (len (setL (takeL 22 (dropL 0 (setL ([(zI (wrapF .i64 (Int.add x1 (1:Int))))]:LV) (0 + k1 * 1) (setL ([(zI (0:Int))]:LV) 0 (setL (takeL (21 * 1) (dropL 1 q1)) 0 zA54))))) 0 zA54)))) (by kernel_rfl) h23)) rfl) (by kernel_rfl)) h24 hm
def m65_0 (pu:PureF) (n:Nat) (z0:Int):OV:=
 (some (.int .i64 z0))
def b65_1 (pu:PureF) (n:Nat) (ih0:Int→Nat→Nat→Int→Int→LV→OV) (z0:Int) (n0 c0:Nat) (z1 z2:Int) (q1:LV):OV:=
 (bb (allL closed1 q1) (bb (ilt z2 z1) (oo (toN z2) none fun k1=>(bb (an (Nat.blt k1 n0) true) (oo (nthL q1 (1 + k1 * 1)) none fun v0=>(oo (toI .i64 v0) none fun x0=>(ih0 (wrapF .i64 (Int.add z0 x0)) n0 c0 z1 (wrapF .i64 (Int.add (Int.ofNat k1) (1:Int))) q1))) none)) (m65_0 pu n z0)) none)
def l65_1 (pu:PureF) (n w:Nat):Int→Nat→Nat→Int→Int→LV→OV:=
 Nat.rec (motive:=fun _=>Int→Nat→Nat→Int→Int→LV→OV) (fun _ _ _ _ _ _=>none) (fun _ ih0=>b65_1 pu n ih0) w
def m65_ (pu:PureF) (n:Nat) (q1:LV):OV:=
 (bb (allL closed1 q1) (bb (Nat.ble (0 + 22 * 1) (len q1)) (l65_1 pu n n (0:Int) 21 43 (21:Int) (0:Int) q1) none) none)
def m65 (pu:PureF) (n:Nat) (args:LV):OV:=
 (ll args none fun a0 args=>(ll args (oo (vAgg a0) none fun q1=>(bb (an (Nat.beq (len q1) 22) (allL closed1 q1)) (m65_ pu n q1) none)) fun _ _=>none))
theorem w65_0 (pu:PureF) (n:Nat) (z0:Int) {v:Value} (hm:m65_0 pu n z0 = some v):Run tt (callP tabs isP pu (inl pu)) 0 c65_17 (fr 17 [(3,zI z0)]) (hp 0 []) (Fin tt 0 [.tmp 2] v):=by
 unfold m65_0 at hm
 refine .then (.rK ?_)
 refine .ghs (fr 17 [(2,zI z0)]) (hp 0 []) (.k0 [] [] [2]) ?_
 refine .ret ?_
 exact fin_ret (zI z0) (by kernel_rfl) (by kernel_rfl) hm
theorem r65 {call:CallF} (pu:PureF) (n:Nat) (hcall:call = callP tabs isP pu (inl pu)) {args:LV} {v:Value} (hm:m65 pu n args = some v) (_:∀ x ∈ args,closed2 x = true):args.length≤17∧Run tt call 0 c65_20 (Fr.made 17 args) (pureHeap tabs) (Fin tt 0 [.tmp 2] v):=by
 subst hcall
 unfold m65 at hm
 replace hm:=ll_uncons hm;obtain ⟨a0,args_0,rfl,hm⟩:=hm
 replace hm:=ll_end hm;obtain ⟨rfl,hm⟩:=hm
 replace hm:=inv_vAgg hm;obtain ⟨q1,rfl,hm⟩:=hm
 replace hm:=bb_inv hm;obtain ⟨h0,hm⟩:=hm
 unfold m65_ at hm
 refine ⟨by simp,?_⟩
 refine .same (F':=(fr 17 [(0,(.agg ⟨q1⟩))])) (H':=(hp 0 [])) (by kernel_rfl) (by kernel_rfl) ?_
 refine .then (.rK ?_)
 replace hm:=bb_inv hm;obtain ⟨h1,hm⟩:=hm
 refine .ghs (fr 17 [(1,(pt 0 0))]) (hp 1 [oC q1]) (.k [0] [] [.tmp 1 false] [1] ⟨trF h1,trivial⟩) ?_
 refine .then (.rK ?_)
 refine .ghs (fr 17 [(1,(pt 0 0)),(3,(zI (0:Int)))]) (hp 1 [oC q1]) (.k [0] [] [.tmp 1 false] [1,3] ⟨trF h1,trivial⟩) ?_
 refine .join (v:=v) (fun y:Int=>((fr 17 [(3,zI y)]),(hp 0 []))) (fun y=>m65_0 pu n y) ?_ ?_
 ·rintro z0 hm
  exact w65_0 pu n z0 hm
 ·refine .then ?_
  replace hm:=bb_inv hm;obtain ⟨h2,hm⟩:=hm
  refine .reg (eD (keep (hp 1 [oC q1]) (bb (Nat.ble (0 + 22 * 1) (len q1)) (some (sc 0 1 1 21 43)) none)) (keep_bb h2) (eE)) ?_
  refine .ghs (fr 17 [(3,(zI (0:Int))),(6,sc 0 1 1 21 43),(7,(zI (21:Int))),(8,(zI (0:Int)))]) (hp 1 [oC q1]) (.k [0] [] [.tmp 6 false] [3,6,7,8] ⟨trF h1,trivial⟩) ?_
  refine .block ?_
  refine .loopM (v:=v) (fun y:Int×Nat×Nat×Int×Int×LV=>((fr 17 [(3,(zI y.1)),(6,(sc 0 1 1 y.2.1 y.2.2.1)),(7,(zI y.2.2.2.1)),(8,(zI y.2.2.2.2.1))]),(hp 1 [(oC y.2.2.2.2.2)]))) (fun w y=>l65_1 pu n w y.1 y.2.1 y.2.2.1 y.2.2.2.1 y.2.2.2.2.1 y.2.2.2.2.2) n ⟨((0:Int),21,43,(21:Int),(0:Int),q1),hm,(.k [0] [] [.tmp 6 false] [3,6,7,8] ⟨trF h1,trivial⟩)⟩ (fun _=>rfl) ?_
  rintro w0 ⟨z1,n0,c0,z2,z3,q2⟩ hm
  replace hm:b65_1 pu n (l65_1 pu n w0) z1 n0 c0 z2 z3 q2 = some v:=hm
  unfold b65_1 at hm
  refine .then (.rK ?_)
  replace hm:=bb_inv hm;obtain ⟨h3,hm⟩:=hm
  refine .ghs (fr 17 [(3,zI z1),(6,sc 0 1 1 n0 c0),(7,zI z2),(8,zI z3),(9,(zB (ilt z3 z2)))]) (hp 1 [oC q2]) (.k [0] [] [.tmp 6 false] [3,6,7,8,9] ⟨trF h3,trivial⟩) ?_
  refine .then ?_
  replace hm:=bb_cases hm;rcases hm with ⟨h4,hm⟩ | ⟨h4,hm⟩
  ·refine .ifT (ilt z3 z2) (by kernel_rfl) h4 ?_
   refine .skip ?_
   refine .ghs (fr 17 [(3,zI z1),(6,sc 0 1 1 n0 c0),(7,zI z2),(8,zI z3)]) (hp 1 [oC q2]) (.k [0] [] [.tmp 6 false] [3,6,7,8] ⟨trF h3,trivial⟩) ?_
   refine .then ?_
   refine .block ?_
   refine .then ?_
   replace hm:=oo_inv hm;obtain ⟨k1,h5,hm⟩:=hm
   obtain rfl:=toN_some h5
   replace hm:=bb_inv hm;obtain ⟨h6,hm⟩:=hm
   replace hm:=oo_inv hm;obtain ⟨v0,h7,hm⟩:=hm
   replace hm:=inv_toI hm;obtain ⟨x0,rfl,hm⟩:=hm
   refine .reg (eD (keep (hp 1 [oC q2]) (bb (an (Nat.blt k1 n0) true) (some (.pointer (some ⟨0,(1 + k1 * 1),none⟩))) none)) (keep_bb h6) (eD (keep (hp 1 [oC q2]) (nthL q2 (1 + k1 * 1))) (keep_eq h7) (eE))) ?_
   refine .ghs (fr 17 [(3,zI z1),(5,zI x0),(6,sc 0 1 1 n0 c0),(7,zI z2),(8,(zI (Int.ofNat k1)))]) (hp 1 [oC q2]) (.k [0] [] [.tmp 6 false] [3,5,6,7,8] ⟨trF h3,trivial⟩) ?_
   refine .rK ?_
   refine .ghs (fr 17 [(3,(zI (wrapF .i64 (Int.add z1 x0)))),(6,sc 0 1 1 n0 c0),(7,zI z2),(8,(zI (Int.ofNat k1)))]) (hp 1 [oC q2]) (.k [0] [] [.tmp 6 false] [3,6,7,8] ⟨trF h3,trivial⟩) ?_
   refine .rK ?_
   exact ⟨((wrapF .i64 (Int.add z1 x0)),n0,c0,z2,(wrapF .i64 (Int.add (Int.ofNat k1) (1:Int))),q2),hm,(.k [0] [] [.tmp 6 false] [3,6,7,8] ⟨trF h3,trivial⟩)⟩
  ·refine .ifF (ilt z3 z2) (by kernel_rfl) h4 ?_
   refine .exit ?_
   exact ⟨z1,hm,(.k0 [] [] [3])⟩
end
end Go.HzSM
set_option maxRecDepth 100000
set_option maxHeartbeats 20000000
set_option linter.unusedVariables false
namespace Go.HzSM
open Go.Sp Go.HzS
noncomputable section
def m12_0 (pu:PureF) (n:Nat) (s0 s1:Sl):OV:=
 (bb (ilt (Int.ofNat (Sl.n s0)) (Int.ofNat (Sl.n s1))) (some (.int .i64 (-1:Int))) (some (.int .i64 (0:Int))))
def b12_1 (pu:PureF) (n:Nat) (ih0:Sl→Sl→Sl→Int→Int→OV) (s0 s1 s2:Sl) (z0 z1:Int):OV:=
 (bb (ilt z1 z0) (oo (toN z1) none fun k1=>(bb (an (Nat.blt k1 (Sl.n s2)) true) (oo (nthL (Sl.cs s2) (k1 * 1)) none fun v0=>(oo (toI .i64 v0) none fun x0=>(bb (nt (ilt (Int.ofNat k1) (Int.ofNat (Sl.n s1)))) (some (.int .i64 (1:Int))) (bb (an (Nat.blt k1 (Sl.n s1)) true) (oo (nthL (Sl.cs s1) (k1 * 1)) none fun v1=>(oo (toI .i64 v1) none fun x1=>(oo (pu 41 [.int .i64 x0,.int .i64 x1]) none fun v2=>(oo (toI .i64 v2) none fun x2=>(bb (nt (ieq x2 (0:Int))) (some (.int .i64 x2)) (ih0 s0 s1 s2 z0 (wrapF .i64 (Int.add (Int.ofNat k1) (1:Int))))))))) none)))) none)) (m12_0 pu n s0 s1))
def l12_1 (pu:PureF) (n w:Nat):Sl→Sl→Sl→Int→Int→OV:=
 Nat.rec (motive:=fun _=>Sl→Sl→Sl→Int→Int→OV) (fun _ _ _ _ _=>none) (fun _ ih0=>b12_1 pu n ih0) w
def m12_ (pu:PureF) (n:Nat) (s0 s1:Sl):OV:=
 (l12_1 pu n n s0 s1 s0 (Int.ofNat (Sl.n s0)) (0:Int))
def m12 (pu:PureF) (n:Nat) (args:LV):OV:=
 (ll args none fun a0 args=>(ll args none fun a1 args=>(ll args (oo (toSl 1 a0) none fun s0=>(oo (toSl 1 a1) none fun s1=>(m12_ pu n s0 s1))) fun _ _=>none)))
theorem w12_0 (pu:PureF) (n:Nat) (s0 s1:Sl) {v:Value} (hm:m12_0 pu n s0 s1 = some v):Run tt (callP tabs isP pu (inl pu)) 0 c12_36 (fr 36 [(0,Sl.v 1 s0),(1,Sl.v 1 s1)]) (hp 0 []) (Fin tt 0 [.tmp 4] v):=by
 unfold m12_0 at hm
 refine .then ?_
 refine .then (.rK ?_)
 refine .ghs (fr 36 [(35,(zB (ilt (Int.ofNat (Sl.n s0)) (Int.ofNat (Sl.n s1)))))]) (hp 0 []) (.k0 [] [] [35]) ?_
 replace hm:=bb_cases hm;rcases hm with ⟨h0,hm⟩ | ⟨h0,hm⟩
 ·refine .ifT (ilt (Int.ofNat (Sl.n s0)) (Int.ofNat (Sl.n s1))) (by kernel_rfl) h0 ?_
  refine .then (.rK ?_)
  refine .ghs (fr 36 [(4,(zI (-1:Int)))]) (hp 0 []) (.k0 [] [] [4]) ?_
  refine .ret ?_
  exact fin_ret (zI (-1:Int)) (by kernel_rfl) (by kernel_rfl) hm
 ·refine .ifF (ilt (Int.ofNat (Sl.n s0)) (Int.ofNat (Sl.n s1))) (by kernel_rfl) h0 ?_
  refine .skip ?_
  refine .ghs (fr 36 []) (hp 0 []) (.k0 [] [] []) ?_
  refine .then (.rK ?_)
  refine .ghs (fr 36 [(4,(zI (0:Int)))]) (hp 0 []) (.k0 [] [] [4]) ?_
  refine .ret ?_
  exact fin_ret (zI (0:Int)) (by kernel_rfl) (by kernel_rfl) hm
theorem r12 {call:CallF} (pu:PureF) (n:Nat) (hcall:call = callP tabs isP pu (inl pu)) {args:LV} {v:Value} (hm:m12 pu n args = some v) (_:∀ x ∈ args,closed2 x = true):args.length≤36∧Run tt call 0 c12_38 (Fr.made 36 args) (pureHeap tabs) (Fin tt 0 [.tmp 4] v):=by
 subst hcall
 unfold m12 at hm
 replace hm:=ll_uncons hm;obtain ⟨a0,args_0,rfl,hm⟩:=hm
 replace hm:=ll_uncons hm;obtain ⟨a1,args_1,rfl,hm⟩:=hm
 replace hm:=ll_end hm;obtain ⟨rfl,hm⟩:=hm
 replace hm:=inv_toSl hm;obtain ⟨s0,rfl,hm⟩:=hm
 replace hm:=inv_toSl hm;obtain ⟨s1,rfl,hm⟩:=hm
 unfold m12_ at hm
 refine ⟨by simp,?_⟩
 refine .same (F':=(fr 36 [(0,Sl.v 1 s0),(1,Sl.v 1 s1)])) (H':=(hp 0 [])) (by kernel_rfl) (by kernel_rfl) ?_
 refine .then (.rK ?_)
 refine .ghs (fr 36 [(0,Sl.v 1 s0),(1,Sl.v 1 s1)]) (hp 0 []) (.k0 [] [] [0,1]) ?_
 refine .join (v:=v) (fun y:Sl×Sl=>((fr 36 [(0,(Sl.v 1 y.1)),(1,(Sl.v 1 y.2))]),(hp 0 []))) (fun y=>m12_0 pu n y.1 y.2) ?_ ?_
 ·rintro ⟨s2, s3⟩ hm
  exact w12_0 pu n s2 s3 hm
 ·refine .then (.rK ?_)
  refine .ghs (fr 36 [(0,Sl.v 1 s0),(1,Sl.v 1 s1),(9,Sl.v 1 s0),(10,(zI (Int.ofNat (Sl.n s0)))),(11,(zI (0:Int)))]) (hp 0 []) (.k0 [] [] [0,1,9,10,11]) ?_
  refine .block ?_
  refine .loopM (v:=v) (fun y:Sl×Sl×Sl×Int×Int=>((fr 36 [(0,(Sl.v 1 y.1)),(1,(Sl.v 1 y.2.1)),(9,(Sl.v 1 y.2.2.1)),(10,(zI y.2.2.2.1)),(11,(zI y.2.2.2.2))]),(hp 0 []))) (fun w y=>l12_1 pu n w y.1 y.2.1 y.2.2.1 y.2.2.2.1 y.2.2.2.2) n ⟨(s0,s1,s0,(Int.ofNat (Sl.n s0)),(0:Int)),hm,(.k0 [] [] [0,1,9,10,11])⟩ (fun _=>rfl) ?_
  rintro w0 ⟨s4,s5,s6,z0,z1⟩ hm
  replace hm:b12_1 pu n (l12_1 pu n w0) s4 s5 s6 z0 z1 = some v:=hm
  unfold b12_1 at hm
  refine .then (.rK ?_)
  refine .ghs (fr 36 [(0,Sl.v 1 s4),(1,Sl.v 1 s5),(9,Sl.v 1 s6),(10,zI z0),(11,zI z1),(12,(zB (ilt z1 z0)))]) (hp 0 []) (.k0 [] [] [0,1,9,10,11,12]) ?_
  refine .then ?_
  replace hm:=bb_cases hm;rcases hm with ⟨h0,hm⟩ | ⟨h0,hm⟩
  ·refine .ifT (ilt z1 z0) (by kernel_rfl) h0 ?_
   refine .skip ?_
   refine .ghs (fr 36 [(0,Sl.v 1 s4),(1,Sl.v 1 s5),(9,Sl.v 1 s6),(10,zI z0),(11,zI z1)]) (hp 0 []) (.k0 [] [] [0,1,9,10,11]) ?_
   refine .then ?_
   refine .block ?_
   refine .then ?_
   replace hm:=oo_inv hm;obtain ⟨k1,h1,hm⟩:=hm
   obtain rfl:=toN_some h1
   replace hm:=bb_inv hm;obtain ⟨h2,hm⟩:=hm
   replace hm:=oo_inv hm;obtain ⟨v0,h3,hm⟩:=hm
   replace hm:=inv_toI hm;obtain ⟨x0,rfl,hm⟩:=hm
   refine .reg (eC 1 (keep (hp 0 []) (bb (an (Nat.blt k1 (Sl.n s6)) true) (some (fpV (k1 * 1) (Sl.cs s6))) none)) (keep_bb h2) (eD (keep (hp 0 []) (nthL (Sl.cs s6) (k1 * 1))) (keep_eq h3) (eE))) ?_
   refine .ghs (fr 36 [(0,Sl.v 1 s4),(1,Sl.v 1 s5),(5,(zI (Int.ofNat k1))),(6,zI x0),(9,Sl.v 1 s6),(10,zI z0),(11,(zI (Int.ofNat k1)))]) (hp 0 []) (.k0 [] [] [0,1,5,6,9,10,11]) ?_
   refine .then ?_
   refine .then (.rK ?_)
   refine .ghs (fr 36 [(0,Sl.v 1 s4),(1,Sl.v 1 s5),(5,(zI (Int.ofNat k1))),(6,zI x0),(9,Sl.v 1 s6),(10,zI z0),(11,(zI (Int.ofNat k1))),(19,(zB (nt (ilt (Int.ofNat k1) (Int.ofNat (Sl.n s5))))))]) (hp 0 []) (.k0 [] [] [0,1,5,6,9,10,11,19]) ?_
   replace hm:=bb_cases hm;rcases hm with ⟨h4,hm⟩ | ⟨h4,hm⟩
   ·refine .ifT (nt (ilt (Int.ofNat k1) (Int.ofNat (Sl.n s5)))) (by kernel_rfl) h4 ?_
    refine .then (.rK ?_)
    refine .ghs (fr 36 [(4,(zI (1:Int)))]) (hp 0 []) (.k0 [] [] [4]) ?_
    refine .ret ?_
    exact fin_ret (zI (1:Int)) (by kernel_rfl) (by kernel_rfl) hm
   ·refine .ifF (nt (ilt (Int.ofNat k1) (Int.ofNat (Sl.n s5)))) (by kernel_rfl) h4 ?_
    refine .skip ?_
    refine .ghs (fr 36 [(0,Sl.v 1 s4),(1,Sl.v 1 s5),(5,(zI (Int.ofNat k1))),(6,zI x0),(9,Sl.v 1 s6),(10,zI z0),(11,(zI (Int.ofNat k1)))]) (hp 0 []) (.k0 [] [] [0,1,5,6,9,10,11]) ?_
    refine .then ?_
    replace hm:=bb_inv hm;obtain ⟨h5,hm⟩:=hm
    replace hm:=oo_inv hm;obtain ⟨v1,h6,hm⟩:=hm
    replace hm:=inv_toI hm;obtain ⟨x1,rfl,hm⟩:=hm
    refine .reg (eC 2 (keep (hp 0 []) (bb (an (Nat.blt k1 (Sl.n s5)) true) (some (fpV (k1 * 1) (Sl.cs s5))) none)) (keep_bb h5) (eD (keep (hp 0 []) (nthL (Sl.cs s5) (k1 * 1))) (keep_eq h6) (eE))) ?_
    refine .ghs (fr 36 [(0,Sl.v 1 s4),(1,Sl.v 1 s5),(6,zI x0),(7,zI x1),(9,Sl.v 1 s6),(10,zI z0),(11,(zI (Int.ofNat k1)))]) (hp 0 []) (.k0 [] [] [0,1,6,7,9,10,11]) ?_
    refine .then ?_
    replace hm:=oo_inv hm;obtain ⟨v2,h7,hm⟩:=hm
    replace hm:=inv_toI hm;obtain ⟨x2,rfl,hm⟩:=hm
    refine .reg (eC 2 ((oo (pu 41 [zI x0,zI x1]) none fun v=>some (v,(hp 0 [])))) (call_eq h7) (eE)) ?_
    refine .ghs (fr 36 [(0,Sl.v 1 s4),(1,Sl.v 1 s5),(8,zI x2),(9,Sl.v 1 s6),(10,zI z0),(11,(zI (Int.ofNat k1)))]) (hp 0 []) (.k0 [] [] [0,1,8,9,10,11]) ?_
    refine .then (.rK ?_)
    refine .ghs (fr 36 [(0,Sl.v 1 s4),(1,Sl.v 1 s5),(8,zI x2),(9,Sl.v 1 s6),(10,zI z0),(11,(zI (Int.ofNat k1))),(28,(zB (nt (ieq x2 (0:Int)))))]) (hp 0 []) (.k0 [] [] [0,1,8,9,10,11,28]) ?_
    replace hm:=bb_cases hm;rcases hm with ⟨h8,hm⟩ | ⟨h8,hm⟩
    ·refine .ifT (nt (ieq x2 (0 : Int))) (by kernel_rfl) h8 ?_
     refine .then (.rK ?_)
     refine .ghs (fr 36 [(4,zI x2)]) (hp 0 []) (.k0 [] [] [4]) ?_
     refine .ret ?_
     exact fin_ret (zI x2) (by kernel_rfl) (by kernel_rfl) hm
    ·refine .ifF (nt (ieq x2 (0 : Int))) (by kernel_rfl) h8 ?_
     refine .skip ?_
     refine .ghs (fr 36 [(0,Sl.v 1 s4),(1,Sl.v 1 s5),(9,Sl.v 1 s6),(10,zI z0),(11,(zI (Int.ofNat k1)))]) (hp 0 []) (.k0 [] [] [0,1,9,10,11]) ?_
     refine .rK ?_
     exact ⟨(s4,s5,s6,z0,(wrapF .i64 (Int.add (Int.ofNat k1) (1:Int)))),hm,(.k0 [] [] [0,1,9,10,11])⟩
  ·refine .ifF (ilt z1 z0) (by kernel_rfl) h0 ?_
   refine .exit ?_
   exact ⟨(s4,s5),hm,(.k0 [] [] [0,1])⟩

def m41_ (pu:PureF) (n:Nat) (x0 x1:Int):OV:=
 (oo (pu 63 [.int .i64 x0]) none fun v0=>(oo (vBool v0) none fun b0=>(oo (pu 63 [.int .i64 x1]) none fun v1=>(oo (vBool v1) none fun b1=>(bb b0 (bb b1 (some (.int .i64 (0:Int))) (some (.int .i64 (-1:Int)))) (bb b1 (some (.int .i64 (1:Int))) (bb (ilt x0 x1) (some (.int .i64 (-1:Int))) (bb (ilt x1 x0) (some (.int .i64 (1:Int))) (some (.int .i64 (0:Int)))))))))))
def m41 (pu:PureF) (n:Nat) (args:LV):OV:=
 (ll args none fun a0 args=>(ll args none fun a1 args=>(ll args (oo (toI .i64 a0) none fun x0=>(oo (toI .i64 a1) none fun x1=>(m41_ pu n x0 x1))) fun _ _=>none)))
theorem r41 {call:CallF} (pu:PureF) (n:Nat) (hcall:call = callP tabs isP pu (inl pu)) {args:LV} {v:Value} (hm:m41 pu n args = some v) (_:∀ x ∈ args,closed2 x = true):args.length≤20∧Run tt call 0 c41_37 (Fr.made 20 args) (pureHeap tabs) (Fin tt 0 [.tmp 4] v):=by
 subst hcall
 unfold m41 at hm
 replace hm:=ll_uncons hm;obtain ⟨a0,args_0,rfl,hm⟩:=hm
 replace hm:=ll_uncons hm;obtain ⟨a1,args_1,rfl,hm⟩:=hm
 replace hm:=ll_end hm;obtain ⟨rfl,hm⟩:=hm
 replace hm:=inv_toI hm;obtain ⟨x0,rfl,hm⟩:=hm
 replace hm:=inv_toI hm;obtain ⟨x1,rfl,hm⟩:=hm
 unfold m41_ at hm
 refine ⟨by simp,?_⟩
 refine .same (F':=(fr 20 [(0,zI x0),(1,zI x1)])) (H':=(hp 0 [])) (by kernel_rfl) (by kernel_rfl) ?_
 refine .then (.rK ?_)
 refine .ghs (fr 20 [(0,zI x0),(1,zI x1)]) (hp 0 []) (.k0 [] [] [0,1]) ?_
 refine .then ?_
 replace hm:=oo_inv hm;obtain ⟨v0,h0,hm⟩:=hm
 replace hm:=inv_vBool hm;obtain ⟨b0,rfl,hm⟩:=hm
 refine .reg (eC 1 ((oo (pu 63 [zI x0]) none fun v=>some (v,(hp 0 [])))) (call_eq h0) (eE)) ?_
 refine .ghs (fr 20 [(0,zI x0),(1,zI x1),(5,zB b0)]) (hp 0 []) (.k0 [] [] [0,1,5]) ?_
 refine .then ?_
 replace hm:=oo_inv hm;obtain ⟨v1,h1,hm⟩:=hm
 replace hm:=inv_vBool hm;obtain ⟨b1,rfl,hm⟩:=hm
 refine .reg (eC 1 ((oo (pu 63 [zI x1]) none fun v=>some (v,(hp 0 [])))) (call_eq h1) (eE)) ?_
 refine .ghs (fr 20 [(0,zI x0),(1,zI x1),(5,zB b0),(6,zB b1)]) (hp 0 []) (.k0 [] [] [0,1,5,6]) ?_
 refine .then ?_
 refine .then (.rK ?_)
 refine .ghs (fr 20 [(0,zI x0),(1,zI x1),(6,zB b1),(11,zB b0)]) (hp 0 []) (.k0 [] [] [0,1,6,11]) ?_
 replace hm:=bb_cases hm;rcases hm with ⟨h2,hm⟩ | ⟨h2,hm⟩
 ·refine .ifT b0 (by kernel_rfl) h2 ?_
  refine .then ?_
  refine .then (.rK ?_)
  refine .ghs (fr 20 [(12,zB b1)]) (hp 0 []) (.k0 [] [] [12]) ?_
  replace hm:=bb_cases hm;rcases hm with ⟨h3,hm⟩ | ⟨h3,hm⟩
  ·refine .ifT b1 (by kernel_rfl) h3 ?_
   refine .then (.rK ?_)
   refine .ghs (fr 20 [(4,(zI (0:Int)))]) (hp 0 []) (.k0 [] [] [4]) ?_
   refine .ret ?_
   exact fin_ret (zI (0:Int)) (by kernel_rfl) (by kernel_rfl) hm
  ·refine .ifF b1 (by kernel_rfl) h3 ?_
   refine .skip ?_
   refine .ghs (fr 20 []) (hp 0 []) (.k0 [] [] []) ?_
   refine .then (.rK ?_)
   refine .ghs (fr 20 [(4,(zI (-1:Int)))]) (hp 0 []) (.k0 [] [] [4]) ?_
   refine .ret ?_
   exact fin_ret (zI (-1:Int)) (by kernel_rfl) (by kernel_rfl) hm
 ·refine .ifF b0 (by kernel_rfl) h2 ?_
  refine .skip ?_
  refine .ghs (fr 20 [(0,zI x0),(1,zI x1),(6,zB b1)]) (hp 0 []) (.k0 [] [] [0,1,6]) ?_
  refine .then ?_
  refine .then (.rK ?_)
  refine .ghs (fr 20 [(0,zI x0),(1,zI x1),(13,zB b1)]) (hp 0 []) (.k0 [] [] [0,1,13]) ?_
  replace hm:=bb_cases hm;rcases hm with ⟨h4,hm⟩ | ⟨h4,hm⟩
  ·refine .ifT b1 (by kernel_rfl) h4 ?_
   refine .then (.rK ?_)
   refine .ghs (fr 20 [(4,(zI (1:Int)))]) (hp 0 []) (.k0 [] [] [4]) ?_
   refine .ret ?_
   exact fin_ret (zI (1:Int)) (by kernel_rfl) (by kernel_rfl) hm
  ·refine .ifF b1 (by kernel_rfl) h4 ?_
   refine .skip ?_
   refine .ghs (fr 20 [(0,zI x0),(1,zI x1)]) (hp 0 []) (.k0 [] [] [0,1]) ?_
   refine .then ?_
   refine .then (.rK ?_)
   refine .ghs (fr 20 [(0,zI x0),(1,zI x1),(16,(zB (ilt x0 x1)))]) (hp 0 []) (.k0 [] [] [0,1,16]) ?_
   replace hm:=bb_cases hm;rcases hm with ⟨h5,hm⟩ | ⟨h5,hm⟩
   ·refine .ifT (ilt x0 x1) (by kernel_rfl) h5 ?_
    refine .then (.rK ?_)
    refine .ghs (fr 20 [(4,(zI (-1:Int)))]) (hp 0 []) (.k0 [] [] [4]) ?_
    refine .ret ?_
    exact fin_ret (zI (-1:Int)) (by kernel_rfl) (by kernel_rfl) hm
   ·refine .ifF (ilt x0 x1) (by kernel_rfl) h5 ?_
    refine .skip ?_
    refine .ghs (fr 20 [(0,zI x0),(1,zI x1)]) (hp 0 []) (.k0 [] [] [0,1]) ?_
    refine .then ?_
    refine .then (.rK ?_)
    refine .ghs (fr 20 [(19,(zB (ilt x1 x0)))]) (hp 0 []) (.k0 [] [] [19]) ?_
    replace hm:=bb_cases hm;rcases hm with ⟨h6,hm⟩ | ⟨h6,hm⟩
    ·refine .ifT (ilt x1 x0) (by kernel_rfl) h6 ?_
     refine .then (.rK ?_)
     refine .ghs (fr 20 [(4,(zI (1:Int)))]) (hp 0 []) (.k0 [] [] [4]) ?_
     refine .ret ?_
     exact fin_ret (zI (1:Int)) (by kernel_rfl) (by kernel_rfl) hm
    ·refine .ifF (ilt x1 x0) (by kernel_rfl) h6 ?_
     refine .skip ?_
     refine .ghs (fr 20 []) (hp 0 []) (.k0 [] [] []) ?_
     refine .then (.rK ?_)
     refine .ghs (fr 20 [(4,(zI (0:Int)))]) (hp 0 []) (.k0 [] [] [4]) ?_
     refine .ret ?_
     exact fin_ret (zI (0:Int)) (by kernel_rfl) (by kernel_rfl) hm

def m63_ (pu:PureF) (n:Nat) (x0:Int):OV:=
 (some (.bool (nt (ieq x0 x0))))
def m63 (pu:PureF) (n:Nat) (args:LV):OV:=
 (ll args none fun a0 args=>(ll args (oo (toI .i64 a0) none fun x0=>(m63_ pu n x0)) fun _ _=>none))
theorem r63 {call:CallF} (pu:PureF) (n:Nat) (hcall:call = callP tabs isP pu (inl pu)) {args:LV} {v:Value} (hm:m63 pu n args = some v) (_:∀ x ∈ args,closed2 x = true):args.length≤6∧Run tt call 0 c63_3 (Fr.made 6 args) (pureHeap tabs) (Fin tt 0 [.tmp 2] v):=by
 subst hcall
 unfold m63 at hm
 replace hm:=ll_uncons hm;obtain ⟨a0,args_0,rfl,hm⟩:=hm
 replace hm:=ll_end hm;obtain ⟨rfl,hm⟩:=hm
 replace hm:=inv_toI hm;obtain ⟨x0,rfl,hm⟩:=hm
 unfold m63_ at hm
 refine ⟨by simp,?_⟩
 refine .same (F':=(fr 6 [(0,zI x0)])) (H':=(hp 0 [])) (by kernel_rfl) (by kernel_rfl) ?_
 refine .then (.rK ?_)
 refine .ghs (fr 6 [(0,zI x0)]) (hp 0 []) (.k0 [] [] [0]) ?_
 refine .then (.rK ?_)
 refine .ghs (fr 6 [(2,(zB (nt (ieq x0 x0))))]) (hp 0 []) (.k0 [] [] [2]) ?_
 refine .ret ?_
 exact fin_ret (zB (nt (ieq x0 x0))) (by kernel_rfl) (by kernel_rfl) hm
def m27_0 (pu:PureF) (n:Nat) (z0:Int):OV:=
 (bb (ilt (21:Int) z0) (some (.int .i64 (3:Int))) (some (.int .i64 (0:Int))))
def b27_1 (pu:PureF) (n:Nat) (ih0:Int→Int→Sl→Int→Int→OV) (z0 z1:Int) (s0:Sl) (z2 z3:Int):OV:=
 (bb (ilt z3 z2) (oo (toN z3) none fun k1=>(bb (an (Nat.blt k1 (Sl.n s0)) true) (oo (nthL (Sl.cs s0) (k1 * 1)) none fun v0=>(oo (toI .i64 v0) none fun x0=>(oo (pu 30 [(.int .i64 (1:Int)),.int .i64 x0,(.int .i64 (21:Int))]) none fun v1=>(oo (vBool v1) none fun b0=>(bb (nt b0) (some (.int .i64 (1:Int))) (bb (ilt z1 x0) (some (.int .i64 (7:Int))) (ih0 (bb (ilt (22:Int) (wrapF .i64 (Int.add z0 x0))) (22:Int) (wrapF .i64 (Int.add z0 x0))) x0 s0 z2 (wrapF .i64 (Int.add (Int.ofNat k1) (1:Int)))))))))) none)) (m27_0 pu n z0))
def l27_1 (pu:PureF) (n w:Nat):Int→Int→Sl→Int→Int→OV:=
 Nat.rec (motive:=fun _=>Int→Int→Sl→Int→Int→OV) (fun _ _ _ _ _=>none) (fun _ ih0=>b27_1 pu n ih0) w
def m27_ (pu:PureF) (n:Nat) (s0:Sl):OV:=
 (bb (ieq (Int.ofNat (Sl.n s0)) (0:Int)) (some (.int .i64 (4:Int))) (l27_1 pu n n (0:Int) (21:Int) s0 (Int.ofNat (Sl.n s0)) (0:Int)))
def m27 (pu:PureF) (n:Nat) (args:LV):OV:=
 (ll args none fun a0 args=>(ll args (oo (toSl 1 a0) none fun s0=>(m27_ pu n s0)) fun _ _=>none))
theorem w27_0 (pu:PureF) (n:Nat) (z0:Int) {v:Value} (hm:m27_0 pu n z0 = some v):Run tt (callP tabs isP pu (inl pu)) 0 c27_42 (fr 32 [(3,zI z0)]) (hp 0 []) (Fin tt 0 [.tmp 2] v):=by
 unfold m27_0 at hm
 refine .then ?_
 refine .then (.rK ?_)
 refine .ghs (fr 32 [(31,(zB (ilt (21:Int) z0)))]) (hp 0 []) (.k0 [] [] [31]) ?_
 replace hm:=bb_cases hm;rcases hm with ⟨h0,hm⟩ | ⟨h0,hm⟩
 ·refine .ifT (ilt (21 : Int) z0) (by kernel_rfl) h0 ?_
  refine .then (.rK ?_)
  refine .ghs (fr 32 [(2,(zI (3:Int)))]) (hp 0 []) (.k0 [] [] [2]) ?_
  refine .ret ?_
  exact fin_ret (zI (3:Int)) (by kernel_rfl) (by kernel_rfl) hm
 ·refine .ifF (ilt (21 : Int) z0) (by kernel_rfl) h0 ?_
  refine .skip ?_
  refine .ghs (fr 32 []) (hp 0 []) (.k0 [] [] []) ?_
  refine .then (.rK ?_)
  refine .ghs (fr 32 [(2,(zI (0:Int)))]) (hp 0 []) (.k0 [] [] [2]) ?_
  refine .ret ?_
  exact fin_ret (zI (0:Int)) (by kernel_rfl) (by kernel_rfl) hm
theorem r27 {call:CallF} (pu:PureF) (n:Nat) (hcall:call = callP tabs isP pu (inl pu)) {args:LV} {v:Value} (hm:m27 pu n args = some v) (_:∀ x ∈ args,closed2 x = true):args.length≤32∧Run tt call 0 c27_46 (Fr.made 32 args) (pureHeap tabs) (Fin tt 0 [.tmp 2] v):=by
 subst hcall
 unfold m27 at hm
 replace hm:=ll_uncons hm;obtain ⟨a0,args_0,rfl,hm⟩:=hm
 replace hm:=ll_end hm;obtain ⟨rfl,hm⟩:=hm
 replace hm:=inv_toSl hm;obtain ⟨s0,rfl,hm⟩:=hm
 unfold m27_ at hm
 refine ⟨by simp,?_⟩
 refine .same (F':=(fr 32 [(0,Sl.v 1 s0)])) (H':=(hp 0 [])) (by kernel_rfl) (by kernel_rfl) ?_
 refine .then (.rK ?_)
 refine .ghs (fr 32 [(0,Sl.v 1 s0)]) (hp 0 []) (.k0 [] [] [0]) ?_
 refine .then ?_
 refine .then (.rK ?_)
 refine .ghs (fr 32 [(0,Sl.v 1 s0),(9,(zB (ieq (Int.ofNat (Sl.n s0)) (0:Int))))]) (hp 0 []) (.k0 [] [] [0,9]) ?_
 replace hm:=bb_cases hm;rcases hm with ⟨h0,hm⟩ | ⟨h0,hm⟩
 ·refine .ifT (ieq (Int.ofNat (Sl.n s0)) (0 : Int)) (by kernel_rfl) h0 ?_
  refine .then (.rK ?_)
  refine .ghs (fr 32 [(2,(zI (4:Int)))]) (hp 0 []) (.k0 [] [] [2]) ?_
  refine .ret ?_
  exact fin_ret (zI (4:Int)) (by kernel_rfl) (by kernel_rfl) hm
 ·refine .ifF (ieq (Int.ofNat (Sl.n s0)) (0 : Int)) (by kernel_rfl) h0 ?_
  refine .skip ?_
  refine .ghs (fr 32 [(0,Sl.v 1 s0)]) (hp 0 []) (.k0 [] [] [0]) ?_
  refine .then (.rK ?_)
  refine .ghs (fr 32 [(0,Sl.v 1 s0),(3,(zI (0:Int))),(4,(zI (21:Int)))]) (hp 0 []) (.k0 [] [] [0,3,4]) ?_
  refine .join (v:=v) (fun y:Int=>((fr 32 [(3,zI y)]),(hp 0 []))) (fun y=>m27_0 pu n y) ?_ ?_
  ·rintro z0 hm
   exact w27_0 pu n z0 hm
  ·refine .then (.rK ?_)
   refine .ghs (fr 32 [(3,(zI (0:Int))),(4,(zI (21:Int))),(10,Sl.v 1 s0),(11,(zI (Int.ofNat (Sl.n s0)))),(12,(zI (0:Int)))]) (hp 0 []) (.k0 [] [] [3,4,10,11,12]) ?_
   refine .block ?_
   refine .loopM (v:=v) (fun y:Int×Int×Sl×Int×Int=>((fr 32 [(3,(zI y.1)),(4,(zI y.2.1)),(10,(Sl.v 1 y.2.2.1)),(11,(zI y.2.2.2.1)),(12,(zI y.2.2.2.2))]),(hp 0 []))) (fun w y=>l27_1 pu n w y.1 y.2.1 y.2.2.1 y.2.2.2.1 y.2.2.2.2) n ⟨((0:Int),(21:Int),s0,(Int.ofNat (Sl.n s0)),(0:Int)),hm,(.k0 [] [] [3,4,10,11,12])⟩ (fun _=>rfl) ?_
   rintro w0 ⟨z1,z2,s1,z3,z4⟩ hm
   replace hm:b27_1 pu n (l27_1 pu n w0) z1 z2 s1 z3 z4 = some v:=hm
   unfold b27_1 at hm
   refine .then (.rK ?_)
   refine .ghs (fr 32 [(3,zI z1),(4,zI z2),(10,Sl.v 1 s1),(11,zI z3),(12,zI z4),(13,(zB (ilt z4 z3)))]) (hp 0 []) (.k0 [] [] [3,4,10,11,12,13]) ?_
   refine .then ?_
   replace hm:=bb_cases hm;rcases hm with ⟨h1,hm⟩ | ⟨h1,hm⟩
   ·refine .ifT (ilt z4 z3) (by kernel_rfl) h1 ?_
    refine .skip ?_
    refine .ghs (fr 32 [(3,zI z1),(4,zI z2),(10,Sl.v 1 s1),(11,zI z3),(12,zI z4)]) (hp 0 []) (.k0 [] [] [3,4,10,11,12]) ?_
    refine .then ?_
    refine .block ?_
    refine .then ?_
    replace hm:=oo_inv hm;obtain ⟨k1,h2,hm⟩:=hm
    obtain rfl:=toN_some h2
    replace hm:=bb_inv hm;obtain ⟨h3,hm⟩:=hm
    replace hm:=oo_inv hm;obtain ⟨v0,h4,hm⟩:=hm
    replace hm:=inv_toI hm;obtain ⟨x0,rfl,hm⟩:=hm
    refine .reg (eD (keep (hp 0 []) (bb (an (Nat.blt k1 (Sl.n s1)) true) (some (fpV (k1 * 1) (Sl.cs s1))) none)) (keep_bb h3) (eD (keep (hp 0 []) (nthL (Sl.cs s1) (k1 * 1))) (keep_eq h4) (eE))) ?_
    refine .ghs (fr 32 [(3,zI z1),(4,zI z2),(6,zI x0),(10,Sl.v 1 s1),(11,zI z3),(12,(zI (Int.ofNat k1)))]) (hp 0 []) (.k0 [] [] [3,4,6,10,11,12]) ?_
    refine .then ?_
    refine .block ?_
    refine .then ?_
    replace hm:=oo_inv hm;obtain ⟨v1,h5,hm⟩:=hm
    replace hm:=inv_vBool hm;obtain ⟨b0,rfl,hm⟩:=hm
    refine .reg (eC 1 ((oo (pu 30 [(zI (1:Int)),zI x0,(zI (21:Int))]) none fun v=>some (v,(hp 0 [])))) (call_eq h5) (eE)) ?_
    refine .ghs (fr 32 [(3,zI z1),(4,zI z2),(6,zI x0),(10,Sl.v 1 s1),(11,zI z3),(12,(zI (Int.ofNat k1))),(16,(zB (nt b0)))]) (hp 0 []) (.k0 [] [] [3,4,6,10,11,12,16]) ?_
    replace hm:=bb_cases hm;rcases hm with ⟨h6,hm⟩ | ⟨h6,hm⟩
    ·refine .ifT (nt b0) (by kernel_rfl) h6 ?_
     refine .then (.rK ?_)
     refine .ghs (fr 32 [(2,(zI (1:Int)))]) (hp 0 []) (.k0 [] [] [2]) ?_
     refine .ret ?_
     exact fin_ret (zI (1:Int)) (by kernel_rfl) (by kernel_rfl) hm
    ·refine .ifF (nt b0) (by kernel_rfl) h6 ?_
     refine .then (.rK ?_)
     refine .ghs (fr 32 [(3,zI z1),(6,zI x0),(10,Sl.v 1 s1),(11,zI z3),(12,(zI (Int.ofNat k1))),(20,(zB (ilt z2 x0)))]) (hp 0 []) (.k0 [] [] [3,6,10,11,12,20]) ?_
     replace hm:=bb_cases hm;rcases hm with ⟨h7,hm⟩ | ⟨h7,hm⟩
     ·refine .ifT (ilt z2 x0) (by kernel_rfl) h7 ?_
      refine .then (.rK ?_)
      refine .ghs (fr 32 [(2,(zI (7:Int)))]) (hp 0 []) (.k0 [] [] [2]) ?_
      refine .ret ?_
      exact fin_ret (zI (7:Int)) (by kernel_rfl) (by kernel_rfl) hm
     ·refine .ifF (ilt z2 x0) (by kernel_rfl) h7 ?_
      refine .skip ?_
      refine .ghs (fr 32 [(3,zI z1),(6,zI x0),(10,Sl.v 1 s1),(11,zI z3),(12,(zI (Int.ofNat k1)))]) (hp 0 []) (.k0 [] [] [3,6,10,11,12]) ?_
      refine .then (.rK ?_)
      refine .ghs (fr 32 [(3,zI z1),(4,zI x0),(6,zI x0),(10,Sl.v 1 s1),(11,zI z3),(12,(zI (Int.ofNat k1)))]) (hp 0 []) (.k0 [] [] [3,4,6,10,11,12]) ?_
      refine .rK ?_
      refine .ghs (fr 32 [(3,(zI (bb (ilt (22:Int) (wrapF .i64 (Int.add z1 x0))) (22:Int) (wrapF .i64 (Int.add z1 x0))))),(4,zI x0),(10,Sl.v 1 s1),(11,zI z3),(12,(zI (Int.ofNat k1)))]) (hp 0 []) (.k0 [] [] [3,4,10,11,12]) ?_
      refine .rK ?_
      exact ⟨((bb (ilt (22:Int) (wrapF .i64 (Int.add z1 x0))) (22:Int) (wrapF .i64 (Int.add z1 x0))),x0,s1,z3,(wrapF .i64 (Int.add (Int.ofNat k1) (1:Int)))),hm,(.k0 [] [] [3,4,10,11,12])⟩
   ·refine .ifF (ilt z4 z3) (by kernel_rfl) h1 ?_
    refine .exit ?_
    exact ⟨z1,hm,(.k0 [] [] [3])⟩
def b10440_0 (pu:PureF) (n:Nat) (ih0:Nat→Nat→Int→Int→LV→OV) (n0 c0:Nat) (z0 z1:Int) (q1:LV):OV:=
 (bb (allL closed1 q1) (bb (ilt z0 z1) (oo (toN z1) none fun k1=>(bb (an (Nat.blt k1 n0) true) (oo (nthL q1 (0 + k1 * 1)) none fun v0=>(oo (toI .i64 v0) none fun x0=>(oo (toN z0) none fun k2=>(bb (an (Nat.blt k2 n0) true) (oo (nthL q1 (0 + k2 * 1)) none fun v1=>(oo (toI .i64 v1) none fun x1=>(bb (an (Nat.blt k2 n0) true) (bb (an (Nat.ble ((0 + k2 * 1) + 1) (len q1)) true) (bb (an (Nat.blt k1 n0) true) (bb (an (Nat.ble ((0 + k1 * 1) + 1) (len (setL ([.int .i64 x0]:LV) (0 + k2 * 1) q1))) true) (bb (allL closed1 (setL ([.int .i64 x1]:LV) (0 + k1 * 1) (setL ([.int .i64 x0]:LV) (0 + k2 * 1) q1))) (ih0 n0 c0 (wrapF .i64 (Int.add (Int.ofNat k2) (1:Int))) (wrapF .i64 (Int.sub (Int.ofNat k1) (1:Int))) (setL ([.int .i64 x1]:LV) (0 + k1 * 1) (setL ([.int .i64 x0]:LV) (0 + k2 * 1) q1))) none) none) none) none) none))) none)))) none)) (some (.tuple ⟨[(.tuple ⟨[]⟩),(.agg ⟨q1⟩)]⟩))) none)
def l10440_0 (pu:PureF) (n w:Nat):Nat→Nat→Int→Int→LV→OV:=
 Nat.rec (motive:=fun _=>Nat→Nat→Int→Int→LV→OV) (fun _ _ _ _ _=>none) (fun _ ih0=>b10440_0 pu n ih0) w
def m10440_ (pu:PureF) (n n0 c0:Nat) (q1:LV):OV:=
 (bb (allL closed1 q1) (l10440_0 pu n n n0 c0 (0:Int) (wrapF .i64 (Int.sub (Int.ofNat n0) (1:Int))) q1) none)
def m10440 (pu:PureF) (n:Nat) (args:LV):OV:=
 (ll args none fun a0 args=>(ll args none fun o0 args=>(ll args (oo (toSc 0 0 1 a0) none fun y0=>(oo (vAgg o0) none fun q1=>(m10440_ pu n (NC.n y0) (NC.c y0) q1))) fun _ _=>none)))
theorem q10440 (pu:PureF) (n n0 c0:Nat) (q1:LV) {v:Value} (hm:m10440_ pu n n0 c0 q1 = some v):Run tt (callP tabs isP pu (inl pu)) 1 c44_11 (fr 28 [(0,sc 0 0 1 n0 c0)]) (hp 1 [oC q1]) (FinO tt 0 1 [] v):=by
 unfold m10440_ at hm
 refine .then (.rK ?_)
 replace hm:=bb_inv hm;obtain ⟨h0,hm⟩:=hm
 refine .ghs (fr 28 [(0,sc 0 0 1 n0 c0),(2,(zI (0:Int))),(3,(zI (wrapF .i64 (Int.sub (Int.ofNat n0) (1:Int)))))]) (hp 1 [oC q1]) (.k [0] [false] [] [0,2,3] ⟨trF h0,trivial⟩) ?_
 refine .block ?_
 refine .loopM (v:=v) (fun y:Nat×Nat×Int×Int×LV=>((fr 28 [(0,(sc 0 0 1 y.1 y.2.1)),(2,(zI y.2.2.1)),(3,(zI y.2.2.2.1))]),(hp 1 [(oC y.2.2.2.2)]))) (fun w y=>l10440_0 pu n w y.1 y.2.1 y.2.2.1 y.2.2.2.1 y.2.2.2.2) n ⟨(n0,c0,(0:Int),(wrapF .i64 (Int.sub (Int.ofNat n0) (1:Int))),q1),hm,(.k [0] [false] [] [0,2,3] ⟨trF h0,trivial⟩)⟩ (fun _=>rfl) ?_
 rintro w0 ⟨n1,c1,z0,z1,q2⟩ hm
 replace hm:b10440_0 pu n (l10440_0 pu n w0) n1 c1 z0 z1 q2 = some v:=hm
 unfold b10440_0 at hm
 refine .then ?_
 refine .then (.rK ?_)
 replace hm:=bb_inv hm;obtain ⟨h1,hm⟩:=hm
 refine .ghs (fr 28 [(0,sc 0 0 1 n1 c1),(2,zI z0),(3,zI z1),(9,(zB (ilt z0 z1)))]) (hp 1 [oC q2]) (.k [0] [false] [] [0,2,3,9] ⟨trF h1,trivial⟩) ?_
 replace hm:=bb_cases hm;rcases hm with ⟨h2,hm⟩ | ⟨h2,hm⟩
 ·refine .ifT (ilt z0 z1) (by kernel_rfl) h2 ?_
  refine .skip ?_
  refine .ghs (fr 28 [(0,sc 0 0 1 n1 c1),(2,zI z0),(3,zI z1)]) (hp 1 [oC q2]) (.k [0] [false] [] [0,2,3] ⟨trF h1,trivial⟩) ?_
  refine .then ?_
  refine .block ?_
  replace hm:=oo_inv hm;obtain ⟨k1,h3,hm⟩:=hm
  obtain rfl:=toN_some h3
  replace hm:=bb_inv hm;obtain ⟨h4,hm⟩:=hm
  replace hm:=oo_inv hm;obtain ⟨v0,h5,hm⟩:=hm
  replace hm:=inv_toI hm;obtain ⟨x0,rfl,hm⟩:=hm
  replace hm:=oo_inv hm;obtain ⟨k2,h6,hm⟩:=hm
  obtain rfl:=toN_some h6
  replace hm:=bb_inv hm;obtain ⟨h7,hm⟩:=hm
  replace hm:=oo_inv hm;obtain ⟨v1,h8,hm⟩:=hm
  replace hm:=inv_toI hm;obtain ⟨x1,rfl,hm⟩:=hm
  replace hm:=bb_inv hm;obtain ⟨h9,hm⟩:=hm
  replace hm:=bb_inv hm;obtain ⟨h10,hm⟩:=hm
  replace hm:=bb_inv hm;obtain ⟨h11,hm⟩:=hm
  replace hm:=bb_inv hm;obtain ⟨h12,hm⟩:=hm
  refine .reg (eN 11 (Fr.puts (fr 28 [(0,sc 0 0 1 n1 c1),(2,(zI (Int.ofNat k2))),(3,(zI (Int.ofNat k1)))]) [(14,sc 0 0 1 n1 c1),(15,(zI (Int.ofNat k2))),(16,sc 0 0 1 n1 c1),(17,(zI (Int.ofNat k1))),(18,sc 0 0 1 n1 c1),(19,(zI (Int.ofNat k1))),(20,(.pointer (some ⟨0,(0 + k1 * 1),none⟩))),(21,zI x0),(22,sc 0 0 1 n1 c1),(23,(zI (Int.ofNat k2))),(24,(.pointer (some ⟨0,(0 + k2 * 1),none⟩)))]) (hp 1 [oC q2]) (eC 6 (keep (hp 1 [oC q2]) (bb (an (Nat.blt k1 n1) true) (some (.pointer (some ⟨0,(0 + k1 * 1),none⟩))) none)) (keep_bb h4) (eD (keep (hp 1 [oC q2]) (nthL q2 (0 + k1 * 1))) (keep_eq h5) (eC 2 (keep (hp 1 [oC q2]) (bb (an (Nat.blt k2 n1) true) (some (.pointer (some ⟨0,(0 + k2 * 1),none⟩))) none)) (keep_bb h7) (by kernel_rfl)))) (eD (keep (hp 1 [oC q2]) (nthL q2 (0 + k2 * 1))) (keep_eq h8) (eD (keep (hp 1 [oC q2]) (bb (an (Nat.blt k2 n1) true) (some (.pointer (some ⟨0,(0 + k2 * 1),none⟩))) none)) (keep_bb h9) (eD (done (bb (an (Nat.ble ((0 + k2 * 1) + 1) (len q2)) true) (some (hp 1 [(oC (setL ([zI x0]:LV) (0 + k2 * 1) q2))])) none) undef) (done_bb h10) (eD (keep (hp 1 [(oC (setL ([zI x0]:LV) (0 + k2 * 1) q2))]) (bb (an (Nat.blt k1 n1) true) (some (.pointer (some ⟨0,(0 + k1 * 1),none⟩))) none)) (keep_bb h11) (eD (done (bb (an (Nat.ble ((0 + k1 * 1) + 1) (len (setL ([zI x0]:LV) (0 + k2 * 1) q2))) true) (some (hp 1 [(oC (setL ([zI x1]:LV) (0 + k1 * 1) (setL ([zI x0]:LV) (0 + k2 * 1) q2)))])) none) undef) (done_bb h12) (eE))))))) ?_
  replace hm:=bb_inv hm;obtain ⟨h13,hm⟩:=hm
  refine .ghs (fr 28 [(0,sc 0 0 1 n1 c1),(2,(zI (Int.ofNat k2))),(3,(zI (Int.ofNat k1)))]) (hp 1 [(oC (setL ([zI x1]:LV) (0 + k1 * 1) (setL ([zI x0]:LV) (0 + k2 * 1) q2)))]) (.k [0] [false] [] [0,2,3] ⟨trF h13,trivial⟩) ?_
  refine .rK ?_
  exact ⟨(n1,c1,(wrapF .i64 (Int.add (Int.ofNat k2) (1:Int))),(wrapF .i64 (Int.sub (Int.ofNat k1) (1:Int))),(setL ([zI x1]:LV) (0 + k1 * 1) (setL ([zI x0]:LV) (0 + k2 * 1) q2))),hm,(.k [0] [false] [] [0,2,3] ⟨trF h13,trivial⟩)⟩
 ·refine .ifF (ilt z0 z1) (by kernel_rfl) h2 ?_
  refine .exit ?_
  refine .ghs (fr 28 []) (hp 1 [oC q2]) (.k [0] [false] [] [] ⟨trF h1,trivial⟩) ?_
  exact finO_end (.tuple ⟨[]⟩) [oC q2] (by kernel_rfl) hm (Nat.le_of_ble_eq_true rfl) (ooAt_cons (pO_c _) ooAt_nil)
theorem r10440 {call:CallF} (pu:PureF) (n:Nat) (hcall:call = callP tabs isP pu (inl pu)) {args:LV} {os:List AObj} {z:Value} (ha:args.length = 1) (hk:os.length = 1) (hpl:∀ o ∈ os,plainO o) (hm:m10440 pu n (args ++ os.map encO) = some z):args.length≤28∧Run tt call (tabs.length + 1) c44_11 (Fr.made 28 args) (subHeap tabs os) (FinO tt tabs.length 1 [] z):=by
 subst hcall
 have hq:=len_cons ha;clear ha;obtain ⟨a0,args,rfl,ha⟩:=hq
 obtain rfl:=len_nil ha
 have hq:=len_cons hk;clear hk;obtain ⟨b0,os,rfl,hk⟩:=hq
 have hp0:plainO b0:=hpl b0 (by simp)
 obtain rfl:=len_nil hk
 replace hm:m10440 pu n [a0,encO b0] = some z:=hm
 unfold m10440 at hm
 replace hm:(oo (toSc 0 0 1 a0) none fun y0=>(oo (vAgg (encO b0)) none fun q1=>(m10440_ pu n (NC.n y0) (NC.c y0) q1))) = some z:=hm
 replace hm:=oo_inv hm;obtain ⟨y0,h0,hm⟩:=hm
 obtain rfl:=toSc_some h0
 replace hm:=oo_inv hm;obtain ⟨q1,h1,hm⟩:=hm
 obtain rfl:=vAgg_enc hp0 h1
 refine ⟨by simp,?_⟩
 exact .same (F':=(fr 28 [(0,(sc 0 0 1 (NC.n y0) (NC.c y0)))])) (H':=(hp 1 [oC q1])) (by kernel_rfl) (by kernel_rfl) (q10440 pu n (NC.n y0) (NC.c y0) q1 hm)
end
end Go.HzSM
