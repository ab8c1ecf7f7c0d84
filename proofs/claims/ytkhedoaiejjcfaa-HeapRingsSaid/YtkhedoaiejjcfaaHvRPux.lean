/- Made from wip. -/
import Derived.Test.YtkhedoaiejjcfaaHvRMod1x
import Derived.Test.YtkhedoaiejjcfaaHvRMod2
import Derived.Test.YtkhedoaiejjcfaaHvRMod3
import Derived.Test.YtkhedoaiejjcfaaHvRMod4
import Derived.Test.YtkhedoaiejjcfaaHvRMod5

set_option maxRecDepth 100000
set_option maxHeartbeats 20000000
set_option linter.unusedVariables false
namespace Go.HvRM
open Go.Sp Go.HvR
noncomputable section
def b49_0 (pu:PureF) (n:Nat) (ih0:Int→LV→LV→OV) (z0:Int) (q1:LV) (q2:LV):OV:=
 (bb (allL closed1 q1) (bb (allL closed1 q2) (bb (Nat.ble (0 + 22) (len q1)) (oo (pu 47 [(.agg ⟨(takeL 22 (dropL 0 q1))⟩)]) none fun v0=>(oo (vBool v0) none fun b0=>(bb (allL closed2 [(.agg ⟨(takeL 22 (dropL 0 q1))⟩)]) (bb (nt b0) (bb (Nat.ble (0 + 22) (len q1)) (oo (pu 45 [(.agg ⟨(takeL 22 (dropL 0 q1))⟩)]) none fun v1=>(oo (vAgg v1) none fun q3=>(bb (an (Nat.beq (len q3) 22) (allL closed1 q3)) (bb (allL closed2 [(.agg ⟨(takeL 22 (dropL 0 q1))⟩)]) (bb (Nat.beq (len q3) 22) (bb (an (Nat.ble (0 + len q3) (len q1)) (allL scalarB q3)) (bb (allL closed1 (setL q3 0 q1)) (ih0 (wrapF .i64 (Int.add z0 (1:Int))) (setL q3 0 q1) q2) none) none) none) none) none))) none) (bb (Nat.ble (0 + 22) (len q1)) (bb (Nat.beq (len (takeL 22 (dropL 0 q1))) 22) (bb (an (Nat.ble (0 + len (takeL 22 (dropL 0 q1))) (len q2)) (allL scalarB (takeL 22 (dropL 0 q1)))) (bb (allL closed1 (setL (takeL 22 (dropL 0 q1)) 0 q2)) (bb (Nat.ble (0 + 22) (len (setL (takeL 22 (dropL 0 q1)) 0 q2))) (bb (closedV (.tuple ⟨[.int .i64 z0,(.agg ⟨(takeL 22 (dropL 0 (setL (takeL 22 (dropL 0 q1)) 0 q2)))⟩)]⟩)) (some (.tuple ⟨[.int .i64 z0,(.agg ⟨(takeL 22 (dropL 0 (setL (takeL 22 (dropL 0 q1)) 0 q2)))⟩)]⟩)) none) none) none) none) none) none)) none))) none) none) none)
def l49_0 (pu:PureF) (n w:Nat):Int→LV→LV→OV:=
 Nat.rec (motive:=fun _=>Int→LV→LV→OV) (fun _ _ _=>none) (fun _ ih0=>b49_0 pu n ih0) w
def m49_ (pu:PureF) (n:Nat) (q1:LV):OV:=
 (bb (allL closed1 q1) (bb (allL closed1 zA51) (bb (Nat.ble (0 + 22) (len q1)) (oo (pu 47 [(.agg ⟨(takeL 22 (dropL 0 q1))⟩)]) none fun v0=>(oo (vBool v0) none fun b0=>(bb (allL closed2 [(.agg ⟨(takeL 22 (dropL 0 q1))⟩)]) (bb (nt b0) (bb (Nat.ble (0 + 22) (len q1)) (oo (pu 45 [(.agg ⟨(takeL 22 (dropL 0 q1))⟩)]) none fun v1=>(oo (vAgg v1) none fun q2=>(bb (an (Nat.beq (len q2) 22) (allL closed1 q2)) (bb (allL closed2 [(.agg ⟨(takeL 22 (dropL 0 q1))⟩)]) (bb (Nat.beq (len q2) 22) (bb (an (Nat.ble (0 + len q2) (len q1)) (allL scalarB q2)) (bb (allL closed1 (setL q2 0 q1)) (l49_0 pu n n (1:Int) (setL q2 0 q1) zA51) none) none) none) none) none))) none) (bb (Nat.ble (0 + 22) (len q1)) (bb (Nat.beq (len (takeL 22 (dropL 0 q1))) 22) (bb (an (Nat.ble (0 + len (takeL 22 (dropL 0 q1))) (len zA51)) (allL scalarB (takeL 22 (dropL 0 q1)))) (bb (allL closed1 (setL (takeL 22 (dropL 0 q1)) 0 zA51)) (bb (Nat.ble (0 + 22) (len (setL (takeL 22 (dropL 0 q1)) 0 zA51))) (bb (closedV (.tuple ⟨[(.int .i64 (0:Int)),(.agg ⟨(takeL 22 (dropL 0 (setL (takeL 22 (dropL 0 q1)) 0 zA51)))⟩)]⟩)) (some (.tuple ⟨[(.int .i64 (0:Int)),(.agg ⟨(takeL 22 (dropL 0 (setL (takeL 22 (dropL 0 q1)) 0 zA51)))⟩)]⟩)) none) none) none) none) none) none)) none))) none) none) none)
def m49 (pu:PureF) (n:Nat) (args:LV):OV:=
 (ll args none fun a0 args=>(ll args (oo (vAgg a0) none fun q1=>(bb (an (Nat.beq (len q1) 22) (allL closed1 q1)) (m49_ pu n q1) none)) fun _ _=>none))
theorem r49 {call:CallF} (pu:PureF) (n:Nat) (hcall:call = callP tabs isP pu (inl pu)) {args:LV} {v:Value} (hm:m49 pu n args = some v) (_:∀ x ∈ args,closed2 x = true):args.length≤14∧Run tt call 0 c49_26 (Fr.made 14 args) (pureHeap tabs) (Fin tt 0 [.tmp 2,.cell 3 51] v):=by
 subst hcall
 unfold m49 at hm
 replace hm:=ll_uncons hm;obtain ⟨a0,args_0,rfl,hm⟩:=hm
 replace hm:=ll_end hm;obtain ⟨rfl,hm⟩:=hm
 replace hm:=inv_vAgg hm;obtain ⟨q1,rfl,hm⟩:=hm
 replace hm:=bb_inv hm;obtain ⟨h0,hm⟩:=hm
 unfold m49_ at hm
 refine ⟨by simp,?_⟩
 refine .same (F':=(fr 14 [(0,(.agg ⟨q1⟩))])) (H':=(hp 0 [])) (by kernel_rfl) (by kernel_rfl) ?_
 refine .then (.rK ?_)
 replace hm:=bb_inv hm;obtain ⟨h1,hm⟩:=hm
 replace hm:=bb_inv hm;obtain ⟨h2,hm⟩:=hm
 refine .ghs (fr 14 [(1,(pt 0 0)),(3,pt 1 0)]) (hp 2 [oC q1,oC zA51]) (.k [0,1] [] [.tmp 1 false,.tmp 3 false] [1,3] ⟨trF h1,trF h2,trivial⟩) ?_
 refine .scopeM (v:=v) (fun y:Int×LV×LV=>((fr 14 [(1,(pt 0 0)),(3,pt 1 0),(4,(zI y.1))]),(hp 2 [(oC y.2.1),(oC y.2.2)]))) (fun w y=>l49_0 pu n w y.1 y.2.1 y.2.2) n (fun _=>rfl) ?_ ?_
 ·refine .then (.rK ?_)
  refine .ghs (fr 14 [(1,(pt 0 0)),(3,pt 1 0),(4,(zI (0:Int)))]) (hp 2 [oC q1,oC zA51]) (.k [0,1] [] [.tmp 1 false,.tmp 3 false] [1,3,4] ⟨trF h1,trF h2,trivial⟩) ?_
  refine .then ?_
  refine .label ?_
  refine .ghs (fr 14 [(1,(pt 0 0)),(3,pt 1 0),(4,(zI (0:Int)))]) (hp 2 [oC q1,oC zA51]) (.k [0,1] [] [.tmp 1 false,.tmp 3 false] [1,3,4] ⟨trF h1,trF h2,trivial⟩) ?_
  refine .then ?_
  refine .then ?_
  replace hm:=bb_inv hm;obtain ⟨h3,hm⟩:=hm
  replace hm:=oo_inv hm;obtain ⟨v0,h4,hm⟩:=hm
  replace hm:=inv_vBool hm;obtain ⟨b0,rfl,hm⟩:=hm
  replace hm:=bb_inv hm;obtain ⟨h5,hm⟩:=hm
  refine .reg (eD (keep (hp 2 [oC q1,oC zA51]) (bb (Nat.ble (0 + 22) (len q1)) (some (.agg ⟨(takeL 22 (dropL 0 q1))⟩)) none)) (keep_bb h3) (eD (bb (allL closed2 [(.agg ⟨(takeL 22 (dropL 0 q1))⟩)]) (oo (pu 47 [(.agg ⟨(takeL 22 (dropL 0 q1))⟩)]) none fun v=>some (v,(hp 2 [oC q1,oC zA51]))) (oo (mapO (purify (hp 2 [oC q1,oC zA51])) [(.agg ⟨(takeL 22 (dropL 0 q1))⟩)]) none fun l1=>oo (pu 47 l1) none fun v=>bb (plainT v) (some (v,(hp 2 [oC q1,oC zA51]))) none)) (callc_eq h5 h4) (eE))) ?_
  refine .ghs (fr 14 [(1,(pt 0 0)),(3,pt 1 0),(4,(zI (0:Int))),(7,(zB (nt b0)))]) (hp 2 [oC q1,oC zA51]) (.k [0,1] [] [.tmp 1 false,.tmp 3 false] [1,3,4,7] ⟨trF h1,trF h2,trivial⟩) ?_
  replace hm:=bb_cases hm;rcases hm with ⟨h6,hm⟩ | ⟨h6,hm⟩
  ·refine .ifT (nt b0) (by kernel_rfl) h6 ?_
   refine .then ?_
   replace hm:=bb_inv hm;obtain ⟨h7,hm⟩:=hm
   replace hm:=oo_inv hm;obtain ⟨v1,h8,hm⟩:=hm
   replace hm:=inv_vAgg hm;obtain ⟨q2,rfl,hm⟩:=hm
   replace hm:=bb_inv hm;obtain ⟨h9,hm⟩:=hm
   replace hm:=bb_inv hm;obtain ⟨h10,hm⟩:=hm
   replace hm:=bb_inv hm;obtain ⟨h11,hm⟩:=hm
   replace hm:=bb_inv hm;obtain ⟨h12,hm⟩:=hm
   refine .reg (eD (keep (hp 2 [oC q1,oC zA51]) (bb (Nat.ble (0 + 22) (len q1)) (some (.agg ⟨(takeL 22 (dropL 0 q1))⟩)) none)) (keep_bb h7) (eD (bb (allL closed2 [(.agg ⟨(takeL 22 (dropL 0 q1))⟩)]) (oo (pu 45 [(.agg ⟨(takeL 22 (dropL 0 q1))⟩)]) none fun v=>some (v,(hp 2 [oC q1,oC zA51]))) (oo (mapO (purify (hp 2 [oC q1,oC zA51])) [(.agg ⟨(takeL 22 (dropL 0 q1))⟩)]) none fun l1=>oo (pu 45 l1) none fun v=>bb (plainT v) (some (v,(hp 2 [oC q1,oC zA51]))) none)) (callc_eq h10 h8) (eD (done (bb (Nat.beq (len q2) 22) (bb (an (Nat.ble (0 + len q2) (len q1)) (allL scalarB q2)) (some (hp 2 [(oC (setL q2 0 q1)),oC zA51])) none) none) undef) (done_bb2 h11 h12) (eE)))) ?_
   replace hm:=bb_inv hm;obtain ⟨h13,hm⟩:=hm
   refine .ghs (fr 14 [(1,(pt 0 0)),(3,pt 1 0),(4,(zI (0:Int)))]) (hp 2 [(oC (setL q2 0 q1)),oC zA51]) (.k [0,1] [] [.tmp 1 false,.tmp 3 false] [1,3,4] ⟨trF h13,trF h2,trivial⟩) ?_
   refine .then (.rK ?_)
   refine .ghs (fr 14 [(1,(pt 0 0)),(3,pt 1 0),(4,(zI (1:Int)))]) (hp 2 [(oC (setL q2 0 q1)),oC zA51]) (.k [0,1] [] [.tmp 1 false,.tmp 3 false] [1,3,4] ⟨trF h13,trF h2,trivial⟩) ?_
   refine .goto ?_
   exact ⟨rfl,((1:Int),(setL q2 0 q1),zA51),hm,(.k [0,1] [] [.tmp 1 false,.tmp 3 false] [1,3,4] ⟨trF h13,trF h2,trivial⟩)⟩
  ·refine .ifF (nt b0) (by kernel_rfl) h6 ?_
   refine .skip ?_
   refine .ghs (fr 14 [(1,(pt 0 0)),(3,pt 1 0),(4,(zI (0:Int)))]) (hp 2 [oC q1,oC zA51]) (.k [0,1] [] [.tmp 1 false,.tmp 3 false] [1,3,4] ⟨trF h1,trF h2,trivial⟩) ?_
   refine .then ?_
   replace hm:=bb_inv hm;obtain ⟨h14,hm⟩:=hm
   replace hm:=bb_inv hm;obtain ⟨h15,hm⟩:=hm
   replace hm:=bb_inv hm;obtain ⟨h16,hm⟩:=hm
   refine .reg (eC 1 (keep (hp 2 [oC q1,oC zA51]) (bb (Nat.ble (0 + 22) (len q1)) (some (.agg ⟨(takeL 22 (dropL 0 q1))⟩)) none)) (keep_bb h14) (eC 1 (done (bb (Nat.beq (len (takeL 22 (dropL 0 q1))) 22) (bb (an (Nat.ble (0 + len (takeL 22 (dropL 0 q1))) (len zA51)) (allL scalarB (takeL 22 (dropL 0 q1)))) (some (hp 2 [oC q1,(oC (setL (takeL 22 (dropL 0 q1)) 0 zA51))])) none) none) undef) (done_bb2 h15 h16) (eE))) ?_
   replace hm:=bb_inv hm;obtain ⟨h17,hm⟩:=hm
   refine .ghs (fr 14 [(2,(zI (0:Int))),(3,(pt 0 0))]) (hp 1 [(oC (setL (takeL 22 (dropL 0 q1)) 0 zA51))]) (.k [1] [] [.tmp 3 false] [2,3] ⟨trF h17,trivial⟩) ?_
   refine .ret ?_
   replace hm:=bb_inv hm;obtain ⟨h18,hm⟩:=hm
   replace hm:=bb_inv hm;obtain ⟨h19,hm⟩:=hm
   exact fin_ret (.tuple ⟨[(zI (0:Int)),(.agg ⟨(takeL 22 (dropL 0 (setL (takeL 22 (dropL 0 q1)) 0 zA51)))⟩)]⟩) (aresults_of (aresultsL_cons (show aresult _ _ _ _ = some (zI (0:Int)) from (by kernel_rfl)) (aresultsL_cons (show aresult _ _ _ _ = some (.agg ⟨(takeL 22 (dropL 0 (setL (takeL 22 (dropL 0 q1)) 0 zA51)))⟩) from (eq_bb (c:=(Nat.ble (0 + 22) (len (setL (takeL 22 (dropL 0 q1)) 0 zA51)))) (by kernel_rfl) h18)) rfl)) (by kernel_rfl)) h19 hm
 ·rintro w0 ⟨z0, q3, q4⟩ hm
  replace hm:b49_0 pu n (l49_0 pu n w0) z0 q3 q4 = some v:=hm
  unfold b49_0 at hm
  refine .then ?_
  refine .skip ?_
  replace hm:=bb_inv hm;obtain ⟨h20,hm⟩:=hm
  replace hm:=bb_inv hm;obtain ⟨h21,hm⟩:=hm
  refine .ghs (fr 14 [(1,(pt 0 0)),(3,pt 1 0),(4,zI z0)]) (hp 2 [oC q3,oC q4]) (.k [0,1] [] [.tmp 1 false,.tmp 3 false] [1,3,4] ⟨trF h20,trF h21,trivial⟩) ?_
  refine .then ?_
  refine .then ?_
  replace hm:=bb_inv hm;obtain ⟨h22,hm⟩:=hm
  replace hm:=oo_inv hm;obtain ⟨v2,h23,hm⟩:=hm
  replace hm:=inv_vBool hm;obtain ⟨b1,rfl,hm⟩:=hm
  replace hm:=bb_inv hm;obtain ⟨h24,hm⟩:=hm
  refine .reg (eD (keep (hp 2 [oC q3,oC q4]) (bb (Nat.ble (0 + 22) (len q3)) (some (.agg ⟨(takeL 22 (dropL 0 q3))⟩)) none)) (keep_bb h22) (eD (bb (allL closed2 [(.agg ⟨(takeL 22 (dropL 0 q3))⟩)]) (oo (pu 47 [(.agg ⟨(takeL 22 (dropL 0 q3))⟩)]) none fun v=>some (v,(hp 2 [oC q3,oC q4]))) (oo (mapO (purify (hp 2 [oC q3,oC q4])) [(.agg ⟨(takeL 22 (dropL 0 q3))⟩)]) none fun l1=>oo (pu 47 l1) none fun v=>bb (plainT v) (some (v,(hp 2 [oC q3,oC q4]))) none)) (callc_eq h24 h23) (eE))) ?_
  refine .ghs (fr 14 [(1,(pt 0 0)),(3,pt 1 0),(4,zI z0),(7,(zB (nt b1)))]) (hp 2 [oC q3,oC q4]) (.k [0,1] [] [.tmp 1 false,.tmp 3 false] [1,3,4,7] ⟨trF h20,trF h21,trivial⟩) ?_
  replace hm:=bb_cases hm;rcases hm with ⟨h25,hm⟩ | ⟨h25,hm⟩
  ·refine .ifT (nt b1) (by kernel_rfl) h25 ?_
   refine .then ?_
   replace hm:=bb_inv hm;obtain ⟨h26,hm⟩:=hm
   replace hm:=oo_inv hm;obtain ⟨v3,h27,hm⟩:=hm
   replace hm:=inv_vAgg hm;obtain ⟨q5,rfl,hm⟩:=hm
   replace hm:=bb_inv hm;obtain ⟨h28,hm⟩:=hm
   replace hm:=bb_inv hm;obtain ⟨h29,hm⟩:=hm
   replace hm:=bb_inv hm;obtain ⟨h30,hm⟩:=hm
   replace hm:=bb_inv hm;obtain ⟨h31,hm⟩:=hm
   refine .reg (eD (keep (hp 2 [oC q3,oC q4]) (bb (Nat.ble (0 + 22) (len q3)) (some (.agg ⟨(takeL 22 (dropL 0 q3))⟩)) none)) (keep_bb h26) (eD (bb (allL closed2 [(.agg ⟨(takeL 22 (dropL 0 q3))⟩)]) (oo (pu 45 [(.agg ⟨(takeL 22 (dropL 0 q3))⟩)]) none fun v=>some (v,(hp 2 [oC q3,oC q4]))) (oo (mapO (purify (hp 2 [oC q3,oC q4])) [(.agg ⟨(takeL 22 (dropL 0 q3))⟩)]) none fun l1=>oo (pu 45 l1) none fun v=>bb (plainT v) (some (v,(hp 2 [oC q3,oC q4]))) none)) (callc_eq h29 h27) (eD (done (bb (Nat.beq (len q5) 22) (bb (an (Nat.ble (0 + len q5) (len q3)) (allL scalarB q5)) (some (hp 2 [(oC (setL q5 0 q3)),oC q4])) none) none) undef) (done_bb2 h30 h31) (eE)))) ?_
   replace hm:=bb_inv hm;obtain ⟨h32,hm⟩:=hm
   refine .ghs (fr 14 [(1,(pt 0 0)),(3,pt 1 0),(4,zI z0)]) (hp 2 [(oC (setL q5 0 q3)),oC q4]) (.k [0,1] [] [.tmp 1 false,.tmp 3 false] [1,3,4] ⟨trF h32,trF h21,trivial⟩) ?_
   refine .then (.rK ?_)
   refine .ghs (fr 14 [(1,(pt 0 0)),(3,pt 1 0),(4,(zI (wrapF .i64 (Int.add z0 (1:Int)))))]) (hp 2 [(oC (setL q5 0 q3)),oC q4]) (.k [0,1] [] [.tmp 1 false,.tmp 3 false] [1,3,4] ⟨trF h32,trF h21,trivial⟩) ?_
   refine .goto ?_
   exact ⟨rfl,((wrapF .i64 (Int.add z0 (1:Int))),(setL q5 0 q3),q4),hm,(.k [0,1] [] [.tmp 1 false,.tmp 3 false] [1,3,4] ⟨trF h32,trF h21,trivial⟩)⟩
  ·refine .ifF (nt b1) (by kernel_rfl) h25 ?_
   refine .skip ?_
   refine .ghs (fr 14 [(1,(pt 0 0)),(3,pt 1 0),(4,zI z0)]) (hp 2 [oC q3,oC q4]) (.k [0,1] [] [.tmp 1 false,.tmp 3 false] [1,3,4] ⟨trF h20,trF h21,trivial⟩) ?_
   refine .then ?_
   replace hm:=bb_inv hm;obtain ⟨h33,hm⟩:=hm
   replace hm:=bb_inv hm;obtain ⟨h34,hm⟩:=hm
   replace hm:=bb_inv hm;obtain ⟨h35,hm⟩:=hm
   refine .reg (eC 1 (keep (hp 2 [oC q3,oC q4]) (bb (Nat.ble (0 + 22) (len q3)) (some (.agg ⟨(takeL 22 (dropL 0 q3))⟩)) none)) (keep_bb h33) (eC 1 (done (bb (Nat.beq (len (takeL 22 (dropL 0 q3))) 22) (bb (an (Nat.ble (0 + len (takeL 22 (dropL 0 q3))) (len q4)) (allL scalarB (takeL 22 (dropL 0 q3)))) (some (hp 2 [oC q3,(oC (setL (takeL 22 (dropL 0 q3)) 0 q4))])) none) none) undef) (done_bb2 h34 h35) (eE))) ?_
   replace hm:=bb_inv hm;obtain ⟨h36,hm⟩:=hm
   refine .ghs (fr 14 [(2,zI z0),(3,(pt 0 0))]) (hp 1 [(oC (setL (takeL 22 (dropL 0 q3)) 0 q4))]) (.k [1] [] [.tmp 3 false] [2,3] ⟨trF h36,trivial⟩) ?_
   refine .ret ?_
   replace hm:=bb_inv hm;obtain ⟨h37,hm⟩:=hm
   replace hm:=bb_inv hm;obtain ⟨h38,hm⟩:=hm
   exact fin_ret (.tuple ⟨[zI z0,(.agg ⟨(takeL 22 (dropL 0 (setL (takeL 22 (dropL 0 q3)) 0 q4)))⟩)]⟩) (aresults_of (aresultsL_cons (show aresult _ _ _ _ = some (zI z0) from (by kernel_rfl)) (aresultsL_cons (show aresult _ _ _ _ = some (.agg ⟨(takeL 22 (dropL 0 (setL (takeL 22 (dropL 0 q3)) 0 q4)))⟩) from (eq_bb (c:=(Nat.ble (0 + 22) (len (setL (takeL 22 (dropL 0 q3)) 0 q4)))) (by kernel_rfl) h37)) rfl)) (by kernel_rfl)) h38 hm
def m54_0 (pu:PureF) (n:Nat) (z0:Int):OV:=
 (some (.int .i64 z0))
def b54_1 (pu:PureF) (n:Nat) (ih0:Int→Nat→Nat→Int→Int→LV→OV) (z0:Int) (n0 c0:Nat) (z1 z2:Int) (q1:LV):OV:=
 (bb (allL closed1 q1) (bb (ilt z2 z1) (oo (toN z2) none fun k1=>(bb (an (Nat.blt k1 n0) true) (oo (nthL q1 (1 + k1 * 1)) none fun v0=>(oo (toI .i64 v0) none fun x0=>(ih0 (wrapF .i64 (Int.add z0 x0)) n0 c0 z1 (wrapF .i64 (Int.add (Int.ofNat k1) (1:Int))) q1))) none)) (m54_0 pu n z0)) none)
def l54_1 (pu:PureF) (n w:Nat):Int→Nat→Nat→Int→Int→LV→OV:=
 Nat.rec (motive:=fun _=>Int→Nat→Nat→Int→Int→LV→OV) (fun _ _ _ _ _ _=>none) (fun _ ih0=>b54_1 pu n ih0) w
def m54_ (pu:PureF) (n:Nat) (q1:LV):OV:=
 (bb (allL closed1 q1) (bb (Nat.ble (0 + 22 * 1) (len q1)) (l54_1 pu n n (0:Int) 21 43 (21:Int) (0:Int) q1) none) none)
def m54 (pu:PureF) (n:Nat) (args:LV):OV:=
 (ll args none fun a0 args=>(ll args (oo (vAgg a0) none fun q1=>(bb (an (Nat.beq (len q1) 22) (allL closed1 q1)) (m54_ pu n q1) none)) fun _ _=>none))
theorem w54_0 (pu:PureF) (n:Nat) (z0:Int) {v:Value} (hm:m54_0 pu n z0 = some v):Run tt (callP tabs isP pu (inl pu)) 0 c54_17 (fr 17 [(3,zI z0)]) (hp 0 []) (Fin tt 0 [.tmp 2] v):=by
 unfold m54_0 at hm
 refine .then (.rK ?_)
 refine .ghs (fr 17 [(2,zI z0)]) (hp 0 []) (.k0 [] [] [2]) ?_
 refine .ret ?_
 exact fin_ret (zI z0) (by kernel_rfl) (by kernel_rfl) hm
theorem r54 {call:CallF} (pu:PureF) (n:Nat) (hcall:call = callP tabs isP pu (inl pu)) {args:LV} {v:Value} (hm:m54 pu n args = some v) (_:∀ x ∈ args,closed2 x = true):args.length≤17∧Run tt call 0 c54_20 (Fr.made 17 args) (pureHeap tabs) (Fin tt 0 [.tmp 2] v):=by
 subst hcall
 unfold m54 at hm
 replace hm:=ll_uncons hm;obtain ⟨a0,args_0,rfl,hm⟩:=hm
 replace hm:=ll_end hm;obtain ⟨rfl,hm⟩:=hm
 replace hm:=inv_vAgg hm;obtain ⟨q1,rfl,hm⟩:=hm
 replace hm:=bb_inv hm;obtain ⟨h0,hm⟩:=hm
 unfold m54_ at hm
 refine ⟨by simp,?_⟩
 refine .same (F':=(fr 17 [(0,(.agg ⟨q1⟩))])) (H':=(hp 0 [])) (by kernel_rfl) (by kernel_rfl) ?_
 refine .then (.rK ?_)
 replace hm:=bb_inv hm;obtain ⟨h1,hm⟩:=hm
 refine .ghs (fr 17 [(1,(pt 0 0))]) (hp 1 [oC q1]) (.k [0] [] [.tmp 1 false] [1] ⟨trF h1,trivial⟩) ?_
 refine .then (.rK ?_)
 refine .ghs (fr 17 [(1,(pt 0 0)),(3,(zI (0:Int)))]) (hp 1 [oC q1]) (.k [0] [] [.tmp 1 false] [1,3] ⟨trF h1,trivial⟩) ?_
 refine .join (v:=v) (fun y:Int=>((fr 17 [(3,zI y)]),(hp 0 []))) (fun y=>m54_0 pu n y) ?_ ?_
 ·rintro z0 hm
  exact w54_0 pu n z0 hm
 ·refine .then ?_
  replace hm:=bb_inv hm;obtain ⟨h2,hm⟩:=hm
  refine .reg (eD (keep (hp 1 [oC q1]) (bb (Nat.ble (0 + 22 * 1) (len q1)) (some (sc 0 1 1 21 43)) none)) (keep_bb h2) (eE)) ?_
  refine .ghs (fr 17 [(3,(zI (0:Int))),(6,sc 0 1 1 21 43),(7,(zI (21:Int))),(8,(zI (0:Int)))]) (hp 1 [oC q1]) (.k [0] [] [.tmp 6 false] [3,6,7,8] ⟨trF h1,trivial⟩) ?_
  refine .block ?_
  refine .loopM (v:=v) (fun y:Int×Nat×Nat×Int×Int×LV=>((fr 17 [(3,(zI y.1)),(6,(sc 0 1 1 y.2.1 y.2.2.1)),(7,(zI y.2.2.2.1)),(8,(zI y.2.2.2.2.1))]),(hp 1 [(oC y.2.2.2.2.2)]))) (fun w y=>l54_1 pu n w y.1 y.2.1 y.2.2.1 y.2.2.2.1 y.2.2.2.2.1 y.2.2.2.2.2) n ⟨((0:Int),21,43,(21:Int),(0:Int),q1),hm,(.k [0] [] [.tmp 6 false] [3,6,7,8] ⟨trF h1,trivial⟩)⟩ (fun _=>rfl) ?_
  rintro w0 ⟨z1,n0,c0,z2,z3,q2⟩ hm
  replace hm:b54_1 pu n (l54_1 pu n w0) z1 n0 c0 z2 z3 q2 = some v:=hm
  unfold b54_1 at hm
  refine .then (.rK ?_)
  replace hm:=bb_inv hm;obtain ⟨h3,hm⟩:=hm
  refine .ghs (fr 17 [(3,zI z1),(6,sc 0 1 1 n0 c0),(7,zI z2),(8,zI z3),(9,(zB (ilt z3 z2)))]) (hp 1 [oC q2]) (.k [0] [] [.tmp 6 false] [3,6,7,8,9] ⟨trF h3,trivial⟩) ?_
  refine .then ?_
  replace hm:=bb_cases hm;rcases hm with ⟨h4,hm⟩ | ⟨h4,hm⟩
  ·refine .ifT (ilt z3 z2) (by kernel_rfl) h4 ?_
   refine .skip ?_
   refine .ghs (fr 17 [(3,zI z1),(6,sc 0 1 1 n0 c0),(7,zI z2),(8,zI z3)]) (hp 1 [oC q2]) (.k [0] [] [.tmp 6 false] [3,6,7,8] ⟨trF h3,trivial⟩) ?_
   refine .then ?_
   refine .block ?_
   refine .then ?_
   replace hm:=oo_inv hm;obtain ⟨k1,h5,hm⟩:=hm
   obtain rfl:=toN_some h5
   replace hm:=bb_inv hm;obtain ⟨h6,hm⟩:=hm
   replace hm:=oo_inv hm;obtain ⟨v0,h7,hm⟩:=hm
   replace hm:=inv_toI hm;obtain ⟨x0,rfl,hm⟩:=hm
   refine .reg (eD (keep (hp 1 [oC q2]) (bb (an (Nat.blt k1 n0) true) (some (.pointer (some ⟨0,(1 + k1 * 1),none⟩))) none)) (keep_bb h6) (eD (keep (hp 1 [oC q2]) (nthL q2 (1 + k1 * 1))) (keep_eq h7) (eE))) ?_
   refine .ghs (fr 17 [(3,zI z1),(5,zI x0),(6,sc 0 1 1 n0 c0),(7,zI z2),(8,(zI (Int.ofNat k1)))]) (hp 1 [oC q2]) (.k [0] [] [.tmp 6 false] [3,5,6,7,8] ⟨trF h3,trivial⟩) ?_
   refine .rK ?_
   refine .ghs (fr 17 [(3,(zI (wrapF .i64 (Int.add z1 x0)))),(6,sc 0 1 1 n0 c0),(7,zI z2),(8,(zI (Int.ofNat k1)))]) (hp 1 [oC q2]) (.k [0] [] [.tmp 6 false] [3,6,7,8] ⟨trF h3,trivial⟩) ?_
   refine .rK ?_
   exact ⟨((wrapF .i64 (Int.add z1 x0)),n0,c0,z2,(wrapF .i64 (Int.add (Int.ofNat k1) (1:Int))),q2),hm,(.k [0] [] [.tmp 6 false] [3,6,7,8] ⟨trF h3,trivial⟩)⟩
  ·refine .ifF (ilt z3 z2) (by kernel_rfl) h4 ?_
   refine .exit ?_
   exact ⟨z1,hm,(.k0 [] [] [3])⟩
def m56_0 (pu:PureF) (n:Nat) (s0:Sl) (z0:Int):OV:=
 (some (.tuple ⟨[.int .i64 z0,Sl.v 1 s0]⟩))
def b56_1 (pu:PureF) (n:Nat) (ih0:Sl→Int→OV) (s0:Sl) (z0:Int):OV:=
 (oo (pu 44 [Sl.v 1 s0]) none fun v0=>(oo (vBool v0) none fun b0=>(bb (nt b0) (oo (pu 57 [Sl.v 1 s0]) none fun v1=>(oo (toSl 1 v1) none fun s1=>(ih0 s1 (wrapF .i64 (Int.add z0 (1:Int)))))) (m56_0 pu n s0 z0))))
def l56_1 (pu:PureF) (n w:Nat):Sl→Int→OV:=
 Nat.rec (motive:=fun _=>Sl→Int→OV) (fun _ _=>none) (fun _ ih0=>b56_1 pu n ih0) w
def m56_ (pu:PureF) (n:Nat) (s0:Sl):OV:=
 (l56_1 pu n n s0 (0:Int))
def m56 (pu:PureF) (n:Nat) (args:LV):OV:=
 (ll args none fun a0 args=>(ll args (oo (toSl 1 a0) none fun s0=>(m56_ pu n s0)) fun _ _=>none))
theorem w56_0 (pu:PureF) (n:Nat) (s0:Sl) (z0:Int) {v:Value} (hm:m56_0 pu n s0 z0 = some v):Run tt (callP tabs isP pu (inl pu)) 0 c56_13 (fr 14 [(0,Sl.v 1 s0),(4,zI z0)]) (hp 0 []) (Fin tt 0 [.tmp 2,.tmp 3] v):=by
 unfold m56_0 at hm
 refine .then (.rK ?_)
 refine .ghs (fr 14 [(2,zI z0),(3,Sl.v 1 s0)]) (hp 0 []) (.k0 [] [] [2,3]) ?_
 refine .ret ?_
 exact fin_ret (.tuple ⟨[zI z0,Sl.v 1 s0]⟩) (by kernel_rfl) (by kernel_rfl) hm
theorem r56 {call:CallF} (pu:PureF) (n:Nat) (hcall:call = callP tabs isP pu (inl pu)) {args:LV} {v:Value} (hm:m56 pu n args = some v) (_:∀ x ∈ args,closed2 x = true):args.length≤14∧Run tt call 0 c56_16 (Fr.made 14 args) (pureHeap tabs) (Fin tt 0 [.tmp 2,.tmp 3] v):=by
 subst hcall
 unfold m56 at hm
 replace hm:=ll_uncons hm;obtain ⟨a0,args_0,rfl,hm⟩:=hm
 replace hm:=ll_end hm;obtain ⟨rfl,hm⟩:=hm
 replace hm:=inv_toSl hm;obtain ⟨s0,rfl,hm⟩:=hm
 unfold m56_ at hm
 refine ⟨by simp,?_⟩
 refine .same (F':=(fr 14 [(0,Sl.v 1 s0)])) (H':=(hp 0 [])) (by kernel_rfl) (by kernel_rfl) ?_
 refine .then (.rK ?_)
 refine .ghs (fr 14 [(0,Sl.v 1 s0)]) (hp 0 []) (.k0 [] [] [0]) ?_
 refine .then (.rK ?_)
 refine .ghs (fr 14 [(0,Sl.v 1 s0),(4,(zI (0:Int)))]) (hp 0 []) (.k0 [] [] [0,4]) ?_
 refine .join (v:=v) (fun y:Sl×Int=>((fr 14 [(0,(Sl.v 1 y.1)),(4,(zI y.2))]),(hp 0 []))) (fun y=>m56_0 pu n y.1 y.2) ?_ ?_
 ·rintro ⟨s1, z0⟩ hm
  exact w56_0 pu n s1 z0 hm
 ·refine .block ?_
  refine .loopM (v:=v) (fun y:Sl×Int=>((fr 14 [(0,(Sl.v 1 y.1)),(4,(zI y.2))]),(hp 0 []))) (fun w y=>l56_1 pu n w y.1 y.2) n ⟨(s0,(0:Int)),hm,(.k0 [] [] [0,4])⟩ (fun _=>rfl) ?_
  rintro w0 ⟨s2,z1⟩ hm
  replace hm:b56_1 pu n (l56_1 pu n w0) s2 z1 = some v:=hm
  unfold b56_1 at hm
  refine .then ?_
  refine .then ?_
  replace hm:=oo_inv hm;obtain ⟨v0,h0,hm⟩:=hm
  replace hm:=inv_vBool hm;obtain ⟨b0,rfl,hm⟩:=hm
  refine .reg (eC 1 ((oo (pu 44 [Sl.v 1 s2]) none fun v=>some (v,(hp 0 [])))) (call_eq h0) (eE)) ?_
  refine .ghs (fr 14 [(0,Sl.v 1 s2),(4,zI z1),(7,(zB (nt b0)))]) (hp 0 []) (.k0 [] [] [0,4,7]) ?_
  replace hm:=bb_cases hm;rcases hm with ⟨h1,hm⟩ | ⟨h1,hm⟩
  ·refine .ifT (nt b0) (by kernel_rfl) h1 ?_
   refine .skip ?_
   refine .ghs (fr 14 [(0,Sl.v 1 s2),(4,zI z1)]) (hp 0 []) (.k0 [] [] [0,4]) ?_
   refine .block ?_
   refine .then ?_
   replace hm:=oo_inv hm;obtain ⟨v1,h2,hm⟩:=hm
   replace hm:=inv_toSl hm;obtain ⟨s3,rfl,hm⟩:=hm
   refine .reg (eC 1 ((oo (pu 57 [Sl.v 1 s2]) none fun v=>some (v,(hp 0 [])))) (call_eq h2) (eE)) ?_
   refine .ghs (fr 14 [(0,Sl.v 1 s3),(4,zI z1)]) (hp 0 []) (.k0 [] [] [0,4]) ?_
   refine .rK ?_
   exact ⟨(s3,(wrapF .i64 (Int.add z1 (1:Int)))),hm,(.k0 [] [] [0,4])⟩
  ·refine .ifF (nt b0) (by kernel_rfl) h1 ?_
   refine .exit ?_
   exact ⟨(s2,z1),hm,(.k0 [] [] [0,4])⟩
def m57_1 (pu:PureF) (n n0 c0:Nat) (q1:LV):OV:=
 (bb (allL closed1 q1) (bb (an (Nat.ble (0 + n0 * 1) (len q1)) (allL closed1 (takeL (n0 * 1) (dropL 0 q1)))) (some (Sl.v 1 (Sl.mk n0 0 (takeL (n0 * 1) (dropL 0 q1))))) none) none)
def m57_0 (pu:PureF) (n:Nat) (s0:Sl) (n0 c0:Nat) (b0:Bool) (q1:LV):OV:=
 (bb (allL closed1 q1) (bb (nt b0) (bb (growC 1 8 n0 c0 1 q1) (bb (allL closed1 (appL (dropL 0 q1) [(.int .i64 (Int.ofNat (Sl.n s0)))])) (m57_1 pu n (n0 + 1) (2 * (n0 + 1) + bb false 1 0) (appL (dropL 0 q1) [(.int .i64 (Int.ofNat (Sl.n s0)))])) none) none) (m57_1 pu n n0 c0 q1)) none)
def m57_3 (pu:PureF) (n:Nat) (ih0:Sl→Nat→Nat→Bool→Int→LV→OV) (s0:Sl) (n0 c0:Nat) (b0:Bool) (z0:Int) (q1:LV):OV:=
 (bb (allL closed1 q1) (ih0 s0 n0 c0 b0 (wrapF .i64 (Int.add z0 (1:Int))) q1) none)
def m57_4 (pu:PureF) (n:Nat) (ih0:Sl→Nat→Nat→Bool→Int→LV→OV) (s0:Sl) (n0 c0:Nat) (b0:Bool) (z0:Int) (q1:LV):OV:=
 (oo (toN z0) none fun k1=>(bb (an (Nat.blt k1 (Sl.n s0)) true) (oo (nthL (Sl.cs s0) (k1 * 1)) none fun v0=>(oo (toI .i64 v0) none fun x0=>(bb (allL closed1 q1) (bb (ilt (1:Int) x0) (bb (an (Nat.blt k1 (Sl.n s0)) true) (oo (nthL (Sl.cs s0) (k1 * 1)) none fun v1=>(oo (toI .i64 v1) none fun x1=>(bb (growC 1 8 n0 c0 1 q1) (bb (allL closed1 (appL (dropL 0 q1) [(.int .i64 (wrapF .i64 (Int.sub x1 (1:Int))))])) (m57_3 pu n ih0 s0 (n0 + 1) (2 * (n0 + 1) + bb false 1 0) b0 (Int.ofNat k1) (appL (dropL 0 q1) [(.int .i64 (wrapF .i64 (Int.sub x1 (1:Int))))])) none) none))) none) (m57_3 pu n ih0 s0 n0 c0 b0 (Int.ofNat k1) q1)) none))) none))
def m57_5 (pu:PureF) (n:Nat) (ih0:Sl→Nat→Nat→Bool→Int→LV→OV) (s0:Sl) (n0 c0:Nat) (b0:Bool) (z0:Int) (b1:Bool) (q1:LV):OV:=
 (bb b1 (bb (growC 1 8 n0 c0 1 q1) (bb (allL closed1 (appL (dropL 0 q1) [(.int .i64 (Int.ofNat (Sl.n s0)))])) (m57_4 pu n ih0 s0 (n0 + 1) (2 * (n0 + 1) + bb false 1 0) true z0 (appL (dropL 0 q1) [(.int .i64 (Int.ofNat (Sl.n s0)))])) none) none) (bb (allL closed1 q1) (m57_4 pu n ih0 s0 n0 c0 b0 z0 q1) none))
def b57_2 (pu:PureF) (n:Nat) (ih0:Sl→Nat→Nat→Bool→Int→LV→OV) (s0:Sl) (n0 c0:Nat) (b0:Bool) (z0:Int) (q1:LV):OV:=
 (bb (allL closed1 q1) (bb (ilt z0 (Int.ofNat (Sl.n s0))) (bb (nt b0) (oo (toN z0) none fun k1=>(bb (an (Nat.blt k1 (Sl.n s0)) true) (oo (nthL (Sl.cs s0) (k1 * 1)) none fun v0=>(oo (toI .i64 v0) none fun x0=>(m57_5 pu n ih0 s0 n0 c0 b0 (Int.ofNat k1) (nt (ilt (Int.ofNat (Sl.n s0)) (wrapF .i64 (Int.sub x0 (1:Int))))) q1))) none)) (m57_5 pu n ih0 s0 n0 c0 b0 z0 false q1)) (m57_0 pu n s0 n0 c0 b0 q1)) none)
def l57_2 (pu:PureF) (n w:Nat):Sl→Nat→Nat→Bool→Int→LV→OV:=
 Nat.rec (motive:=fun _=>Sl→Nat→Nat→Bool→Int→LV→OV) (fun _ _ _ _ _ _=>none) (fun _ ih0=>b57_2 pu n ih0) w
def m57_ (pu:PureF) (n:Nat) (s0:Sl):OV:=
 (l57_2 pu n n s0 0 0 false (0:Int) ([]:LV))
def m57 (pu:PureF) (n:Nat) (args:LV):OV:=
 (ll args none fun a0 args=>(ll args (oo (toSl 1 a0) none fun s0=>(m57_ pu n s0)) fun _ _=>none))
theorem w57_1 (pu:PureF) (n n0 c0:Nat) (q1:LV) {v:Value} (hm:m57_1 pu n n0 c0 q1 = some v):Run tt (callP tabs isP pu (inl pu)) 0 c57_30 (fr 50 [(3,sc 0 0 1 n0 c0)]) (hp 1 [oC q1]) (Fin tt 0 [.tmp 2] v):=by
 unfold m57_1 at hm
 refine .then (.rK ?_)
 replace hm:=bb_inv hm;obtain ⟨h0,hm⟩:=hm
 refine .ghs (fr 50 [(2,sc 0 0 1 n0 c0)]) (hp 1 [oC q1]) (.k [0] [] [.tmp 2 false] [2] ⟨trF h0,trivial⟩) ?_
 replace hm:=bb_inv hm;obtain ⟨h1,hm⟩:=hm
 refine .ghs (Fr.puts (fr 50 [(2,sc 0 0 1 n0 c0)]) [(2,(Sl.v 1 (Sl.mk n0 0 (takeL (n0 * 1) (dropL 0 q1)))))]) (hp 1 [.dead]) (.freezeC 0 2 1 (an (Nat.ble (0 + n0 * 1) (len q1)) (allL closed1 (takeL (n0 * 1) (dropL 0 q1)))) (F1:=(Fr.puts (fr 50 [(2,sc 0 0 1 n0 c0)]) [(2,(Sl.v 1 (Sl.mk n0 0 (takeL (n0 * 1) (dropL 0 q1)))))])) (H1:=(hp 1 [.dead])) (by kernel_rfl) (by kernel_rfl) h1 (GhS.id _ _)) ?_
 refine .ret ?_
 exact fin_ret (Sl.v 1 (Sl.mk n0 0 (takeL (n0 * 1) (dropL 0 q1)))) (by kernel_rfl) (by kernel_rfl) hm
theorem w57_0 (pu:PureF) (n:Nat) (s0:Sl) (n0 c0:Nat) (b0:Bool) (q1:LV) {v:Value} (hm:m57_0 pu n s0 n0 c0 b0 q1 = some v):Run tt (callP tabs isP pu (inl pu)) 0 c57_31 (fr 50 [(0,Sl.v 1 s0),(3,sc 0 0 1 n0 c0),(4,zB b0)]) (hp 1 [oC q1]) (Fin tt 0 [.tmp 2] v):=by
 unfold m57_0 at hm
 refine .join (v:=v) (fun y:Nat×Nat×LV=>((fr 50 [(3,(sc 0 0 1 y.1 y.2.1))]),(hp 1 [(oC y.2.2)]))) (fun y=>m57_1 pu n y.1 y.2.1 y.2.2) ?_ ?_
 ·rintro ⟨n1, c1, q2⟩ hm
  exact w57_1 pu n n1 c1 q2 hm
 ·refine .then (.rK ?_)
  replace hm:=bb_inv hm;obtain ⟨h0,hm⟩:=hm
  refine .ghs (fr 50 [(0,Sl.v 1 s0),(3,sc 0 0 1 n0 c0),(43,(zB (nt b0)))]) (hp 1 [oC q1]) (.k [0] [] [.tmp 3 false] [0,3,43] ⟨trF h0,trivial⟩) ?_
  replace hm:=bb_cases hm;rcases hm with ⟨h1,hm⟩ | ⟨h1,hm⟩
  ·refine .ifT (nt b0) (by kernel_rfl) h1 ?_
   replace hm:=bb_inv hm;obtain ⟨h2,hm⟩:=hm
   refine .reg (eC 4 (growD 1 8 n0 c0 1 0 q1 [(zI (Int.ofNat (Sl.n s0)))] [] (hp 2 [oC q1,(oC [(zI (Int.ofNat (Sl.n s0)))])])) (growD_eq h2) (eE)) ?_
   replace hm:=bb_inv hm;obtain ⟨h3,hm⟩:=hm
   exact ⟨((n0 + 1),(d2 (n0 + 1)),(appL (dropL 0 q1) [(zI (Int.ofNat (Sl.n s0)))])),hm,(.k [2] [] [.tmp 3 false] [3] ⟨trF h3,trivial⟩)⟩
  ·refine .ifF (nt b0) (by kernel_rfl) h1 ?_
   refine .skip ?_
   exact ⟨(n0,c0,q1),hm,(.k [0] [] [.tmp 3 false] [3] ⟨trF h0,trivial⟩)⟩
theorem r57 {call:CallF} (pu:PureF) (n:Nat) (hcall:call = callP tabs isP pu (inl pu)) {args:LV} {v:Value} (hm:m57 pu n args = some v) (_:∀ x ∈ args,closed2 x = true):args.length≤50∧Run tt call 0 c57_35 (Fr.made 50 args) (pureHeap tabs) (Fin tt 0 [.tmp 2] v):=by
 subst hcall
 unfold m57 at hm
 replace hm:=ll_uncons hm;obtain ⟨a0,args_0,rfl,hm⟩:=hm
 replace hm:=ll_end hm;obtain ⟨rfl,hm⟩:=hm
 replace hm:=inv_toSl hm;obtain ⟨s0,rfl,hm⟩:=hm
 unfold m57_ at hm
 refine ⟨by simp,?_⟩
 refine .same (F':=(fr 50 [(0,Sl.v 1 s0)])) (H':=(hp 0 [])) (by kernel_rfl) (by kernel_rfl) ?_
 refine .then (.rK ?_)
 refine .ghs (fr 50 [(0,Sl.v 1 s0)]) (hp 0 []) (.k0 [] [] [0]) ?_
 refine .then (.rK ?_)
 refine .ghs (fr 50 [(0,Sl.v 1 s0),(3,(.slice none 0 0))]) (hp 0 []) (.k0 [] [] [0,3]) ?_
 refine .then (.rK ?_)
 refine .ghs (fr 50 [(0,Sl.v 1 s0),(3,(.slice none 0 0)),(4,zB false)]) (hp 0 []) (.k0 [] [] [0,3,4]) ?_
 refine .join (v:=v) (fun y:Sl×Nat×Nat×Bool×LV=>((fr 50 [(0,(Sl.v 1 y.1)),(3,(sc 0 0 1 y.2.1 y.2.2.1)),(4,(zB y.2.2.2.1))]),(hp 1 [(oC y.2.2.2.2)]))) (fun y=>m57_0 pu n y.1 y.2.1 y.2.2.1 y.2.2.2.1 y.2.2.2.2) ?_ ?_
 ·rintro ⟨s1, n0, c0, b0, q1⟩ hm
  exact w57_0 pu n s1 n0 c0 b0 q1 hm
 ·refine .then (.rK ?_)
  refine .ghs (fr 50 [(0,Sl.v 1 s0),(3,(.slice none 0 0)),(4,zB false),(5,(zI (0:Int)))]) (hp 0 []) (.k0 [] [] [0,3,4,5]) ?_
  refine .block ?_
  refine .loopM (v:=v) (fun y:Sl×Nat×Nat×Bool×Int×LV=>((fr 50 [(0,(Sl.v 1 y.1)),(3,(sc 0 0 1 y.2.1 y.2.2.1)),(4,(zB y.2.2.2.1)),(5,(zI y.2.2.2.2.1))]),(hp 1 [(oC y.2.2.2.2.2)]))) (fun w y=>l57_2 pu n w y.1 y.2.1 y.2.2.1 y.2.2.2.1 y.2.2.2.2.1 y.2.2.2.2.2) n ⟨(s0,0,0,false,(0:Int),([]:LV)),hm,(.thaw 3 1 (by kernel_rfl) (.k0 [] [.tmp 3 false] [0,3,4,5]))⟩ (fun _=>rfl) ?_
  rintro w0 ⟨s2,n1,c1,b1,z0,q2⟩ hm
  replace hm:b57_2 pu n (l57_2 pu n w0) s2 n1 c1 b1 z0 q2 = some v:=hm
  unfold b57_2 at hm
  refine .then ?_
  refine .then (.rK ?_)
  replace hm:=bb_inv hm;obtain ⟨h0,hm⟩:=hm
  refine .ghs (fr 50 [(0,Sl.v 1 s2),(3,sc 0 0 1 n1 c1),(4,zB b1),(5,zI z0),(9,(zB (ilt z0 (Int.ofNat (Sl.n s2)))))]) (hp 1 [oC q2]) (.k [0] [] [.tmp 3 false] [0,3,4,5,9] ⟨trF h0,trivial⟩) ?_
  replace hm:=bb_cases hm;rcases hm with ⟨h1,hm⟩ | ⟨h1,hm⟩
  ·refine .ifT (ilt z0 (Int.ofNat (Sl.n s2))) (by kernel_rfl) h1 ?_
   refine .skip ?_
   refine .ghs (fr 50 [(0,Sl.v 1 s2),(3,sc 0 0 1 n1 c1),(4,zB b1),(5,zI z0)]) (hp 1 [oC q2]) (.k [0] [] [.tmp 3 false] [0,3,4,5] ⟨trF h0,trivial⟩) ?_
   refine .join (v:=v) (fun y:Sl×Nat×Nat×Bool×Int×LV=>((fr 50 [(0,(Sl.v 1 y.1)),(3,(sc 0 0 1 y.2.1 y.2.2.1)),(4,(zB y.2.2.2.1)),(5,(zI y.2.2.2.2.1))]),(hp 1 [(oC y.2.2.2.2.2)]))) (fun y=>m57_3 pu n (l57_2 pu n w0) y.1 y.2.1 y.2.2.1 y.2.2.2.1 y.2.2.2.2.1 y.2.2.2.2.2) ?_ ?_
   ·rintro ⟨s3, n2, c2, b2, z1, q3⟩ hm
    unfold m57_3 at hm
    refine .rK ?_
    replace hm:=bb_inv hm;obtain ⟨h2,hm⟩:=hm
    exact ⟨(s3,n2,c2,b2,(wrapF .i64 (Int.add z1 (1:Int))),q3),hm,(.k [0] [] [.tmp 3 false] [0,3,4,5] ⟨trF h2,trivial⟩)⟩
   ·refine .block ?_
    refine .join (v:=v) (fun y:Sl×Nat×Nat×Bool×Int×LV=>((fr 50 [(0,(Sl.v 1 y.1)),(3,(sc 0 0 1 y.2.1 y.2.2.1)),(4,(zB y.2.2.2.1)),(5,(zI y.2.2.2.2.1))]),(hp 1 [(oC y.2.2.2.2.2)]))) (fun y=>m57_4 pu n (l57_2 pu n w0) y.1 y.2.1 y.2.2.1 y.2.2.2.1 y.2.2.2.2.1 y.2.2.2.2.2) ?_ ?_
    ·rintro ⟨s4, n3, c99, b99, z2, q4⟩ hm
     unfold m57_4 at hm
     refine .then ?_
     replace hm:=oo_inv hm;obtain ⟨k1,h3,hm⟩:=hm
     obtain rfl:=toN_some h3
     replace hm:=bb_inv hm;obtain ⟨h4,hm⟩:=hm
     replace hm:=oo_inv hm;obtain ⟨v0,h5,hm⟩:=hm
     replace hm:=inv_toI hm;obtain ⟨x0,rfl,hm⟩:=hm
     refine .reg (eC 2 (keep (hp 1 [oC q4]) (bb (an (Nat.blt k1 (Sl.n s4)) true) (some (fpV (k1 * 1) (Sl.cs s4))) none)) (keep_bb h4) (eD (keep (hp 1 [oC q4]) (nthL (Sl.cs s4) (k1 * 1))) (keep_eq h5) (eE))) ?_
     replace hm:=bb_inv hm;obtain ⟨h6,hm⟩:=hm
     refine .ghs (fr 50 [(0,Sl.v 1 s4),(3,sc 0 0 1 n3 c99),(4,zB b99),(5,(zI (Int.ofNat k1))),(33,(zB (ilt (1:Int) x0)))]) (hp 1 [oC q4]) (.k [0] [] [.tmp 3 false] [0,3,4,5,33] ⟨trF h6,trivial⟩) ?_
     replace hm:=bb_cases hm;rcases hm with ⟨h7,hm⟩ | ⟨h7,hm⟩
     ·refine .ifT (ilt (1 : Int) x0) (by kernel_rfl) h7 ?_
      replace hm:=bb_inv hm;obtain ⟨h8,hm⟩:=hm
      replace hm:=oo_inv hm;obtain ⟨v1,h9,hm⟩:=hm
      replace hm:=inv_toI hm;obtain ⟨x1,rfl,hm⟩:=hm
      replace hm:=bb_inv hm;obtain ⟨h10,hm⟩:=hm
      refine .reg (eC 3 (keep (hp 1 [oC q4]) (bb (an (Nat.blt k1 (Sl.n s4)) true) (some (fpV (k1 * 1) (Sl.cs s4))) none)) (keep_bb h8) (eD (keep (hp 1 [oC q4]) (nthL (Sl.cs s4) (k1 * 1))) (keep_eq h9) (eC 2 (growD 1 8 n3 c99 1 0 q4 [(zI (wrapF .i64 (Int.sub x1 (1:Int))))] [] (hp 2 [oC q4,(oC [(zI (wrapF .i64 (Int.sub x1 (1:Int))))])])) (growD_eq h10) (eE)))) ?_
      replace hm:=bb_inv hm;obtain ⟨h11,hm⟩:=hm
      exact ⟨(s4,(n3 + 1),(d2 (n3 + 1)),b99,(Int.ofNat k1),(appL (dropL 0 q4) [(zI (wrapF .i64 (Int.sub x1 (1:Int))))])),hm,(.k [2] [] [.tmp 3 false] [0,3,4,5] ⟨trF h11,trivial⟩)⟩
     ·refine .ifF (ilt (1 : Int) x0) (by kernel_rfl) h7 ?_
      refine .skip ?_
      exact ⟨(s4,n3,c99,b99,(Int.ofNat k1),q4),hm,(.k [0] [] [.tmp 3 false] [0,3,4,5] ⟨trF h6,trivial⟩)⟩
    ·refine .join (v := v) (fun y : Sl × Nat × Nat × Bool × Int × Bool × LV => ((fr 50 [(0, (Sl.v 1 y.1)), (3, (sc 0 0 1 y.2.1 y.2.2.1)), (4, (zB y.2.2.2.1)), (5, (zI y.2.2.2.2.1)), (23, (zB y.2.2.2.2.2.1))]), (hp 1 [(oC y.2.2.2.2.2.2)]))) (fun y => m57_5 pu n (l57_2 pu n w0) y.1 y.2.1 y.2.2.1 y.2.2.2.1 y.2.2.2.2.1 y.2.2.2.2.2.1 y.2.2.2.2.2.2) ?_ ?_
     ·rintro ⟨s5, n4, c100, b100, z3, b101, q5⟩ hm
      unfold m57_5 at hm
      replace hm:=bb_cases hm;rcases hm with ⟨h12,hm⟩ | ⟨h12,hm⟩
      ·refine .ifT b101 (by kernel_rfl) h12 ?_
       refine .then ?_
       replace hm:=bb_inv hm;obtain ⟨h13,hm⟩:=hm
       refine .reg (eC 4 (growD 1 8 n4 c100 1 0 q5 [(zI (Int.ofNat (Sl.n s5)))] [] (hp 2 [oC q5,(oC [(zI (Int.ofNat (Sl.n s5)))])])) (growD_eq h13) (eE)) ?_
       replace hm:=bb_inv hm;obtain ⟨h14,hm⟩:=hm
       refine .ghs (fr 50 [(0,Sl.v 1 s5),(3,(sc 0 0 1 (n4 + 1) (d2 (n4 + 1)))),(5,zI z3)]) (hp 1 [(oC (appL (dropL 0 q5) [(zI (Int.ofNat (Sl.n s5)))]))]) (.k [2] [] [.tmp 3 false] [0,3,5] ⟨trF h14,trivial⟩) ?_
       refine .rK ?_
       exact ⟨(s5,(n4 + 1),(d2 (n4 + 1)),true,z3,(appL (dropL 0 q5) [(zI (Int.ofNat (Sl.n s5)))])),hm,(.k [0] [] [.tmp 3 false] [0,3,4,5] ⟨trF h14,trivial⟩)⟩
      ·refine .ifF b101 (by kernel_rfl) h12 ?_
       refine .skip ?_
       replace hm:=bb_inv hm;obtain ⟨h15,hm⟩:=hm
       exact ⟨(s5,n4,c100,b100,z3,q5),hm,(.k [0] [] [.tmp 3 false] [0,3,4,5] ⟨trF h15,trivial⟩)⟩
     ·replace hm := bb_cases hm; rcases hm with ⟨h16, hm⟩ | ⟨h16, hm⟩
      ·replace hm := oo_inv hm; obtain ⟨k2, h17, hm⟩ := hm
       obtain rfl:=toN_some h17
       replace hm:=bb_inv hm;obtain ⟨h18,hm⟩:=hm
       replace hm:=oo_inv hm;obtain ⟨v2,h19,hm⟩:=hm
       replace hm:=inv_toI hm;obtain ⟨x2,rfl,hm⟩:=hm
       refine .reg (eC 1 (some ((zB (nt b1)),(hp 1 [oC q2]))) (show _ = some ((zB true),_) from (by rw [h16])) (eC 3 (keep (hp 1 [oC q2]) (bb (an (Nat.blt k2 (Sl.n s2)) true) (some (fpV (k2 * 1) (Sl.cs s2))) none)) (keep_bb h18) (eD (keep (hp 1 [oC q2]) (nthL (Sl.cs s2) (k2 * 1))) (keep_eq h19) (eE)))) ?_
       exact ⟨(s2,n1,c1,b1,(Int.ofNat k2),(nt (ilt (Int.ofNat (Sl.n s2)) (wrapF .i64 (Int.sub x2 (1:Int))))),q2),hm,(.k [0] [] [.tmp 3 false] [0,3,4,5,23] ⟨trF h0,trivial⟩)⟩
      ·refine .reg (eC 1 (some ((zB (nt b1)), (hp 1 [oC q2]))) (show _ = some ((zB false), _) from (by rw [h16])) (eE)) ?_
       exact ⟨(s2,n1,c1,b1,z0,false,q2),hm,(.k [0] [] [.tmp 3 false] [0,3,4,5,23] ⟨trF h0,trivial⟩)⟩
  ·refine .ifF (ilt z0 (Int.ofNat (Sl.n s2))) (by kernel_rfl) h1 ?_
   refine .exit ?_
   exact ⟨(s2,n1,c1,b1,q2),hm,(.k [0] [] [.tmp 3 false] [0,3,4] ⟨trF h0,trivial⟩)⟩
def m58_0 (pu:PureF) (n:Nat) (s0 s1:Sl):OV:=
 (some (.bool (ilt (Int.ofNat (Sl.n s0)) (Int.ofNat (Sl.n s1)))))
def m58_2 (pu:PureF) (n:Nat) (ih0:Sl→Sl→Int→OV) (s0 s1:Sl) (z0:Int) (b0:Bool):OV:=
 (bb b0 (oo (toN z0) none fun k1=>(bb (an (Nat.blt k1 (Sl.n s0)) true) (oo (nthL (Sl.cs s0) (k1 * 1)) none fun v0=>(oo (toI .i64 v0) none fun x0=>(bb (an (Nat.blt k1 (Sl.n s1)) true) (oo (nthL (Sl.cs s1) (k1 * 1)) none fun v1=>(oo (toI .i64 v1) none fun x1=>(bb (nt (ieq x0 x1)) (bb (an (Nat.blt k1 (Sl.n s0)) true) (oo (nthL (Sl.cs s0) (k1 * 1)) none fun v2=>(oo (toI .i64 v2) none fun x2=>(bb (an (Nat.blt k1 (Sl.n s1)) true) (oo (nthL (Sl.cs s1) (k1 * 1)) none fun v3=>(oo (toI .i64 v3) none fun x3=>(some (.bool (ilt x2 x3))))) none))) none) (ih0 s0 s1 (wrapF .i64 (Int.add (Int.ofNat k1) (1:Int))))))) none))) none)) (m58_0 pu n s0 s1))
def b58_1 (pu:PureF) (n:Nat) (ih0:Sl→Sl→Int→OV) (s0 s1:Sl) (z0:Int):OV:=
 (bb (ilt z0 (Int.ofNat (Sl.n s0))) (m58_2 pu n ih0 s0 s1 z0 (ilt z0 (Int.ofNat (Sl.n s1)))) (m58_2 pu n ih0 s0 s1 z0 false))
def l58_1 (pu:PureF) (n w:Nat):Sl→Sl→Int→OV:=
 Nat.rec (motive:=fun _=>Sl→Sl→Int→OV) (fun _ _ _=>none) (fun _ ih0=>b58_1 pu n ih0) w
def m58_ (pu:PureF) (n:Nat) (s0 s1:Sl):OV:=
 (l58_1 pu n n s0 s1 (0:Int))
def m58 (pu:PureF) (n:Nat) (args:LV):OV:=
 (ll args none fun a0 args=>(ll args none fun a1 args=>(ll args (oo (toSl 1 a0) none fun s0=>(oo (toSl 1 a1) none fun s1=>(m58_ pu n s0 s1))) fun _ _=>none)))
theorem w58_0 (pu:PureF) (n:Nat) (s0 s1:Sl) {v:Value} (hm:m58_0 pu n s0 s1 = some v):Run tt (callP tabs isP pu (inl pu)) 0 c58_18 (fr 41 [(0,Sl.v 1 s0),(1,Sl.v 1 s1)]) (hp 0 []) (Fin tt 0 [.tmp 4] v):=by
 unfold m58_0 at hm
 refine .then (.rK ?_)
 refine .ghs (fr 41 [(4,(zB (ilt (Int.ofNat (Sl.n s0)) (Int.ofNat (Sl.n s1)))))]) (hp 0 []) (.k0 [] [] [4]) ?_
 refine .ret ?_
 exact fin_ret (zB (ilt (Int.ofNat (Sl.n s0)) (Int.ofNat (Sl.n s1)))) (by kernel_rfl) (by kernel_rfl) hm
theorem r58 {call:CallF} (pu:PureF) (n:Nat) (hcall:call = callP tabs isP pu (inl pu)) {args:LV} {v:Value} (hm:m58 pu n args = some v) (_:∀ x ∈ args,closed2 x = true):args.length≤41∧Run tt call 0 c58_20 (Fr.made 41 args) (pureHeap tabs) (Fin tt 0 [.tmp 4] v):=by
 subst hcall
 unfold m58 at hm
 replace hm:=ll_uncons hm;obtain ⟨a0,args_0,rfl,hm⟩:=hm
 replace hm:=ll_uncons hm;obtain ⟨a1,args_1,rfl,hm⟩:=hm
 replace hm:=ll_end hm;obtain ⟨rfl,hm⟩:=hm
 replace hm:=inv_toSl hm;obtain ⟨s0,rfl,hm⟩:=hm
 replace hm:=inv_toSl hm;obtain ⟨s1,rfl,hm⟩:=hm
 unfold m58_ at hm
 refine ⟨by simp,?_⟩
 refine .same (F':=(fr 41 [(0,Sl.v 1 s0),(1,Sl.v 1 s1)])) (H':=(hp 0 [])) (by kernel_rfl) (by kernel_rfl) ?_
 refine .then (.rK ?_)
 refine .ghs (fr 41 [(0,Sl.v 1 s0),(1,Sl.v 1 s1)]) (hp 0 []) (.k0 [] [] [0,1]) ?_
 refine .join (v:=v) (fun y:Sl×Sl=>((fr 41 [(0,(Sl.v 1 y.1)),(1,(Sl.v 1 y.2))]),(hp 0 []))) (fun y=>m58_0 pu n y.1 y.2) ?_ ?_
 ·rintro ⟨s2, s3⟩ hm
  exact w58_0 pu n s2 s3 hm
 ·refine .then (.rK ?_)
  refine .ghs (fr 41 [(0,Sl.v 1 s0),(1,Sl.v 1 s1),(5,(zI (0:Int)))]) (hp 0 []) (.k0 [] [] [0,1,5]) ?_
  refine .block ?_
  refine .loopM (v:=v) (fun y:Sl×Sl×Int=>((fr 41 [(0,(Sl.v 1 y.1)),(1,(Sl.v 1 y.2.1)),(5,(zI y.2.2))]),(hp 0 []))) (fun w y=>l58_1 pu n w y.1 y.2.1 y.2.2) n ⟨(s0,s1,(0:Int)),hm,(.k0 [] [] [0,1,5])⟩ (fun _=>rfl) ?_
  rintro w0 ⟨s4,s5,z0⟩ hm
  replace hm:b58_1 pu n (l58_1 pu n w0) s4 s5 z0 = some v:=hm
  unfold b58_1 at hm
  refine .then ?_
  refine .join (v:=v) (fun y:Sl×Sl×Int×Bool=>((fr 41 [(0,(Sl.v 1 y.1)),(1,(Sl.v 1 y.2.1)),(5,(zI y.2.2.1)),(15,(zB y.2.2.2))]),(hp 0 []))) (fun y=>m58_2 pu n (l58_1 pu n w0) y.1 y.2.1 y.2.2.1 y.2.2.2) ?_ ?_
  ·rintro ⟨s6, s7, z1, b0⟩ hm
   unfold m58_2 at hm
   replace hm:=bb_cases hm;rcases hm with ⟨h0,hm⟩ | ⟨h0,hm⟩
   ·refine .ifT b0 (by kernel_rfl) h0 ?_
    refine .skip ?_
    refine .ghs (fr 41 [(0,Sl.v 1 s6),(1,Sl.v 1 s7),(5,zI z1)]) (hp 0 []) (.k0 [] [] [0,1,5]) ?_
    refine .then ?_
    refine .block ?_
    refine .then ?_
    replace hm:=oo_inv hm;obtain ⟨k1,h1,hm⟩:=hm
    obtain rfl:=toN_some h1
    replace hm:=bb_inv hm;obtain ⟨h2,hm⟩:=hm
    replace hm:=oo_inv hm;obtain ⟨v0,h3,hm⟩:=hm
    replace hm:=inv_toI hm;obtain ⟨x0,rfl,hm⟩:=hm
    replace hm:=bb_inv hm;obtain ⟨h4,hm⟩:=hm
    replace hm:=oo_inv hm;obtain ⟨v1,h5,hm⟩:=hm
    replace hm:=inv_toI hm;obtain ⟨x1,rfl,hm⟩:=hm
    refine .reg (eC 2 (keep (hp 0 []) (bb (an (Nat.blt k1 (Sl.n s6)) true) (some (fpV (k1 * 1) (Sl.cs s6))) none)) (keep_bb h2) (eD (keep (hp 0 []) (nthL (Sl.cs s6) (k1 * 1))) (keep_eq h3) (eC 2 (keep (hp 0 []) (bb (an (Nat.blt k1 (Sl.n s7)) true) (some (fpV (k1 * 1) (Sl.cs s7))) none)) (keep_bb h4) (eD (keep (hp 0 []) (nthL (Sl.cs s7) (k1 * 1))) (keep_eq h5) (eE))))) ?_
    refine .ghs (fr 41 [(0,Sl.v 1 s6),(1,Sl.v 1 s7),(5,(zI (Int.ofNat k1))),(26,(zB (nt (ieq x0 x1))))]) (hp 0 []) (.k0 [] [] [0,1,5,26]) ?_
    replace hm:=bb_cases hm;rcases hm with ⟨h6,hm⟩ | ⟨h6,hm⟩
    ·refine .ifT (nt (ieq x0 x1)) (by kernel_rfl) h6 ?_
     refine .then ?_
     replace hm:=bb_inv hm;obtain ⟨h7,hm⟩:=hm
     replace hm:=oo_inv hm;obtain ⟨v2,h8,hm⟩:=hm
     replace hm:=inv_toI hm;obtain ⟨x2,rfl,hm⟩:=hm
     replace hm:=bb_inv hm;obtain ⟨h9,hm⟩:=hm
     replace hm:=oo_inv hm;obtain ⟨v3,h10,hm⟩:=hm
     replace hm:=inv_toI hm;obtain ⟨x3,rfl,hm⟩:=hm
     refine .reg (eC 2 (keep (hp 0 []) (bb (an (Nat.blt k1 (Sl.n s6)) true) (some (fpV (k1 * 1) (Sl.cs s6))) none)) (keep_bb h7) (eD (keep (hp 0 []) (nthL (Sl.cs s6) (k1 * 1))) (keep_eq h8) (eC 2 (keep (hp 0 []) (bb (an (Nat.blt k1 (Sl.n s7)) true) (some (fpV (k1 * 1) (Sl.cs s7))) none)) (keep_bb h9) (eD (keep (hp 0 []) (nthL (Sl.cs s7) (k1 * 1))) (keep_eq h10) (eE))))) ?_
     refine .ghs (fr 41 [(4,(zB (ilt x2 x3)))]) (hp 0 []) (.k0 [] [] [4]) ?_
     refine .ret ?_
     exact fin_ret (zB (ilt x2 x3)) (by kernel_rfl) (by kernel_rfl) hm
    ·refine .ifF (nt (ieq x0 x1)) (by kernel_rfl) h6 ?_
     refine .skip ?_
     refine .ghs (fr 41 [(0,Sl.v 1 s6),(1,Sl.v 1 s7),(5,(zI (Int.ofNat k1)))]) (hp 0 []) (.k0 [] [] [0,1,5]) ?_
     refine .rK ?_
     exact ⟨(s6,s7,(wrapF .i64 (Int.add (Int.ofNat k1) (1:Int)))),hm,(.k0 [] [] [0,1,5])⟩
   ·refine .ifF b0 (by kernel_rfl) h0 ?_
    refine .exit ?_
    exact ⟨(s6,s7),hm,(.k0 [] [] [0,1])⟩
  ·replace hm := bb_cases hm; rcases hm with ⟨h11, hm⟩ | ⟨h11, hm⟩
   ·refine .reg (eC 3 (some ((zB (ilt z0 (Int.ofNat (Sl.n s4)))), (hp 0 []))) (show _ = some ((zB true), _) from (by rw [h11])) (eE)) ?_
    exact ⟨(s4,s5,z0,(ilt z0 (Int.ofNat (Sl.n s5)))),hm,(.k0 [] [] [0,1,5,15])⟩
   ·refine .reg (eC 3 (some ((zB (ilt z0 (Int.ofNat (Sl.n s4)))), (hp 0 []))) (show _ = some ((zB false), _) from (by rw [h11])) (eE)) ?_
    exact ⟨(s4,s5,z0,false),hm,(.k0 [] [] [0,1,5,15])⟩

def m62_ (pu:PureF) (n:Nat) (x0 x1:Int):OV:=
 (oo (pu 77 [.int .i64 x0]) none fun v0=>(oo (vBool v0) none fun b0=>(oo (pu 77 [.int .i64 x1]) none fun v1=>(oo (vBool v1) none fun b1=>(bb b0 (bb b1 (some (.int .i64 (0:Int))) (some (.int .i64 (-1:Int)))) (bb b1 (some (.int .i64 (1:Int))) (bb (ilt x0 x1) (some (.int .i64 (-1:Int))) (bb (ilt x1 x0) (some (.int .i64 (1:Int))) (some (.int .i64 (0:Int)))))))))))
def m62 (pu:PureF) (n:Nat) (args:LV):OV:=
 (ll args none fun a0 args=>(ll args none fun a1 args=>(ll args (oo (toI .i64 a0) none fun x0=>(oo (toI .i64 a1) none fun x1=>(m62_ pu n x0 x1))) fun _ _=>none)))
theorem r62 {call:CallF} (pu:PureF) (n:Nat) (hcall:call = callP tabs isP pu (inl pu)) {args:LV} {v:Value} (hm:m62 pu n args = some v) (_:∀ x ∈ args,closed2 x = true):args.length≤20∧Run tt call 0 c62_37 (Fr.made 20 args) (pureHeap tabs) (Fin tt 0 [.tmp 4] v):=by
 subst hcall
 unfold m62 at hm
 replace hm:=ll_uncons hm;obtain ⟨a0,args_0,rfl,hm⟩:=hm
 replace hm:=ll_uncons hm;obtain ⟨a1,args_1,rfl,hm⟩:=hm
 replace hm:=ll_end hm;obtain ⟨rfl,hm⟩:=hm
 replace hm:=inv_toI hm;obtain ⟨x0,rfl,hm⟩:=hm
 replace hm:=inv_toI hm;obtain ⟨x1,rfl,hm⟩:=hm
 unfold m62_ at hm
 refine ⟨by simp,?_⟩
 refine .same (F':=(fr 20 [(0,zI x0),(1,zI x1)])) (H':=(hp 0 [])) (by kernel_rfl) (by kernel_rfl) ?_
 refine .then (.rK ?_)
 refine .ghs (fr 20 [(0,zI x0),(1,zI x1)]) (hp 0 []) (.k0 [] [] [0,1]) ?_
 refine .then ?_
 replace hm:=oo_inv hm;obtain ⟨v0,h0,hm⟩:=hm
 replace hm:=inv_vBool hm;obtain ⟨b0,rfl,hm⟩:=hm
 refine .reg (eC 1 ((oo (pu 77 [zI x0]) none fun v=>some (v,(hp 0 [])))) (call_eq h0) (eE)) ?_
 refine .ghs (fr 20 [(0,zI x0),(1,zI x1),(5,zB b0)]) (hp 0 []) (.k0 [] [] [0,1,5]) ?_
 refine .then ?_
 replace hm:=oo_inv hm;obtain ⟨v1,h1,hm⟩:=hm
 replace hm:=inv_vBool hm;obtain ⟨b1,rfl,hm⟩:=hm
 refine .reg (eC 1 ((oo (pu 77 [zI x1]) none fun v=>some (v,(hp 0 [])))) (call_eq h1) (eE)) ?_
 refine .ghs (fr 20 [(0,zI x0),(1,zI x1),(5,zB b0),(6,zB b1)]) (hp 0 []) (.k0 [] [] [0,1,5,6]) ?_
 refine .then ?_
 refine .then (.rK ?_)
 refine .ghs (fr 20 [(0,zI x0),(1,zI x1),(6,zB b1),(11,zB b0)]) (hp 0 []) (.k0 [] [] [0,1,6,11]) ?_
 replace hm:=bb_cases hm;rcases hm with ⟨h2,hm⟩ | ⟨h2,hm⟩
 ·refine .ifT b0 (by kernel_rfl) h2 ?_
  refine .then ?_
  refine .then (.rK ?_)
  refine .ghs (fr 20 [(12,zB b1)]) (hp 0 []) (.k0 [] [] [12]) ?_
  replace hm:=bb_cases hm;rcases hm with ⟨h3,hm⟩ | ⟨h3,hm⟩
  ·refine .ifT b1 (by kernel_rfl) h3 ?_
   refine .then (.rK ?_)
   refine .ghs (fr 20 [(4,(zI (0:Int)))]) (hp 0 []) (.k0 [] [] [4]) ?_
   refine .ret ?_
   exact fin_ret (zI (0:Int)) (by kernel_rfl) (by kernel_rfl) hm
  ·refine .ifF b1 (by kernel_rfl) h3 ?_
   refine .skip ?_
   refine .ghs (fr 20 []) (hp 0 []) (.k0 [] [] []) ?_
   refine .then (.rK ?_)
   refine .ghs (fr 20 [(4,(zI (-1:Int)))]) (hp 0 []) (.k0 [] [] [4]) ?_
   refine .ret ?_
   exact fin_ret (zI (-1:Int)) (by kernel_rfl) (by kernel_rfl) hm
 ·refine .ifF b0 (by kernel_rfl) h2 ?_
  refine .skip ?_
  refine .ghs (fr 20 [(0,zI x0),(1,zI x1),(6,zB b1)]) (hp 0 []) (.k0 [] [] [0,1,6]) ?_
  refine .then ?_
  refine .then (.rK ?_)
  refine .ghs (fr 20 [(0,zI x0),(1,zI x1),(13,zB b1)]) (hp 0 []) (.k0 [] [] [0,1,13]) ?_
  replace hm:=bb_cases hm;rcases hm with ⟨h4,hm⟩ | ⟨h4,hm⟩
  ·refine .ifT b1 (by kernel_rfl) h4 ?_
   refine .then (.rK ?_)
   refine .ghs (fr 20 [(4,(zI (1:Int)))]) (hp 0 []) (.k0 [] [] [4]) ?_
   refine .ret ?_
   exact fin_ret (zI (1:Int)) (by kernel_rfl) (by kernel_rfl) hm
  ·refine .ifF b1 (by kernel_rfl) h4 ?_
   refine .skip ?_
   refine .ghs (fr 20 [(0,zI x0),(1,zI x1)]) (hp 0 []) (.k0 [] [] [0,1]) ?_
   refine .then ?_
   refine .then (.rK ?_)
   refine .ghs (fr 20 [(0,zI x0),(1,zI x1),(16,(zB (ilt x0 x1)))]) (hp 0 []) (.k0 [] [] [0,1,16]) ?_
   replace hm:=bb_cases hm;rcases hm with ⟨h5,hm⟩ | ⟨h5,hm⟩
   ·refine .ifT (ilt x0 x1) (by kernel_rfl) h5 ?_
    refine .then (.rK ?_)
    refine .ghs (fr 20 [(4,(zI (-1:Int)))]) (hp 0 []) (.k0 [] [] [4]) ?_
    refine .ret ?_
    exact fin_ret (zI (-1:Int)) (by kernel_rfl) (by kernel_rfl) hm
   ·refine .ifF (ilt x0 x1) (by kernel_rfl) h5 ?_
    refine .skip ?_
    refine .ghs (fr 20 [(0,zI x0),(1,zI x1)]) (hp 0 []) (.k0 [] [] [0,1]) ?_
    refine .then ?_
    refine .then (.rK ?_)
    refine .ghs (fr 20 [(19,(zB (ilt x1 x0)))]) (hp 0 []) (.k0 [] [] [19]) ?_
    replace hm:=bb_cases hm;rcases hm with ⟨h6,hm⟩ | ⟨h6,hm⟩
    ·refine .ifT (ilt x1 x0) (by kernel_rfl) h6 ?_
     refine .then (.rK ?_)
     refine .ghs (fr 20 [(4,(zI (1:Int)))]) (hp 0 []) (.k0 [] [] [4]) ?_
     refine .ret ?_
     exact fin_ret (zI (1:Int)) (by kernel_rfl) (by kernel_rfl) hm
    ·refine .ifF (ilt x1 x0) (by kernel_rfl) h6 ?_
     refine .skip ?_
     refine .ghs (fr 20 []) (hp 0 []) (.k0 [] [] []) ?_
     refine .then (.rK ?_)
     refine .ghs (fr 20 [(4,(zI (0:Int)))]) (hp 0 []) (.k0 [] [] [4]) ?_
     refine .ret ?_
     exact fin_ret (zI (0:Int)) (by kernel_rfl) (by kernel_rfl) hm
end
end Go.HvRM
set_option maxRecDepth 100000
set_option maxHeartbeats 20000000
set_option linter.unusedVariables false
namespace Go.HvRM
open Go.Sp Go.HvR
noncomputable section

def m77_ (pu:PureF) (n:Nat) (x0:Int):OV:=
 (some (.bool (nt (ieq x0 x0))))
def m77 (pu:PureF) (n:Nat) (args:LV):OV:=
 (ll args none fun a0 args=>(ll args (oo (toI .i64 a0) none fun x0=>(m77_ pu n x0)) fun _ _=>none))
theorem r77 {call:CallF} (pu:PureF) (n:Nat) (hcall:call = callP tabs isP pu (inl pu)) {args:LV} {v:Value} (hm:m77 pu n args = some v) (_:∀ x ∈ args,closed2 x = true):args.length≤6∧Run tt call 0 c77_3 (Fr.made 6 args) (pureHeap tabs) (Fin tt 0 [.tmp 2] v):=by
 subst hcall
 unfold m77 at hm
 replace hm:=ll_uncons hm;obtain ⟨a0,args_0,rfl,hm⟩:=hm
 replace hm:=ll_end hm;obtain ⟨rfl,hm⟩:=hm
 replace hm:=inv_toI hm;obtain ⟨x0,rfl,hm⟩:=hm
 unfold m77_ at hm
 refine ⟨by simp,?_⟩
 refine .same (F':=(fr 6 [(0,zI x0)])) (H':=(hp 0 [])) (by kernel_rfl) (by kernel_rfl) ?_
 refine .then (.rK ?_)
 refine .ghs (fr 6 [(0,zI x0)]) (hp 0 []) (.k0 [] [] [0]) ?_
 refine .then (.rK ?_)
 refine .ghs (fr 6 [(2,(zB (nt (ieq x0 x0))))]) (hp 0 []) (.k0 [] [] [2]) ?_
 refine .ret ?_
 exact fin_ret (zB (nt (ieq x0 x0))) (by kernel_rfl) (by kernel_rfl) hm
end
end Go.HvRM
set_option maxRecDepth 100000
namespace Go.HvRM
open Go.Sp Go.HvR
noncomputable section
def L:Nat:=1000000
def disp (pu:PureF):PureF:=fun g args=>
 bb (Nat.beq g 3) (m3 pu L args) (bb (Nat.beq g 4) (m4 pu L args) (bb (Nat.beq g 6) (m6 pu L args) (bb (Nat.beq g 7) (m7 pu L args) (bb (Nat.beq g 9) (m9 pu L args) (bb (Nat.beq g 10) (m10 pu L args) (bb (Nat.beq g 21) (m21 pu L args) (bb (Nat.beq g 23) (m23 pu L args) (bb (Nat.beq g 24) (m24 pu L args) (bb (Nat.beq g 25) (m25 pu L args) (bb (Nat.beq g 27) (m27 pu L args) (bb (Nat.beq g 28) (m28 pu L args) (bb (Nat.beq g 29) (m29 pu L args) (bb (Nat.beq g 30) (m30 pu L args) (bb (Nat.beq g 31) (m31 pu L args) (bb (Nat.beq g 32) (m32 pu L args) (bb (Nat.beq g 33) (m33 pu L args) (bb (Nat.beq g 42) (m42 pu L args) (bb (Nat.beq g 43) (m43 pu L args) (bb (Nat.beq g 44) (m44 pu L args) (bb (Nat.beq g 45) (m45 pu L args) (bb (Nat.beq g 46) (m46 pu L args) (bb (Nat.beq g 47) (m47 pu L args) (bb (Nat.beq g 48) (m48 pu L args) (bb (Nat.beq g 49) (m49 pu L args) (bb (Nat.beq g 54) (m54 pu L args) (bb (Nat.beq g 56) (m56 pu L args) (bb (Nat.beq g 57) (m57 pu L args) (bb (Nat.beq g 58) (m58 pu L args) (bb (Nat.beq g 62) (m62 pu L args) (bb (Nat.beq g 77) (m77 pu L args) (bb (Nat.beq g 5) (orc5 args) (bb (Nat.beq g 8) (orc8 args) (bb (Nat.beq g 26) (orc26 args) (bb (Nat.beq g 53) (orc53 args) (bb (Nat.beq g 63) (orc63 args) (none))))))))))))))))))))))))))))))))))))
def puN:Nat→PureF:=fun n=>Nat.rec (motive:=fun _=>PureF) (fun _ _=>none) (fun _ ih=>disp ih) n
end
end Go.HvRM
