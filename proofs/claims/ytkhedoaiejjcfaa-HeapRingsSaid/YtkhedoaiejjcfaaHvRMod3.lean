/- Made from wip. -/
import Derived.Test.YtkhedoaiejjcfaaHvRMod1x

set_option maxRecDepth 100000
set_option maxHeartbeats 20000000
set_option linter.unusedVariables false
namespace Go.HvRM
open Go.Sp Go.HvR
noncomputable section
def m25_0 (pu:PureF) (n n0 c0:Nat) (z0:Int) (q1:LV):OV:=
 (bb (an (Nat.ble (0 + n0 * 1) (len q1)) (allL closed1 (takeL (n0 * 1) (dropL 0 q1)))) (bb (nt (Nat.beq (Sl.fl (Sl.mk n0 0 (takeL (n0 * 1) (dropL 0 q1)))) 2)) (oo (toN z0) none fun k1=>(bb (Nat.ble k1 (Sl.n (Sl.mk n0 0 (takeL (n0 * 1) (dropL 0 q1))))) (bb (nt (Nat.beq (Sl.fl (Sl.mk n0 0 (takeL (n0 * 1) (dropL 0 q1)))) 2)) (bb (Nat.ble k1 (Sl.n (Sl.mk n0 0 (takeL (n0 * 1) (dropL 0 q1))))) (oo (pu 53 [(Sl.v 1 (Sl.mk 2 0 (takeL (2 * 1) (dropL 0 ([(Sl.v 1 (Sl.mk ((Sl.n (Sl.mk n0 0 (takeL (n0 * 1) (dropL 0 q1)))) - k1) (bb (an (Nat.beq (Sl.n (Sl.mk n0 0 (takeL (n0 * 1) (dropL 0 q1)))) (Sl.n (Sl.mk n0 0 (takeL (n0 * 1) (dropL 0 q1))))) (orr false (Nat.beq (Sl.fl (Sl.mk n0 0 (takeL (n0 * 1) (dropL 0 q1)))) 1))) 1 0) (takeL (((Sl.n (Sl.mk n0 0 (takeL (n0 * 1) (dropL 0 q1)))) - k1) * 1) (dropL (k1 * 1) (Sl.cs (Sl.mk n0 0 (takeL (n0 * 1) (dropL 0 q1)))))))),(Sl.v 1 (Sl.mk (k1 - 0) (bb (an (Nat.beq k1 (Sl.n (Sl.mk n0 0 (takeL (n0 * 1) (dropL 0 q1))))) (orr false (Nat.beq (Sl.fl (Sl.mk n0 0 (takeL (n0 * 1) (dropL 0 q1)))) 1))) 1 0) (takeL ((k1 - 0) * 1) (dropL (0 * 1) (Sl.cs (Sl.mk n0 0 (takeL (n0 * 1) (dropL 0 q1))))))))]:LV)))))]) none fun v0=>(oo (toSl 1 v0) none fun s0=>(some (Sl.v 1 s0)))) none) none) none)) none) none)
def m25_3 (pu:PureF) (n:Nat) (ih0:Nat→Nat→Int→Int→LV→LV→LV→OV) (n0 c0:Nat) (z0 z1:Int) (q1:LV) (q2:LV) (q3:LV):OV:=
 (bb (Nat.ble (0 + 22) (len q3)) (bb (Nat.beq (len (takeL 22 (dropL 0 q3))) 22) (bb (an (Nat.ble (0 + len (takeL 22 (dropL 0 q3))) (len zA51)) (allL scalarB (takeL 22 (dropL 0 q3)))) (bb (allL closed1 q1) (bb (allL closed1 q2) (bb (allL closed1 (setL (takeL 22 (dropL 0 q3)) 0 zA51)) (bb (Nat.ble (0 + 22) (len (setL (takeL 22 (dropL 0 q3)) 0 zA51))) (oo (pu 45 [(.agg ⟨(takeL 22 (dropL 0 (setL (takeL 22 (dropL 0 q3)) 0 zA51)))⟩)]) none fun v0=>(oo (vAgg v0) none fun q4=>(bb (an (Nat.beq (len q4) 22) (allL closed1 q4)) (bb (allL closed2 [(.agg ⟨(takeL 22 (dropL 0 (setL (takeL 22 (dropL 0 q3)) 0 zA51)))⟩)]) (bb (Nat.beq (len q4) 22) (bb (an (Nat.ble (0 + len q4) (len (setL (takeL 22 (dropL 0 q3)) 0 zA51))) (allL scalarB q4)) (bb (allL closed1 (setL q4 0 (setL (takeL 22 (dropL 0 q3)) 0 zA51))) (ih0 n0 c0 z0 (wrapF .i64 (Int.add z1 (1:Int))) q1 q2 (setL q4 0 (setL (takeL 22 (dropL 0 q3)) 0 zA51))) none) none) none) none) none))) none) none) none) none) none) none) none)
def m25_2 (pu:PureF) (n:Nat) (ih0:Nat→Nat→Int→Int→LV→LV→LV→OV) (n0 c0:Nat) (z0 z1:Int) (b0:Bool) (q1:LV) (q2:LV) (q3:LV):OV:=
 (bb b0 (bb (allL closed1 q1) (bb (allL closed1 q2) (bb (allL closed1 q3) (bb (Nat.ble (0 + 22) (len q3)) (oo (pu 46 [(.agg ⟨(takeL 22 (dropL 0 q3))⟩)]) none fun v0=>(oo (toSl 1 v0) none fun s0=>(bb (allL closed2 [(.agg ⟨(takeL 22 (dropL 0 q3))⟩)]) (bb (an (Nat.ble (0 + (Sl.n s0) * 1) (len (Sl.cs s0))) (allL closed1 (takeL ((Sl.n s0) * 1) (dropL 0 (Sl.cs s0))))) (bb (growC 1 24 n0 c0 1 q2) (bb (allL closed1 (appL (dropL 0 q2) [(Sl.v 1 (Sl.mk (Sl.n s0) 0 (takeL ((Sl.n s0) * 1) (dropL 0 (Sl.cs s0)))))])) (oo (toN z1) none fun k1=>(bb (an (Nat.blt k1 (n0 + 1)) true) (oo (nthL (appL (dropL 0 q2) [(Sl.v 1 (Sl.mk (Sl.n s0) 0 (takeL ((Sl.n s0) * 1) (dropL 0 (Sl.cs s0)))))]) (0 + k1 * 1)) none fun v1=>(oo (toSl 1 v1) none fun s1=>(oo (toN z0) none fun k2=>(bb (an (Nat.blt k2 (n0 + 1)) true) (oo (nthL (appL (dropL 0 q2) [(Sl.v 1 (Sl.mk (Sl.n s0) 0 (takeL ((Sl.n s0) * 1) (dropL 0 (Sl.cs s0)))))]) (0 + k2 * 1)) none fun v2=>(oo (toSl 1 v2) none fun s2=>(oo (pu 42 [Sl.v 1 s1,Sl.v 1 s2]) none fun v3=>(oo (toI .i64 v3) none fun x0=>(bb (ilt x0 (0:Int)) (m25_3 pu n ih0 (n0 + 1) (2 * (n0 + 1) + bb false 1 0) (Int.ofNat k1) (Int.ofNat k1) q1 (appL (dropL 0 q2) [(Sl.v 1 (Sl.mk (Sl.n s0) 0 (takeL ((Sl.n s0) * 1) (dropL 0 (Sl.cs s0)))))]) q3) (m25_3 pu n ih0 (n0 + 1) (2 * (n0 + 1) + bb false 1 0) (Int.ofNat k2) (Int.ofNat k1) q1 (appL (dropL 0 q2) [(Sl.v 1 (Sl.mk (Sl.n s0) 0 (takeL ((Sl.n s0) * 1) (dropL 0 (Sl.cs s0)))))]) q3)))))) none)))) none)) none) none) none) none))) none) none) none) none) (bb (allL closed1 q2) (m25_0 pu n n0 c0 z0 q2) none))
def b25_1 (pu:PureF) (n:Nat) (ih0:Nat→Nat→Int→Int→LV→LV→LV→OV) (n0 c0:Nat) (z0 z1:Int) (q1:LV) (q2:LV) (q3:LV):OV:=
 (bb (ieq z1 (0:Int)) (bb (allL closed1 q1) (bb (allL closed1 q2) (bb (allL closed1 q3) (m25_2 pu n ih0 n0 c0 z0 z1 true q1 q2 q3) none) none) none) (bb (Nat.ble (0 + 22) (len q3)) (bb (Nat.ble (0 + 22) (len q1)) (bb (flatLike ti51 (takeL 22 (dropL 0 q3))) (oo (cellsEq (takeL 22 (dropL 0 q3)) (takeL 22 (dropL 0 q1))) none fun b0=>(bb (allL closed1 q1) (bb (allL closed1 q2) (bb (allL closed1 q3) (m25_2 pu n ih0 n0 c0 z0 z1 (bq false b0) q1 q2 q3) none) none) none)) none) none) none))
def l25_1 (pu:PureF) (n w:Nat):Nat→Nat→Int→Int→LV→LV→LV→OV:=
 Nat.rec (motive:=fun _=>Nat→Nat→Int→Int→LV→LV→LV→OV) (fun _ _ _ _ _ _ _=>none) (fun _ ih0=>b25_1 pu n ih0) w
def m25_ (pu:PureF) (n:Nat) (q1:LV):OV:=
 (bb (allL closed1 q1) (bb (Nat.ble (0 + 22) (len q1)) (oo (pu 49 [(.agg ⟨(takeL 22 (dropL 0 q1))⟩)]) none fun v0=>(oo (vTup v0) none fun l0=>(ll l0 none fun v1 l0=>(ll l0 none fun v2 l0=>(ll l0 (oo (toI .i64 v1) none fun x0=>(oo (vAgg v2) none fun q2=>(bb (an (Nat.beq (len q2) 22) (allL closed1 q2)) (bb (allL closed2 [(.agg ⟨(takeL 22 (dropL 0 q1))⟩)]) (bb (Nat.beq (len q2) 22) (bb (an (Nat.ble (0 + len q2) (len zA51)) (allL scalarB q2)) (bb (allL closed1 (setL q2 0 zA51)) (bb (Nat.ble (0 + 22) (len (setL q2 0 zA51))) (bb (Nat.beq (len (takeL 22 (dropL 0 (setL q2 0 zA51)))) 22) (bb (an (Nat.ble (0 + len (takeL 22 (dropL 0 (setL q2 0 zA51)))) (len zA51)) (allL scalarB (takeL 22 (dropL 0 (setL q2 0 zA51))))) (bb (allL closed1 (setL (takeL 22 (dropL 0 (setL q2 0 zA51))) 0 zA51)) (l25_1 pu n n 0 0 (0:Int) (0:Int) (setL q2 0 zA51) ([]:LV) (setL (takeL 22 (dropL 0 (setL q2 0 zA51))) 0 zA51)) none) none) none) none) none) none) none) none) none))) fun _ _=>none))))) none) none)
def m25 (pu:PureF) (n:Nat) (args:LV):OV:=
 (ll args none fun a0 args=>(ll args (oo (vAgg a0) none fun q1=>(bb (an (Nat.beq (len q1) 22) (allL closed1 q1)) (m25_ pu n q1) none)) fun _ _=>none))
theorem w25_0 (pu:PureF) (n n0 c0:Nat) (z0:Int) (q1:LV) {v:Value} (hm:m25_0 pu n n0 c0 z0 q1 = some v):Run tt (callP tabs isP pu (inl pu)) 0 c25_26 (fr 51 [(5,sc 0 0 1 n0 c0),(6,zI z0)]) (hp 1 [oC q1]) (Fin tt 0 [.tmp 2] v):=by
 unfold m25_0 at hm
 refine .then ?_
 replace hm:=bb_inv hm;obtain ⟨h0,hm⟩:=hm
 refine .ghs (Fr.puts (fr 51 [(5,sc 0 0 1 n0 c0),(6,zI z0)]) [(5,(Sl.v 1 (Sl.mk n0 0 (takeL (n0 * 1) (dropL 0 q1)))))]) (hp 1 [.dead]) (.freezeC 0 5 1 (an (Nat.ble (0 + n0 * 1) (len q1)) (allL closed1 (takeL (n0 * 1) (dropL 0 q1)))) (F1:=(Fr.puts (fr 51 [(5,sc 0 0 1 n0 c0),(6,zI z0)]) [(5,(Sl.v 1 (Sl.mk n0 0 (takeL (n0 * 1) (dropL 0 q1)))))])) (H1:=(hp 1 [.dead])) (by kernel_rfl) (by kernel_rfl) h0 (GhS.id _ _)) ?_
 replace hm:=bb_inv hm;obtain ⟨h1,hm⟩:=hm
 replace hm:=oo_inv hm;obtain ⟨k1,h2,hm⟩:=hm
 obtain rfl:=toN_some h2
 replace hm:=bb_inv hm;obtain ⟨h3,hm⟩:=hm
 replace hm:=bb_inv hm;obtain ⟨h4,hm⟩:=hm
 replace hm:=bb_inv hm;obtain ⟨h5,hm⟩:=hm
 replace hm:=oo_inv hm;obtain ⟨v0,h6,hm⟩:=hm
 replace hm:=inv_toSl hm;obtain ⟨s0,rfl,hm⟩:=hm
 refine .reg (eC 2 (keep (hp 1 [.dead]) (asliceFs ti22 ⟨1,(Sl.n (Sl.mk n0 0 (takeL (n0 * 1) (dropL 0 q1)))),(Sl.fl (Sl.mk n0 0 (takeL (n0 * 1) (dropL 0 q1)))),(Sl.cs (Sl.mk n0 0 (takeL (n0 * 1) (dropL 0 q1))))⟩ (some (zI (Int.ofNat k1))) none none)) (asliceFs_eq (c1:=true) (c2:=(Nat.ble k1 (Sl.n (Sl.mk n0 0 (takeL (n0 * 1) (dropL 0 q1)))))) (l:=k1) (h:=(Sl.n (Sl.mk n0 0 (takeL (n0 * 1) (dropL 0 q1))))) h1 (by kernel_rfl) (by kernel_rfl) rfl (by kernel_rfl) h3) (eC 2 (keep (hp 1 [.dead]) (asliceFs ti22 ⟨1,(Sl.n (Sl.mk n0 0 (takeL (n0 * 1) (dropL 0 q1)))),(Sl.fl (Sl.mk n0 0 (takeL (n0 * 1) (dropL 0 q1)))),(Sl.cs (Sl.mk n0 0 (takeL (n0 * 1) (dropL 0 q1))))⟩ none (some (zI (Int.ofNat k1))) none)) (asliceFs_eq (c1:=(Nat.ble k1 (Sl.n (Sl.mk n0 0 (takeL (n0 * 1) (dropL 0 q1)))))) (c2:=true) (l:=0) (h:=k1) h4 (by kernel_rfl) (by kernel_rfl) h5 (by kernel_rfl) rfl) (eC 1 (giveF tabs 1 (pu 53) [sc 1 0 1 2 5] (hp 2 [.dead,(oC [(Sl.v 1 (Sl.mk ((Sl.n (Sl.mk n0 0 (takeL (n0 * 1) (dropL 0 q1)))) - k1) (bb (an (Nat.beq (Sl.n (Sl.mk n0 0 (takeL (n0 * 1) (dropL 0 q1)))) (Sl.n (Sl.mk n0 0 (takeL (n0 * 1) (dropL 0 q1))))) (orr false (Nat.beq (Sl.fl (Sl.mk n0 0 (takeL (n0 * 1) (dropL 0 q1)))) 1))) 1 0) (takeL (((Sl.n (Sl.mk n0 0 (takeL (n0 * 1) (dropL 0 q1)))) - k1) * 1) (dropL (k1 * 1) (Sl.cs (Sl.mk n0 0 (takeL (n0 * 1) (dropL 0 q1)))))))),(Sl.v 1 (Sl.mk (k1 - 0) (bb (an (Nat.beq k1 (Sl.n (Sl.mk n0 0 (takeL (n0 * 1) (dropL 0 q1))))) (orr false (Nat.beq (Sl.fl (Sl.mk n0 0 (takeL (n0 * 1) (dropL 0 q1)))) 1))) 1 0) (takeL ((k1 - 0) * 1) (dropL (0 * 1) (Sl.cs (Sl.mk n0 0 (takeL (n0 * 1) (dropL 0 q1))))))))])])) (giveF_eq (giveL_cons (show giveV 1 (sc 1 0 1 2 5) (hp 2 [.dead,(oC [(Sl.v 1 (Sl.mk ((Sl.n (Sl.mk n0 0 (takeL (n0 * 1) (dropL 0 q1)))) - k1) (bb (an (Nat.beq (Sl.n (Sl.mk n0 0 (takeL (n0 * 1) (dropL 0 q1)))) (Sl.n (Sl.mk n0 0 (takeL (n0 * 1) (dropL 0 q1))))) (orr false (Nat.beq (Sl.fl (Sl.mk n0 0 (takeL (n0 * 1) (dropL 0 q1)))) 1))) 1 0) (takeL (((Sl.n (Sl.mk n0 0 (takeL (n0 * 1) (dropL 0 q1)))) - k1) * 1) (dropL (k1 * 1) (Sl.cs (Sl.mk n0 0 (takeL (n0 * 1) (dropL 0 q1)))))))),(Sl.v 1 (Sl.mk (k1 - 0) (bb (an (Nat.beq k1 (Sl.n (Sl.mk n0 0 (takeL (n0 * 1) (dropL 0 q1))))) (orr false (Nat.beq (Sl.fl (Sl.mk n0 0 (takeL (n0 * 1) (dropL 0 q1)))) 1))) 1 0) (takeL ((k1 - 0) * 1) (dropL (0 * 1) (Sl.cs (Sl.mk n0 0 (takeL (n0 * 1) (dropL 0 q1))))))))])]) = some ((Sl.v 1 (Sl.mk 2 0 (takeL (2 * 1) (dropL 0 ([(Sl.v 1 (Sl.mk ((Sl.n (Sl.mk n0 0 (takeL (n0 * 1) (dropL 0 q1)))) - k1) (bb (an (Nat.beq (Sl.n (Sl.mk n0 0 (takeL (n0 * 1) (dropL 0 q1)))) (Sl.n (Sl.mk n0 0 (takeL (n0 * 1) (dropL 0 q1))))) (orr false (Nat.beq (Sl.fl (Sl.mk n0 0 (takeL (n0 * 1) (dropL 0 q1)))) 1))) 1 0) (takeL (((Sl.n (Sl.mk n0 0 (takeL (n0 * 1) (dropL 0 q1)))) - k1) * 1) (dropL (k1 * 1) (Sl.cs (Sl.mk n0 0 (takeL (n0 * 1) (dropL 0 q1)))))))),(Sl.v 1 (Sl.mk (k1 - 0) (bb (an (Nat.beq k1 (Sl.n (Sl.mk n0 0 (takeL (n0 * 1) (dropL 0 q1))))) (orr false (Nat.beq (Sl.fl (Sl.mk n0 0 (takeL (n0 * 1) (dropL 0 q1)))) 1))) 1 0) (takeL ((k1 - 0) * 1) (dropL (0 * 1) (Sl.cs (Sl.mk n0 0 (takeL (n0 * 1) (dropL 0 q1))))))))]:LV))))),(hp 2 [.dead,.dead])) from giveV_sl 1 0 1 2 5 ([(Sl.v 1 (Sl.mk ((Sl.n (Sl.mk n0 0 (takeL (n0 * 1) (dropL 0 q1)))) - k1) (bb (an (Nat.beq (Sl.n (Sl.mk n0 0 (takeL (n0 * 1) (dropL 0 q1)))) (Sl.n (Sl.mk n0 0 (takeL (n0 * 1) (dropL 0 q1))))) (orr false (Nat.beq (Sl.fl (Sl.mk n0 0 (takeL (n0 * 1) (dropL 0 q1)))) 1))) 1 0) (takeL (((Sl.n (Sl.mk n0 0 (takeL (n0 * 1) (dropL 0 q1)))) - k1) * 1) (dropL (k1 * 1) (Sl.cs (Sl.mk n0 0 (takeL (n0 * 1) (dropL 0 q1)))))))),(Sl.v 1 (Sl.mk (k1 - 0) (bb (an (Nat.beq k1 (Sl.n (Sl.mk n0 0 (takeL (n0 * 1) (dropL 0 q1))))) (orr false (Nat.beq (Sl.fl (Sl.mk n0 0 (takeL (n0 * 1) (dropL 0 q1)))) 1))) 1 0) (takeL ((k1 - 0) * 1) (dropL (0 * 1) (Sl.cs (Sl.mk n0 0 (takeL (n0 * 1) (dropL 0 q1))))))))]:LV) [] (by kernel_rfl) (by kernel_rfl) (by kernel_rfl)) giveL_nil) (by kernel_rfl) h6) (eE)))) ?_
 refine .ghs (fr 51 [(2,Sl.v 1 s0)]) (hp 0 []) (.k0 [] [] [2]) ?_
 refine .ret ?_
 exact fin_ret (Sl.v 1 s0) (by kernel_rfl) (by kernel_rfl) hm
theorem r25 {call:CallF} (pu:PureF) (n:Nat) (hcall:call = callP tabs isP pu (inl pu)) {args:LV} {v:Value} (hm:m25 pu n args = some v) (_:∀ x ∈ args,closed2 x = true):args.length≤51∧Run tt call 0 c25_31 (Fr.made 51 args) (pureHeap tabs) (Fin tt 0 [.tmp 2] v):=by
 subst hcall
 unfold m25 at hm
 replace hm:=ll_uncons hm;obtain ⟨a0,args_0,rfl,hm⟩:=hm
 replace hm:=ll_end hm;obtain ⟨rfl,hm⟩:=hm
 replace hm:=inv_vAgg hm;obtain ⟨q1,rfl,hm⟩:=hm
 replace hm:=bb_inv hm;obtain ⟨h0,hm⟩:=hm
 unfold m25_ at hm
 refine ⟨by simp,?_⟩
 refine .same (F':=(fr 51 [(0,(.agg ⟨q1⟩))])) (H':=(hp 0 [])) (by kernel_rfl) (by kernel_rfl) ?_
 refine .then (.rK ?_)
 replace hm:=bb_inv hm;obtain ⟨h1,hm⟩:=hm
 refine .ghs (fr 51 [(1,(pt 0 0))]) (hp 1 [oC q1]) (.k [0] [] [.tmp 1 false] [1] ⟨trF h1,trivial⟩) ?_
 refine .then ?_
 replace hm:=bb_inv hm;obtain ⟨h2,hm⟩:=hm
 replace hm:=oo_inv hm;obtain ⟨v0,h3,hm⟩:=hm
 replace hm:=inv_vTup hm;obtain ⟨l0,rfl,hm⟩:=hm
 replace hm:=ll_uncons hm;obtain ⟨v1,l102918_0,rfl,hm⟩:=hm
 replace hm:=ll_uncons hm;obtain ⟨v2,l102918_1,rfl,hm⟩:=hm
 replace hm:=ll_end hm;obtain ⟨rfl,hm⟩:=hm
 replace hm:=inv_toI hm;obtain ⟨x0,rfl,hm⟩:=hm
 replace hm:=inv_vAgg hm;obtain ⟨q2,rfl,hm⟩:=hm
 replace hm:=bb_inv hm;obtain ⟨h4,hm⟩:=hm
 replace hm:=bb_inv hm;obtain ⟨h5,hm⟩:=hm
 replace hm:=bb_inv hm;obtain ⟨h6,hm⟩:=hm
 replace hm:=bb_inv hm;obtain ⟨h7,hm⟩:=hm
 refine .reg (eD (keep (hp 1 [oC q1]) (bb (Nat.ble (0 + 22) (len q1)) (some (.agg ⟨(takeL 22 (dropL 0 q1))⟩)) none)) (keep_bb h2) (eD (bb (allL closed2 [(.agg ⟨(takeL 22 (dropL 0 q1))⟩)]) (oo (pu 49 [(.agg ⟨(takeL 22 (dropL 0 q1))⟩)]) none fun v=>some (v,(hp 1 [oC q1]))) (oo (mapO (purify (hp 1 [oC q1])) [(.agg ⟨(takeL 22 (dropL 0 q1))⟩)]) none fun l1=>oo (pu 49 l1) none fun v=>bb (plainT v) (some (v,(hp 1 [oC q1]))) none)) (callc_eq h5 h3) (eC 5 (done (bb (Nat.beq (len q2) 22) (bb (an (Nat.ble (0 + len q2) (len zA51)) (allL scalarB q2)) (some (hp 2 [oC q1,(oC (setL q2 0 zA51))])) none) none) undef) (done_bb2 h6 h7) (eE)))) ?_
 replace hm:=bb_inv hm;obtain ⟨h8,hm⟩:=hm
 refine .ghs (fr 51 [(4,(pt 0 0))]) (hp 1 [(oC (setL q2 0 zA51))]) (.k [1] [] [.tmp 4 false] [4] ⟨trF h8,trivial⟩) ?_
 refine .then (.rK ?_)
 refine .ghs (fr 51 [(4,(pt 0 0)),(5,(.slice none 0 0))]) (hp 1 [(oC (setL q2 0 zA51))]) (.k [0] [] [.tmp 4 false] [4,5] ⟨trF h8,trivial⟩) ?_
 refine .then (.rK ?_)
 refine .ghs (fr 51 [(4,(pt 0 0)),(5,(.slice none 0 0)),(6,(zI (0:Int)))]) (hp 1 [(oC (setL q2 0 zA51))]) (.k [0] [] [.tmp 4 false] [4,5,6] ⟨trF h8,trivial⟩) ?_
 refine .join (v:=v) (fun y:Nat×Nat×Int×LV=>((fr 51 [(5,(sc 0 0 1 y.1 y.2.1)),(6,(zI y.2.2.1))]),(hp 1 [(oC y.2.2.2)]))) (fun y=>m25_0 pu n y.1 y.2.1 y.2.2.1 y.2.2.2) ?_ ?_
 ·rintro ⟨n0, c0, z0, q3⟩ hm
  exact w25_0 pu n n0 c0 z0 q3 hm
 ·refine .then ?_
  replace hm:=bb_inv hm;obtain ⟨h9,hm⟩:=hm
  replace hm:=bb_inv hm;obtain ⟨h10,hm⟩:=hm
  replace hm:=bb_inv hm;obtain ⟨h11,hm⟩:=hm
  refine .reg (eD (keep (hp 1 [(oC (setL q2 0 zA51))]) (bb (Nat.ble (0 + 22) (len (setL q2 0 zA51))) (some (.agg ⟨(takeL 22 (dropL 0 (setL q2 0 zA51)))⟩)) none)) (keep_bb h9) (eC 1 (done (bb (Nat.beq (len (takeL 22 (dropL 0 (setL q2 0 zA51)))) 22) (bb (an (Nat.ble (0 + len (takeL 22 (dropL 0 (setL q2 0 zA51)))) (len zA51)) (allL scalarB (takeL 22 (dropL 0 (setL q2 0 zA51))))) (some (hp 2 [(oC (setL q2 0 zA51)),(oC (setL (takeL 22 (dropL 0 (setL q2 0 zA51))) 0 zA51))])) none) none) undef) (done_bb2 h10 h11) (eE))) ?_
  replace hm:=bb_inv hm;obtain ⟨h12,hm⟩:=hm
  refine .ghs (fr 51 [(4,(pt 0 0)),(5,(.slice none 0 0)),(6,(zI (0:Int))),(7,pt 1 0),(8,(zI (0:Int)))]) (hp 2 [(oC (setL q2 0 zA51)),(oC (setL (takeL 22 (dropL 0 (setL q2 0 zA51))) 0 zA51))]) (.k [0,1] [] [.tmp 4 false,.tmp 7 false] [4,5,6,7,8] ⟨trF h8,trF h12,trivial⟩) ?_
  refine .block ?_
  refine .loopM (v:=v) (fun y:Nat×Nat×Int×Int×LV×LV×LV=>((fr 51 [(4,(pt 0 0)),(5,(sc 1 0 1 y.1 y.2.1)),(6,(zI y.2.2.1)),(7,(pt 2 0)),(8,(zI y.2.2.2.1))]),(hp 3 [(oC y.2.2.2.2.1),(oC y.2.2.2.2.2.1),(oC y.2.2.2.2.2.2)]))) (fun w y=>l25_1 pu n w y.1 y.2.1 y.2.2.1 y.2.2.2.1 y.2.2.2.2.1 y.2.2.2.2.2.1 y.2.2.2.2.2.2) n ⟨(0,0,(0:Int),(0:Int),(setL q2 0 zA51),([]:LV),(setL (takeL 22 (dropL 0 (setL q2 0 zA51))) 0 zA51)),hm,(.thaw 5 1 (by kernel_rfl) (.k [0,1] [] [.tmp 4 false,.tmp 5 false,.tmp 7 false] [4,5,6,7,8] ⟨trF h8,trF h12,trivial⟩))⟩ (fun _=>rfl) ?_
  rintro w0 ⟨n1,c1,z1,z2,q4,q5,q6⟩ hm
  replace hm:b25_1 pu n (l25_1 pu n w0) n1 c1 z1 z2 q4 q5 q6 = some v:=hm
  unfold b25_1 at hm
  refine .then ?_
  refine .join (v:=v) (fun y:Nat×Nat×Int×Int×Bool×LV×LV×LV=>((fr 51 [(4,(pt 0 0)),(5,(sc 1 0 1 y.1 y.2.1)),(6,(zI y.2.2.1)),(7,(pt 2 0)),(8,(zI y.2.2.2.1)),(21,(zB y.2.2.2.2.1))]),(hp 3 [(oC y.2.2.2.2.2.1),(oC y.2.2.2.2.2.2.1),(oC y.2.2.2.2.2.2.2)]))) (fun y=>m25_2 pu n (l25_1 pu n w0) y.1 y.2.1 y.2.2.1 y.2.2.2.1 y.2.2.2.2.1 y.2.2.2.2.2.1 y.2.2.2.2.2.2.1 y.2.2.2.2.2.2.2) ?_ ?_
  ·rintro ⟨n2, c2, z3, z4, b0, q7, q8, q9⟩ hm
   unfold m25_2 at hm
   replace hm:=bb_cases hm;rcases hm with ⟨h13,hm⟩ | ⟨h13,hm⟩
   ·refine .ifT b0 (by kernel_rfl) h13 ?_
    refine .skip ?_
    replace hm:=bb_inv hm;obtain ⟨h14,hm⟩:=hm
    replace hm:=bb_inv hm;obtain ⟨h15,hm⟩:=hm
    replace hm:=bb_inv hm;obtain ⟨h16,hm⟩:=hm
    refine .ghs (fr 51 [(4,(pt 0 0)),(5,sc 1 0 1 n2 c2),(6,zI z3),(7,(pt 2 0)),(8,zI z4)]) (hp 3 [oC q7,oC q8,oC q9]) (.k [0,1,2] [] [.tmp 4 false,.tmp 5 false,.tmp 7 false] [4,5,6,7,8] ⟨trF h14,trF h15,trF h16,trivial⟩) ?_
    refine .join (v:=v) (fun y:Nat×Nat×Int×Int×LV×LV×LV=>((fr 51 [(4,(pt 0 0)),(5,(sc 1 0 1 y.1 y.2.1)),(6,(zI y.2.2.1)),(7,(pt 2 0)),(8,(zI y.2.2.2.1))]),(hp 3 [(oC y.2.2.2.2.1),(oC y.2.2.2.2.2.1),(oC y.2.2.2.2.2.2)]))) (fun y=>m25_3 pu n (l25_1 pu n w0) y.1 y.2.1 y.2.2.1 y.2.2.2.1 y.2.2.2.2.1 y.2.2.2.2.2.1 y.2.2.2.2.2.2) ?_ ?_
    ·rintro ⟨n3, c99, z5, z6, q10, q11, q12⟩ hm
     unfold m25_3 at hm
     refine .then ?_
     refine .then ?_
     replace hm:=bb_inv hm;obtain ⟨h17,hm⟩:=hm
     refine .reg (eD (keep (hp 3 [oC q10,oC q11,oC q12]) (bb (Nat.ble (0 + 22) (len q12)) (some (.agg ⟨(takeL 22 (dropL 0 q12))⟩)) none)) (keep_bb h17) (eE)) ?_
     replace hm:=bb_inv hm;obtain ⟨h18,hm⟩:=hm
     replace hm:=bb_inv hm;obtain ⟨h19,hm⟩:=hm
     refine .reg (eC 1 (done (bb (Nat.beq (len (takeL 22 (dropL 0 q12))) 22) (bb (an (Nat.ble (0 + len (takeL 22 (dropL 0 q12))) (len zA51)) (allL scalarB (takeL 22 (dropL 0 q12)))) (some (hp 4 [oC q10,oC q11,oC q12,(oC (setL (takeL 22 (dropL 0 q12)) 0 zA51))])) none) none) undef) (done_bb2 h18 h19) (eE)) ?_
     replace hm:=bb_inv hm;obtain ⟨h20,hm⟩:=hm
     replace hm:=bb_inv hm;obtain ⟨h21,hm⟩:=hm
     replace hm:=bb_inv hm;obtain ⟨h22,hm⟩:=hm
     refine .ghs (fr 51 [(4,(pt 0 0)),(5,sc 1 0 1 n3 c99),(6,zI z5),(7,(pt 2 0)),(8,zI z6)]) (hp 3 [oC q10,oC q11,(oC (setL (takeL 22 (dropL 0 q12)) 0 zA51))]) (.k [0,1,3] [] [.tmp 4 false,.tmp 5 false,.tmp 7 false] [4,5,6,7,8] ⟨trF h20,trF h21,trF h22,trivial⟩) ?_
     replace hm:=bb_inv hm;obtain ⟨h23,hm⟩:=hm
     replace hm:=oo_inv hm;obtain ⟨v3,h24,hm⟩:=hm
     replace hm:=inv_vAgg hm;obtain ⟨q13,rfl,hm⟩:=hm
     replace hm:=bb_inv hm;obtain ⟨h25,hm⟩:=hm
     replace hm:=bb_inv hm;obtain ⟨h26,hm⟩:=hm
     replace hm:=bb_inv hm;obtain ⟨h27,hm⟩:=hm
     replace hm:=bb_inv hm;obtain ⟨h28,hm⟩:=hm
     refine .reg (eD (keep (hp 3 [oC q10,oC q11,(oC (setL (takeL 22 (dropL 0 q12)) 0 zA51))]) (bb (Nat.ble (0 + 22) (len (setL (takeL 22 (dropL 0 q12)) 0 zA51))) (some (.agg ⟨(takeL 22 (dropL 0 (setL (takeL 22 (dropL 0 q12)) 0 zA51)))⟩)) none)) (keep_bb h23) (eD (bb (allL closed2 [(.agg ⟨(takeL 22 (dropL 0 (setL (takeL 22 (dropL 0 q12)) 0 zA51)))⟩)]) (oo (pu 45 [(.agg ⟨(takeL 22 (dropL 0 (setL (takeL 22 (dropL 0 q12)) 0 zA51)))⟩)]) none fun v=>some (v,(hp 3 [oC q10,oC q11,(oC (setL (takeL 22 (dropL 0 q12)) 0 zA51))]))) (oo (mapO (purify (hp 3 [oC q10,oC q11,(oC (setL (takeL 22 (dropL 0 q12)) 0 zA51))])) [(.agg ⟨(takeL 22 (dropL 0 (setL (takeL 22 (dropL 0 q12)) 0 zA51)))⟩)]) none fun l1=>oo (pu 45 l1) none fun v=>bb (plainT v) (some (v,(hp 3 [oC q10,oC q11,(oC (setL (takeL 22 (dropL 0 q12)) 0 zA51))]))) none)) (callc_eq h26 h24) (eC 2 (done (bb (Nat.beq (len q13) 22) (bb (an (Nat.ble (0 + len q13) (len (setL (takeL 22 (dropL 0 q12)) 0 zA51))) (allL scalarB q13)) (some (hp 3 [oC q10,oC q11,(oC (setL q13 0 (setL (takeL 22 (dropL 0 q12)) 0 zA51)))])) none) none) undef) (done_bb2 h27 h28) (eE)))) ?_
     replace hm:=bb_inv hm;obtain ⟨h29,hm⟩:=hm
     exact ⟨(n3,c99,z5,(wrapF .i64 (Int.add z6 (1:Int))),q10,q11,(setL q13 0 (setL (takeL 22 (dropL 0 q12)) 0 zA51))),hm,(.k [0,1,2] [] [.tmp 4 false,.tmp 5 false,.tmp 7 false] [4,5,6,7,8] ⟨trF h20,trF h21,trF h29,trivial⟩)⟩
    ·refine .block ?_
     refine .then ?_
     replace hm:=bb_inv hm;obtain ⟨h30,hm⟩:=hm
     replace hm:=oo_inv hm;obtain ⟨v4,h31,hm⟩:=hm
     replace hm:=inv_toSl hm;obtain ⟨s0,rfl,hm⟩:=hm
     replace hm:=bb_inv hm;obtain ⟨h32,hm⟩:=hm
     replace hm:=bb_inv hm;obtain ⟨h33,hm⟩:=hm
     replace hm:=bb_inv hm;obtain ⟨h34,hm⟩:=hm
     refine .rG (OpsG.seg 3 (Fr.puts (fr 51 [(4,(pt 0 0)),(5,sc 1 0 1 n2 c2),(6,zI z3),(7,(pt 2 0)),(8,zI z4)]) [(26,sc 1 0 1 n2 c2),(27,(.agg ⟨(takeL 22 (dropL 0 q9))⟩)),(28,(sc 3 0 1 (Sl.n s0) (d2 (Sl.n s0))))]) (hp 4 [oC q7,oC q8,oC q9,(oC (Sl.cs s0))]) (eC 1 (keep (hp 3 [oC q7,oC q8,oC q9]) (bb (Nat.ble (0 + 22) (len q9)) (some (.agg ⟨(takeL 22 (dropL 0 q9))⟩)) none)) (keep_bb h30) (eD (bb (allL closed2 [(.agg ⟨(takeL 22 (dropL 0 q9))⟩)]) (oo (pu 46 [(.agg ⟨(takeL 22 (dropL 0 q9))⟩)]) none fun v=>oo (toSl 1 v) none fun s=>some (((sc 3 0 1 (Sl.n s) (d2 (Sl.n s))),(hp 4 [oC q7,oC q8,oC q9,(oC (Sl.cs s))])):Value×AHeap)) none) ((bb_true' h32).trans (live_eq (sz:=1) (k:=fun s=>(((sc 3 0 1 (Sl.n s) (d2 (Sl.n s))),(hp 4 [oC q7,oC q8,oC q9,(oC (Sl.cs s))])):Value×AHeap)) h31)) (by kernel_rfl))) (OpsG.ghs (Fr.puts (fr 51 [(4,(pt 0 0)),(5,sc 1 0 1 n2 c2),(6,zI z3),(7,(pt 2 0)),(8,zI z4)]) [(26,sc 1 0 1 n2 c2),(27,(.agg ⟨(takeL 22 (dropL 0 q9))⟩)),(28,(Sl.v 1 (Sl.mk (Sl.n s0) 0 (takeL ((Sl.n s0) * 1) (dropL 0 (Sl.cs s0))))))]) (hp 4 [oC q7,oC q8,oC q9,.dead]) (.freezeC 0 28 1 (an (Nat.ble (0 + (Sl.n s0) * 1) (len (Sl.cs s0))) (allL closed1 (takeL ((Sl.n s0) * 1) (dropL 0 (Sl.cs s0))))) (F1:=(Fr.puts (fr 51 [(4,(pt 0 0)),(5,sc 1 0 1 n2 c2),(6,zI z3),(7,(pt 2 0)),(8,zI z4)]) [(26,sc 1 0 1 n2 c2),(27,(.agg ⟨(takeL 22 (dropL 0 q9))⟩)),(28,(Sl.v 1 (Sl.mk (Sl.n s0) 0 (takeL ((Sl.n s0) * 1) (dropL 0 (Sl.cs s0))))))])) (H1:=(hp 4 [oC q7,oC q8,oC q9,.dead])) (by kernel_rfl) (by kernel_rfl) h33 (GhS.id _ _)) (OpsG.fin (eC 1 (growD 1 24 n2 c2 1 1 q8 [(Sl.v 1 (Sl.mk (Sl.n s0) 0 (takeL ((Sl.n s0) * 1) (dropL 0 (Sl.cs s0)))))] [] (hp 5 [oC q7,oC q8,oC q9,.dead,(oC [(Sl.v 1 (Sl.mk (Sl.n s0) 0 (takeL ((Sl.n s0) * 1) (dropL 0 (Sl.cs s0)))))])])) (growD_eq h34) (eE))))) ?_
     replace hm:=bb_inv hm;obtain ⟨h35,hm⟩:=hm
     refine .ghs (fr 51 [(4,(pt 0 0)),(5,(sc 1 0 1 (n2 + 1) (d2 (n2 + 1)))),(6,zI z3),(7,(pt 2 0)),(8,zI z4)]) (hp 3 [oC q7,(oC (appL (dropL 0 q8) [(Sl.v 1 (Sl.mk (Sl.n s0) 0 (takeL ((Sl.n s0) * 1) (dropL 0 (Sl.cs s0)))))])),oC q9]) (.k [0,5,2] [] [.tmp 4 false,.tmp 5 false,.tmp 7 false] [4,5,6,7,8] ⟨trF h14,trF h35,trF h16,trivial⟩) ?_
     refine .then ?_
     replace hm:=oo_inv hm;obtain ⟨k1,h36,hm⟩:=hm
     obtain rfl:=toN_some h36
     replace hm:=bb_inv hm;obtain ⟨h37,hm⟩:=hm
     replace hm:=oo_inv hm;obtain ⟨v5,h38,hm⟩:=hm
     replace hm:=inv_toSl hm;obtain ⟨s1,rfl,hm⟩:=hm
     replace hm:=oo_inv hm;obtain ⟨k2,h39,hm⟩:=hm
     obtain rfl:=toN_some h39
     replace hm:=bb_inv hm;obtain ⟨h40,hm⟩:=hm
     replace hm:=oo_inv hm;obtain ⟨v6,h41,hm⟩:=hm
     replace hm:=inv_toSl hm;obtain ⟨s2,rfl,hm⟩:=hm
     replace hm:=oo_inv hm;obtain ⟨v7,h42,hm⟩:=hm
     replace hm:=inv_toI hm;obtain ⟨x1,rfl,hm⟩:=hm
     refine .reg (eC 2 (keep (hp 3 [oC q7,(oC (appL (dropL 0 q8) [(Sl.v 1 (Sl.mk (Sl.n s0) 0 (takeL ((Sl.n s0) * 1) (dropL 0 (Sl.cs s0)))))])),oC q9]) (bb (an (Nat.blt k1 (n2 + 1)) true) (some (.pointer (some ⟨1,(0 + k1 * 1),none⟩))) none)) (keep_bb h37) (eD (keep (hp 3 [oC q7,(oC (appL (dropL 0 q8) [(Sl.v 1 (Sl.mk (Sl.n s0) 0 (takeL ((Sl.n s0) * 1) (dropL 0 (Sl.cs s0)))))])),oC q9]) (nthL (appL (dropL 0 q8) [(Sl.v 1 (Sl.mk (Sl.n s0) 0 (takeL ((Sl.n s0) * 1) (dropL 0 (Sl.cs s0)))))]) (0 + k1 * 1))) (keep_eq h38) (eC 2 (keep (hp 3 [oC q7,(oC (appL (dropL 0 q8) [(Sl.v 1 (Sl.mk (Sl.n s0) 0 (takeL ((Sl.n s0) * 1) (dropL 0 (Sl.cs s0)))))])),oC q9]) (bb (an (Nat.blt k2 (n2 + 1)) true) (some (.pointer (some ⟨1,(0 + k2 * 1),none⟩))) none)) (keep_bb h40) (eD (keep (hp 3 [oC q7,(oC (appL (dropL 0 q8) [(Sl.v 1 (Sl.mk (Sl.n s0) 0 (takeL ((Sl.n s0) * 1) (dropL 0 (Sl.cs s0)))))])),oC q9]) (nthL (appL (dropL 0 q8) [(Sl.v 1 (Sl.mk (Sl.n s0) 0 (takeL ((Sl.n s0) * 1) (dropL 0 (Sl.cs s0)))))]) (0 + k2 * 1))) (keep_eq h41) (eD ((oo (pu 42 [Sl.v 1 s1,Sl.v 1 s2]) none fun v=>some (v,(hp 3 [oC q7,(oC (appL (dropL 0 q8) [(Sl.v 1 (Sl.mk (Sl.n s0) 0 (takeL ((Sl.n s0) * 1) (dropL 0 (Sl.cs s0)))))])),oC q9])))) (call_eq h42) (eE)))))) ?_
     refine .ghs (fr 51 [(4,(pt 0 0)),(5,(sc 1 0 1 (n2 + 1) (d2 (n2 + 1)))),(6,(zI (Int.ofNat k2))),(7,(pt 2 0)),(8,(zI (Int.ofNat k1))),(40,(zB (ilt x1 (0:Int))))]) (hp 3 [oC q7,(oC (appL (dropL 0 q8) [(Sl.v 1 (Sl.mk (Sl.n s0) 0 (takeL ((Sl.n s0) * 1) (dropL 0 (Sl.cs s0)))))])),oC q9]) (.k [0,1,2] [] [.tmp 4 false,.tmp 5 false,.tmp 7 false] [4,5,6,7,8,40] ⟨trF h14,trF h35,trF h16,trivial⟩) ?_
     replace hm:=bb_cases hm;rcases hm with ⟨h43,hm⟩ | ⟨h43,hm⟩
     ·refine .ifT (ilt x1 (0 : Int)) (by kernel_rfl) h43 ?_
      refine .rK ?_
      exact ⟨((n2 + 1),(d2 (n2 + 1)),(Int.ofNat k1),(Int.ofNat k1),q7,(appL (dropL 0 q8) [(Sl.v 1 (Sl.mk (Sl.n s0) 0 (takeL ((Sl.n s0) * 1) (dropL 0 (Sl.cs s0)))))]),q9),hm,(.k [0,1,2] [] [.tmp 4 false,.tmp 5 false,.tmp 7 false] [4,5,6,7,8] ⟨trF h14,trF h35,trF h16,trivial⟩)⟩
     ·refine .ifF (ilt x1 (0 : Int)) (by kernel_rfl) h43 ?_
      refine .skip ?_
      exact ⟨((n2 + 1),(d2 (n2 + 1)),(Int.ofNat k2),(Int.ofNat k1),q7,(appL (dropL 0 q8) [(Sl.v 1 (Sl.mk (Sl.n s0) 0 (takeL ((Sl.n s0) * 1) (dropL 0 (Sl.cs s0)))))]),q9),hm,(.k [0,1,2] [] [.tmp 4 false,.tmp 5 false,.tmp 7 false] [4,5,6,7,8] ⟨trF h14,trF h35,trF h16,trivial⟩)⟩
   ·refine .ifF b0 (by kernel_rfl) h13 ?_
    refine .exit ?_
    replace hm:=bb_inv hm;obtain ⟨h44,hm⟩:=hm
    exact ⟨(n2,c2,z3,q8),hm,(.k [1] [] [.tmp 5 false] [5,6] ⟨trF h44,trivial⟩)⟩
  ·replace hm := bb_cases hm; rcases hm with ⟨h45, hm⟩ | ⟨h45, hm⟩
   ·refine .reg (eC 1 (some ((zB (ieq z2 (0 : Int))), (hp 3 [oC q4, oC q5, oC q6]))) (show _ = some ((zB true), _) from (by rw [h45])) (eE)) ?_
    replace hm:=bb_inv hm;obtain ⟨h46,hm⟩:=hm
    replace hm:=bb_inv hm;obtain ⟨h47,hm⟩:=hm
    replace hm:=bb_inv hm;obtain ⟨h48,hm⟩:=hm
    exact ⟨(n1,c1,z1,z2,true,q4,q5,q6),hm,(.k [0,1,2] [] [.tmp 4 false,.tmp 5 false,.tmp 7 false] [4,5,6,7,8,21] ⟨trF h46,trF h47,trF h48,trivial⟩)⟩
   ·replace hm := bb_inv hm; obtain ⟨h49, hm⟩ := hm
    replace hm:=bb_inv hm;obtain ⟨h50,hm⟩:=hm
    replace hm:=bb_inv hm;obtain ⟨h51,hm⟩:=hm
    replace hm:=oo_inv hm;obtain ⟨b1,h52,hm⟩:=hm
    refine .reg (eC 1 (some ((zB (ieq z2 (0:Int))),(hp 3 [oC q4,oC q5,oC q6]))) (show _ = some ((zB false),_) from (by rw [h45])) (eC 1 (keep (hp 3 [oC q4,oC q5,oC q6]) (bb (Nat.ble (0 + 22) (len q6)) (some (.agg ⟨(takeL 22 (dropL 0 q6))⟩)) none)) (keep_bb h49) (eD (keep (hp 3 [oC q4,oC q5,oC q6]) (bb (Nat.ble (0 + 22) (len q4)) (some (.agg ⟨(takeL 22 (dropL 0 q4))⟩)) none)) (keep_bb h50) (eD (keep (hp 3 [oC q4,oC q5,oC q6]) (oo (bb (flatLike ti51 (takeL 22 (dropL 0 q6))) (cellsEq (takeL 22 (dropL 0 q6)) (takeL 22 (dropL 0 q4))) none) none fun b=>bv (bq false b))) (arrEq_eq h51 h52) (eE))))) ?_
    replace hm:=bb_inv hm;obtain ⟨h53,hm⟩:=hm
    replace hm:=bb_inv hm;obtain ⟨h54,hm⟩:=hm
    replace hm:=bb_inv hm;obtain ⟨h55,hm⟩:=hm
    exact ⟨(n1,c1,z1,z2,(bq false b1),q4,q5,q6),hm,(.k [0,1,2] [] [.tmp 4 false,.tmp 5 false,.tmp 7 false] [4,5,6,7,8,21] ⟨trF h53,trF h54,trF h55,trivial⟩)⟩
def m27_1 (pu:PureF) (n:Nat):OV:=
 (some (.int .i64 (0:Int)))
def b27_2 (pu:PureF) (n:Nat) (ih0:Sl→Int→Int→OV) (s0:Sl) (z0 z1:Int):OV:=
 (bb (ilt z1 (Int.ofNat (Sl.n s0))) (oo (toN z1) none fun k1=>(bb (an (Nat.blt k1 (Sl.n s0)) true) (oo (nthL (Sl.cs s0) (k1 * 1)) none fun v0=>(oo (toI .i64 v0) none fun x0=>(bb (ilt (21:Int) (wrapF .i64 (Int.add z0 x0))) (some (.int .i64 (3:Int))) (ih0 s0 (wrapF .i64 (Int.add z0 x0)) (wrapF .i64 (Int.add (Int.ofNat k1) (1:Int))))))) none)) (m27_1 pu n))
def l27_2 (pu:PureF) (n w:Nat):Sl→Int→Int→OV:=
 Nat.rec (motive:=fun _=>Sl→Int→Int→OV) (fun _ _ _=>none) (fun _ ih0=>b27_2 pu n ih0) w
def m27_0 (pu:PureF) (n:Nat) (s0:Sl):OV:=
 (l27_2 pu n n s0 (0:Int) (0:Int))
def m27_4 (pu:PureF) (n:Nat) (ih0:Sl→Int→OV) (s0:Sl) (z0:Int) (b0:Bool):OV:=
 (bb b0 (some (.int .i64 (7:Int))) (ih0 s0 (wrapF .i64 (Int.add z0 (1:Int)))))
def b27_3 (pu:PureF) (n:Nat) (ih0:Sl→Int→OV) (s0:Sl) (z0:Int):OV:=
 (bb (ilt z0 (Int.ofNat (Sl.n s0))) (oo (toN z0) none fun k1=>(bb (an (Nat.blt k1 (Sl.n s0)) true) (oo (nthL (Sl.cs s0) (k1 * 1)) none fun v0=>(oo (toI .i64 v0) none fun x0=>(oo (pu 43 [.int .i64 x0,(.int .i64 (1:Int)),(.int .i64 (21:Int))]) none fun v1=>(oo (vBool v1) none fun b0=>(bb (nt b0) (some (.int .i64 (1:Int))) (bb (ilt (0:Int) (Int.ofNat k1)) (bb (an (Nat.blt k1 (Sl.n s0)) true) (oo (nthL (Sl.cs s0) (k1 * 1)) none fun v2=>(oo (toI .i64 v2) none fun x1=>(oo (toN (wrapF .i64 (Int.sub (Int.ofNat k1) (1:Int)))) none fun k2=>(bb (an (Nat.blt k2 (Sl.n s0)) true) (oo (nthL (Sl.cs s0) (k2 * 1)) none fun v3=>(oo (toI .i64 v3) none fun x2=>(m27_4 pu n ih0 s0 (Int.ofNat k1) (ilt x2 x1)))) none)))) none) (m27_4 pu n ih0 s0 (Int.ofNat k1) false))))))) none)) (m27_0 pu n s0))
def l27_3 (pu:PureF) (n w:Nat):Sl→Int→OV:=
 Nat.rec (motive:=fun _=>Sl→Int→OV) (fun _ _=>none) (fun _ ih0=>b27_3 pu n ih0) w
def m27_ (pu:PureF) (n:Nat) (s0:Sl):OV:=
 (bb (ieq (Int.ofNat (Sl.n s0)) (0:Int)) (some (.int .i64 (4:Int))) (l27_3 pu n n s0 (0:Int)))
def m27 (pu:PureF) (n:Nat) (args:LV):OV:=
 (ll args none fun a0 args=>(ll args (oo (toSl 1 a0) none fun s0=>(m27_ pu n s0)) fun _ _=>none))
theorem w27_1 (pu:PureF) (n:Nat) {v:Value} (hm:m27_1 pu n = some v):Run tt (callP tabs isP pu (inl pu)) 0 c27_48 (fr 49 []) (hp 0 []) (Fin tt 0 [.tmp 2] v):=by
 unfold m27_1 at hm
 refine .then (.rK ?_)
 refine .ghs (fr 49 [(2,(zI (0:Int)))]) (hp 0 []) (.k0 [] [] [2]) ?_
 refine .ret ?_
 exact fin_ret (zI (0:Int)) (by kernel_rfl) (by kernel_rfl) hm
theorem w27_0 (pu:PureF) (n:Nat) (s0:Sl) {v:Value} (hm:m27_0 pu n s0 = some v):Run tt (callP tabs isP pu (inl pu)) 0 c27_50 (fr 49 [(0,Sl.v 1 s0)]) (hp 0 []) (Fin tt 0 [.tmp 2] v):=by
 unfold m27_0 at hm
 refine .then (.rK ?_)
 refine .ghs (fr 49 [(0,Sl.v 1 s0),(4,(zI (0:Int)))]) (hp 0 []) (.k0 [] [] [0,4]) ?_
 refine .join (v:=v) (fun y:Unit=>((fr 49 []),(hp 0 []))) (fun y=>m27_1 pu n) ?_ ?_
 ·rintro _ hm
  exact w27_1 pu n hm
 ·refine .then (.rK ?_)
  refine .ghs (fr 49 [(0,Sl.v 1 s0),(4,(zI (0:Int))),(5,(zI (0:Int)))]) (hp 0 []) (.k0 [] [] [0,4,5]) ?_
  refine .block ?_
  refine .loopM (v:=v) (fun y:Sl×Int×Int=>((fr 49 [(0,(Sl.v 1 y.1)),(4,(zI y.2.1)),(5,(zI y.2.2))]),(hp 0 []))) (fun w y=>l27_2 pu n w y.1 y.2.1 y.2.2) n ⟨(s0,(0:Int),(0:Int)),hm,(.k0 [] [] [0,4,5])⟩ (fun _=>rfl) ?_
  rintro w0 ⟨s1,z0,z1⟩ hm
  replace hm:b27_2 pu n (l27_2 pu n w0) s1 z0 z1 = some v:=hm
  unfold b27_2 at hm
  refine .then ?_
  refine .then (.rK ?_)
  refine .ghs (fr 49 [(0,Sl.v 1 s1),(4,zI z0),(5,zI z1),(38,(zB (ilt z1 (Int.ofNat (Sl.n s1)))))]) (hp 0 []) (.k0 [] [] [0,4,5,38]) ?_
  replace hm:=bb_cases hm;rcases hm with ⟨h0,hm⟩ | ⟨h0,hm⟩
  ·refine .ifT (ilt z1 (Int.ofNat (Sl.n s1))) (by kernel_rfl) h0 ?_
   refine .skip ?_
   refine .ghs (fr 49 [(0,Sl.v 1 s1),(4,zI z0),(5,zI z1)]) (hp 0 []) (.k0 [] [] [0,4,5]) ?_
   refine .then ?_
   refine .block ?_
   refine .then ?_
   replace hm:=oo_inv hm;obtain ⟨k1,h1,hm⟩:=hm
   obtain rfl:=toN_some h1
   replace hm:=bb_inv hm;obtain ⟨h2,hm⟩:=hm
   replace hm:=oo_inv hm;obtain ⟨v0,h3,hm⟩:=hm
   replace hm:=inv_toI hm;obtain ⟨x0,rfl,hm⟩:=hm
   refine .reg (eC 3 (keep (hp 0 []) (bb (an (Nat.blt k1 (Sl.n s1)) true) (some (fpV (k1 * 1) (Sl.cs s1))) none)) (keep_bb h2) (eD (keep (hp 0 []) (nthL (Sl.cs s1) (k1 * 1))) (keep_eq h3) (eE))) ?_
   refine .ghs (fr 49 [(0,Sl.v 1 s1),(4,(zI (wrapF .i64 (Int.add z0 x0)))),(5,(zI (Int.ofNat k1)))]) (hp 0 []) (.k0 [] [] [0,4,5]) ?_
   refine .then (.rK ?_)
   refine .ghs (fr 49 [(0,Sl.v 1 s1),(4,(zI (wrapF .i64 (Int.add z0 x0)))),(5,(zI (Int.ofNat k1))),(48,(zB (ilt (21:Int) (wrapF .i64 (Int.add z0 x0)))))]) (hp 0 []) (.k0 [] [] [0,4,5,48]) ?_
   replace hm:=bb_cases hm;rcases hm with ⟨h4,hm⟩ | ⟨h4,hm⟩
   ·refine .ifT (ilt (21 : Int) (wrapF .i64 (Int.add z0 x0))) (by kernel_rfl) h4 ?_
    refine .then (.rK ?_)
    refine .ghs (fr 49 [(2,(zI (3:Int)))]) (hp 0 []) (.k0 [] [] [2]) ?_
    refine .ret ?_
    exact fin_ret (zI (3:Int)) (by kernel_rfl) (by kernel_rfl) hm
   ·refine .ifF (ilt (21 : Int) (wrapF .i64 (Int.add z0 x0))) (by kernel_rfl) h4 ?_
    refine .skip ?_
    refine .ghs (fr 49 [(0,Sl.v 1 s1),(4,(zI (wrapF .i64 (Int.add z0 x0)))),(5,(zI (Int.ofNat k1)))]) (hp 0 []) (.k0 [] [] [0,4,5]) ?_
    refine .rK ?_
    exact ⟨(s1,(wrapF .i64 (Int.add z0 x0)),(wrapF .i64 (Int.add (Int.ofNat k1) (1:Int)))),hm,(.k0 [] [] [0,4,5])⟩
  ·refine .ifF (ilt z1 (Int.ofNat (Sl.n s1))) (by kernel_rfl) h0 ?_
   refine .exit ?_
   exact ⟨(),hm,(.k0 [] [] [])⟩
theorem r27 {call:CallF} (pu:PureF) (n:Nat) (hcall:call = callP tabs isP pu (inl pu)) {args:LV} {v:Value} (hm:m27 pu n args = some v) (_:∀ x ∈ args,closed2 x = true):args.length≤49∧Run tt call 0 c27_53 (Fr.made 49 args) (pureHeap tabs) (Fin tt 0 [.tmp 2] v):=by
 subst hcall
 unfold m27 at hm
 replace hm:=ll_uncons hm;obtain ⟨a0,args_0,rfl,hm⟩:=hm
 replace hm:=ll_end hm;obtain ⟨rfl,hm⟩:=hm
 replace hm:=inv_toSl hm;obtain ⟨s0,rfl,hm⟩:=hm
 unfold m27_ at hm
 refine ⟨by simp,?_⟩
 refine .same (F':=(fr 49 [(0,Sl.v 1 s0)])) (H':=(hp 0 [])) (by kernel_rfl) (by kernel_rfl) ?_
 refine .then (.rK ?_)
 refine .ghs (fr 49 [(0,Sl.v 1 s0)]) (hp 0 []) (.k0 [] [] [0]) ?_
 refine .then ?_
 refine .then (.rK ?_)
 refine .ghs (fr 49 [(0,Sl.v 1 s0),(8,(zB (ieq (Int.ofNat (Sl.n s0)) (0:Int))))]) (hp 0 []) (.k0 [] [] [0,8]) ?_
 replace hm:=bb_cases hm;rcases hm with ⟨h0,hm⟩ | ⟨h0,hm⟩
 ·refine .ifT (ieq (Int.ofNat (Sl.n s0)) (0 : Int)) (by kernel_rfl) h0 ?_
  refine .then (.rK ?_)
  refine .ghs (fr 49 [(2,(zI (4:Int)))]) (hp 0 []) (.k0 [] [] [2]) ?_
  refine .ret ?_
  exact fin_ret (zI (4:Int)) (by kernel_rfl) (by kernel_rfl) hm
 ·refine .ifF (ieq (Int.ofNat (Sl.n s0)) (0 : Int)) (by kernel_rfl) h0 ?_
  refine .skip ?_
  refine .ghs (fr 49 [(0,Sl.v 1 s0)]) (hp 0 []) (.k0 [] [] [0]) ?_
  refine .join (v:=v) (fun y:Sl=>((fr 49 [(0,Sl.v 1 y)]),(hp 0 []))) (fun y=>m27_0 pu n y) ?_ ?_
  ·rintro s1 hm
   exact w27_0 pu n s1 hm
  ·refine .then (.rK ?_)
   refine .ghs (fr 49 [(0,Sl.v 1 s0),(3,(zI (0:Int)))]) (hp 0 []) (.k0 [] [] [0,3]) ?_
   refine .block ?_
   refine .loopM (v:=v) (fun y:Sl×Int=>((fr 49 [(0,(Sl.v 1 y.1)),(3,(zI y.2))]),(hp 0 []))) (fun w y=>l27_3 pu n w y.1 y.2) n ⟨(s0,(0:Int)),hm,(.k0 [] [] [0,3])⟩ (fun _=>rfl) ?_
   rintro w0 ⟨s2,z0⟩ hm
   replace hm:b27_3 pu n (l27_3 pu n w0) s2 z0 = some v:=hm
   unfold b27_3 at hm
   refine .then ?_
   refine .then (.rK ?_)
   refine .ghs (fr 49 [(0,Sl.v 1 s2),(3,zI z0),(12,(zB (ilt z0 (Int.ofNat (Sl.n s2)))))]) (hp 0 []) (.k0 [] [] [0,3,12]) ?_
   replace hm:=bb_cases hm;rcases hm with ⟨h1,hm⟩ | ⟨h1,hm⟩
   ·refine .ifT (ilt z0 (Int.ofNat (Sl.n s2))) (by kernel_rfl) h1 ?_
    refine .skip ?_
    refine .ghs (fr 49 [(0,Sl.v 1 s2),(3,zI z0)]) (hp 0 []) (.k0 [] [] [0,3]) ?_
    refine .then ?_
    refine .block ?_
    refine .then ?_
    refine .then ?_
    replace hm:=oo_inv hm;obtain ⟨k1,h2,hm⟩:=hm
    obtain rfl:=toN_some h2
    replace hm:=bb_inv hm;obtain ⟨h3,hm⟩:=hm
    replace hm:=oo_inv hm;obtain ⟨v0,h4,hm⟩:=hm
    replace hm:=inv_toI hm;obtain ⟨x0,rfl,hm⟩:=hm
    replace hm:=oo_inv hm;obtain ⟨v1,h5,hm⟩:=hm
    replace hm:=inv_vBool hm;obtain ⟨b0,rfl,hm⟩:=hm
    refine .reg (eC 2 (keep (hp 0 []) (bb (an (Nat.blt k1 (Sl.n s2)) true) (some (fpV (k1 * 1) (Sl.cs s2))) none)) (keep_bb h3) (eD (keep (hp 0 []) (nthL (Sl.cs s2) (k1 * 1))) (keep_eq h4) (eD ((oo (pu 43 [zI x0,(zI (1:Int)),(zI (21:Int))]) none fun v=>some (v,(hp 0 [])))) (call_eq h5) (eE)))) ?_
    refine .ghs (fr 49 [(0,Sl.v 1 s2),(3,(zI (Int.ofNat k1))),(20,(zB (nt b0)))]) (hp 0 []) (.k0 [] [] [0,3,20]) ?_
    replace hm:=bb_cases hm;rcases hm with ⟨h6,hm⟩ | ⟨h6,hm⟩
    ·refine .ifT (nt b0) (by kernel_rfl) h6 ?_
     refine .then (.rK ?_)
     refine .ghs (fr 49 [(2,(zI (1:Int)))]) (hp 0 []) (.k0 [] [] [2]) ?_
     refine .ret ?_
     exact fin_ret (zI (1:Int)) (by kernel_rfl) (by kernel_rfl) hm
    ·refine .ifF (nt b0) (by kernel_rfl) h6 ?_
     refine .skip ?_
     refine .ghs (fr 49 [(0,Sl.v 1 s2),(3,(zI (Int.ofNat k1)))]) (hp 0 []) (.k0 [] [] [0,3]) ?_
     refine .join (v:=v) (fun y:Sl×Int×Bool=>((fr 49 [(0,(Sl.v 1 y.1)),(3,(zI y.2.1)),(34,(zB y.2.2))]),(hp 0 []))) (fun y=>m27_4 pu n (l27_3 pu n w0) y.1 y.2.1 y.2.2) ?_ ?_
     ·rintro ⟨s3, z1, b1⟩ hm
      unfold m27_4 at hm
      replace hm:=bb_cases hm;rcases hm with ⟨h7,hm⟩ | ⟨h7,hm⟩
      ·refine .ifT b1 (by kernel_rfl) h7 ?_
       refine .then (.rK ?_)
       refine .ghs (fr 49 [(2,(zI (7:Int)))]) (hp 0 []) (.k0 [] [] [2]) ?_
       refine .ret ?_
       exact fin_ret (zI (7:Int)) (by kernel_rfl) (by kernel_rfl) hm
      ·refine .ifF b1 (by kernel_rfl) h7 ?_
       refine .skip ?_
       refine .ghs (fr 49 [(0,Sl.v 1 s3),(3,zI z1)]) (hp 0 []) (.k0 [] [] [0,3]) ?_
       refine .rK ?_
       exact ⟨(s3,(wrapF .i64 (Int.add z1 (1:Int)))),hm,(.k0 [] [] [0,3])⟩
     ·replace hm := bb_cases hm; rcases hm with ⟨h8, hm⟩ | ⟨h8, hm⟩
      ·replace hm := bb_inv hm; obtain ⟨h9, hm⟩ := hm
       replace hm:=oo_inv hm;obtain ⟨v2,h10,hm⟩:=hm
       replace hm:=inv_toI hm;obtain ⟨x1,rfl,hm⟩:=hm
       replace hm:=oo_inv hm;obtain ⟨k2,h11,hm⟩:=hm
       replace hm:=bb_inv hm;obtain ⟨h12,hm⟩:=hm
       replace hm:=oo_inv hm;obtain ⟨v3,h13,hm⟩:=hm
       replace hm:=inv_toI hm;obtain ⟨x2,rfl,hm⟩:=hm
       refine .reg (eN 7 (Fr.puts (fr 49 [(0,Sl.v 1 s2),(3,(zI (Int.ofNat k1)))]) [(21,(zI (Int.ofNat k1))),(22,zB true),(23,zB true),(24,Sl.v 1 s2),(25,(zI (Int.ofNat k1))),(26,(fpV (k1 * 1) (Sl.cs s2))),(27,zI x1)]) (hp 0 []) (eC 1 (some ((zB (ilt (0:Int) (Int.ofNat k1))),(hp 0 []))) (show _ = some ((zB true),_) from (by rw [h8])) (eC 3 (keep (hp 0 []) (bb (an (Nat.blt k1 (Sl.n s2)) true) (some (fpV (k1 * 1) (Sl.cs s2))) none)) (keep_bb h9) (eD (keep (hp 0 []) (nthL (Sl.cs s2) (k1 * 1))) (keep_eq h10) (by kernel_rfl)))) (eC 2 (some ((zI (wrapF .i64 (Int.sub (Int.ofNat k1) (1:Int)))),(hp 0 []))) (show _ = some ((zI (Int.ofNat k2)),_) from (by rw [toN_some h11])) (eD (keep (hp 0 []) (bb (an (Nat.blt k2 (Sl.n s2)) true) (some (fpV (k2 * 1) (Sl.cs s2))) none)) (keep_bb h12) (eD (keep (hp 0 []) (nthL (Sl.cs s2) (k2 * 1))) (keep_eq h13) (eE))))) ?_
       exact ⟨(s2,(Int.ofNat k1),(ilt x2 x1)),hm,(.k0 [] [] [0,3,34])⟩
      ·refine .reg (eC 1 (some ((zB (ilt (0 : Int) (Int.ofNat k1))), (hp 0 []))) (show _ = some ((zB false), _) from (by rw [h8])) (eE)) ?_
       exact ⟨(s2,(Int.ofNat k1),false),hm,(.k0 [] [] [0,3,34])⟩
   ·refine .ifF (ilt z0 (Int.ofNat (Sl.n s2))) (by kernel_rfl) h1 ?_
    refine .exit ?_
    exact ⟨s2,hm,(.k0 [] [] [0])⟩
def m28_1 (pu:PureF) (n n0 c0:Nat) (q1:LV):OV:=
 (bb (allL closed1 q1) (bb (an (Nat.ble (0 + n0 * 1) (len q1)) (allL closed1 (takeL (n0 * 1) (dropL 0 q1)))) (some (Sl.v 1 (Sl.mk n0 0 (takeL (n0 * 1) (dropL 0 q1))))) none) none)
def b28_2 (pu:PureF) (n:Nat) (ih0:Sl→Nat→Nat→Sl→LV→OV) (s0:Sl) (n0 c0:Nat) (s1:Sl) (q1:LV):OV:=
 (oo (pu 31 [Sl.v 1 s1,Sl.v 1 s0]) none fun v0=>(oo (vBool v0) none fun b0=>(bb (allL closed1 q1) (bb (nt b0) (bb (growC 1 24 n0 c0 1 q1) (bb (allL closed1 (appL (dropL 0 q1) [Sl.v 1 s1])) (oo (pu 57 [Sl.v 1 s1]) none fun v1=>(oo (toSl 1 v1) none fun s2=>(ih0 s0 (n0 + 1) (2 * (n0 + 1) + bb false 1 0) s2 (appL (dropL 0 q1) [Sl.v 1 s1])))) none) none) (m28_1 pu n n0 c0 q1)) none)))
def l28_2 (pu:PureF) (n w:Nat):Sl→Nat→Nat→Sl→LV→OV:=
 Nat.rec (motive:=fun _=>Sl→Nat→Nat→Sl→LV→OV) (fun _ _ _ _ _=>none) (fun _ ih0=>b28_2 pu n ih0) w
def m28_0 (pu:PureF) (n:Nat) (s0:Sl):OV:=
 (oo (pu 57 [Sl.v 1 s0]) none fun v0=>(oo (toSl 1 v0) none fun s1=>(l28_2 pu n n s0 1 2 s1 ([Sl.v 1 s0]:LV))))
def m28_4 (pu:PureF) (n:Nat) (ih0:Sl→Sl→Sl→OV) (s0 s1 s2:Sl):OV:=
 (oo (pu 57 [Sl.v 1 s2]) none fun v0=>(oo (toSl 1 v0) none fun s3=>(ih0 s0 s1 s3)))
def b28_3 (pu:PureF) (n:Nat) (ih0:Sl→Sl→Sl→OV) (s0 s1 s2:Sl):OV:=
 (oo (pu 31 [Sl.v 1 s2,Sl.v 1 s0]) none fun v0=>(oo (vBool v0) none fun b0=>(bb (nt b0) (oo (pu 58 [Sl.v 1 s2,Sl.v 1 s1]) none fun v1=>(oo (vBool v1) none fun b1=>(bb b1 (m28_4 pu n ih0 s0 s2 s2) (m28_4 pu n ih0 s0 s1 s2)))) (m28_0 pu n s1))))
def l28_3 (pu:PureF) (n w:Nat):Sl→Sl→Sl→OV:=
 Nat.rec (motive:=fun _=>Sl→Sl→Sl→OV) (fun _ _ _=>none) (fun _ ih0=>b28_3 pu n ih0) w
def m28_ (pu:PureF) (n:Nat) (s0:Sl):OV:=
 (oo (pu 56 [Sl.v 1 s0]) none fun v0=>(oo (vTup v0) none fun l0=>(ll l0 none fun v1 l0=>(ll l0 none fun v2 l0=>(ll l0 (oo (toI .i64 v1) none fun x0=>(oo (toSl 1 v2) none fun s1=>(oo (pu 57 [Sl.v 1 s1]) none fun v3=>(oo (toSl 1 v3) none fun s2=>(l28_3 pu n n s1 s1 s2))))) fun _ _=>none)))))
def m28 (pu:PureF) (n:Nat) (args:LV):OV:=
 (ll args none fun a0 args=>(ll args (oo (toSl 1 a0) none fun s0=>(m28_ pu n s0)) fun _ _=>none))
theorem w28_1 (pu:PureF) (n n0 c0:Nat) (q1:LV) {v:Value} (hm:m28_1 pu n n0 c0 q1 = some v):Run tt (callP tabs isP pu (inl pu)) 0 c28_32 (fr 42 [(7,sc 0 0 1 n0 c0)]) (hp 1 [oC q1]) (Fin tt 0 [.tmp 2] v):=by
 unfold m28_1 at hm
 refine .then (.rK ?_)
 replace hm:=bb_inv hm;obtain ⟨h0,hm⟩:=hm
 refine .ghs (fr 42 [(2,sc 0 0 1 n0 c0)]) (hp 1 [oC q1]) (.k [0] [] [.tmp 2 false] [2] ⟨trF h0,trivial⟩) ?_
 replace hm:=bb_inv hm;obtain ⟨h1,hm⟩:=hm
 refine .ghs (Fr.puts (fr 42 [(2,sc 0 0 1 n0 c0)]) [(2,(Sl.v 1 (Sl.mk n0 0 (takeL (n0 * 1) (dropL 0 q1)))))]) (hp 1 [.dead]) (.freezeC 0 2 1 (an (Nat.ble (0 + n0 * 1) (len q1)) (allL closed1 (takeL (n0 * 1) (dropL 0 q1)))) (F1:=(Fr.puts (fr 42 [(2,sc 0 0 1 n0 c0)]) [(2,(Sl.v 1 (Sl.mk n0 0 (takeL (n0 * 1) (dropL 0 q1)))))])) (H1:=(hp 1 [.dead])) (by kernel_rfl) (by kernel_rfl) h1 (GhS.id _ _)) ?_
 refine .ret ?_
 exact fin_ret (Sl.v 1 (Sl.mk n0 0 (takeL (n0 * 1) (dropL 0 q1)))) (by kernel_rfl) (by kernel_rfl) hm
theorem w28_0 (pu:PureF) (n:Nat) (s0:Sl) {v:Value} (hm:m28_0 pu n s0 = some v):Run tt (callP tabs isP pu (inl pu)) 0 c28_34 (fr 42 [(5,Sl.v 1 s0)]) (hp 0 []) (Fin tt 0 [.tmp 2] v):=by
 unfold m28_0 at hm
 refine .then (.rK ?_)
 refine .ghs (fr 42 [(5,Sl.v 1 s0),(7,sc 0 0 1 1 3)]) (hp 1 [(oC [Sl.v 1 s0])]) (.k0 [] [.tmp 7 false] [5,7]) ?_
 refine .join (v:=v) (fun y:Nat×Nat×LV=>((fr 42 [(7,(sc 0 0 1 y.1 y.2.1))]),(hp 1 [(oC y.2.2)]))) (fun y=>m28_1 pu n y.1 y.2.1 y.2.2) ?_ ?_
 ·rintro ⟨n0, c0, q1⟩ hm
  exact w28_1 pu n n0 c0 q1 hm
 ·refine .then ?_
  replace hm:=oo_inv hm;obtain ⟨v0,h0,hm⟩:=hm
  replace hm:=inv_toSl hm;obtain ⟨s1,rfl,hm⟩:=hm
  refine .reg (eC 1 ((oo (pu 57 [Sl.v 1 s0]) none fun v=>some (v,(hp 1 [(oC [Sl.v 1 s0])])))) (call_eq h0) (eE)) ?_
  refine .ghs (fr 42 [(5,Sl.v 1 s0),(7,sc 0 0 1 1 3),(8,Sl.v 1 s1)]) (hp 1 [(oC [Sl.v 1 s0])]) (.k0 [] [.tmp 7 false] [5,7,8]) ?_
  refine .block ?_
  refine .loopM (v:=v) (fun y:Sl×Nat×Nat×Sl×LV=>((fr 42 [(5,(Sl.v 1 y.1)),(7,(sc 0 0 1 y.2.1 y.2.2.1)),(8,(Sl.v 1 y.2.2.2.1))]),(hp 1 [(oC y.2.2.2.2)]))) (fun w y=>l28_2 pu n w y.1 y.2.1 y.2.2.1 y.2.2.2.1 y.2.2.2.2) n ⟨(s0,1,2,s1,([Sl.v 1 s0]:LV)),hm,(.weak 7 (sc 0 0 1 1 2) (v:=(sc 0 0 1 1 3)) (by kernel_rfl) (Weak.cap 0 0 1 1 1) (.k0 [] [.tmp 7 false] [5,7,8]))⟩ (fun _=>rfl) ?_
  rintro w0 ⟨s2,n1,c1,s3,q2⟩ hm
  replace hm:b28_2 pu n (l28_2 pu n w0) s2 n1 c1 s3 q2 = some v:=hm
  unfold b28_2 at hm
  refine .then ?_
  refine .then ?_
  replace hm:=oo_inv hm;obtain ⟨v1,h1,hm⟩:=hm
  replace hm:=inv_vBool hm;obtain ⟨b0,rfl,hm⟩:=hm
  refine .reg (eC 2 ((oo (pu 31 [Sl.v 1 s3,Sl.v 1 s2]) none fun v=>some (v,(hp 1 [oC q2])))) (call_eq h1) (eE)) ?_
  replace hm:=bb_inv hm;obtain ⟨h2,hm⟩:=hm
  refine .ghs (fr 42 [(5,Sl.v 1 s2),(7,sc 0 0 1 n1 c1),(8,Sl.v 1 s3),(34,(zB (nt b0)))]) (hp 1 [oC q2]) (.k [0] [] [.tmp 7 false] [5,7,8,34] ⟨trF h2,trivial⟩) ?_
  replace hm:=bb_cases hm;rcases hm with ⟨h3,hm⟩ | ⟨h3,hm⟩
  ·refine .ifT (nt b0) (by kernel_rfl) h3 ?_
   refine .skip ?_
   refine .ghs (fr 42 [(5,Sl.v 1 s2),(7,sc 0 0 1 n1 c1),(8,Sl.v 1 s3)]) (hp 1 [oC q2]) (.k [0] [] [.tmp 7 false] [5,7,8] ⟨trF h2,trivial⟩) ?_
   refine .then ?_
   refine .block ?_
   replace hm:=bb_inv hm;obtain ⟨h4,hm⟩:=hm
   refine .reg (eC 3 (growD 1 24 n1 c1 1 0 q2 [Sl.v 1 s3] [] (hp 2 [oC q2,(oC [Sl.v 1 s3])])) (growD_eq h4) (eE)) ?_
   replace hm:=bb_inv hm;obtain ⟨h5,hm⟩:=hm
   refine .ghs (fr 42 [(5,Sl.v 1 s2),(7,(sc 0 0 1 (n1 + 1) (d2 (n1 + 1)))),(8,Sl.v 1 s3)]) (hp 1 [(oC (appL (dropL 0 q2) [Sl.v 1 s3]))]) (.k [2] [] [.tmp 7 false] [5,7,8] ⟨trF h5,trivial⟩) ?_
   replace hm:=oo_inv hm;obtain ⟨v2,h6,hm⟩:=hm
   replace hm:=inv_toSl hm;obtain ⟨s4,rfl,hm⟩:=hm
   refine .reg (eC 1 ((oo (pu 57 [Sl.v 1 s3]) none fun v=>some (v,(hp 1 [(oC (appL (dropL 0 q2) [Sl.v 1 s3]))])))) (call_eq h6) (eE)) ?_
   exact ⟨(s2,(n1 + 1),(d2 (n1 + 1)),s4,(appL (dropL 0 q2) [Sl.v 1 s3])),hm,(.k [0] [] [.tmp 7 false] [5,7,8] ⟨trF h5,trivial⟩)⟩
  ·refine .ifF (nt b0) (by kernel_rfl) h3 ?_
   refine .exit ?_
   exact ⟨(n1,c1,q2),hm,(.k [0] [] [.tmp 7 false] [7] ⟨trF h2,trivial⟩)⟩
theorem r28 {call:CallF} (pu:PureF) (n:Nat) (hcall:call = callP tabs isP pu (inl pu)) {args:LV} {v:Value} (hm:m28 pu n args = some v) (_:∀ x ∈ args,closed2 x = true):args.length≤42∧Run tt call 0 c28_38 (Fr.made 42 args) (pureHeap tabs) (Fin tt 0 [.tmp 2] v):=by
 subst hcall
 unfold m28 at hm
 replace hm:=ll_uncons hm;obtain ⟨a0,args_0,rfl,hm⟩:=hm
 replace hm:=ll_end hm;obtain ⟨rfl,hm⟩:=hm
 replace hm:=inv_toSl hm;obtain ⟨s0,rfl,hm⟩:=hm
 unfold m28_ at hm
 refine ⟨by simp,?_⟩
 refine .same (F':=(fr 42 [(0,Sl.v 1 s0)])) (H':=(hp 0 [])) (by kernel_rfl) (by kernel_rfl) ?_
 refine .then (.rK ?_)
 refine .ghs (fr 42 [(0,Sl.v 1 s0)]) (hp 0 []) (.k0 [] [] [0]) ?_
 refine .then ?_
 replace hm:=oo_inv hm;obtain ⟨v0,h0,hm⟩:=hm
 replace hm:=inv_vTup hm;obtain ⟨l0,rfl,hm⟩:=hm
 replace hm:=ll_uncons hm;obtain ⟨v1,l104842_0,rfl,hm⟩:=hm
 replace hm:=ll_uncons hm;obtain ⟨v2,l104842_1,rfl,hm⟩:=hm
 replace hm:=ll_end hm;obtain ⟨rfl,hm⟩:=hm
 replace hm:=inv_toI hm;obtain ⟨x0,rfl,hm⟩:=hm
 replace hm:=inv_toSl hm;obtain ⟨s1,rfl,hm⟩:=hm
 refine .reg (eC 1 ((oo (pu 56 [Sl.v 1 s0]) none fun v=>some (v,(hp 0 [])))) (call_eq h0) (eE)) ?_
 refine .ghs (fr 42 [(4,Sl.v 1 s1)]) (hp 0 []) (.k0 [] [] [4]) ?_
 refine .then (.rK ?_)
 refine .ghs (fr 42 [(4,Sl.v 1 s1),(5,Sl.v 1 s1)]) (hp 0 []) (.k0 [] [] [4,5]) ?_
 refine .join (v:=v) (fun y:Sl=>((fr 42 [(5,Sl.v 1 y)]),(hp 0 []))) (fun y=>m28_0 pu n y) ?_ ?_
 ·rintro s2 hm
  exact w28_0 pu n s2 hm
 ·refine .then ?_
  replace hm:=oo_inv hm;obtain ⟨v3,h1,hm⟩:=hm
  replace hm:=inv_toSl hm;obtain ⟨s3,rfl,hm⟩:=hm
  refine .reg (eC 1 ((oo (pu 57 [Sl.v 1 s1]) none fun v=>some (v,(hp 0 [])))) (call_eq h1) (eE)) ?_
  refine .ghs (fr 42 [(4,Sl.v 1 s1),(5,Sl.v 1 s1),(6,Sl.v 1 s3)]) (hp 0 []) (.k0 [] [] [4,5,6]) ?_
  refine .block ?_
  refine .loopM (v:=v) (fun y:Sl×Sl×Sl=>((fr 42 [(4,(Sl.v 1 y.1)),(5,(Sl.v 1 y.2.1)),(6,(Sl.v 1 y.2.2))]),(hp 0 []))) (fun w y=>l28_3 pu n w y.1 y.2.1 y.2.2) n ⟨(s1,s1,s3),hm,(.k0 [] [] [4,5,6])⟩ (fun _=>rfl) ?_
  rintro w0 ⟨s4,s5,s6⟩ hm
  replace hm:b28_3 pu n (l28_3 pu n w0) s4 s5 s6 = some v:=hm
  unfold b28_3 at hm
  refine .then ?_
  refine .then ?_
  replace hm:=oo_inv hm;obtain ⟨v4,h2,hm⟩:=hm
  replace hm:=inv_vBool hm;obtain ⟨b0,rfl,hm⟩:=hm
  refine .reg (eC 2 ((oo (pu 31 [Sl.v 1 s6,Sl.v 1 s4]) none fun v=>some (v,(hp 0 [])))) (call_eq h2) (eE)) ?_
  refine .ghs (fr 42 [(4,Sl.v 1 s4),(5,Sl.v 1 s5),(6,Sl.v 1 s6),(20,(zB (nt b0)))]) (hp 0 []) (.k0 [] [] [4,5,6,20]) ?_
  replace hm:=bb_cases hm;rcases hm with ⟨h3,hm⟩ | ⟨h3,hm⟩
  ·refine .ifT (nt b0) (by kernel_rfl) h3 ?_
   refine .skip ?_
   refine .ghs (fr 42 [(4,Sl.v 1 s4),(5,Sl.v 1 s5),(6,Sl.v 1 s6)]) (hp 0 []) (.k0 [] [] [4,5,6]) ?_
   refine .join (v:=v) (fun y:Sl×Sl×Sl=>((fr 42 [(4,(Sl.v 1 y.1)),(5,(Sl.v 1 y.2.1)),(6,(Sl.v 1 y.2.2))]),(hp 0 []))) (fun y=>m28_4 pu n (l28_3 pu n w0) y.1 y.2.1 y.2.2) ?_ ?_
   ·rintro ⟨s7, s8, s9⟩ hm
    unfold m28_4 at hm
    replace hm:=oo_inv hm;obtain ⟨v5,h4,hm⟩:=hm
    replace hm:=inv_toSl hm;obtain ⟨s10,rfl,hm⟩:=hm
    refine .reg (eC 1 ((oo (pu 57 [Sl.v 1 s9]) none fun v=>some (v,(hp 0 [])))) (call_eq h4) (eE)) ?_
    exact ⟨(s7,s8,s10),hm,(.k0 [] [] [4,5,6])⟩
   ·refine .block ?_
    refine .then ?_
    replace hm:=oo_inv hm;obtain ⟨v6,h5,hm⟩:=hm
    replace hm:=inv_vBool hm;obtain ⟨b1,rfl,hm⟩:=hm
    refine .reg (eC 2 ((oo (pu 58 [Sl.v 1 s6,Sl.v 1 s5]) none fun v=>some (v,(hp 0 [])))) (call_eq h5) (eE)) ?_
    refine .ghs (fr 42 [(4,Sl.v 1 s4),(5,Sl.v 1 s5),(6,Sl.v 1 s6),(25,zB b1)]) (hp 0 []) (.k0 [] [] [4,5,6,25]) ?_
    replace hm:=bb_cases hm;rcases hm with ⟨h6,hm⟩ | ⟨h6,hm⟩
    ·refine .ifT b1 (by kernel_rfl) h6 ?_
     refine .rK ?_
     exact ⟨(s4,s6,s6),hm,(.k0 [] [] [4,5,6])⟩
    ·refine .ifF b1 (by kernel_rfl) h6 ?_
     refine .skip ?_
     exact ⟨(s4,s5,s6),hm,(.k0 [] [] [4,5,6])⟩
  ·refine .ifF (nt b0) (by kernel_rfl) h3 ?_
   refine .exit ?_
   exact ⟨s5,hm,(.k0 [] [] [5])⟩
end
end Go.HvRM
