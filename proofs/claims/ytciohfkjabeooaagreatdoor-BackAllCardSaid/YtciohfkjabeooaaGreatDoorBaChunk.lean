/- Made from wip. -/
import Derived.RangeFuncNested
import Derived.RangeFuncBound
import Derived.RangeFuncCalls
import Derived.RangeFuncLeaves
import Derived.Shelf.Abstract
import Derived.Shelf.RegionOpen
import Derived.WalkKit
import Derived.OwnWalkIn
import Derived.TacticsInMore
import Derived.LoopNIn
import Derived.LoopIn
import Derived.Test.YtciohfkjabeooaaGreatDoorProg

namespace Go.Proofs
open Go Go.RowKit Go.Shelf
attribute [local go_sem] Oper.semAt_some

def O7 {r:Nat} (hr:0 < r) (k:Nat):List (Fin r):=(List.range k).map fun i=>⟨i % r,Nat.mod_lt _ hr⟩
theorem RX {r:Nat} (hr:0 < r) (k:Nat):O7 hr (k+1)=O7 hr k++[⟨k % r,Nat.mod_lt _ hr⟩]:=by simp[O7,List.range_succ]
theorem eB {r:Nat} (hr:0 < r) (k:Nat):(O7 hr k).length=k:=by simp[O7]

set_option maxRecDepth 100000 in
set_option maxHeartbeats 4000000 in
theorem eF (F:Fence) (n:Nat) (h7:F.fn 100) (hro:F.round=none) (hn:1≤n) (l Bs Bn b off r c N cap:Nat) (hr:0 < r) (hc:1≤c) (hc4:c≤4) (hN:N=r*c) (hrc:N≤16) (hcap:N≤cap) (J Jx:List (Fin r)→World→Prop) (hJd:∀ s W,J s W→J s W.drew)
 (hY : ∀ pre (x : Fin r) W, J pre W → pre.length < r → YieldAt F (n - 1) Tryz.prog l #[.slice (some ⟨b, off + x.1 * c, none⟩) c c] W fun e W' =>
   (e = .returned (.bool true)∧J (pre++[x]) W'∧(W'.cell? ⟨Bs,0,none⟩=W.cell? ⟨Bs,0,none⟩∧W'.cell? ⟨Bn,0,none⟩=W.cell? ⟨Bn,0,none⟩))∨(e = .returned (.bool false)∧Jx (pre++[x]) W'))
 (W:World) (hBs:W.cell? ⟨Bs,0,none⟩=some (.slice (some ⟨b,off,none⟩) N cap)) (hBn:W.cell? ⟨Bn,0,none⟩=some (.int .i64 c)) (h0:J [] W) :
 CallsIn F n Tryz.prog 100 #[.func (.yield l) #[] #[], .pointer (some ⟨Bs, 0, none⟩), .pointer (some ⟨Bn, 0, none⟩)] W fun e W' => (∃ v, e = .returned v) ∧
  ((∃ ys,ys=O7 hr r∧J ys W')∨(∃ pre,True∧Jx pre W')):=by
 refine callsIn_of_wp Tryz.func100 rfl h7 ?_ hro
 simp only[Tryz.ntmps100,List.size_toArray,List.length_cons,List.length_nil,Nat.reduceAdd,Nat.reduceSub,Array.replicate_succ,Array.replicate_zero,List.push_toArray,List.append_toArray,List.nil_append,List.cons_append]
 gi_wp2
 gi_loopw [4] (fun i wr => ∃ k q : Nat, k ≤ r ∧ q = k * c ∧ i = .int .i64 q ∧ J (O7 hr k) wr ∧ wr.cell? ⟨Bs, 0, none⟩ = some (.slice (some ⟨b, off, none⟩) N cap) ∧ wr.cell? ⟨Bn, 0, none⟩ = some (.int .i64 c))
  (fun i _=>N - (intOf i).toNat)
 case atStart=>exact⟨0,0,Nat.zero_le _,by simp,rfl,h0,hBs,hBn⟩
 case round=>
  obtain⟨k,q,hk,hq,rfl,hJs,hs,hnn⟩:=hrel
  by_cases hlt:k < r
  ·obtain⟨fn,tmps,assign,body,hy,hR⟩:=hY _ ⟨k,hlt⟩ wr.drew (hJd _ _ hJs) (by rw[eB];exact hlt)
   have e1:q+c≤N:=by rw[hq,hN,←Nat.succ_mul];exact Nat.mul_le_mul_right c hlt
   have hq2:Hid ((k+1)*c=q+c):=by show (k+1)*c=q+c;rw[Nat.succ_mul,hq]
   dsimp only at hy
   rw[←hq] at hy
   have hmod:(⟨k % r,Nat.mod_lt _ hr⟩:Fin r)=⟨k,hlt⟩:=by simp[Nat.mod_eq_of_lt hlt]
   have hJn:Hid (∀ W',J (O7 hr k++[⟨k,hlt⟩]) W'→J (O7 hr (k+1)) W'):=fun W' h=>by rw[RX,hmod];exact h
   have hnc:c≤N - q:=by omega
   clear hq hN hmod hY hJd hBs hBn h0 hJs
   gi_wp2
   gi_region
   all_goals (try rw[if_neg (show ¬ N - q < c by omega)])
   all_goals gi_wp2
   all_goals
    refine hR.mono ?_
    rintro e W3 (⟨rfl,hJ3,hs3,hn3⟩ | ⟨rfl,hJx3⟩)
    ·have hs4:W3.cell? ⟨Bs,0,none⟩=some (.slice (some ⟨b,off,none⟩) N cap):=hs3.trans hs
     have hn4:W3.cell? ⟨Bn,0,none⟩=some (.int .i64 c):=hn3.trans hnn
     clear hs3 hn3 hs hnn
     gi_wp2
     go_roundw
     case rel=>exact⟨k+1,q+c,by omega,hq2.out.symm,by simp,hJn.out _ hJ3,hs4,hn4⟩
     case measure=>simp[intOf];omega
    ·gi_wp2
     refine bodyPost_ret (results_none rfl _ _ _) rfl ?_
     exact⟨⟨_,rfl⟩,.inr ⟨_,trivial,hJx3⟩⟩
  ·obtain rfl:k=r:=by omega
   obtain rfl:q=N:=by rw[hq,hN]
   gi_wp2
   go_end0
   exact⟨⟨_,rfl⟩,.inl ⟨_,rfl,hJs⟩⟩
end Go.Proofs
