/- Made from wip. -/
import Derived.RangeFuncBox
import Derived.RangeFuncNested
import Derived.RangeFuncBound
import Derived.RangeFuncCalls
import Derived.RangeFuncLeaves
import Derived.Shelf.Abstract
import Derived.Shelf.RegionOpen
import Derived.WalkKit
import Derived.OwnWalkIn
import Derived.TacticsInMore
import Derived.LoopNIn
import Derived.LoopIn
import Derived.Maps.AppendAt
import Derived.Test.YtokbaaeimejjlaaDoorProg
import Derived.Test.YtokbaaeimejjlaaDoorBkShelfx
import Derived.Test.YtokbaaeimejjlaaDoorSpYield
import Derived.Test.YtokbaaeimejjlaaDoorBkCellsx
import Derived.Test.YtokbaaeimejjlaaDoorSpClo3x
import Derived.Test.YtokbaaeimejjlaaDoorSpMorex
import Derived.KernelRfl
import Derived.Test.YtokbaaeimejjlaaDoorBkMPux

namespace Go.Proofs
open Go Go.RowKit Go.Shelf
attribute [local go_sem] Oper.semAt_some

def Jg {α:Type} (f:Nat→α) (k:Nat):List α:=(List.range k).map f
theorem V4 {α:Type} (f:Nat→α) (k:Nat):Jg f (k+1)=Jg f k++[f k]:=by simp[Jg,List.range_succ]
theorem QK {α:Type} (f:Nat→α) (k:Nat):(Jg f k).length=k:=by simp[Jg]
theorem WP (zs:List Int):Jg (fun j=>zs[j]?.getD 0) zs.length=zs:=by
 apply List.ext_getElem
 ·simp[Jg]
 ·intro i h1 h2
  simp[Jg,h2]

set_option maxRecDepth 100000 in
set_option maxHeartbeats 2000000 in
theorem Zt (F:Fence) (n:Nat) (h7:F.fn 64) (hro:F.round=none) (hn:1≤n) (l Bs ob n₀ b off len cap:Nat) (zs:List Int) (hreach:len*8≤140737488351232) (hb:b < n₀) (J Jx:List Int→World→Prop)
 (hY : ∀ pre x W, J pre W → pre.length < len → YieldAt F (n - 1) Tryd.prog l #[.int .i64 x] W fun e W' =>
   (e = .returned (.bool true)∧J (pre++[x]) W'∧Below n₀ W W')∨(e = .returned (.bool false)∧Jx (pre++[x]) W'))
 (W:World) (hBs:W.cell? ⟨Bs,ob,none⟩=some (.slice (some ⟨b,off,none⟩) len cap)) (hc:∀ j,j < len→W.cell? ⟨b,off+j,none⟩=some (.int .i64 (zs[j]?.getD 0))) (h0:J [] W) :
 CallsIn F n Tryd.prog 64 #[.func (.yield l) #[] #[], .pointer (some ⟨Bs, ob, none⟩)] W fun e W' => (∃ v, e = .returned v) ∧
  ((∃ ys,ys=Jg (fun j=>zs[j]?.getD 0) len∧J ys W')∨(∃ pre,True∧Jx pre W')):=by
 refine callsIn_of_wp Tryd.func64 rfl h7 ?_ hro
 simp only[Tryd.ntmps64,List.size_toArray,List.length_cons,List.length_nil,Nat.reduceAdd,Nat.reduceSub,Array.replicate_succ,Array.replicate_zero,List.push_toArray,List.append_toArray,List.nil_append,List.cons_append]
 gi_wp2
 gi_loopw [7] (fun i wr => ∃ k : Nat, k ≤ len ∧ i = .int .i64 k ∧ J (Jg (fun j => zs[j]?.getD 0) k) wr ∧ Below n₀ W wr)
  (fun i _=>len - (intOf i).toNat)
 case atStart=>exact⟨0,Nat.zero_le _,rfl,h0,Below.refl _ _⟩
 case round=>
  obtain⟨k,hk,rfl,hJs,hnx⟩:=hrel
  have hcx:k < len→wr.cell? ⟨b,off+k,none⟩=some (.int .i64 (zs[k]?.getD 0)):=fun h=>(hnx.cell (p:=⟨b,off+k,none⟩) hb).trans (hc k h)
  by_cases hlt:k < len
  ·obtain⟨fn,tmps,assign,body,hy,hR⟩:=hY _ (zs[k]?.getD 0) wr hJs (by rw[QK];exact hlt)
   have hcx':=hcx hlt
   gi_wp2
   refine hR.mono ?_
   rintro e W3 (⟨rfl,hJ3,hk3⟩ | ⟨rfl,hJx3⟩)
   ·gi_wp2
    go_roundw
    case rel=>exact⟨k+1,by omega,by simp,by rw[V4];exact hJ3,hnx.trans hk3⟩
    case measure=>simp[intOf];omega
   ·gi_wp2
    refine bodyPost_ret (results_none rfl _ _ _) rfl ?_
    exact⟨⟨_,rfl⟩,.inr ⟨_,trivial,hJx3⟩⟩
  ·obtain rfl:k=len:=by omega
   gi_wp2
   go_end0
   exact⟨⟨_,rfl⟩,.inl ⟨_,rfl,hJs⟩⟩
set_option maxRecDepth 100000 in
set_option maxHeartbeats 1000000 in
theorem QL (F:Fence) (n:Nat) (h7:F.fn 64) (hro:F.round=none) (l Bs ob:Nat) (J:List Int→World→Prop) (W:World) (a:Option Addr) (cap:Nat) (hBs:W.cell? ⟨Bs,ob,none⟩=some (.slice a 0 cap)) (h0:J [] W) :
 CallsIn F n Tryd.prog 64 #[.func (.yield l) #[] #[],.pointer (some ⟨Bs,ob,none⟩)] W fun e W'=>(∃ v,e = .returned v)∧J [] W':=by
 refine callsIn_of_wp Tryd.func64 rfl h7 ?_ hro
 simp only[Tryd.ntmps64,List.size_toArray,List.length_cons,List.length_nil,Nat.reduceAdd,Nat.reduceSub,Array.replicate_succ,Array.replicate_zero,List.push_toArray,List.append_toArray,List.nil_append,List.cons_append]
 gi_wp2
 gi_loopw [7] (fun i wr=>i = .int .i64 0∧J [] wr) (fun _ _=>0)
 case atStart=>exact⟨rfl,h0⟩
 case round=>
  obtain⟨rfl,hJs⟩:=hrel
  gi_wp2
  go_end0
  exact⟨⟨_,rfl⟩,hJs⟩
def Jh (n₀:Nat) (W:World) (sv:Value) (zs:List Int):Prop:=
 ((∃ a cap,sv = .slice a 0 cap)∧zs=[])∨∃ b off cap,sv = .slice (some ⟨b,off,none⟩) zs.length cap∧b < n₀∧∀ j,j < zs.length→W.cell? ⟨b,off+j,none⟩=some (.int .i64 (zs[j]?.getD 0))
theorem Jh.below {n₀:Nat} {A B:World} (h:Below n₀ A B) {sv:Value} {zs:List Int}:Jh n₀ A sv zs→Jh n₀ B sv zs
 | .inl e=>.inl e
 | .inr ⟨b,off,cap,e,hb,hc⟩=>.inr ⟨b,off,cap,e,hb,fun j hj=>(h.cell (p:=⟨b,off+j,none⟩) hb).trans (hc j hj)⟩
theorem QM (F:Fence) (n:Nat) (h7:F.fn 64) (hro:F.round=none) (hn:1≤n) (Bs ob n₀:Nat) (sv:Value) (zs:List Int) (hreach:zs.length*8≤140737488351232) (w:World) (hBs:Bs < w.heap.size) (hn₀:n₀≤w.heap.size)
 (hc:w.cell? ⟨Bs,ob,none⟩=some sv) (hI:Jh n₀ w sv zs) :
 SeqStopsK F n Tryd.prog 64 #[.pointer (some ⟨Bs,ob,none⟩)] (fun x:Int=>#[Value.int .i64 x]) (Below n₀) (fun ys=>ys=zs) (fun _=>True) zs.length w:=fun l J Jx W hW _ _ hY h0=>by
 have hc':=(hW.cell (p:=⟨Bs,ob,none⟩) hBs).trans hc
 rcases hI.below (hW.mono hn₀) with⟨⟨a,cap,rfl⟩,rfl⟩ | ⟨b,off,cap,rfl,hb,hcs⟩
 ·exact(QL F n h7 hro l Bs ob J W a cap hc' h0).mono fun e W' ⟨he,hj⟩=>⟨he,.inl ⟨_,rfl,hj⟩⟩
 ·refine(Zt F n h7 hro hn l Bs ob n₀ b off zs.length cap zs hreach hb J Jx hY W hc' hcs h0).mono ?_
  rintro e W' ⟨he,⟨ys,rfl,hj⟩ | ⟨pre,_,hj⟩⟩
  ·exact⟨he,.inl ⟨_,WP zs,hj⟩⟩
  ·exact⟨he,.inr ⟨_,trivial,hj⟩⟩
theorem jD:(Tryd.prog.info? 3).map (fun i=>(i.zero,i.size,i.bytes))=some (some (.int .i64 0),1,8):=by kernel_rfl

set_option maxRecDepth 100000 in
set_option maxHeartbeats 2000000 in
theorem V5 (F:Fence) (n:Nat) (h72:F.fn 72) (h64:F.fn 64) (hro:F.round=none) (hn:3≤n) (Bs ob:Nat) (sv:Value) (zs:List Int) (hlen:zs.length≤1000000) (w:World) (hBs:Bs < w.heap.size)
 (hc0:w.cell? ⟨Bs,ob,none⟩=some sv) (hI:Jh w.heap.size w sv zs) :
 CallsIn F n Tryd.prog 72 #[.slice none 0 0,.func (.func 64) #[] #[.pointer (some ⟨Bs,ob,none⟩)]] w fun e W'=>∃ v,e = .returned v∧W'.ownsRow w.heap.size 3 1 v zs.length (zs.map (Value.int .i64))∧(v = .slice none 0 0↔zs=[])∧Below w.heap.size w W':=by
 have h1:1≤n:=by omega
 obtain⟨i0,hi,hz0,hz1,hz2⟩:=info_parts jD
 refine callsIn_of_wp_marks Tryd.func72 rfl h72 ?_ hro
 simp only[Tryd.ntmps72,List.size_toArray,List.length_cons,List.length_nil,Nat.reduceAdd,Nat.reduceSub,Array.replicate_succ,Array.replicate_zero,List.push_toArray,List.append_toArray,List.nil_append,List.cons_append]
 gi_wp2
 have bO:=Boxed.new w 25 (.slice none 0 0)
 have hB0:Below w.heap.size w (w.alloc (.cells #[.slice none 0 0] 25)):=(Below.refl _ w).alloc (Nat.le_refl _) _
 refine wpIn_rangeFunc_ownG hro h1 (gf := 64) (lb := #[.pointer (some ⟨Bs, ob, none⟩)]) rfl h64 (enters_of Tryd.func64 (by kernel_rfl) rfl)
  (QM F (n - 1) h64 hro (by omega) Bs ob w.heap.size sv zs (by omega) _ (by simp;omega) (by simp) ((hB0.cell (p:=⟨Bs,ob,none⟩) hBs).trans hc0) (hI.below hB0)) belowK_t (belowK_b (by simp)) (Below.refl _ _) (fun _=>rfl)
  (fun pre W=>(∃ v,Boxed W w.heap.size 25 v∧W.ownsRow w.heap.size 3 1 v pre.length (pre.map (Value.int .i64))∧(v = .slice none 0 0↔pre=[]))∧Below w.heap.size w W)
  (fun _ _ _=>False)
  (OwnFrom.and (Own.from (holdsRow_own w.heap.size w.heap.size 25 3 1 (fun pre=>pre.length) (fun pre=>pre.map (Value.int .i64)) (fun pre v=>v = .slice none 0 0↔pre=[])) _) (ownFrom_below (Nat.le_refl _) (by simp)))
  (fun _ _ _ _ _ hs _ _=>hs)
  ⟨⟨_,bO,World.ownsRow_nil _ _ _ _,by simp⟩,hB0⟩
  (fun x=>{ tmps:=#[.slice none 0 0,.func (.func 64) #[] #[.pointer (some ⟨Bs,ob,none⟩)],.pointer (some ⟨w.heap.size,0,none⟩),undef,.slice none 0 0,.int .i64 x,.func (.func 64) #[] #[.pointer (some ⟨Bs,ob,none⟩)],.int .i64 x,undef,undef,undef,undef,undef],defers:=[] }) ?assign ?body ?done ?stop
 case assign=>
  intro l x W K hK
  gi_wp2
  exact hK
 case body=>
  rintro l pre x W ⟨⟨v,hv,hrow,hnil⟩,hB⟩ hlt
  have hc:=hv.cell
  gi_wp2_with (gi_at_builtin;refine wpListIn_append_own _ rfl _ _ 25 rfl w.heap.size 3 i0 (.int .i64 0) 1 8 Tryd.underlying25 hi hz0 hz1 hz2 rfl (by decide) _ _ _ rfl (hrow.alloc _) ⟨W.heap.size,0,none⟩ 1 1 [.int .i64 x] rfl rfl (cell_one_new _ _ _) (by simp[Value.oneCell']) (by have:maxLen=9223372036854775807:=rfl;omega) (by omega) (by have:=hB.size;simp;omega) ?_;intro v' w1 hown' hgrow _;obtain⟨g',cap',rfl⟩:=ownsRow_succ hown';obtain⟨hv1,hv2,hr2,hk2,hb2⟩:=hv.appended (by decide) hrow hB.size (Nat.le_refl _) hown' hgrow;have hc1:=hv1.cell;have hf1:=hv1.frozen)
  exact⟨hk2.from _,hb2,⟨_,hv2,by simpa using hr2,by simp⟩,hB.trans hb2⟩
 case done=>
  rintro D ys W hD rfl ⟨⟨v,hv,hrow,hnil⟩,hB⟩ hK
  have hc:=hv.cell
  gi_wp2
  refine⟨by simp,.inl ⟨_,_,rfl,run_takeDeferred hK,?_⟩⟩
  exact⟨_,results_tmp rfl _ _ _,v,rfl,ownsRow_putObj hrow _ hK rfl,hnil,hB.trans (belowK_b (w:=w) (Nat.le_refl _) W D _ _ (by simp at hD;omega) hK rfl rfl)⟩
 case stop=>
  rintro D c pre W _ _ h _
  exact h.elim

set_option maxRecDepth 100000 in
set_option maxHeartbeats 2000000 in
theorem Zu (Bs ob:Nat) (sv:Value) (zs:List Int) (hlen:zs.length≤1000000) (w:World) (hBs:Bs < w.heap.size)
 (hc0:w.cell? ⟨Bs,ob,none⟩=some sv) (hI:Jh w.heap.size w sv zs) :
 CallsIn Fence.wide 8 Tryd.prog 62 #[.func (.func 64) #[] #[.pointer (some ⟨Bs,ob,none⟩)]] w fun e W'=>∃ v,e = .returned v∧W'.ownsRow w.heap.size 3 1 v zs.length (zs.map (Value.int .i64))∧(v = .slice none 0 0↔zs=[])∧Below w.heap.size w W':=by
 have ha:=V5 Fence.wide 7 trivial trivial rfl (by omega) Bs ob sv zs hlen w hBs hc0 hI
 refine callsIn_of_wp Tryd.func62 rfl trivial ?_ rfl
 simp only[Tryd.ntmps62,List.size_toArray,List.length_cons,List.length_nil,Nat.reduceAdd,Nat.reduceSub,Array.replicate_succ,Array.replicate_zero,List.push_toArray,List.append_toArray,List.nil_append,List.cons_append]
 gi_wp2_with (refine⟨trivial,?_⟩;gi_at_call 72;refine ha.mono ?_;clear ha;rintro e w1 ⟨v,rfl,h1,h2,h3⟩)
 go_ret
 exact⟨v,rfl,h1,h2,h3⟩
open Go.Sp Go.BkM Go.Proofs.YtokbaaeimejjlaaDoor.BkM in
theorem Zv (k:Nat) (T:Tr AJ):Cr tt Ki 40 63 [.slice none 0 0] ⟨k,T,true⟩=some (.tuple ⟨[]⟩,⟨k,T,true⟩):=by kernel_rfl
set_option maxRecDepth 100000 in
set_option maxHeartbeats 2000000 in
theorem fH (Bs ob:Nat) (sv:Value) (zs:List Int) (hlen:zs.length≤1000000) (w:World) (hBs:Bs < w.heap.size)
 (hc0:w.cell? ⟨Bs,ob,none⟩=some sv) (hI:Jh w.heap.size w sv zs) (K:Value→World→World→Prop)
 (hK:∀ v w1,w1.ownsRow w.heap.size 3 1 v zs.length (zs.map (Value.int .i64))→(v = .slice none 0 0↔zs=[])→Below w.heap.size w w1→Calls Tryd.prog 63 #[v] w1 fun e w2=>e = .returned (.tuple #[])∧K v w1 w2) :
 Calls Tryd.prog 43 #[.func (.func 64) #[] #[.pointer (some ⟨Bs,ob,none⟩)]] w fun e W'=>∃ v w1,e = .returned v∧w1.ownsRow w.heap.size 3 1 v zs.length (zs.map (Value.int .i64))∧(v = .slice none 0 0↔zs=[])∧Below w.heap.size w w1∧K v w1 W':=by
 have ha:=Zu Bs ob sv zs hlen w hBs hc0 hI
 refine callsIn_wide (n:=9).1 ?_
 refine callsIn_of_wp Tryd.func43 rfl trivial ?_ rfl
 simp only[Tryd.ntmps43,List.size_toArray,List.length_cons,List.length_nil,Nat.reduceAdd,Nat.reduceSub,Array.replicate_succ,Array.replicate_zero,List.push_toArray,List.append_toArray,List.nil_append,List.cons_append]
 gi_wp2_with first
  | (refine⟨trivial,?_⟩;gi_at_call 62;refine ha.mono ?_;clear ha;rintro e w1 ⟨v,rfl,h1,h2,h3⟩;have hk:=hK v w1 h1 h2 h3)
  | (refine⟨trivial,?_⟩;gi_at_call 63;refine(callsIn_wide.2 hk).mono ?_;clear hk;rintro e w2 ⟨rfl,h4⟩)
 go_ret
 exact⟨v,w1,rfl,h1,h2,h3,h4⟩

open Go.Sp Go.BkM Go.Proofs.YtokbaaeimejjlaaDoor.BkM

noncomputable section
def M8 (v:Value) (H:Aa):Option (List Int):=bb (DN v) (some [])
 (oo (IA v) (oo (Le v) none fun f => bb (an (Nat.beq f.sz 1) (Nat.ble 1 f.n)) (oo (CG (Bi .i64) f.cs) none fun zs => bb (Nat.beq (len zs) f.n) (some zs) none) none)
   fun s=>ss s fun id off sz ln _=>bb (Nat.beq sz 1) (oo (Bv (H.get id)) none fun o=>oo (CG (Bi .i64) (Aq ln (Am off o.xs))) none fun zs=>bb (Nat.beq (len zs) ln) (some zs) none) none)
def OG (args:List Value) (H:Aa):Option (Value×Aa):=ll args none fun x r=>ll r (oo (Om 64 0 x) none fun l=>ll l none fun p l2=>ll l2 (oo (FO p) none fun q=>pp q fun id off=>oo (Bv (H.get id)) none fun o=>oo (AL o.xs off) none fun sv=>oo (M8 sv H) none fun zs=>
 bb (Nat.ble (len zs) 1000000) (ll zs (some (.slice none 0 0,H)) fun _ _=>some (FP 1 (len zs) 0 (AP DL (CY zs)),H.push .dead)) none) fun _ _=>none) fun _ _=>none
end
theorem WQ {v:Value} (h:DN v=true):v = .slice none 0 0:=Zr h
theorem OY {H:Aa} {R:Sp.Ren} {w:World} (hs:Ck H R w) {v u:Value} (hv:VR R v u) {zs:List Int} (h:M8 v H=some zs):Jh w.heap.size w u zs:=by
 unfold M8 at h
 rcases Ag h with⟨e,h⟩ | ⟨_,h⟩
 ·obtain rfl:=WQ e
  injection h with h;subst h
  exact .inl ⟨⟨none,0,hv.slNil_l⟩,rfl⟩
 ·have cellOf : ∀ (C : Array Value) (t : TypeId) (fz : Nat × Nat) (c o : Nat) (k : Nat), w.heap[c]? = some (.cells C t fz) → w.cell? ⟨c, o + k, none⟩ = C[o + k]? := fun C t fz c o k hC => by
   unfold World.cell?
   simp only[hC]
   rfl
  cases hsl:IA v with
  | none =>
   rw[hsl,Az] at h
   obtain⟨f,hf,h⟩:=Ab h
   obtain⟨hc,h⟩:=Ae h
   obtain⟨zs',hz,h⟩:=Ab h
   obtain⟨hl,h⟩:=Ae h
   injection h with h;subst h
   obtain⟨c1,c2⟩:=Av hc
   replace c1:=Nat.eq_of_beq_eq_true c1
   replace c2:=Nat.le_of_ble_eq_true c2
   replace hl:=Nat.eq_of_beq_eq_true hl
   rw[AV] at hl
   rcases hv.fs_l hf with⟨h1,_⟩ | ⟨_,h1,_⟩ | ⟨c,o,cap,C,hro,rfl,hn,k1,k2,k3,hfit,hcr,hcl⟩
   ·omega
   ·omega
   ·obtain⟨⟨t,fz,hC⟩,_⟩:=hs.ro c C hro
    refine .inr ⟨c,o,cap,by rw[hl],(Array.getElem?_eq_some_iff.1 hC).1,fun j hj=>?_⟩
    rw[cellOf C t fz c o j hC]
    obtain⟨m1,m2⟩:=Di hz
    have hx:=List.getElem?_eq_getElem (show j < f.cs.length by omega)
    obtain⟨b,n1,n2⟩:=m2 j _ hx
    obtain⟨y,g1,g2⟩:=hcr j _ hx
    rw[Eh n2] at g2
    rw[g2.int_l] at g1
    rw[g1,n1];rfl
  | some s =>
   rw[hsl,Ac] at h
   obtain⟨id,off,sz,ln,c2⟩:=s
   replace h:bb (Nat.beq sz 1) (oo (Bv (H.get id)) none fun o=>oo (CG (Bi .i64) (Aq ln (Am off o.xs))) none fun zs=>bb (Nat.beq (len zs) ln) (some zs) none) none=some zs:=h
   obtain⟨e1,h⟩:=Ae h
   obtain⟨o,ho,h⟩:=Ab h
   obtain⟨zs',hz,h⟩:=Ab h
   obtain⟨hl,h⟩:=Ae h
   injection h with h;subst h
   obtain rfl:=Nat.eq_of_beq_eq_true e1
   replace hl:=Nat.eq_of_beq_eq_true hl
   rw[AV] at hl
   rcases hv.sl_l hsl with⟨c,β,cap,hid,rfl,k1,k2,k3,k4⟩ | ⟨c,o2,rfl,k0,_⟩ | ⟨rfl,k0,_⟩
   ·obtain⟨C,t,fz,g1,g2,g3,g4⟩:=hs.cells hid ho
    refine .inr ⟨c,β+off,cap,by rw[hl],(Array.getElem?_eq_some_iff.1 g1).1,fun j hj=>?_⟩
    rw[cellOf C t fz c (β+off) j g1]
    obtain⟨m1,m2⟩:=Di hz
    have hx:=List.getElem?_eq_getElem (show j < (Aq ln (Am off o.xs)).length by omega)
    obtain⟨b,n1,n2⟩:=m2 j _ hx
    have hx2 : o.xs[off + j]? = some ((Aq ln (Am off o.xs))[j]'(by omega)) := by
     rw[←hx,Cg,Bz,List.getElem?_take_of_lt (by omega),List.getElem?_drop]
    obtain⟨y,q1,q2⟩:=g4 (off+j) _ hx2
    rw[Eh n2] at q2
    rw[q2.int_l] at q1
    rw[Nat.add_assoc,q1,n1];rfl
   ·replace k0:ln=0:=k0
    exact .inl ⟨⟨_,_,rfl⟩,List.eq_nil_of_length_eq_zero (by omega)⟩
   ·replace k0:ln=0:=k0
    exact .inl ⟨⟨_,_,rfl⟩,List.eq_nil_of_length_eq_zero (by omega)⟩
theorem RV (hm:Tryd.prog.follows .mixedOrders=true) {H:Aa} {R:Sp.Ren} {w:World} (hs:Ck H R w) (hgl:JH (List.range 1) R) (c ob:Nat) (y:Value) (zs:List Int) (hlen:zs.length≤1000000) (hBs:c < w.heap.size) (hcell:w.cell? ⟨c,ob,none⟩=some y) (hI:Jh w.heap.size w y zs) :
 Calls Tryd.prog 43 #[.func (.func 64) #[] #[.pointer (some ⟨c,ob,none⟩)]] w fun e w2=>∃ v,e = .returned v∧(v = .slice none 0 0↔zs=[])∧(zs=[]→∃ R2,Ba H R w H R2 w2)∧(zs≠[]→∃ R2,VR R2 (FP 1 zs.length 0 (AP DL (CY zs))) v∧Ba H R w (H.push .dead) R2 w2):=by
 have hcalls := fH c ob y zs hlen w hBs hcell hI
  (fun v w1 w2=>(zs=[]→∃ R2,Ba H R w H R2 w2)∧(zs≠[]→∃ R2,VR R2 (FP 1 zs.length 0 (AP DL (CY zs))) v∧Ba H R w (H.push .dead) R2 w2)) ?_
 ·exact hcalls.mono fun e w2 ⟨v1,w1,he,hown,hnil,hbel,k1,k2⟩=>⟨v1,he,hnil,k1,k2⟩
 ·intro v1 w1 hown hnil hbel
  have hb1:∀ c,c < w.heap.size→w1.heap[c]?=w.heap[c]?:=hbel.block
  have hpb:=V7 hs hbel
  by_cases hz:zs=[]
  ·subst hz
   rw[hnil.2 rfl]
   obtain⟨k,T,z⟩:=H
   have hs1:Ck ⟨k,T,true⟩ R w1:=Ck.congr (H:=⟨k,T,z⟩) (H2:=⟨k,T,true⟩) (fun i=>rfl) rfl hpb.sim
   have:=((Rx Dr UV hm 40) 63 _ _ _ _ (Zv k T)).2 R w1 [.slice none 0 0] hs1 hgl (.one .slNil)
   refine this.mono fun e w2 ⟨u,R2,he,hu,hp2⟩=>?_
   obtain⟨us,rfl,hul⟩:=hu.tuple_l
   have hus:us=[]:=by have:=hul.1;simpa using this.symm
   subst hus
   refine⟨he,fun _=>⟨R2,hpb.trans (Ba.congrR (H':=⟨k,T,true⟩) (H2:=⟨k,T,z⟩) (fun i=>rfl) rfl (Ba.congrL (H:=⟨k,T,true⟩) (H2:=⟨k,T,z⟩) (fun i=>rfl) rfl hp2)) hs⟩,fun hne=>absurd rfl hne⟩
  ·obtain⟨hl1,hcase⟩:=hown
   rcases hcase with⟨rfl,hn0⟩ | ⟨g,cap,cur,rfl,hge,hg,hcap,hmax,hcur,htake⟩
   ·exact absurd (hnil.1 rfl) hz
   rw[Nat.mul_one] at htake hcur
   have hcells:∀ j,j < zs.length→cur[j]?=some (.int .i64 (zs[j]?.getD 0)):=fun j hj=>by
    have h1:(cur.toList.take zs.length)[j]?=(zs.map (Value.int .i64))[j]?:=by rw[htake]
    rw[List.getElem?_take_of_lt hj,Array.getElem?_toList,List.getElem?_map,List.getElem?_eq_getElem hj] at h1
    rw[h1,List.getElem?_eq_getElem hj];rfl
   have hH:Go.Sort.Holds (Value.int .i64) w1 g 0 zs.toArray:=fun j hj=>by
    have hj:j < zs.length:=by simpa using hj
    refine⟨?_,?_⟩
    ·unfold World.cell?
     simp only[hg,Nat.zero_add]
     show cur[j]?=_
     rw[hcells j hj]
     simp[hj]
    ·unfold World.frozen?
     simp only[hg]
     simp
   have hsrt:=Tryd.slices_Sort_int g 0 cap zs w1 hH (Array.getElem?_eq_some_iff.1 hg).1 (by omega)
   refine hsrt.mono fun e w2 ⟨he,n,os,hw2⟩=>⟨he,fun e=>absurd e hz,fun _=>?_⟩
   have hp1:=fJ hs hb1 hbel.size hbel.os hbel.output hg hge (xs:=AP DL zs) (fun i x hx=>by
    rw[LQ,List.getElem?_map] at hx
    cases hi:zs[i]? with
    | none=>rw[hi] at hx;cases hx
    | some q =>
     rw[hi] at hx;injection hx with hx;subst hx
     have hlt:i < zs.length:=(List.getElem?_eq_some_iff.1 hi).1
     refine⟨_,by rw[Nat.zero_add];exact hcells i hlt,?_⟩
     rw[hi];exact .int _ _) (by rw[FX];omega)
   have hget:(H.push (.cells (AP DL zs) false false [])).get H.next = .cells (AP DL zs) false false []:=by rw[Aa.get_push,if_pos rfl]
   have hlen2:(CY zs).length=(AP DL zs).length:=by rw[CY,List.length_mergeSort,FX]
   have haw:=WF (vals:=CY zs) hget hlen2
   have hp2:=dS (R:=⟨fun i=>if i=H.next then some (g,0) else R.f i,fun c=>if c=g then cur.size else R.sz c,R.ro⟩) (c:=g) (β:=0) hp1.sim haw (by show (if H.next=H.next then _ else _)=_;rw[if_pos rfl]) n os
   rw[show Go.Sort.grow (Go.Sort.putRow (Value.int .i64) (Go.Sort.ahead w1 n) g 0 (CY zs).toArray) os=w2 from hw2.symm] at hp2
   have hp3:=hp1.trans hp2 hs
   have hgl2:(((H.push (.cells (AP DL zs) false false [])).kill []).set H.next (.cells (AP DL (CY zs)) false false [])).get H.next = .cells (AP DL (CY zs)) false false []:=by rw[Aa.get_set,if_pos rfl]
   have hfz:Cq H.next false (.slice (some ⟨H.next,0,some 1⟩) zs.length (2*zs.length)) (((H.push (.cells (AP DL zs) false false [])).kill []).set H.next (.cells (AP DL (CY zs)) false false []))=some (FP 1 zs.length 0 (AP DL (CY zs)),(((H.push (.cells (AP DL zs) false false [])).kill []).set H.next (.cells (AP DL (CY zs)) false false [])).set H.next .dead):=by
    unfold Cq
    show oo (Bv (Aa.get _ H.next)) none _=_
    rw[hgl2]
    have ht:Aq (zs.length*1) (Am 0 (AP DL (CY zs)))=AP DL (CY zs):=by
     rw[Cg,Bz,List.drop_zero,List.take_of_length_le (by rw[FX];simp[CY])]
    show bb (an (Nat.ble H.next H.next) (an true (an true (an (Nat.ble (0+zs.length*1) (len (AP DL (CY zs)))) (Au Ah (Aq (zs.length*1) (Am 0 (AP DL (CY zs))))))))) (some (FP 1 zs.length 0 (Aq (zs.length*1) (Am 0 (AP DL (CY zs)))),_)) none=_
    rw[ht,Nat.ble_eq_true_of_le (Nat.le_refl _),AV,FX,Nat.ble_eq_true_of_le (by simp[CY])]
    have hc:Au Ah (AP DL (CY zs))=true:=by
     rw[Bh,List.all_eq_true,LQ]
     intro x hx
     obtain⟨z,_,rfl⟩:=List.mem_map.1 hx
     rfl
    rw[hc];rfl
   obtain ⟨R2, _, _, q2, q3⟩ := Gg hfz hs (Nat.le_refl _) hp3 (.sl (c := g) (β := 0) (off := 0) (sz := 1) (ln := zs.length) (c2 := 2 * zs.length) (cap := cap) (by show (if H.next = H.next then _ else _) = _; rw [if_pos rfl]) (by omega) (by omega) (fun h => by omega) (by
    show 0+0+cap*1≤if g=g then cur.size else R.sz g
    rw[if_pos rfl];omega))
   refine⟨R2,q3,q2.congrR (fun i=>?_) ?_⟩
   ·rw[Aa.get_push,Aa.get_set,Aa.get_set]
    split
    ·rfl
    ·show Aa.get H i=(H.push (.cells (AP DL zs) false false [])).get i
     rw[Aa.get_push,if_neg (by assumption)]
   ·rw[Aa.next_push,Aa.next_set,Aa.next_set,Aa.next_kill,Aa.next_push]
theorem Uk (hm:Tryd.prog.follows .mixedOrders=true) {args:List Value} {H H':Aa} {v:Value} (h:OG args H=some (v,H')) :
 (∀ (xs:Array Value) (w:World),(callFunc 43 xs).run Tryd.prog w = .ok (.enter 43 xs) w) ∧
 ∀ R w args',Ck H R w→JH (List.range 1) R→Cf R args args'→Calls Tryd.prog 43 ⟨args'⟩ w fun e w'=>∃ u R',e = .returned u∧VR R' v u∧Ba H R w H' R' w':=by
 refine⟨enters_of Tryd.func43 (by kernel_rfl) rfl,fun R w args' hs hgl ha=>?_⟩
 replace h:=Ad h;obtain⟨x,r,rfl,h⟩:=h
 replace h:=AC h;obtain⟨rfl,h⟩:=h
 replace h:=Ab h;obtain⟨l,hfn,h⟩:=h
 replace h:=Ad h;obtain⟨p,l2,rfl,h⟩:=h
 replace h:=AC h;obtain⟨rfl,h⟩:=h
 replace h:=Ab h;obtain⟨⟨id,off⟩,hp,h⟩:=h
 replace h:oo (Bv (H.get id)) none (fun o=>oo (AL o.xs off) none fun sv=>oo (M8 sv H) none fun zs=>bb (Nat.ble (len zs) 1000000) (ll zs (some (.slice none 0 0,H)) fun _ _=>some (FP 1 (len zs) 0 (AP DL (CY zs)),H.push .dead)) none)=some (v,H'):=h
 replace h:=Ab h;obtain⟨o,ho,h⟩:=h
 replace h:=Ab h;obtain⟨sv,hsv,h⟩:=h
 replace h:=Ab h;obtain⟨zs,hzs,h⟩:=h
 replace h:=Ae h;obtain⟨hlen,h⟩:=h
 replace hlen:=Nat.le_of_ble_eq_true hlen
 rw[AV] at hlen
 obtain⟨u0,us,rfl,hu0,hnil⟩:=ha.uncons
 obtain rfl:=hnil.unnil
 obtain rfl:=Hu hfn
 obtain rfl:=Dg hp
 obtain⟨u1,rfl,hu1⟩:∃ u1,u0 = .func (.func 64) ⟨[]⟩ ⟨[u1]⟩∧VR R (.pointer (some ⟨id,off,none⟩)) u1:=by
  cases hu0 with
  | @func _ _ ys _ us hl h hl' h' =>
   have e1:ys=[]:=List.eq_nil_of_length_eq_zero hl.symm
   subst e1
   match us,hl' with
   | [u1],_=>exact⟨u1,rfl,h' 0 _ u1 rfl rfl⟩
 obtain⟨c,β,hid,rfl⟩:=hu1.ptr_l
 obtain⟨C,t,fz,g1,g2,g3,g4⟩:=hs.cells hid ho
 rw[BZ] at hsv
 obtain⟨y,hy,hvy⟩:=g4 off sv hsv
 have hcell:w.cell? ⟨c,β+off,none⟩=some y:=by
  unfold World.cell?
  simp only[g1]
  exact hy
 have hI:=OY hs hvy hzs
 refine(RV hm hs hgl c (β+off) y zs hlen (Array.getElem?_eq_some_iff.1 g1).1 hcell hI).mono fun e w2 ⟨v1,he,hnil,k1,k2⟩=>?_
 by_cases hz:zs=[]
 ·subst hz
  injection (show some (Value.slice none 0 0,H)=some (v,H') from h) with h;injection h with e1 e2;subst e1;subst e2
  obtain⟨R2,hp2⟩:=k1 rfl
  rw[hnil.2 rfl] at he
  exact⟨_,R2,he,.slNil,hp2⟩
 ·obtain⟨R2,hv2,hp2⟩:=k2 hz
  obtain⟨z,zs',rfl⟩:=List.exists_cons_of_ne_nil hz
  have h:some (FP 1 (len (z::zs')) 0 (AP DL (CY (z::zs'))),H.push .dead)=some (v,H'):=h
  rw[AV] at h
  injection h with h;injection h with e1 e2;subst e1;subst e2
  exact⟨_,R2,he,hv2,hp2⟩
theorem fI {H:Aa} {R:Sp.Ren} {w:World} (hs:Ck H R w) {s:Sl} {u:Value} (hv:VR R (Sl.v 1 s) u) {zs:List Int} (hz:CG (Bi .i64) s.cs=some zs) (hl:Nat.beq (len zs) s.n=true):Jh w.heap.size w u zs:=by
 by_cases h0:s.n=0
 ·have hzs : zs = [] := by
   have:=Nat.eq_of_beq_eq_true hl
   rw[AV,h0] at this
   exact List.eq_nil_of_length_eq_zero this
  refine .inl ⟨?_,hzs⟩
  rcases hv.fs_l (f:=⟨1,s.n,s.fl,s.cs⟩) rfl with⟨_,_,rfl⟩ | ⟨_,_,_,c,o,sp,rfl⟩ | ⟨c,o,cap,C,_,rfl,_⟩
  ·exact⟨_,_,rfl⟩
  ·exact⟨_,_,rfl⟩
  ·refine⟨some ⟨c,o,none⟩,cap,?_⟩
   rw[h0]
 ·refine OY hs hv (H:=H) ?_
  have h1:Nat.ble 1 s.n=true:=Nat.ble_eq_true_of_le (by omega)
  show bb (an (Nat.beq 1 1) (Nat.ble 1 s.n)) (oo (CG (Bi .i64) s.cs) none fun zs=>bb (Nat.beq (len zs) s.n) (some zs) none) none=some zs
  rw[h1,show an (Nat.beq 1 1) true=true from rfl,Ak,hz,Ac,hl,Ak]
theorem sortedF_ok (hm:Tryd.prog.follows .mixedOrders=true) {args:List Value} {H H':Aa} {v:Value} (h:Go.Sp.sortedF 64 args H=some (v,H')) :
 (∀ (xs:Array Value) (w:World),(callFunc 43 xs).run Tryd.prog w = .ok (.enter 43 xs) w) ∧
 ∀ R w args',Ck H R w→JH (List.range 1) R→Cf R args args'→Calls Tryd.prog 43 ⟨args'⟩ w fun e w'=>∃ u R',e = .returned u∧VR R' v u∧Ba H R w H' R' w':=by
 refine⟨enters_of Tryd.func43 (by kernel_rfl) rfl,fun R w args' hs hgl ha=>?_⟩
 unfold Go.Sp.sortedF at h
 replace h:=Ad h;obtain⟨x,r,rfl,h⟩:=h
 replace h:=AC h;obtain⟨rfl,h⟩:=h
 replace h:=Ab h;obtain⟨l,hfn,h⟩:=h
 replace h:=Ad h;obtain⟨p,l2,rfl,h⟩:=h
 replace h:=AC h;obtain⟨rfl,h⟩:=h
 replace h:=Ab h;obtain⟨⟨id,off⟩,hp,h⟩:=h
 replace h:oo (Bv (H.get id)) none (fun o=>oo (AL o.xs off) none fun sv=>oo (Bj 1 sv) none fun s=>oo (CG (Bi .i64) s.cs) none fun zs=>bb (an (Nat.beq (len zs) s.n) (Nat.ble (len zs) 1000000)) (some (Sl.v 1 ⟨len zs,bb (MQ zs) 2 0,AP DL (CY zs)⟩,H.push .dead)) none)=some (v,H'):=h
 replace h:=Ab h;obtain⟨o,ho,h⟩:=h
 replace h:=Ab h;obtain⟨sv,hsv,h⟩:=h
 replace h:=Ab h;obtain⟨s,hsl,h⟩:=h
 obtain rfl:=Qh hsl
 replace h:=Ab h;obtain⟨zs,hz,h⟩:=h
 replace h:=Ae h;obtain⟨hc,h⟩:=h
 obtain⟨hl,hlen⟩:=Av hc
 replace hlen:=Nat.le_of_ble_eq_true hlen
 rw[AV] at hlen
 obtain⟨u0,us,rfl,hu0,hnil⟩:=ha.uncons
 obtain rfl:=hnil.unnil
 obtain rfl:=Hu hfn
 obtain rfl:=Dg hp
 obtain⟨u1,rfl,hu1⟩:∃ u1,u0 = .func (.func 64) ⟨[]⟩ ⟨[u1]⟩∧VR R (.pointer (some ⟨id,off,none⟩)) u1:=by
  cases hu0 with
  | @func _ _ ys _ us hl h hl' h' =>
   have e1:ys=[]:=List.eq_nil_of_length_eq_zero hl.symm
   subst e1
   match us,hl' with
   | [u1],_=>exact⟨u1,rfl,h' 0 _ u1 rfl rfl⟩
 obtain⟨c,β,hid,rfl⟩:=hu1.ptr_l
 obtain⟨C,t,fz,g1,g2,g3,g4⟩:=hs.cells hid ho
 rw[BZ] at hsv
 obtain⟨y,hy,hvy⟩:=g4 off _ hsv
 have hcell:w.cell? ⟨c,β+off,none⟩=some y:=by
  unfold World.cell?
  simp only[g1]
  exact hy
 have hI:=fI hs hvy hz hl
 injection h with h;injection h with e1 e2;subst e1;subst e2
 refine(RV hm hs hgl c (β+off) y zs hlen (Array.getElem?_eq_some_iff.1 g1).1 hcell hI).mono fun e w2 ⟨v1,he,hnil,k1,k2⟩=>?_
 by_cases hz0:zs=[]
 ·subst hz0
  obtain⟨R2,hp2⟩:=k1 rfl
  rw[hnil.2 rfl] at he
  refine⟨_,R2,he,?_,hp2.absPush (obj:=.dead) rfl⟩
  rw[show CY []=[] from List.mergeSort_nil]
  exact .fsN 1 2 (by decide)
 ·obtain⟨R2,hv2,hp2⟩:=k2 hz0
  refine⟨_,R2,he,?_,hp2⟩
  have e0:MQ zs=false:=by
   cases zs with
   | nil=>exact absurd rfl hz0
   | cons=>rfl
  rw[e0,AV]
  exact hv2
end Go.Proofs
set_option maxRecDepth 100000
namespace Go.Proofs.YtokbaaeimejjlaaDoor.BkM
open Go Go.Sp Go.BkMM Go.BkM
noncomputable section
theorem fk5:Ar Tryd.prog (List.range tabs.length) 5 ⟨201,Xe,[.tmp 6]⟩:=by
 have h:c5=Xe:=by kernel_rfl
 rw[←h];exact AeJ
theorem fk9:Ar Tryd.prog (List.range tabs.length) 9 ⟨79,Xf,[.cell 6 27,.tmp 7]⟩:=by
 have h:c9=Xf:=by kernel_rfl
 rw[←h];exact AeK
theorem Agu:Ar Tryd.prog (List.range tabs.length) 12 ⟨26,Sr,[.tmp 4]⟩:=by
 have h:c12=Sr:=by kernel_rfl
 rw[←h];exact mM
theorem Agv:Ar Tryd.prog (List.range tabs.length) 14 ⟨21,Sz,[.tmp 4,.tmp 5]⟩:=by
 have h:c14=Sz:=by kernel_rfl
 rw[←h];exact mO
theorem Agw:Ar Tryd.prog (List.range tabs.length) 15 ⟨43,SA,[.tmp 4,.tmp 5]⟩:=by
 have h:c15=SA:=by kernel_rfl
 rw[←h];exact mP
theorem Agx:Ar Tryd.prog (List.range tabs.length) 20 ⟨25,SB,[.tmp 4,.tmp 5]⟩:=by
 have h:c20=SB:=by kernel_rfl
 rw[←h];exact nD
theorem Agy:Ar Tryd.prog (List.range tabs.length) 22 ⟨4,Xg,[.tmp 2]⟩:=by
 have h:c22=Xg:=by kernel_rfl
 rw[←h];exact nG
theorem Agz:Ar Tryd.prog (List.range tabs.length) 23 ⟨39,SC,[.tmp 2,.tmp 3]⟩:=by
 have h:c23=SC:=by kernel_rfl
 rw[←h];exact nH
theorem AgA:Ar Tryd.prog (List.range tabs.length) 32 ⟨33,SE,[.tmp 4,.tmp 5]⟩:=by
 have h:c32=SE:=by kernel_rfl
 rw[←h];exact nI
theorem AgB:Ar Tryd.prog (List.range tabs.length) 34 ⟨35,SF,[.tmp 6]⟩:=by
 have h:c34=SF:=by kernel_rfl
 rw[←h];exact nJ
theorem AgC:Ar Tryd.prog (List.range tabs.length) 35 ⟨28,SG,[.tmp 4]⟩:=by
 have h:c35=SG:=by kernel_rfl
 rw[←h];exact nK
theorem AgD:Ar Tryd.prog (List.range tabs.length) 36 ⟨38,SI,[.tmp 6]⟩:=by
 have h:c36=SI:=by kernel_rfl
 rw[←h];exact nL
theorem AgE:Ar Tryd.prog (List.range tabs.length) 37 ⟨26,SK,[.tmp 4]⟩:=by
 have h:c37=SK:=by kernel_rfl
 rw[←h];exact nM
theorem AgF:Ar Tryd.prog (List.range tabs.length) 45 ⟨36,SQ,[.tmp 4]⟩:=by
 have h:c45=SQ:=by kernel_rfl
 rw[←h];exact nR
theorem AgG:Ar Tryd.prog (List.range tabs.length) 46 ⟨9,Xh,[.tmp 2]⟩:=by
 have h:c46=Xh:=by kernel_rfl
 rw[←h];exact nS
theorem AgH:Ar Tryd.prog (List.range tabs.length) 47 ⟨15,XJ,[.tmp 2]⟩:=by
 have h:c47=XJ:=by kernel_rfl
 rw[←h];exact nT
theorem AgI:Ar Tryd.prog (List.range tabs.length) 48 ⟨15,XK,[.tmp 6]⟩:=by
 have h:c48=XK:=by kernel_rfl
 rw[←h];exact nU
theorem AgJ:Ar Tryd.prog (List.range tabs.length) 49 ⟨110,TV,[.tmp 2,.tmp 3]⟩:=by
 have h:c49=TV:=by kernel_rfl
 rw[←h];exact nV
theorem AgK:Ar Tryd.prog (List.range tabs.length) 50 ⟨27,TW,[.tmp 4]⟩:=by
 have h:c50=TW:=by kernel_rfl
 rw[←h];exact nW
theorem AgL:Ar Tryd.prog (List.range tabs.length) 51 ⟨18,TY,[.cell 2 86]⟩:=by
 have h:c51=TY:=by kernel_rfl
 rw[←h];exact nX
theorem AgM:Ar Tryd.prog (List.range tabs.length) 52 ⟨22,XL,[.cell 4 86]⟩:=by
 have h:c52=XL:=by kernel_rfl
 rw[←h];exact nY
theorem AgN:Ar Tryd.prog (List.range tabs.length) 53 ⟨22,TZ,[.tmp 2]⟩:=by
 have h:c53=TZ:=by kernel_rfl
 rw[←h];exact nZ
theorem AgO:Ar Tryd.prog (List.range tabs.length) 57 ⟨50,T9,[.cell 4 91]⟩:=by
 have h:c57=T9:=by kernel_rfl
 rw[←h];exact oD
theorem AgP:Ar Tryd.prog (List.range tabs.length) 58 ⟨34,Ua,[.tmp 4]⟩:=by
 have h:c58=Ua:=by kernel_rfl
 rw[←h];exact oF
theorem AgQ:Ar Tryd.prog (List.range tabs.length) 65 ⟨20,Ub,[.tmp 4]⟩:=by
 have h:c65=Ub:=by kernel_rfl
 rw[←h];exact oJ
theorem AgR:Ar Tryd.prog (List.range tabs.length) 68 ⟨25,Ud,[.tmp 2]⟩:=by
 have h:c68=Ud:=by kernel_rfl
 rw[←h];exact oL
theorem AgS:Ar Tryd.prog (List.range tabs.length) 69 ⟨25,Ue,[.tmp 2]⟩:=by
 have h:c69=Ue:=by kernel_rfl
 rw[←h];exact oM
theorem AgT:Ar Tryd.prog (List.range tabs.length) 71 ⟨8,XM,[.tmp 2]⟩:=by
 have h:c71=XM:=by kernel_rfl
 rw[←h];exact oO
theorem AgU:Ar Tryd.prog (List.range tabs.length) 74 ⟨6,XN,[.tmp 2]⟩:=by
 have h:c74=XN:=by kernel_rfl
 rw[←h];exact oP
theorem AgV:Ar Tryd.prog (List.range tabs.length) 87 ⟨25,Uf,[.tmp 2]⟩:=by
 have h:c87=Uf:=by kernel_rfl
 rw[←h];exact oU
theorem AgW:Ar Tryd.prog (List.range tabs.length) 40 ⟨88,Pe,[]⟩:=by
 have h:c40=Pe:=by kernel_rfl
 rw[←h];exact nN
theorem AgX:Ar Tryd.prog (List.range tabs.length) 41 ⟨9,UK,[.tmp 4]⟩:=by
 have h:c41=UK:=by kernel_rfl
 rw[←h];exact nO
theorem AgY:Ar Tryd.prog (List.range tabs.length) 61 ⟨19,Pf,[.tmp 4]⟩:=by
 have h:c61=Pf:=by kernel_rfl
 rw[←h];exact oI
theorem AgZ:Ar Tryd.prog (List.range tabs.length) 42 ⟨9,UL,[.tmp 3]⟩:=by
 have h:c42=UL:=by kernel_rfl
 rw[←h];exact nP
theorem Ag0:Ar Tryd.prog (List.range tabs.length) 44 ⟨4,UM,[.tmp 2]⟩:=by
 have h:c44=UM:=by kernel_rfl
 rw[←h];exact nQ
theorem Ag1:Ar Tryd.prog (List.range tabs.length) 59 ⟨14,UN,[]⟩:=by
 have h:c59=UN:=by kernel_rfl
 rw[←h];exact oG
theorem Ag2:Ar Tryd.prog (List.range tabs.length) 70 ⟨148,Pg,[]⟩:=by
 have h:c70=Pg:=by kernel_rfl
 rw[←h];exact oN
theorem Ag3:Ar Tryd.prog (List.range tabs.length) 78 ⟨53,Ph,[]⟩:=by
 have h:c78=Ph:=by kernel_rfl
 rw[←h];exact oQ
theorem Ag4:Ar Tryd.prog (List.range tabs.length) 60 ⟨66,Pi,[.tmp 4]⟩:=by
 have h:c60=Pi:=by kernel_rfl
 rw[←h];exact oH
theorem Fp:∀ t∈tabs,t≠[]:=by intro t ht;simp[tabs] at ht;subst ht;intro h;cases h
theorem FD:∀ t∈tabs,∀ x∈t,BR x=true:=by intro t ht x hx;simp[tabs] at ht;subst ht;simp[QH] at hx;rcases hx with rfl | rfl | rfl | rfl | rfl | rfl | rfl | rfl | rfl | rfl | rfl | rfl | rfl | rfl | rfl | rfl | rfl | rfl | rfl | rfl | rfl | rfl | rfl | rfl | rfl | rfl | rfl | rfl | rfl | rfl | rfl | rfl <;> rfl
theorem AaI (hm:Tryd.prog.follows .mixedOrders=true) {pu:Af} (hg22:BA Tryd.prog tabs 22 (pu 22)) (hg77:BA Tryd.prog tabs 77 (pu 77)) (hg32:BA Tryd.prog tabs 32 (pu 32)) (h0:Cn Tryd.prog tabs 7 5 40 (pu 10400)) (h1:Cn Tryd.prog tabs 2 1 41 (pu 10410)) (h2:Cn Tryd.prog tabs 2 1 61 (pu 10610)) (h3:Cn Tryd.prog tabs 2 1 42 (pu 10420)) (h4:Cn Tryd.prog tabs 1 0 44 (pu 10440)) (h5:Cn Tryd.prog tabs 2 1 59 (pu 10590)) (h6:Cn Tryd.prog tabs 5 1 70 (pu 10700)) (h7:Cn Tryd.prog tabs 4 1 78 (pu 10780)) (h8:Cn Tryd.prog tabs 2 1 60 (pu 10600)):CO Tryd.prog (List.range tabs.length) (inl pu):=fun g args H v H' h=>by
 replace h:bb (Nat.beq g 43) (sortedF 64 args H) (bb (Nat.beq g 22) (Hr tabs 1 (pu 22) args H) (bb (Nat.beq g 77) (Hr tabs 1 (pu 77) args H) (bb (Nat.beq g 32) (Hr tabs 1 (pu 32) args H) (bb (Nat.beq g 40) (EK tabs [[some 1],[none],[none],[none],[none],[none],[none]] 7 [.tmp 2 false,.tmp 3 false,.tmp 4 false,.tmp 5 false,.tmp 6 true] [false,false,false,false,true] (pu 10400) args H) (bb (Nat.beq g 41) (EK tabs [[some 1],[none]] 2 [.cap 1 0 false] [false] (pu 10410) args H) (bb (Nat.beq g 61) (EK tabs [[some 1],[none]] 2 [.cap 1 0 false] [false] (pu 10610) args H) (bb (Nat.beq g 42) (EK tabs [[none],[none]] 2 [.tmp 1 false] [false] (pu 10420) args H) (bb (Nat.beq g 44) (EK tabs [[some 1]] 1 [] [false] (pu 10440) args H) (bb (Nat.beq g 59) (EK tabs [[none],[none]] 2 [.tmp 0 false] [false] (pu 10590) args H) (bb (Nat.beq g 70) (EK tabs [[none],[none],[none],[none],[none]] 5 [.tmp 0 false] [false] (pu 10700) args H) (bb (Nat.beq g 78) (EK tabs [[none],[none],[none],[none]] 4 [.tmp 0 false] [false] (pu 10780) args H) (bb (Nat.beq g 60) (EK tabs [[none],[none]] 2 [.tmp 0 false] [false] (pu 10600) args H) (none)))))))))))))=some (v,H'):=h
 have hq:=Ag h;clear h;rcases hq with⟨e,h⟩ | ⟨_,h⟩
 ·obtain rfl:=Nat.eq_of_beq_eq_true e
  exact Go.Proofs.sortedF_ok hm h
 have hq:=Ag h;clear h;rcases hq with⟨e,h⟩ | ⟨_,h⟩
 ·obtain rfl:=Nat.eq_of_beq_eq_true e
  exact Og Fp FD hg22 h
 have hq:=Ag h;clear h;rcases hq with⟨e,h⟩ | ⟨_,h⟩
 ·obtain rfl:=Nat.eq_of_beq_eq_true e
  exact Og Fp FD hg77 h
 have hq:=Ag h;clear h;rcases hq with⟨e,h⟩ | ⟨_,h⟩
 ·obtain rfl:=Nat.eq_of_beq_eq_true e
  exact Og Fp FD hg32 h
 have hq:=Ag h;clear h;rcases hq with⟨e,h⟩ | ⟨_,h⟩
 ·obtain rfl:=Nat.eq_of_beq_eq_true e
  exact Ip (rs:=[.tmp 2 false,.tmp 3 false,.tmp 4 false,.tmp 5 false,.tmp 6 true]) Fp FD h0 h
 have hq:=Ag h;clear h;rcases hq with⟨e,h⟩ | ⟨_,h⟩
 ·obtain rfl:=Nat.eq_of_beq_eq_true e
  exact Ip (rs:=[.cap 1 0 false]) Fp FD h1 h
 have hq:=Ag h;clear h;rcases hq with⟨e,h⟩ | ⟨_,h⟩
 ·obtain rfl:=Nat.eq_of_beq_eq_true e
  exact Ip (rs:=[.cap 1 0 false]) Fp FD h2 h
 have hq:=Ag h;clear h;rcases hq with⟨e,h⟩ | ⟨_,h⟩
 ·obtain rfl:=Nat.eq_of_beq_eq_true e
  exact Ip (rs:=[.tmp 1 false]) Fp FD h3 h
 have hq:=Ag h;clear h;rcases hq with⟨e,h⟩ | ⟨_,h⟩
 ·obtain rfl:=Nat.eq_of_beq_eq_true e
  exact Ip (rs:=[]) Fp FD h4 h
 have hq:=Ag h;clear h;rcases hq with⟨e,h⟩ | ⟨_,h⟩
 ·obtain rfl:=Nat.eq_of_beq_eq_true e
  exact Ip (rs:=[.tmp 0 false]) Fp FD h5 h
 have hq:=Ag h;clear h;rcases hq with⟨e,h⟩ | ⟨_,h⟩
 ·obtain rfl:=Nat.eq_of_beq_eq_true e
  exact Ip (rs:=[.tmp 0 false]) Fp FD h6 h
 have hq:=Ag h;clear h;rcases hq with⟨e,h⟩ | ⟨_,h⟩
 ·obtain rfl:=Nat.eq_of_beq_eq_true e
  exact Ip (rs:=[.tmp 0 false]) Fp FD h7 h
 have hq:=Ag h;clear h;rcases hq with⟨e,h⟩ | ⟨_,h⟩
 ·obtain rfl:=Nat.eq_of_beq_eq_true e
  exact Ip (rs:=[.tmp 0 false]) Fp FD h8 h
 cases h
theorem jE (hm:Tryd.prog.follows .mixedOrders=true) (hw:BA Tryd.prog tabs 19 UQ∧BA Tryd.prog tabs 66 UR∧BA Tryd.prog tabs 77 UT) {pu:Af} (hall:(∀ g,isP g=true→BA Tryd.prog tabs g (pu g))∧BA Tryd.prog tabs 22 (pu 22)∧BA Tryd.prog tabs 77 (pu 77)∧BA Tryd.prog tabs 32 (pu 32)∧Cn Tryd.prog tabs 7 5 40 (pu 10400)∧Cn Tryd.prog tabs 2 1 41 (pu 10410)∧Cn Tryd.prog tabs 2 1 61 (pu 10610)∧Cn Tryd.prog tabs 2 1 42 (pu 10420)∧Cn Tryd.prog tabs 1 0 44 (pu 10440)∧Cn Tryd.prog tabs 2 1 59 (pu 10590)∧Cn Tryd.prog tabs 5 1 70 (pu 10700)∧Cn Tryd.prog tabs 4 1 78 (pu 10780)∧Cn Tryd.prog tabs 2 1 60 (pu 10600)):(∀ g,isP g=true→BA Tryd.prog tabs g (MU pu g))∧BA Tryd.prog tabs 22 (MU pu 22)∧BA Tryd.prog tabs 77 (MU pu 77)∧BA Tryd.prog tabs 32 (MU pu 32)∧Cn Tryd.prog tabs 7 5 40 (MU pu 10400)∧Cn Tryd.prog tabs 2 1 41 (MU pu 10410)∧Cn Tryd.prog tabs 2 1 61 (MU pu 10610)∧Cn Tryd.prog tabs 2 1 42 (MU pu 10420)∧Cn Tryd.prog tabs 1 0 44 (MU pu 10440)∧Cn Tryd.prog tabs 2 1 59 (MU pu 10590)∧Cn Tryd.prog tabs 5 1 70 (MU pu 10700)∧Cn Tryd.prog tabs 4 1 78 (MU pu 10780)∧Cn Tryd.prog tabs 2 1 60 (MU pu 10600):=by
 obtain⟨hpu,hg22,hg77,hg32,h0,h4,h5,h6,h7,h8,h9,h10,h11⟩:=hall
 have hcall:=TG (P:=Tryd.prog) (tabs:=tabs) Fp FD (AaI hm hg22 hg77 hg32 h0 h4 h5 h6 h7 h8 h9 h10 h11) hpu
 refine⟨fun g hg=>?_,?_,?_,?_,?_,?_,?_,?_,?_,?_,?_,?_,?_⟩
 ·have hg:g∈UU:=CS.1 hg
  simp only[UU,List.mem_cons,List.not_mem_nil,or_false] at hg
  rcases hg with rfl | rfl | rfl | rfl | rfl | rfl | rfl | rfl | rfl | rfl | rfl | rfl | rfl | rfl | rfl | rfl | rfl | rfl | rfl | rfl | rfl | rfl | rfl | rfl | rfl | rfl | rfl | rfl | rfl | rfl
  ·exact Aw (tabs:=tabs) (f:=m5 pu L) Dr hm hcall fk5 fun args v h hc=>r5 pu L rfl h hc
  ·exact Aw (tabs:=tabs) (f:=m9 pu L) Dr hm hcall fk9 fun args v h hc=>r9 pu L rfl h hc
  ·exact Aw (tabs:=tabs) (f:=m12 pu L) Dr hm hcall Agu fun args v h hc=>r12 pu L rfl h hc
  ·exact Aw (tabs:=tabs) (f:=m14 pu L) Dr hm hcall Agv fun args v h hc=>r14 pu L rfl h hc
  ·exact Aw (tabs:=tabs) (f:=m15 pu L) Dr hm hcall Agw fun args v h hc=>r15 pu L rfl h hc
  ·exact hw.1
  ·exact Aw (tabs:=tabs) (f:=m20 pu L) Dr hm hcall Agx fun args v h hc=>r20 pu L rfl h hc
  ·exact Aw (tabs:=tabs) (f:=m23 pu L) Dr hm hcall Agz fun args v h hc=>r23 pu L rfl h hc
  ·exact Aw (tabs:=tabs) (f:=m34 pu L) Dr hm hcall AgB fun args v h hc=>r34 pu L rfl h hc
  ·exact Aw (tabs:=tabs) (f:=m35 pu L) Dr hm hcall AgC fun args v h hc=>r35 pu L rfl h hc
  ·exact Aw (tabs:=tabs) (f:=m36 pu L) Dr hm hcall AgD fun args v h hc=>r36 pu L rfl h hc
  ·exact Aw (tabs:=tabs) (f:=m37 pu L) Dr hm hcall AgE fun args v h hc=>r37 pu L rfl h hc
  ·exact Aw (tabs:=tabs) (f:=m45 pu L) Dr hm hcall AgF fun args v h hc=>r45 pu L rfl h hc
  ·exact Aw (tabs:=tabs) (f:=m46 pu L) Dr hm hcall AgG fun args v h hc=>r46 pu L rfl h hc
  ·exact Aw (tabs:=tabs) (f:=m47 pu L) Dr hm hcall AgH fun args v h hc=>r47 pu L rfl h hc
  ·exact Aw (tabs:=tabs) (f:=m48 pu L) Dr hm hcall AgI fun args v h hc=>r48 pu L rfl h hc
  ·exact Aw (tabs:=tabs) (f:=m49 pu L) Dr hm hcall AgJ fun args v h hc=>r49 pu L rfl h hc
  ·exact Aw (tabs:=tabs) (f:=m50 pu L) Dr hm hcall AgK fun args v h hc=>r50 pu L rfl h hc
  ·exact Aw (tabs:=tabs) (f:=m51 pu L) Dr hm hcall AgL fun args v h hc=>r51 pu L rfl h hc
  ·exact Aw (tabs:=tabs) (f:=m52 pu L) Dr hm hcall AgM fun args v h hc=>r52 pu L rfl h hc
  ·exact Aw (tabs:=tabs) (f:=m53 pu L) Dr hm hcall AgN fun args v h hc=>r53 pu L rfl h hc
  ·exact Aw (tabs:=tabs) (f:=m57 pu L) Dr hm hcall AgO fun args v h hc=>r57 pu L rfl h hc
  ·exact Aw (tabs:=tabs) (f:=m58 pu L) Dr hm hcall AgP fun args v h hc=>r58 pu L rfl h hc
  ·exact Aw (tabs:=tabs) (f:=m65 pu L) Dr hm hcall AgQ fun args v h hc=>r65 pu L rfl h hc
  ·exact hw.2.1
  ·exact Aw (tabs:=tabs) (f:=m68 pu L) Dr hm hcall AgR fun args v h hc=>r68 pu L rfl h hc
  ·exact Aw (tabs:=tabs) (f:=m69 pu L) Dr hm hcall AgS fun args v h hc=>r69 pu L rfl h hc
  ·exact Aw (tabs:=tabs) (f:=m71 pu L) Dr hm hcall AgT fun args v h hc=>r71 pu L rfl h hc
  ·exact Aw (tabs:=tabs) (f:=m74 pu L) Dr hm hcall AgU fun args v h hc=>r74 pu L rfl h hc
  ·exact Aw (tabs:=tabs) (f:=m87 pu L) Dr hm hcall AgV fun args v h hc=>r87 pu L rfl h hc
 ·exact Aw (tabs:=tabs) (f:=m22 pu L) Dr hm hcall Agy fun args v h hc=>r22 pu L rfl h hc
 ·exact hw.2.2
 ·exact Aw (tabs:=tabs) (f:=m32 pu L) Dr hm hcall AgA fun args v h hc=>r32 pu L rfl h hc
 ·exact Dx (tabs:=tabs) (f:=LU pu L) Dr hm hcall AgW fun args os z h1 h2 h3 h=>Aav pu L rfl h1 h2 h3 h
 ·exact Dx (tabs:=tabs) (f:=Ox pu L) Dr hm hcall AgX fun args os z h1 h2 h3 h=>Aaw pu L rfl h1 h2 h3 h
 ·exact Dx (tabs:=tabs) (f:=Oy pu L) Dr hm hcall AgY fun args os z h1 h2 h3 h=>Aax pu L rfl h1 h2 h3 h
 ·exact Dx (tabs:=tabs) (f:=Oz pu L) Dr hm hcall AgZ fun args os z h1 h2 h3 h=>Aay pu L rfl h1 h2 h3 h
 ·exact Dx (tabs:=tabs) (f:=OA pu L) Dr hm hcall Ag0 fun args os z h1 h2 h3 h=>Aaz pu L rfl h1 h2 h3 h
 ·exact Dx (tabs:=tabs) (f:=OB pu L) Dr hm hcall Ag1 fun args os z h1 h2 h3 h=>AaB pu L rfl h1 h2 h3 h
 ·exact Dx (tabs:=tabs) (f:=OC pu L) Dr hm hcall Ag2 fun args os z h1 h2 h3 h=>AaD pu L rfl h1 h2 h3 h
 ·exact Dx (tabs:=tabs) (f:=OD pu L) Dr hm hcall Ag3 fun args os z h1 h2 h3 h=>AaF pu L rfl h1 h2 h3 h
 ·exact Dx (tabs:=tabs) (f:=OE pu L) Dr hm hcall Ag4 fun args os z h1 h2 h3 h=>AaH pu L rfl h1 h2 h3 h
theorem AaJ (hm:Tryd.prog.follows .mixedOrders=true) (hw:BA Tryd.prog tabs 19 UQ∧BA Tryd.prog tabs 66 UR∧BA Tryd.prog tabs 77 UT):∀ n,(∀ g,isP g=true→BA Tryd.prog tabs g (Bp n g))∧BA Tryd.prog tabs 22 (Bp n 22)∧BA Tryd.prog tabs 77 (Bp n 77)∧BA Tryd.prog tabs 32 (Bp n 32)∧Cn Tryd.prog tabs 7 5 40 (Bp n 10400)∧Cn Tryd.prog tabs 2 1 41 (Bp n 10410)∧Cn Tryd.prog tabs 2 1 61 (Bp n 10610)∧Cn Tryd.prog tabs 2 1 42 (Bp n 10420)∧Cn Tryd.prog tabs 1 0 44 (Bp n 10440)∧Cn Tryd.prog tabs 2 1 59 (Bp n 10590)∧Cn Tryd.prog tabs 5 1 70 (Bp n 10700)∧Cn Tryd.prog tabs 4 1 78 (Bp n 10780)∧Cn Tryd.prog tabs 2 1 60 (Bp n 10600):=fun n=>by
 induction n with
 | zero =>
  refine⟨fun g hg=>?_,?_,?_,?_,?_,?_,?_,?_,?_,?_,?_,?_,?_⟩
  ·have hg:g∈UU:=CS.1 hg
   simp only[UU,List.mem_cons,List.not_mem_nil,or_false] at hg
   rcases hg with rfl | rfl | rfl | rfl | rfl | rfl | rfl | rfl | rfl | rfl | rfl | rfl | rfl | rfl | rfl | rfl | rfl | rfl | rfl | rfl | rfl | rfl | rfl | rfl | rfl | rfl | rfl | rfl | rfl | rfl
   ·exact⟨A9 fk5,fun args v h=>by cases h⟩
   ·exact⟨A9 fk9,fun args v h=>by cases h⟩
   ·exact⟨A9 Agu,fun args v h=>by cases h⟩
   ·exact⟨A9 Agv,fun args v h=>by cases h⟩
   ·exact⟨A9 Agw,fun args v h=>by cases h⟩
   ·exact⟨(hw.1).1,fun args v h=>by cases h⟩
   ·exact⟨A9 Agx,fun args v h=>by cases h⟩
   ·exact⟨A9 Agz,fun args v h=>by cases h⟩
   ·exact⟨A9 AgB,fun args v h=>by cases h⟩
   ·exact⟨A9 AgC,fun args v h=>by cases h⟩
   ·exact⟨A9 AgD,fun args v h=>by cases h⟩
   ·exact⟨A9 AgE,fun args v h=>by cases h⟩
   ·exact⟨A9 AgF,fun args v h=>by cases h⟩
   ·exact⟨A9 AgG,fun args v h=>by cases h⟩
   ·exact⟨A9 AgH,fun args v h=>by cases h⟩
   ·exact⟨A9 AgI,fun args v h=>by cases h⟩
   ·exact⟨A9 AgJ,fun args v h=>by cases h⟩
   ·exact⟨A9 AgK,fun args v h=>by cases h⟩
   ·exact⟨A9 AgL,fun args v h=>by cases h⟩
   ·exact⟨A9 AgM,fun args v h=>by cases h⟩
   ·exact⟨A9 AgN,fun args v h=>by cases h⟩
   ·exact⟨A9 AgO,fun args v h=>by cases h⟩
   ·exact⟨A9 AgP,fun args v h=>by cases h⟩
   ·exact⟨A9 AgQ,fun args v h=>by cases h⟩
   ·exact⟨(hw.2.1).1,fun args v h=>by cases h⟩
   ·exact⟨A9 AgR,fun args v h=>by cases h⟩
   ·exact⟨A9 AgS,fun args v h=>by cases h⟩
   ·exact⟨A9 AgT,fun args v h=>by cases h⟩
   ·exact⟨A9 AgU,fun args v h=>by cases h⟩
   ·exact⟨A9 AgV,fun args v h=>by cases h⟩
  ·exact⟨A9 Agy,fun args v h=>by cases h⟩
  ·exact⟨(hw.2.2).1,fun args v h=>by cases h⟩
  ·exact⟨A9 AgA,fun args v h=>by cases h⟩
  ·exact⟨A9 AgW,fun args os z h1 h2 h3 h=>by cases h⟩
  ·exact⟨A9 AgX,fun args os z h1 h2 h3 h=>by cases h⟩
  ·exact⟨A9 AgY,fun args os z h1 h2 h3 h=>by cases h⟩
  ·exact⟨A9 AgZ,fun args os z h1 h2 h3 h=>by cases h⟩
  ·exact⟨A9 Ag0,fun args os z h1 h2 h3 h=>by cases h⟩
  ·exact⟨A9 Ag1,fun args os z h1 h2 h3 h=>by cases h⟩
  ·exact⟨A9 Ag2,fun args os z h1 h2 h3 h=>by cases h⟩
  ·exact⟨A9 Ag3,fun args os z h1 h2 h3 h=>by cases h⟩
  ·exact⟨A9 Ag4,fun args os z h1 h2 h3 h=>by cases h⟩
 | succ n ih=>exact jE hm hw ih
theorem Ag5 (hm:Tryd.prog.follows .mixedOrders=true) (hw:BA Tryd.prog tabs 19 UQ∧BA Tryd.prog tabs 66 UR∧BA Tryd.prog tabs 77 UT):∀ n g,isP g=true→BA Tryd.prog tabs g (Bp n g):=fun n=>(AaJ hm hw n).1
end
end Go.Proofs.YtokbaaeimejjlaaDoor.BkM
