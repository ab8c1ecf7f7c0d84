/- Made from wip. -/
import Derived.RangeFuncBox
import Derived.RangeFuncNested
import Derived.RangeFuncBound
import Derived.RangeFuncCalls
import Derived.RangeFuncLeaves
import Derived.Shelf.Abstract
import Derived.Shelf.RegionOpen
import Derived.WalkKit
import Derived.OwnWalkIn
import Derived.TacticsInMore
import Derived.LoopNIn
import Derived.LoopIn
import Derived.Maps.AppendAt
import Derived.Test.YtokbaaeimejjlaaDoorProg
import Derived.Test.YtokbaaeimejjlaaDoorBkShelfx
import Derived.Test.YtokbaaeimejjlaaDoorSpYield
import Derived.Test.YtokbaaeimejjlaaDoorBkCellsx
import Derived.Test.YtokbaaeimejjlaaDoorSpClo3x
import Derived.Test.YtokbaaeimejjlaaDoorSpMorex
import Derived.Test.YtokbaaeimejjlaaDoorBkChunkx
import Derived.Test.YtokbaaeimejjlaaDoorSpSrtF
import Derived.KernelRfl

namespace Go.Proofs
open Go Go.RowKit Go.Shelf
attribute [local go_sem] Oper.semAt_some

def Ir {α:Type} (f:Nat→α) (k:Nat):List α:=(List.range k).map f
theorem UC {α:Type} (f:Nat→α) (k:Nat):Ir f (k+1)=Ir f k++[f k]:=by simp[Ir,List.range_succ]
theorem Qv {α:Type} (f:Nat→α) (k:Nat):(Ir f k).length=k:=by simp[Ir]
theorem Wj (zs:List Int):Ir (fun j=>zs[j]?.getD 0) zs.length=zs:=by
 apply List.ext_getElem
 ·simp[Ir]
 ·intro i h1 h2
  simp[Ir,h2]

set_option maxRecDepth 100000 in
set_option maxHeartbeats 2000000 in
theorem XT (F:Fence) (n:Nat) (h7:F.fn 64) (hro:F.round=none) (hn:1≤n) (l Bs ob n₀ b off len cap:Nat) (zs:List Int) (hreach:len*8≤140737488351232) (hb:b < n₀) (J Jx:List Int→World→Prop)
 (hY : ∀ pre x W, J pre W → pre.length < len → YieldAt F (n - 1) Tryd.prog l #[.int .i64 x] W fun e W' =>
   (e = .returned (.bool true)∧J (pre++[x]) W'∧Below n₀ W W')∨(e = .returned (.bool false)∧Jx (pre++[x]) W'))
 (W:World) (hBs:W.cell? ⟨Bs,ob,none⟩=some (.slice (some ⟨b,off,none⟩) len cap)) (hc:∀ j,j < len→W.cell? ⟨b,off+j,none⟩=some (.int .i64 (zs[j]?.getD 0))) (h0:J [] W) :
 CallsIn F n Tryd.prog 64 #[.func (.yield l) #[] #[], .pointer (some ⟨Bs, ob, none⟩)] W fun e W' => (∃ v, e = .returned v) ∧
  ((∃ ys,ys=Ir (fun j=>zs[j]?.getD 0) len∧J ys W')∨(∃ pre,True∧Jx pre W')):=by
 refine callsIn_of_wp Tryd.func64 rfl h7 ?_ hro
 simp only[Tryd.ntmps64,List.size_toArray,List.length_cons,List.length_nil,Nat.reduceAdd,Nat.reduceSub,Array.replicate_succ,Array.replicate_zero,List.push_toArray,List.append_toArray,List.nil_append,List.cons_append]
 gi_wp2
 gi_loopw [7] (fun i wr => ∃ k : Nat, k ≤ len ∧ i = .int .i64 k ∧ J (Ir (fun j => zs[j]?.getD 0) k) wr ∧ Below n₀ W wr)
  (fun i _=>len - (intOf i).toNat)
 case atStart=>exact⟨0,Nat.zero_le _,rfl,h0,Below.refl _ _⟩
 case round=>
  obtain⟨k,hk,rfl,hJs,hnx⟩:=hrel
  have hcx:k < len→wr.cell? ⟨b,off+k,none⟩=some (.int .i64 (zs[k]?.getD 0)):=fun h=>(hnx.cell (p:=⟨b,off+k,none⟩) hb).trans (hc k h)
  by_cases hlt:k < len
  ·obtain⟨fn,tmps,assign,body,hy,hR⟩:=hY _ (zs[k]?.getD 0) wr hJs (by rw[Qv];exact hlt)
   have hcx':=hcx hlt
   gi_wp2
   refine hR.mono ?_
   rintro e W3 (⟨rfl,hJ3,hk3⟩ | ⟨rfl,hJx3⟩)
   ·gi_wp2
    go_roundw
    case rel=>exact⟨k+1,by omega,by simp,by rw[UC];exact hJ3,hnx.trans hk3⟩
    case measure=>simp[intOf];omega
   ·gi_wp2
    refine bodyPost_ret (results_none rfl _ _ _) rfl ?_
    exact⟨⟨_,rfl⟩,.inr ⟨_,trivial,hJx3⟩⟩
  ·obtain rfl:k=len:=by omega
   gi_wp2
   go_end0
   exact⟨⟨_,rfl⟩,.inl ⟨_,rfl,hJs⟩⟩
set_option maxRecDepth 100000 in
set_option maxHeartbeats 1000000 in
theorem Qw (F:Fence) (n:Nat) (h7:F.fn 64) (hro:F.round=none) (l Bs ob:Nat) (J:List Int→World→Prop) (W:World) (a:Option Addr) (cap:Nat) (hBs:W.cell? ⟨Bs,ob,none⟩=some (.slice a 0 cap)) (h0:J [] W) :
 CallsIn F n Tryd.prog 64 #[.func (.yield l) #[] #[],.pointer (some ⟨Bs,ob,none⟩)] W fun e W'=>(∃ v,e = .returned v)∧J [] W':=by
 refine callsIn_of_wp Tryd.func64 rfl h7 ?_ hro
 simp only[Tryd.ntmps64,List.size_toArray,List.length_cons,List.length_nil,Nat.reduceAdd,Nat.reduceSub,Array.replicate_succ,Array.replicate_zero,List.push_toArray,List.append_toArray,List.nil_append,List.cons_append]
 gi_wp2
 gi_loopw [7] (fun i wr=>i = .int .i64 0∧J [] wr) (fun _ _=>0)
 case atStart=>exact⟨rfl,h0⟩
 case round=>
  obtain⟨rfl,hJs⟩:=hrel
  gi_wp2
  go_end0
  exact⟨⟨_,rfl⟩,hJs⟩
def Jb (n₀:Nat) (W:World) (sv:Value) (zs:List Int):Prop:=
 ((∃ a cap,sv = .slice a 0 cap)∧zs=[])∨∃ b off cap,sv = .slice (some ⟨b,off,none⟩) zs.length cap∧b < n₀∧∀ j,j < zs.length→W.cell? ⟨b,off+j,none⟩=some (.int .i64 (zs[j]?.getD 0))
theorem Jb.below {n₀:Nat} {A B:World} (h:Below n₀ A B) {sv:Value} {zs:List Int}:Jb n₀ A sv zs→Jb n₀ B sv zs
 | .inl e=>.inl e
 | .inr ⟨b,off,cap,e,hb,hc⟩=>.inr ⟨b,off,cap,e,hb,fun j hj=>(h.cell (p:=⟨b,off+j,none⟩) hb).trans (hc j hj)⟩
theorem Qz (F:Fence) (n:Nat) (h7:F.fn 64) (hro:F.round=none) (hn:1≤n) (Bs ob n₀:Nat) (sv:Value) (zs:List Int) (hreach:zs.length*8≤140737488351232) (w:World) (hBs:Bs < w.heap.size) (hn₀:n₀≤w.heap.size)
 (hc:w.cell? ⟨Bs,ob,none⟩=some sv) (hI:Jb n₀ w sv zs) :
 SeqStopsK F n Tryd.prog 64 #[.pointer (some ⟨Bs,ob,none⟩)] (fun x:Int=>#[Value.int .i64 x]) (Below n₀) (fun ys=>ys=zs) (fun _=>True) zs.length w:=fun l J Jx W hW _ _ hY h0=>by
 have hc':=(hW.cell (p:=⟨Bs,ob,none⟩) hBs).trans hc
 rcases hI.below (hW.mono hn₀) with⟨⟨a,cap,rfl⟩,rfl⟩ | ⟨b,off,cap,rfl,hb,hcs⟩
 ·exact(Qw F n h7 hro l Bs ob J W a cap hc' h0).mono fun e W' ⟨he,hj⟩=>⟨he,.inl ⟨_,rfl,hj⟩⟩
 ·refine(XT F n h7 hro hn l Bs ob n₀ b off zs.length cap zs hreach hb J Jx hY W hc' hcs h0).mono ?_
  rintro e W' ⟨he,⟨ys,rfl,hj⟩ | ⟨pre,_,hj⟩⟩
  ·exact⟨he,.inl ⟨_,Wj zs,hj⟩⟩
  ·exact⟨he,.inr ⟨_,trivial,hj⟩⟩
theorem fQ:(Tryd.prog.info? 3).map (fun i=>(i.zero,i.size,i.bytes))=some (some (.int .i64 0),1,8):=by kernel_rfl

set_option maxRecDepth 100000 in
set_option maxHeartbeats 2000000 in
theorem UD (F:Fence) (n:Nat) (h72:F.fn 72) (h64:F.fn 64) (hro:F.round=none) (hn:3≤n) (Bs ob:Nat) (sv:Value) (zs:List Int) (hlen:zs.length≤1000000) (w:World) (hBs:Bs < w.heap.size)
 (hc0:w.cell? ⟨Bs,ob,none⟩=some sv) (hI:Jb w.heap.size w sv zs) :
 CallsIn F n Tryd.prog 72 #[.slice none 0 0,.func (.func 64) #[] #[.pointer (some ⟨Bs,ob,none⟩)]] w fun e W'=>∃ v,e = .returned v∧W'.ownsRow w.heap.size 3 1 v zs.length (zs.map (Value.int .i64))∧(v = .slice none 0 0↔zs=[])∧Below w.heap.size w W':=by
 have h1:1≤n:=by omega
 obtain⟨i0,hi,hz0,hz1,hz2⟩:=info_parts fQ
 refine callsIn_of_wp_marks Tryd.func72 rfl h72 ?_ hro
 simp only[Tryd.ntmps72,List.size_toArray,List.length_cons,List.length_nil,Nat.reduceAdd,Nat.reduceSub,Array.replicate_succ,Array.replicate_zero,List.push_toArray,List.append_toArray,List.nil_append,List.cons_append]
 gi_wp2
 have bO:=Boxed.new w 25 (.slice none 0 0)
 have hB0:Below w.heap.size w (w.alloc (.cells #[.slice none 0 0] 25)):=(Below.refl _ w).alloc (Nat.le_refl _) _
 refine wpIn_rangeFunc_ownG hro h1 (gf := 64) (lb := #[.pointer (some ⟨Bs, ob, none⟩)]) rfl h64 (enters_of Tryd.func64 (by kernel_rfl) rfl)
  (Qz F (n - 1) h64 hro (by omega) Bs ob w.heap.size sv zs (by omega) _ (by simp;omega) (by simp) ((hB0.cell (p:=⟨Bs,ob,none⟩) hBs).trans hc0) (hI.below hB0)) belowK_t (belowK_b (by simp)) (Below.refl _ _) (fun _=>rfl)
  (fun pre W=>(∃ v,Boxed W w.heap.size 25 v∧W.ownsRow w.heap.size 3 1 v pre.length (pre.map (Value.int .i64))∧(v = .slice none 0 0↔pre=[]))∧Below w.heap.size w W)
  (fun _ _ _=>False)
  (OwnFrom.and (Own.from (holdsRow_own w.heap.size w.heap.size 25 3 1 (fun pre=>pre.length) (fun pre=>pre.map (Value.int .i64)) (fun pre v=>v = .slice none 0 0↔pre=[])) _) (ownFrom_below (Nat.le_refl _) (by simp)))
  (fun _ _ _ _ _ hs _ _=>hs)
  ⟨⟨_,bO,World.ownsRow_nil _ _ _ _,by simp⟩,hB0⟩
  (fun x=>{ tmps:=#[.slice none 0 0,.func (.func 64) #[] #[.pointer (some ⟨Bs,ob,none⟩)],.pointer (some ⟨w.heap.size,0,none⟩),undef,.slice none 0 0,.int .i64 x,.func (.func 64) #[] #[.pointer (some ⟨Bs,ob,none⟩)],.int .i64 x,undef,undef,undef,undef,undef],defers:=[] }) ?assign ?body ?done ?stop
 case assign=>
  intro l x W K hK
  gi_wp2
  exact hK
 case body=>
  rintro l pre x W ⟨⟨v,hv,hrow,hnil⟩,hB⟩ hlt
  have hc:=hv.cell
  gi_wp2_with (gi_at_builtin;refine wpListIn_append_own _ rfl _ _ 25 rfl w.heap.size 3 i0 (.int .i64 0) 1 8 Tryd.underlying25 hi hz0 hz1 hz2 rfl (by decide) _ _ _ rfl (hrow.alloc _) ⟨W.heap.size,0,none⟩ 1 1 [.int .i64 x] rfl rfl (cell_one_new _ _ _) (by simp[Value.oneCell']) (by have:maxLen=9223372036854775807:=rfl;omega) (by omega) (by have:=hB.size;simp;omega) ?_;intro v' w1 hown' hgrow _;obtain⟨g',cap',rfl⟩:=ownsRow_succ hown';obtain⟨hv1,hv2,hr2,hk2,hb2⟩:=hv.appended (by decide) hrow hB.size (Nat.le_refl _) hown' hgrow;have hc1:=hv1.cell;have hf1:=hv1.frozen)
  exact⟨hk2.from _,hb2,⟨_,hv2,by simpa using hr2,by simp⟩,hB.trans hb2⟩
 case done=>
  rintro D ys W hD rfl ⟨⟨v,hv,hrow,hnil⟩,hB⟩ hK
  have hc:=hv.cell
  gi_wp2
  refine⟨by simp,.inl ⟨_,_,rfl,run_takeDeferred hK,?_⟩⟩
  exact⟨_,results_tmp rfl _ _ _,v,rfl,ownsRow_putObj hrow _ hK rfl,hnil,hB.trans (belowK_b (w:=w) (Nat.le_refl _) W D _ _ (by simp at hD;omega) hK rfl rfl)⟩
 case stop=>
  rintro D c pre W _ _ h _
  exact h.elim

set_option maxRecDepth 100000 in
set_option maxHeartbeats 2000000 in
theorem XU (Bs ob:Nat) (sv:Value) (zs:List Int) (hlen:zs.length≤1000000) (w:World) (hBs:Bs < w.heap.size)
 (hc0:w.cell? ⟨Bs,ob,none⟩=some sv) (hI:Jb w.heap.size w sv zs) :
 CallsIn Fence.wide 8 Tryd.prog 62 #[.func (.func 64) #[] #[.pointer (some ⟨Bs,ob,none⟩)]] w fun e W'=>∃ v,e = .returned v∧W'.ownsRow w.heap.size 3 1 v zs.length (zs.map (Value.int .i64))∧(v = .slice none 0 0↔zs=[])∧Below w.heap.size w W':=by
 have ha:=UD Fence.wide 7 trivial trivial rfl (by omega) Bs ob sv zs hlen w hBs hc0 hI
 refine callsIn_of_wp Tryd.func62 rfl trivial ?_ rfl
 simp only[Tryd.ntmps62,List.size_toArray,List.length_cons,List.length_nil,Nat.reduceAdd,Nat.reduceSub,Array.replicate_succ,Array.replicate_zero,List.push_toArray,List.append_toArray,List.nil_append,List.cons_append]
 gi_wp2_with (refine⟨trivial,?_⟩;gi_at_call 72;refine ha.mono ?_;clear ha;rintro e w1 ⟨v,rfl,h1,h2,h3⟩)
 go_ret
 exact⟨v,rfl,h1,h2,h3⟩
open Go.Sp Go.BkO Go.Proofs.YtokbaaeimejjlaaDoor.BkO in
theorem XZ (k:Nat) (T:Tr AJ):Cr tt Jf 40 63 [.slice none 0 0] ⟨k,T,true⟩=some (.tuple ⟨[]⟩,⟨k,T,true⟩):=by kernel_rfl
set_option maxRecDepth 100000 in
set_option maxHeartbeats 2000000 in
theorem bX (Bs ob:Nat) (sv:Value) (zs:List Int) (hlen:zs.length≤1000000) (w:World) (hBs:Bs < w.heap.size)
 (hc0:w.cell? ⟨Bs,ob,none⟩=some sv) (hI:Jb w.heap.size w sv zs) (K:Value→World→World→Prop)
 (hK:∀ v w1,w1.ownsRow w.heap.size 3 1 v zs.length (zs.map (Value.int .i64))→(v = .slice none 0 0↔zs=[])→Below w.heap.size w w1→Calls Tryd.prog 63 #[v] w1 fun e w2=>e = .returned (.tuple #[])∧K v w1 w2) :
 Calls Tryd.prog 43 #[.func (.func 64) #[] #[.pointer (some ⟨Bs,ob,none⟩)]] w fun e W'=>∃ v w1,e = .returned v∧w1.ownsRow w.heap.size 3 1 v zs.length (zs.map (Value.int .i64))∧(v = .slice none 0 0↔zs=[])∧Below w.heap.size w w1∧K v w1 W':=by
 have ha:=XU Bs ob sv zs hlen w hBs hc0 hI
 refine callsIn_wide (n:=9).1 ?_
 refine callsIn_of_wp Tryd.func43 rfl trivial ?_ rfl
 simp only[Tryd.ntmps43,List.size_toArray,List.length_cons,List.length_nil,Nat.reduceAdd,Nat.reduceSub,Array.replicate_succ,Array.replicate_zero,List.push_toArray,List.append_toArray,List.nil_append,List.cons_append]
 gi_wp2_with first
  | (refine⟨trivial,?_⟩;gi_at_call 62;refine ha.mono ?_;clear ha;rintro e w1 ⟨v,rfl,h1,h2,h3⟩;have hk:=hK v w1 h1 h2 h3)
  | (refine⟨trivial,?_⟩;gi_at_call 63;refine(callsIn_wide.2 hk).mono ?_;clear hk;rintro e w2 ⟨rfl,h4⟩)
 go_ret
 exact⟨v,w1,rfl,h1,h2,h3,h4⟩

open Go.Sp Go.BkO Go.Proofs.YtokbaaeimejjlaaDoor.BkO

noncomputable section
def LU (v:Value) (H:Aa):Option (List Int):=bb (DN v) (some [])
 (oo (IA v) (oo (Le v) none fun f => bb (an (Nat.beq f.sz 1) (Nat.ble 1 f.n)) (oo (CG (Bi .i64) f.cs) none fun zs => bb (Nat.beq (len zs) f.n) (some zs) none) none)
   fun s=>ss s fun id off sz ln _=>bb (Nat.beq sz 1) (oo (Bv (H.get id)) none fun o=>oo (CG (Bi .i64) (Aq ln (Am off o.xs))) none fun zs=>bb (Nat.beq (len zs) ln) (some zs) none) none)
def ML (args:List Value) (H:Aa):Option (Value×Aa):=ll args none fun x r=>ll r (oo (Om 64 0 x) none fun l=>ll l none fun p l2=>ll l2 (oo (FO p) none fun q=>pp q fun id off=>oo (Bv (H.get id)) none fun o=>oo (AL o.xs off) none fun sv=>oo (LU sv H) none fun zs=>
 bb (Nat.ble (len zs) 1000000) (ll zs (some (.slice none 0 0,H)) fun _ _=>some (FP 1 (len zs) 0 (AP FC (Gw zs)),H.push .dead)) none) fun _ _=>none) fun _ _=>none
end
theorem Wl {v:Value} (h:DN v=true):v = .slice none 0 0:=Zr h
theorem UE {H:Aa} {R:Sp.Ren} {w:World} (hs:Ck H R w) {v u:Value} (hv:VR R v u) {zs:List Int} (h:LU v H=some zs):Jb w.heap.size w u zs:=by
 unfold LU at h
 rcases Ag h with⟨e,h⟩ | ⟨_,h⟩
 ·obtain rfl:=Wl e
  injection h with h;subst h
  exact .inl ⟨⟨none,0,hv.slNil_l⟩,rfl⟩
 ·have cellOf : ∀ (C : Array Value) (t : TypeId) (fz : Nat × Nat) (c o : Nat) (k : Nat), w.heap[c]? = some (.cells C t fz) → w.cell? ⟨c, o + k, none⟩ = C[o + k]? := fun C t fz c o k hC => by
   unfold World.cell?
   simp only[hC]
   rfl
  cases hsl:IA v with
  | none =>
   rw[hsl,Az] at h
   obtain⟨f,hf,h⟩:=Ab h
   obtain⟨hc,h⟩:=Ae h
   obtain⟨zs',hz,h⟩:=Ab h
   obtain⟨hl,h⟩:=Ae h
   injection h with h;subst h
   obtain⟨c1,c2⟩:=Av hc
   replace c1:=Nat.eq_of_beq_eq_true c1
   replace c2:=Nat.le_of_ble_eq_true c2
   replace hl:=Nat.eq_of_beq_eq_true hl
   rw[AV] at hl
   rcases hv.fs_l hf with⟨h1,_⟩ | ⟨_,h1,_⟩ | ⟨c,o,cap,C,hro,rfl,hn,k1,k2,k3,hfit,hcr,hcl⟩
   ·omega
   ·omega
   ·obtain⟨⟨t,fz,hC⟩,_⟩:=hs.ro c C hro
    refine .inr ⟨c,o,cap,by rw[hl],(Array.getElem?_eq_some_iff.1 hC).1,fun j hj=>?_⟩
    rw[cellOf C t fz c o j hC]
    obtain⟨m1,m2⟩:=Di hz
    have hx:=List.getElem?_eq_getElem (show j < f.cs.length by omega)
    obtain⟨b,n1,n2⟩:=m2 j _ hx
    obtain⟨y,g1,g2⟩:=hcr j _ hx
    rw[Eh n2] at g2
    rw[g2.int_l] at g1
    rw[g1,n1];rfl
  | some s =>
   rw[hsl,Ac] at h
   obtain⟨id,off,sz,ln,c2⟩:=s
   replace h:bb (Nat.beq sz 1) (oo (Bv (H.get id)) none fun o=>oo (CG (Bi .i64) (Aq ln (Am off o.xs))) none fun zs=>bb (Nat.beq (len zs) ln) (some zs) none) none=some zs:=h
   obtain⟨e1,h⟩:=Ae h
   obtain⟨o,ho,h⟩:=Ab h
   obtain⟨zs',hz,h⟩:=Ab h
   obtain⟨hl,h⟩:=Ae h
   injection h with h;subst h
   obtain rfl:=Nat.eq_of_beq_eq_true e1
   replace hl:=Nat.eq_of_beq_eq_true hl
   rw[AV] at hl
   rcases hv.sl_l hsl with⟨c,β,cap,hid,rfl,k1,k2,k3,k4⟩ | ⟨c,o2,rfl,k0,_⟩ | ⟨rfl,k0,_⟩
   ·obtain⟨C,t,fz,g1,g2,g3,g4⟩:=hs.cells hid ho
    refine .inr ⟨c,β+off,cap,by rw[hl],(Array.getElem?_eq_some_iff.1 g1).1,fun j hj=>?_⟩
    rw[cellOf C t fz c (β+off) j g1]
    obtain⟨m1,m2⟩:=Di hz
    have hx:=List.getElem?_eq_getElem (show j < (Aq ln (Am off o.xs)).length by omega)
    obtain⟨b,n1,n2⟩:=m2 j _ hx
    have hx2 : o.xs[off + j]? = some ((Aq ln (Am off o.xs))[j]'(by omega)) := by
     rw[←hx,Cg,Bz,List.getElem?_take_of_lt (by omega),List.getElem?_drop]
    obtain⟨y,q1,q2⟩:=g4 (off+j) _ hx2
    rw[Eh n2] at q2
    rw[q2.int_l] at q1
    rw[Nat.add_assoc,q1,n1];rfl
   ·replace k0:ln=0:=k0
    exact .inl ⟨⟨_,_,rfl⟩,List.eq_nil_of_length_eq_zero (by omega)⟩
   ·replace k0:ln=0:=k0
    exact .inl ⟨⟨_,_,rfl⟩,List.eq_nil_of_length_eq_zero (by omega)⟩
theorem X0 (hm:Tryd.prog.follows .mixedOrders=true) {H:Aa} {R:Sp.Ren} {w:World} (hs:Ck H R w) (hgl:JH (List.range 1) R) (c ob:Nat) (y:Value) (zs:List Int) (hlen:zs.length≤1000000) (hBs:c < w.heap.size) (hcell:w.cell? ⟨c,ob,none⟩=some y) (hI:Jb w.heap.size w y zs) :
 Calls Tryd.prog 43 #[.func (.func 64) #[] #[.pointer (some ⟨c,ob,none⟩)]] w fun e w2=>∃ v,e = .returned v∧(v = .slice none 0 0↔zs=[])∧(zs=[]→∃ R2,Ba H R w H R2 w2)∧(zs≠[]→∃ R2,VR R2 (FP 1 zs.length 0 (AP FC (Gw zs))) v∧Ba H R w (H.push .dead) R2 w2):=by
 have hcalls := bX c ob y zs hlen w hBs hcell hI
  (fun v w1 w2=>(zs=[]→∃ R2,Ba H R w H R2 w2)∧(zs≠[]→∃ R2,VR R2 (FP 1 zs.length 0 (AP FC (Gw zs))) v∧Ba H R w (H.push .dead) R2 w2)) ?_
 ·exact hcalls.mono fun e w2 ⟨v1,w1,he,hown,hnil,hbel,k1,k2⟩=>⟨v1,he,hnil,k1,k2⟩
 ·intro v1 w1 hown hnil hbel
  have hb1:∀ c,c < w.heap.size→w1.heap[c]?=w.heap[c]?:=hbel.block
  have hpb:=V7 hs hbel
  by_cases hz:zs=[]
  ·subst hz
   rw[hnil.2 rfl]
   obtain⟨k,T,z⟩:=H
   have hs1:Ck ⟨k,T,true⟩ R w1:=Ck.congr (H:=⟨k,T,z⟩) (H2:=⟨k,T,true⟩) (fun i=>rfl) rfl hpb.sim
   have:=((Rx DT UA hm 40) 63 _ _ _ _ (XZ k T)).2 R w1 [.slice none 0 0] hs1 hgl (.one .slNil)
   refine this.mono fun e w2 ⟨u,R2,he,hu,hp2⟩=>?_
   obtain⟨us,rfl,hul⟩:=hu.tuple_l
   have hus:us=[]:=by have:=hul.1;simpa using this.symm
   subst hus
   refine⟨he,fun _=>⟨R2,hpb.trans (Ba.congrR (H':=⟨k,T,true⟩) (H2:=⟨k,T,z⟩) (fun i=>rfl) rfl (Ba.congrL (H:=⟨k,T,true⟩) (H2:=⟨k,T,z⟩) (fun i=>rfl) rfl hp2)) hs⟩,fun hne=>absurd rfl hne⟩
  ·obtain⟨hl1,hcase⟩:=hown
   rcases hcase with⟨rfl,hn0⟩ | ⟨g,cap,cur,rfl,hge,hg,hcap,hmax,hcur,htake⟩
   ·exact absurd (hnil.1 rfl) hz
   rw[Nat.mul_one] at htake hcur
   have hcells:∀ j,j < zs.length→cur[j]?=some (.int .i64 (zs[j]?.getD 0)):=fun j hj=>by
    have h1:(cur.toList.take zs.length)[j]?=(zs.map (Value.int .i64))[j]?:=by rw[htake]
    rw[List.getElem?_take_of_lt hj,Array.getElem?_toList,List.getElem?_map,List.getElem?_eq_getElem hj] at h1
    rw[h1,List.getElem?_eq_getElem hj];rfl
   have hH:Go.Sort.Holds (Value.int .i64) w1 g 0 zs.toArray:=fun j hj=>by
    have hj:j < zs.length:=by simpa using hj
    refine⟨?_,?_⟩
    ·unfold World.cell?
     simp only[hg,Nat.zero_add]
     show cur[j]?=_
     rw[hcells j hj]
     simp[hj]
    ·unfold World.frozen?
     simp only[hg]
     simp
   have hsrt:=Tryd.slices_Sort_int g 0 cap zs w1 hH (Array.getElem?_eq_some_iff.1 hg).1 (by omega)
   refine hsrt.mono fun e w2 ⟨he,n,os,hw2⟩=>⟨he,fun e=>absurd e hz,fun _=>?_⟩
   have hp1:=fJ hs hb1 hbel.size hbel.os hbel.output hg hge (xs:=AP FC zs) (fun i x hx=>by
    rw[KX,List.getElem?_map] at hx
    cases hi:zs[i]? with
    | none=>rw[hi] at hx;cases hx
    | some q =>
     rw[hi] at hx;injection hx with hx;subst hx
     have hlt:i < zs.length:=(List.getElem?_eq_some_iff.1 hi).1
     refine⟨_,by rw[Nat.zero_add];exact hcells i hlt,?_⟩
     rw[hi];exact .int _ _) (by rw[Fh];omega)
   have hget:(H.push (.cells (AP FC zs) false false [])).get H.next = .cells (AP FC zs) false false []:=by rw[Aa.get_push,if_pos rfl]
   have hlen2:(Gw zs).length=(AP FC zs).length:=by rw[Gw,List.length_mergeSort,Fh]
   have haw:=VV (vals:=Gw zs) hget hlen2
   have hp2:=ZH (R:=⟨fun i=>if i=H.next then some (g,0) else R.f i,fun c=>if c=g then cur.size else R.sz c,R.ro⟩) (c:=g) (β:=0) hp1.sim haw (by show (if H.next=H.next then _ else _)=_;rw[if_pos rfl]) n os
   rw[show Go.Sort.grow (Go.Sort.putRow (Value.int .i64) (Go.Sort.ahead w1 n) g 0 (Gw zs).toArray) os=w2 from hw2.symm] at hp2
   have hp3:=hp1.trans hp2 hs
   have hgl2:(((H.push (.cells (AP FC zs) false false [])).kill []).set H.next (.cells (AP FC (Gw zs)) false false [])).get H.next = .cells (AP FC (Gw zs)) false false []:=by rw[Aa.get_set,if_pos rfl]
   have hfz:Cq H.next false (.slice (some ⟨H.next,0,some 1⟩) zs.length (2*zs.length)) (((H.push (.cells (AP FC zs) false false [])).kill []).set H.next (.cells (AP FC (Gw zs)) false false []))=some (FP 1 zs.length 0 (AP FC (Gw zs)),(((H.push (.cells (AP FC zs) false false [])).kill []).set H.next (.cells (AP FC (Gw zs)) false false [])).set H.next .dead):=by
    unfold Cq
    show oo (Bv (Aa.get _ H.next)) none _=_
    rw[hgl2]
    have ht:Aq (zs.length*1) (Am 0 (AP FC (Gw zs)))=AP FC (Gw zs):=by
     rw[Cg,Bz,List.drop_zero,List.take_of_length_le (by rw[Fh];simp[Gw])]
    show bb (an (Nat.ble H.next H.next) (an true (an true (an (Nat.ble (0+zs.length*1) (len (AP FC (Gw zs)))) (Au Ah (Aq (zs.length*1) (Am 0 (AP FC (Gw zs))))))))) (some (FP 1 zs.length 0 (Aq (zs.length*1) (Am 0 (AP FC (Gw zs)))),_)) none=_
    rw[ht,Nat.ble_eq_true_of_le (Nat.le_refl _),AV,Fh,Nat.ble_eq_true_of_le (by simp[Gw])]
    have hc:Au Ah (AP FC (Gw zs))=true:=by
     rw[Bh,List.all_eq_true,KX]
     intro x hx
     obtain⟨z,_,rfl⟩:=List.mem_map.1 hx
     rfl
    rw[hc];rfl
   obtain ⟨R2, _, _, q2, q3⟩ := Gg hfz hs (Nat.le_refl _) hp3 (.sl (c := g) (β := 0) (off := 0) (sz := 1) (ln := zs.length) (c2 := 2 * zs.length) (cap := cap) (by show (if H.next = H.next then _ else _) = _; rw [if_pos rfl]) (by omega) (by omega) (fun h => by omega) (by
    show 0+0+cap*1≤if g=g then cur.size else R.sz g
    rw[if_pos rfl];omega))
   refine⟨R2,q3,q2.congrR (fun i=>?_) ?_⟩
   ·rw[Aa.get_push,Aa.get_set,Aa.get_set]
    split
    ·rfl
    ·show Aa.get H i=(H.push (.cells (AP FC zs) false false [])).get i
     rw[Aa.get_push,if_neg (by assumption)]
   ·rw[Aa.next_push,Aa.next_set,Aa.next_set,Aa.next_kill,Aa.next_push]
theorem SH (hm:Tryd.prog.follows .mixedOrders=true) {args:List Value} {H H':Aa} {v:Value} (h:ML args H=some (v,H')) :
 (∀ (xs:Array Value) (w:World),(callFunc 43 xs).run Tryd.prog w = .ok (.enter 43 xs) w) ∧
 ∀ R w args',Ck H R w→JH (List.range 1) R→Cf R args args'→Calls Tryd.prog 43 ⟨args'⟩ w fun e w'=>∃ u R',e = .returned u∧VR R' v u∧Ba H R w H' R' w':=by
 refine⟨enters_of Tryd.func43 (by kernel_rfl) rfl,fun R w args' hs hgl ha=>?_⟩
 replace h:=Ad h;obtain⟨x,r,rfl,h⟩:=h
 replace h:=AC h;obtain⟨rfl,h⟩:=h
 replace h:=Ab h;obtain⟨l,hfn,h⟩:=h
 replace h:=Ad h;obtain⟨p,l2,rfl,h⟩:=h
 replace h:=AC h;obtain⟨rfl,h⟩:=h
 replace h:=Ab h;obtain⟨⟨id,off⟩,hp,h⟩:=h
 replace h:oo (Bv (H.get id)) none (fun o=>oo (AL o.xs off) none fun sv=>oo (LU sv H) none fun zs=>bb (Nat.ble (len zs) 1000000) (ll zs (some (.slice none 0 0,H)) fun _ _=>some (FP 1 (len zs) 0 (AP FC (Gw zs)),H.push .dead)) none)=some (v,H'):=h
 replace h:=Ab h;obtain⟨o,ho,h⟩:=h
 replace h:=Ab h;obtain⟨sv,hsv,h⟩:=h
 replace h:=Ab h;obtain⟨zs,hzs,h⟩:=h
 replace h:=Ae h;obtain⟨hlen,h⟩:=h
 replace hlen:=Nat.le_of_ble_eq_true hlen
 rw[AV] at hlen
 obtain⟨u0,us,rfl,hu0,hnil⟩:=ha.uncons
 obtain rfl:=hnil.unnil
 obtain rfl:=Hu hfn
 obtain rfl:=Dg hp
 obtain⟨u1,rfl,hu1⟩:∃ u1,u0 = .func (.func 64) ⟨[]⟩ ⟨[u1]⟩∧VR R (.pointer (some ⟨id,off,none⟩)) u1:=by
  cases hu0 with
  | @func _ _ ys _ us hl h hl' h' =>
   have e1:ys=[]:=List.eq_nil_of_length_eq_zero hl.symm
   subst e1
   match us,hl' with
   | [u1],_=>exact⟨u1,rfl,h' 0 _ u1 rfl rfl⟩
 obtain⟨c,β,hid,rfl⟩:=hu1.ptr_l
 obtain⟨C,t,fz,g1,g2,g3,g4⟩:=hs.cells hid ho
 rw[BZ] at hsv
 obtain⟨y,hy,hvy⟩:=g4 off sv hsv
 have hcell:w.cell? ⟨c,β+off,none⟩=some y:=by
  unfold World.cell?
  simp only[g1]
  exact hy
 have hI:=UE hs hvy hzs
 refine(X0 hm hs hgl c (β+off) y zs hlen (Array.getElem?_eq_some_iff.1 g1).1 hcell hI).mono fun e w2 ⟨v1,he,hnil,k1,k2⟩=>?_
 by_cases hz:zs=[]
 ·subst hz
  injection (show some (Value.slice none 0 0,H)=some (v,H') from h) with h;injection h with e1 e2;subst e1;subst e2
  obtain⟨R2,hp2⟩:=k1 rfl
  rw[hnil.2 rfl] at he
  exact⟨_,R2,he,.slNil,hp2⟩
 ·obtain⟨R2,hv2,hp2⟩:=k2 hz
  obtain⟨z,zs',rfl⟩:=List.exists_cons_of_ne_nil hz
  have h:some (FP 1 (len (z::zs')) 0 (AP FC (Gw (z::zs'))),H.push .dead)=some (v,H'):=h
  rw[AV] at h
  injection h with h;injection h with e1 e2;subst e1;subst e2
  exact⟨_,R2,he,hv2,hp2⟩
end Go.Proofs
set_option maxRecDepth 100000
set_option maxHeartbeats 0
namespace Go.Proofs.YtokbaaeimejjlaaDoor.BkO
open Go Go.Sp Go.BkO Go.BkQ
noncomputable section
def isA:FuncId→Bool:=fun _=>false
def puA:Af:=fun _ _=>none
def bY:A8:=fun g args H=>bb (Nat.beq g 43) (ML args H) (bb (Nat.beq g 77) (Hr C8 1 SG args H) none)
def evA (n:Nat) (g:FuncId) (args:List Value):Option (Value×Aa):=Mw C8 isA puA bY tt Jf n g args (KF C8)
end
theorem Pk:∀ t∈C8,t≠[]:=by intro t ht;simp[C8] at ht;subst ht;intro h;cases h
theorem Pm:∀ t∈C8,∀ x∈t,BR x=true:=by intro t ht x hx;simp[C8] at ht;subst ht;simp[bS] at hx;rcases hx with rfl | rfl | rfl | rfl | rfl | rfl | rfl | rfl | rfl | rfl | rfl | rfl | rfl | rfl | rfl | rfl | rfl | rfl | rfl | rfl | rfl | rfl | rfl | rfl | rfl | rfl | rfl | rfl | rfl | rfl | rfl | rfl <;> rfl
theorem qA:∀ g,isA g=true→BA Tryd.prog C8 g (puA g):=fun g h=>by cases h
theorem iA (hm:Tryd.prog.follows .mixedOrders=true):CO Tryd.prog (List.range C8.length) bY:=fun g args H v H' h=>by
 replace h:bb (Nat.beq g 43) (ML args H) (bb (Nat.beq g 77) (Hr C8 1 SG args H) none)=some (v,H'):=h
 rcases Ag h with⟨e,h⟩ | ⟨_,h⟩
 ·obtain rfl:=Nat.eq_of_beq_eq_true e
  exact SH hm h
 ·obtain⟨e,h⟩:=Ae h
  obtain rfl:=Nat.eq_of_beq_eq_true e
  exact Og Pk Pm (QO hm) h
theorem Ags:kP (evA 400 19 [])=some (.bool true):=by kernel_rfl
theorem AhM (hm:Tryd.prog.follows .mixedOrders=true):BA Tryd.prog C8 19 trueF:=by
 refine I5 (tabs:=C8) (n:=400) (g:=19) (H:=KF C8) (isP:=isA) (pu:=puA) (inl:=bY) DT Pk Pm UA hm qA (iA hm) (fun i=>RN i) rfl (A9 iY) fun args v h=>?_
 replace h:=AC h;obtain⟨rfl,h⟩:=h
 injection h with h;subst h
 exact⟨rfl,.inl Ags⟩
theorem UF {α β:Type} {f g:α→β}:∀ {l:List α},AP f l=AP g l→∀ x∈l,f x=g x
 | [],_,_,h=>by cases h
 | a :: l, h, x, hx => by
  injection (show f a::AP f l=g a::AP g l from h) with h1 h2
  cases hx with
  | head=>exact h1
  | tail _ hx=>exact UF h2 x hx
noncomputable def evL (n:Nat) (g:FuncId) (args:List Value):Option (Value×Aa):=Mw C8 isA puA bY tt Jf n g args (Ao C8)
noncomputable def zF (v3 v4:Value) (p:Nat×Nat×Nat):Option Value:=(fun r=>oo (kN 1 r) (kP r) fun v=>some v) (evL 100 66 [.agg ⟨[IV (.ofNat p.1),IV (.ofNat p.2.1),v3,v4]⟩,IV (.ofNat p.2.2)])
theorem Agt (v3 v4:Value):AP (zF v3 v4) triples=AP (fun p=>some (OW (cellL p.1 p.2.1 p.2.2))) triples:=by kernel_rfl
theorem AhN (hm:Tryd.prog.follows .mixedOrders=true):BA Tryd.prog C8 66 cellsM:=by
 refine I5 (tabs:=C8) (n:=100) (g:=66) (H:=Ao C8) (isP:=isA) (pu:=puA) (inl:=bY) DT Pk Pm UA hm qA (iA hm) (fun i=>rfl) rfl (A9 kZ) fun args v h=>?_
 obtain⟨r,c,t,v3,v4,rfl,hp,rfl⟩:=VW h
 have hr:=UF (Agt v3 v4) (r,c,t) hp
 replace hr:oo (kN 1 (evL 100 66 [.agg ⟨[IV (.ofNat r),IV (.ofNat c),v3,v4]⟩,IV (.ofNat t)])) (kP (evL 100 66 [.agg ⟨[IV (.ofNat r),IV (.ofNat c),v3,v4]⟩,IV (.ofNat t)])) (fun v=>some v)=some (OW (cellL r c t)):=hr
 refine⟨rfl,?_⟩
 cases hf:kN 1 (evL 100 66 [.agg ⟨[IV (.ofNat r),IV (.ofNat c),v3,v4]⟩,IV (.ofNat t)]) with
 | some w=>rw[hf,Ac] at hr;injection hr with hr;subst hr;exact .inr hf
 | none=>rw[hf,Az] at hr;exact .inl hr
end Go.Proofs.YtokbaaeimejjlaaDoor.BkO
