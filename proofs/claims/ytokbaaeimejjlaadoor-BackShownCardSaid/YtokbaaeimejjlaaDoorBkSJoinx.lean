/- Made from wip. -/
import Derived.RangeFuncBox
import Derived.RangeFuncNested
import Derived.RangeFuncBound
import Derived.RangeFuncCalls
import Derived.RangeFuncLeaves
import Derived.Shelf.Abstract
import Derived.Shelf.RegionOpen
import Derived.WalkKit
import Derived.OwnWalkIn
import Derived.TacticsInMore
import Derived.LoopNIn
import Derived.LoopIn
import Derived.Maps.AppendAt
import Derived.Test.YtokbaaeimejjlaaDoorProg
import Derived.Test.YtokbaaeimejjlaaDoorBkShelfx
import Derived.Test.YtokbaaeimejjlaaDoorSpYield
import Derived.Test.YtokbaaeimejjlaaDoorBkSNodesx
import Derived.Test.YtokbaaeimejjlaaDoorSpClo3x
import Derived.Test.YtokbaaeimejjlaaDoorSpMorex
import Derived.KernelRfl
import Derived.Test.YtokbaaeimejjlaaDoorBkSPux

namespace Go.Proofs
open Go Go.RowKit Go.Shelf
attribute [local go_sem] Oper.semAt_some

def Ha {α:Type} (f:Nat→α) (k:Nat):List α:=(List.range k).map f
theorem Sn {α:Type} (f:Nat→α) (k:Nat):Ha f (k+1)=Ha f k++[f k]:=by simp[Ha,List.range_succ]
theorem O1 {α:Type} (f:Nat→α) (k:Nat):(Ha f k).length=k:=by simp[Ha]
theorem Uo (zs:List Int):Ha (fun j=>zs[j]?.getD 0) zs.length=zs:=by
 apply List.ext_getElem
 ·simp[Ha]
 ·intro i h1 h2
  simp[Ha,h2]

set_option maxRecDepth 100000 in
set_option maxHeartbeats 2000000 in
theorem WI (F:Fence) (n:Nat) (h7:F.fn 64) (hro:F.round=none) (hn:1≤n) (l Bs ob n₀ b off len cap:Nat) (zs:List Int) (hreach:len*8≤140737488351232) (hb:b < n₀) (J Jx:List Int→World→Prop)
 (hY : ∀ pre x W, J pre W → pre.length < len → YieldAt F (n - 1) Tryd.prog l #[.int .i64 x] W fun e W' =>
   (e = .returned (.bool true)∧J (pre++[x]) W'∧Below n₀ W W')∨(e = .returned (.bool false)∧Jx (pre++[x]) W'))
 (W:World) (hBs:W.cell? ⟨Bs,ob,none⟩=some (.slice (some ⟨b,off,none⟩) len cap)) (hc:∀ j,j < len→W.cell? ⟨b,off+j,none⟩=some (.int .i64 (zs[j]?.getD 0))) (h0:J [] W) :
 CallsIn F n Tryd.prog 64 #[.func (.yield l) #[] #[], .pointer (some ⟨Bs, ob, none⟩)] W fun e W' => (∃ v, e = .returned v) ∧
  ((∃ ys,ys=Ha (fun j=>zs[j]?.getD 0) len∧J ys W')∨(∃ pre,True∧Jx pre W')):=by
 refine callsIn_of_wp Tryd.func64 rfl h7 ?_ hro
 simp only[Tryd.ntmps64,List.size_toArray,List.length_cons,List.length_nil,Nat.reduceAdd,Nat.reduceSub,Array.replicate_succ,Array.replicate_zero,List.push_toArray,List.append_toArray,List.nil_append,List.cons_append]
 gi_wp2
 gi_loopw [7] (fun i wr => ∃ k : Nat, k ≤ len ∧ i = .int .i64 k ∧ J (Ha (fun j => zs[j]?.getD 0) k) wr ∧ Below n₀ W wr)
  (fun i _=>len - (intOf i).toNat)
 case atStart=>exact⟨0,Nat.zero_le _,rfl,h0,Below.refl _ _⟩
 case round=>
  obtain⟨k,hk,rfl,hJs,hnx⟩:=hrel
  have hcx:k < len→wr.cell? ⟨b,off+k,none⟩=some (.int .i64 (zs[k]?.getD 0)):=fun h=>(hnx.cell (p:=⟨b,off+k,none⟩) hb).trans (hc k h)
  by_cases hlt:k < len
  ·obtain⟨fn,tmps,assign,body,hy,hR⟩:=hY _ (zs[k]?.getD 0) wr hJs (by rw[O1];exact hlt)
   have hcx':=hcx hlt
   gi_wp2
   refine hR.mono ?_
   rintro e W3 (⟨rfl,hJ3,hk3⟩ | ⟨rfl,hJx3⟩)
   ·gi_wp2
    go_roundw
    case rel=>exact⟨k+1,by omega,by simp,by rw[Sn];exact hJ3,hnx.trans hk3⟩
    case measure=>simp[intOf];omega
   ·gi_wp2
    refine bodyPost_ret (results_none rfl _ _ _) rfl ?_
    exact⟨⟨_,rfl⟩,.inr ⟨_,trivial,hJx3⟩⟩
  ·obtain rfl:k=len:=by omega
   gi_wp2
   go_end0
   exact⟨⟨_,rfl⟩,.inl ⟨_,rfl,hJs⟩⟩
set_option maxRecDepth 100000 in
set_option maxHeartbeats 1000000 in
theorem O3 (F:Fence) (n:Nat) (h7:F.fn 64) (hro:F.round=none) (l Bs ob:Nat) (J:List Int→World→Prop) (W:World) (a:Option Addr) (cap:Nat) (hBs:W.cell? ⟨Bs,ob,none⟩=some (.slice a 0 cap)) (h0:J [] W) :
 CallsIn F n Tryd.prog 64 #[.func (.yield l) #[] #[],.pointer (some ⟨Bs,ob,none⟩)] W fun e W'=>(∃ v,e = .returned v)∧J [] W':=by
 refine callsIn_of_wp Tryd.func64 rfl h7 ?_ hro
 simp only[Tryd.ntmps64,List.size_toArray,List.length_cons,List.length_nil,Nat.reduceAdd,Nat.reduceSub,Array.replicate_succ,Array.replicate_zero,List.push_toArray,List.append_toArray,List.nil_append,List.cons_append]
 gi_wp2
 gi_loopw [7] (fun i wr=>i = .int .i64 0∧J [] wr) (fun _ _=>0)
 case atStart=>exact⟨rfl,h0⟩
 case round=>
  obtain⟨rfl,hJs⟩:=hrel
  gi_wp2
  go_end0
  exact⟨⟨_,rfl⟩,hJs⟩
def Hw (n₀:Nat) (W:World) (sv:Value) (zs:List Int):Prop:=
 ((∃ a cap,sv = .slice a 0 cap)∧zs=[])∨∃ b off cap,sv = .slice (some ⟨b,off,none⟩) zs.length cap∧b < n₀∧∀ j,j < zs.length→W.cell? ⟨b,off+j,none⟩=some (.int .i64 (zs[j]?.getD 0))
theorem Hw.below {n₀:Nat} {A B:World} (h:Below n₀ A B) {sv:Value} {zs:List Int}:Hw n₀ A sv zs→Hw n₀ B sv zs
 | .inl e=>.inl e
 | .inr ⟨b,off,cap,e,hb,hc⟩=>.inr ⟨b,off,cap,e,hb,fun j hj=>(h.cell (p:=⟨b,off+j,none⟩) hb).trans (hc j hj)⟩
theorem O4 (F:Fence) (n:Nat) (h7:F.fn 64) (hro:F.round=none) (hn:1≤n) (Bs ob n₀:Nat) (sv:Value) (zs:List Int) (hreach:zs.length*8≤140737488351232) (w:World) (hBs:Bs < w.heap.size) (hn₀:n₀≤w.heap.size)
 (hc:w.cell? ⟨Bs,ob,none⟩=some sv) (hI:Hw n₀ w sv zs) :
 SeqStopsK F n Tryd.prog 64 #[.pointer (some ⟨Bs,ob,none⟩)] (fun x:Int=>#[Value.int .i64 x]) (Below n₀) (fun ys=>ys=zs) (fun _=>True) zs.length w:=fun l J Jx W hW _ _ hY h0=>by
 have hc':=(hW.cell (p:=⟨Bs,ob,none⟩) hBs).trans hc
 rcases hI.below (hW.mono hn₀) with⟨⟨a,cap,rfl⟩,rfl⟩ | ⟨b,off,cap,rfl,hb,hcs⟩
 ·exact(O3 F n h7 hro l Bs ob J W a cap hc' h0).mono fun e W' ⟨he,hj⟩=>⟨he,.inl ⟨_,rfl,hj⟩⟩
 ·refine(WI F n h7 hro hn l Bs ob n₀ b off zs.length cap zs hreach hb J Jx hY W hc' hcs h0).mono ?_
  rintro e W' ⟨he,⟨ys,rfl,hj⟩ | ⟨pre,_,hj⟩⟩
  ·exact⟨he,.inl ⟨_,Uo zs,hj⟩⟩
  ·exact⟨he,.inr ⟨_,trivial,hj⟩⟩
theorem bU:(Tryd.prog.info? 3).map (fun i=>(i.zero,i.size,i.bytes))=some (some (.int .i64 0),1,8):=by kernel_rfl

set_option maxRecDepth 100000 in
set_option maxHeartbeats 2000000 in
theorem Sq (F:Fence) (n:Nat) (h72:F.fn 72) (h64:F.fn 64) (hro:F.round=none) (hn:3≤n) (Bs ob:Nat) (sv:Value) (zs:List Int) (hlen:zs.length≤1000000) (w:World) (hBs:Bs < w.heap.size)
 (hc0:w.cell? ⟨Bs,ob,none⟩=some sv) (hI:Hw w.heap.size w sv zs) :
 CallsIn F n Tryd.prog 72 #[.slice none 0 0,.func (.func 64) #[] #[.pointer (some ⟨Bs,ob,none⟩)]] w fun e W'=>∃ v,e = .returned v∧W'.ownsRow w.heap.size 3 1 v zs.length (zs.map (Value.int .i64))∧(v = .slice none 0 0↔zs=[])∧Below w.heap.size w W':=by
 have h1:1≤n:=by omega
 obtain⟨i0,hi,hz0,hz1,hz2⟩:=info_parts bU
 refine callsIn_of_wp_marks Tryd.func72 rfl h72 ?_ hro
 simp only[Tryd.ntmps72,List.size_toArray,List.length_cons,List.length_nil,Nat.reduceAdd,Nat.reduceSub,Array.replicate_succ,Array.replicate_zero,List.push_toArray,List.append_toArray,List.nil_append,List.cons_append]
 gi_wp2
 have bO:=Boxed.new w 25 (.slice none 0 0)
 have hB0:Below w.heap.size w (w.alloc (.cells #[.slice none 0 0] 25)):=(Below.refl _ w).alloc (Nat.le_refl _) _
 refine wpIn_rangeFunc_ownG hro h1 (gf := 64) (lb := #[.pointer (some ⟨Bs, ob, none⟩)]) rfl h64 (enters_of Tryd.func64 (by kernel_rfl) rfl)
  (O4 F (n - 1) h64 hro (by omega) Bs ob w.heap.size sv zs (by omega) _ (by simp;omega) (by simp) ((hB0.cell (p:=⟨Bs,ob,none⟩) hBs).trans hc0) (hI.below hB0)) belowK_t (belowK_b (by simp)) (Below.refl _ _) (fun _=>rfl)
  (fun pre W=>(∃ v,Boxed W w.heap.size 25 v∧W.ownsRow w.heap.size 3 1 v pre.length (pre.map (Value.int .i64))∧(v = .slice none 0 0↔pre=[]))∧Below w.heap.size w W)
  (fun _ _ _=>False)
  (OwnFrom.and (Own.from (holdsRow_own w.heap.size w.heap.size 25 3 1 (fun pre=>pre.length) (fun pre=>pre.map (Value.int .i64)) (fun pre v=>v = .slice none 0 0↔pre=[])) _) (ownFrom_below (Nat.le_refl _) (by simp)))
  (fun _ _ _ _ _ hs _ _=>hs)
  ⟨⟨_,bO,World.ownsRow_nil _ _ _ _,by simp⟩,hB0⟩
  (fun x=>{ tmps:=#[.slice none 0 0,.func (.func 64) #[] #[.pointer (some ⟨Bs,ob,none⟩)],.pointer (some ⟨w.heap.size,0,none⟩),undef,.slice none 0 0,.int .i64 x,.func (.func 64) #[] #[.pointer (some ⟨Bs,ob,none⟩)],.int .i64 x,undef,undef,undef,undef,undef],defers:=[] }) ?assign ?body ?done ?stop
 case assign=>
  intro l x W K hK
  gi_wp2
  exact hK
 case body=>
  rintro l pre x W ⟨⟨v,hv,hrow,hnil⟩,hB⟩ hlt
  have hc:=hv.cell
  gi_wp2_with (gi_at_builtin;refine wpListIn_append_own _ rfl _ _ 25 rfl w.heap.size 3 i0 (.int .i64 0) 1 8 Tryd.underlying25 hi hz0 hz1 hz2 rfl (by decide) _ _ _ rfl (hrow.alloc _) ⟨W.heap.size,0,none⟩ 1 1 [.int .i64 x] rfl rfl (cell_one_new _ _ _) (by simp[Value.oneCell']) (by have:maxLen=9223372036854775807:=rfl;omega) (by omega) (by have:=hB.size;simp;omega) ?_;intro v' w1 hown' hgrow _;obtain⟨g',cap',rfl⟩:=ownsRow_succ hown';obtain⟨hv1,hv2,hr2,hk2,hb2⟩:=hv.appended (by decide) hrow hB.size (Nat.le_refl _) hown' hgrow;have hc1:=hv1.cell;have hf1:=hv1.frozen)
  exact⟨hk2.from _,hb2,⟨_,hv2,by simpa using hr2,by simp⟩,hB.trans hb2⟩
 case done=>
  rintro D ys W hD rfl ⟨⟨v,hv,hrow,hnil⟩,hB⟩ hK
  have hc:=hv.cell
  gi_wp2
  refine⟨by simp,.inl ⟨_,_,rfl,run_takeDeferred hK,?_⟩⟩
  exact⟨_,results_tmp rfl _ _ _,v,rfl,ownsRow_putObj hrow _ hK rfl,hnil,hB.trans (belowK_b (w:=w) (Nat.le_refl _) W D _ _ (by simp at hD;omega) hK rfl rfl)⟩
 case stop=>
  rintro D c pre W _ _ h _
  exact h.elim

set_option maxRecDepth 100000 in
set_option maxHeartbeats 2000000 in
theorem WJ (Bs ob:Nat) (sv:Value) (zs:List Int) (hlen:zs.length≤1000000) (w:World) (hBs:Bs < w.heap.size)
 (hc0:w.cell? ⟨Bs,ob,none⟩=some sv) (hI:Hw w.heap.size w sv zs) :
 CallsIn Fence.wide 8 Tryd.prog 62 #[.func (.func 64) #[] #[.pointer (some ⟨Bs,ob,none⟩)]] w fun e W'=>∃ v,e = .returned v∧W'.ownsRow w.heap.size 3 1 v zs.length (zs.map (Value.int .i64))∧(v = .slice none 0 0↔zs=[])∧Below w.heap.size w W':=by
 have ha:=Sq Fence.wide 7 trivial trivial rfl (by omega) Bs ob sv zs hlen w hBs hc0 hI
 refine callsIn_of_wp Tryd.func62 rfl trivial ?_ rfl
 simp only[Tryd.ntmps62,List.size_toArray,List.length_cons,List.length_nil,Nat.reduceAdd,Nat.reduceSub,Array.replicate_succ,Array.replicate_zero,List.push_toArray,List.append_toArray,List.nil_append,List.cons_append]
 gi_wp2_with (refine⟨trivial,?_⟩;gi_at_call 72;refine ha.mono ?_;clear ha;rintro e w1 ⟨v,rfl,h1,h2,h3⟩)
 go_ret
 exact⟨v,rfl,h1,h2,h3⟩
open Go.Sp Go.BkS Go.Proofs.YtokbaaeimejjlaaDoor.BkS in
theorem WK (k:Nat) (T:Tr AJ):Cr tt Jb 40 63 [.slice none 0 0] ⟨k,T,true⟩=some (.tuple ⟨[]⟩,⟨k,T,true⟩):=by kernel_rfl
set_option maxRecDepth 100000 in
set_option maxHeartbeats 2000000 in
theorem Yr (Bs ob:Nat) (sv:Value) (zs:List Int) (hlen:zs.length≤1000000) (w:World) (hBs:Bs < w.heap.size)
 (hc0:w.cell? ⟨Bs,ob,none⟩=some sv) (hI:Hw w.heap.size w sv zs) (K:Value→World→World→Prop)
 (hK:∀ v w1,w1.ownsRow w.heap.size 3 1 v zs.length (zs.map (Value.int .i64))→(v = .slice none 0 0↔zs=[])→Below w.heap.size w w1→Calls Tryd.prog 63 #[v] w1 fun e w2=>e = .returned (.tuple #[])∧K v w1 w2) :
 Calls Tryd.prog 43 #[.func (.func 64) #[] #[.pointer (some ⟨Bs,ob,none⟩)]] w fun e W'=>∃ v w1,e = .returned v∧w1.ownsRow w.heap.size 3 1 v zs.length (zs.map (Value.int .i64))∧(v = .slice none 0 0↔zs=[])∧Below w.heap.size w w1∧K v w1 W':=by
 have ha:=WJ Bs ob sv zs hlen w hBs hc0 hI
 refine callsIn_wide (n:=9).1 ?_
 refine callsIn_of_wp Tryd.func43 rfl trivial ?_ rfl
 simp only[Tryd.ntmps43,List.size_toArray,List.length_cons,List.length_nil,Nat.reduceAdd,Nat.reduceSub,Array.replicate_succ,Array.replicate_zero,List.push_toArray,List.append_toArray,List.nil_append,List.cons_append]
 gi_wp2_with first
  | (refine⟨trivial,?_⟩;gi_at_call 62;refine ha.mono ?_;clear ha;rintro e w1 ⟨v,rfl,h1,h2,h3⟩;have hk:=hK v w1 h1 h2 h3)
  | (refine⟨trivial,?_⟩;gi_at_call 63;refine(callsIn_wide.2 hk).mono ?_;clear hk;rintro e w2 ⟨rfl,h4⟩)
 go_ret
 exact⟨v,w1,rfl,h1,h2,h3,h4⟩

open Go.Sp Go.BkS Go.Proofs.YtokbaaeimejjlaaDoor.BkS

noncomputable section
def KS (v:Value) (H:Aa):Option (List Int):=bb (DN v) (some [])
 (oo (IA v) (oo (Le v) none fun f => bb (an (Nat.beq f.sz 1) (Nat.ble 1 f.n)) (oo (CG (Bi .i64) f.cs) none fun zs => bb (Nat.beq (len zs) f.n) (some zs) none) none)
   fun s=>ss s fun id off sz ln _=>bb (Nat.beq sz 1) (oo (Bv (H.get id)) none fun o=>oo (CG (Bi .i64) (Aq ln (Am off o.xs))) none fun zs=>bb (Nat.beq (len zs) ln) (some zs) none) none)
def K7 (args:List Value) (H:Aa):Option (Value×Aa):=ll args none fun x r=>ll r (oo (Om 64 0 x) none fun l=>ll l none fun p l2=>ll l2 (oo (FO p) none fun q=>pp q fun id off=>oo (Bv (H.get id)) none fun o=>oo (AL o.xs off) none fun sv=>oo (KS sv H) none fun zs=>
 bb (Nat.ble (len zs) 1000000) (ll zs (some (.slice none 0 0,H)) fun _ _=>some (FP 1 (len zs) 0 (AP Dy (Cs zs)),H.push .dead)) none) fun _ _=>none) fun _ _=>none
end
theorem Uq {v:Value} (h:DN v=true):v = .slice none 0 0:=Zr h
theorem LX {H:Aa} {R:Sp.Ren} {w:World} (hs:Ck H R w) {v u:Value} (hv:VR R v u) {zs:List Int} (h:KS v H=some zs):Hw w.heap.size w u zs:=by
 unfold KS at h
 rcases Ag h with⟨e,h⟩ | ⟨_,h⟩
 ·obtain rfl:=Uq e
  injection h with h;subst h
  exact .inl ⟨⟨none,0,hv.slNil_l⟩,rfl⟩
 ·have cellOf : ∀ (C : Array Value) (t : TypeId) (fz : Nat × Nat) (c o : Nat) (k : Nat), w.heap[c]? = some (.cells C t fz) → w.cell? ⟨c, o + k, none⟩ = C[o + k]? := fun C t fz c o k hC => by
   unfold World.cell?
   simp only[hC]
   rfl
  cases hsl:IA v with
  | none =>
   rw[hsl,Az] at h
   obtain⟨f,hf,h⟩:=Ab h
   obtain⟨hc,h⟩:=Ae h
   obtain⟨zs',hz,h⟩:=Ab h
   obtain⟨hl,h⟩:=Ae h
   injection h with h;subst h
   obtain⟨c1,c2⟩:=Av hc
   replace c1:=Nat.eq_of_beq_eq_true c1
   replace c2:=Nat.le_of_ble_eq_true c2
   replace hl:=Nat.eq_of_beq_eq_true hl
   rw[AV] at hl
   rcases hv.fs_l hf with⟨h1,_⟩ | ⟨_,h1,_⟩ | ⟨c,o,cap,C,hro,rfl,hn,k1,k2,k3,hfit,hcr,hcl⟩
   ·omega
   ·omega
   ·obtain⟨⟨t,fz,hC⟩,_⟩:=hs.ro c C hro
    refine .inr ⟨c,o,cap,by rw[hl],(Array.getElem?_eq_some_iff.1 hC).1,fun j hj=>?_⟩
    rw[cellOf C t fz c o j hC]
    obtain⟨m1,m2⟩:=Di hz
    have hx:=List.getElem?_eq_getElem (show j < f.cs.length by omega)
    obtain⟨b,n1,n2⟩:=m2 j _ hx
    obtain⟨y,g1,g2⟩:=hcr j _ hx
    rw[Eh n2] at g2
    rw[g2.int_l] at g1
    rw[g1,n1];rfl
  | some s =>
   rw[hsl,Ac] at h
   obtain⟨id,off,sz,ln,c2⟩:=s
   replace h:bb (Nat.beq sz 1) (oo (Bv (H.get id)) none fun o=>oo (CG (Bi .i64) (Aq ln (Am off o.xs))) none fun zs=>bb (Nat.beq (len zs) ln) (some zs) none) none=some zs:=h
   obtain⟨e1,h⟩:=Ae h
   obtain⟨o,ho,h⟩:=Ab h
   obtain⟨zs',hz,h⟩:=Ab h
   obtain⟨hl,h⟩:=Ae h
   injection h with h;subst h
   obtain rfl:=Nat.eq_of_beq_eq_true e1
   replace hl:=Nat.eq_of_beq_eq_true hl
   rw[AV] at hl
   rcases hv.sl_l hsl with⟨c,β,cap,hid,rfl,k1,k2,k3,k4⟩ | ⟨c,o2,rfl,k0,_⟩ | ⟨rfl,k0,_⟩
   ·obtain⟨C,t,fz,g1,g2,g3,g4⟩:=hs.cells hid ho
    refine .inr ⟨c,β+off,cap,by rw[hl],(Array.getElem?_eq_some_iff.1 g1).1,fun j hj=>?_⟩
    rw[cellOf C t fz c (β+off) j g1]
    obtain⟨m1,m2⟩:=Di hz
    have hx:=List.getElem?_eq_getElem (show j < (Aq ln (Am off o.xs)).length by omega)
    obtain⟨b,n1,n2⟩:=m2 j _ hx
    have hx2 : o.xs[off + j]? = some ((Aq ln (Am off o.xs))[j]'(by omega)) := by
     rw[←hx,Cg,Bz,List.getElem?_take_of_lt (by omega),List.getElem?_drop]
    obtain⟨y,q1,q2⟩:=g4 (off+j) _ hx2
    rw[Eh n2] at q2
    rw[q2.int_l] at q1
    rw[Nat.add_assoc,q1,n1];rfl
   ·replace k0:ln=0:=k0
    exact .inl ⟨⟨_,_,rfl⟩,List.eq_nil_of_length_eq_zero (by omega)⟩
   ·replace k0:ln=0:=k0
    exact .inl ⟨⟨_,_,rfl⟩,List.eq_nil_of_length_eq_zero (by omega)⟩
theorem Ph (hm:Tryd.prog.follows .mixedOrders=true) {H:Aa} {R:Sp.Ren} {w:World} (hs:Ck H R w) (hgl:JH (List.range 1) R) (c ob:Nat) (y:Value) (zs:List Int) (hlen:zs.length≤1000000) (hBs:c < w.heap.size) (hcell:w.cell? ⟨c,ob,none⟩=some y) (hI:Hw w.heap.size w y zs) :
 Calls Tryd.prog 43 #[.func (.func 64) #[] #[.pointer (some ⟨c,ob,none⟩)]] w fun e w2=>∃ v,e = .returned v∧(v = .slice none 0 0↔zs=[])∧(zs=[]→∃ R2,Ba H R w H R2 w2)∧(zs≠[]→∃ R2,VR R2 (FP 1 zs.length 0 (AP Dy (Cs zs))) v∧Ba H R w (H.push .dead) R2 w2):=by
 have hcalls := Yr c ob y zs hlen w hBs hcell hI
  (fun v w1 w2=>(zs=[]→∃ R2,Ba H R w H R2 w2)∧(zs≠[]→∃ R2,VR R2 (FP 1 zs.length 0 (AP Dy (Cs zs))) v∧Ba H R w (H.push .dead) R2 w2)) ?_
 ·exact hcalls.mono fun e w2 ⟨v1,w1,he,hown,hnil,hbel,k1,k2⟩=>⟨v1,he,hnil,k1,k2⟩
 ·intro v1 w1 hown hnil hbel
  have hb1:∀ c,c < w.heap.size→w1.heap[c]?=w.heap[c]?:=hbel.block
  have hpb:=V7 hs hbel
  by_cases hz:zs=[]
  ·subst hz
   rw[hnil.2 rfl]
   obtain⟨k,T,z⟩:=H
   have hs1:Ck ⟨k,T,true⟩ R w1:=Ck.congr (H:=⟨k,T,z⟩) (H2:=⟨k,T,true⟩) (fun i=>rfl) rfl hpb.sim
   have:=((Rx Eo RZ hm 40) 63 _ _ _ _ (WK k T)).2 R w1 [.slice none 0 0] hs1 hgl (.one .slNil)
   refine this.mono fun e w2 ⟨u,R2,he,hu,hp2⟩=>?_
   obtain⟨us,rfl,hul⟩:=hu.tuple_l
   have hus:us=[]:=by have:=hul.1;simpa using this.symm
   subst hus
   refine⟨he,fun _=>⟨R2,hpb.trans (Ba.congrR (H':=⟨k,T,true⟩) (H2:=⟨k,T,z⟩) (fun i=>rfl) rfl (Ba.congrL (H:=⟨k,T,true⟩) (H2:=⟨k,T,z⟩) (fun i=>rfl) rfl hp2)) hs⟩,fun hne=>absurd rfl hne⟩
  ·obtain⟨hl1,hcase⟩:=hown
   rcases hcase with⟨rfl,hn0⟩ | ⟨g,cap,cur,rfl,hge,hg,hcap,hmax,hcur,htake⟩
   ·exact absurd (hnil.1 rfl) hz
   rw[Nat.mul_one] at htake hcur
   have hcells:∀ j,j < zs.length→cur[j]?=some (.int .i64 (zs[j]?.getD 0)):=fun j hj=>by
    have h1:(cur.toList.take zs.length)[j]?=(zs.map (Value.int .i64))[j]?:=by rw[htake]
    rw[List.getElem?_take_of_lt hj,Array.getElem?_toList,List.getElem?_map,List.getElem?_eq_getElem hj] at h1
    rw[h1,List.getElem?_eq_getElem hj];rfl
   have hH:Go.Sort.Holds (Value.int .i64) w1 g 0 zs.toArray:=fun j hj=>by
    have hj:j < zs.length:=by simpa using hj
    refine⟨?_,?_⟩
    ·unfold World.cell?
     simp only[hg,Nat.zero_add]
     show cur[j]?=_
     rw[hcells j hj]
     simp[hj]
    ·unfold World.frozen?
     simp only[hg]
     simp
   have hsrt:=Tryd.slices_Sort_int g 0 cap zs w1 hH (Array.getElem?_eq_some_iff.1 hg).1 (by omega)
   refine hsrt.mono fun e w2 ⟨he,n,os,hw2⟩=>⟨he,fun e=>absurd e hz,fun _=>?_⟩
   have hp1:=fJ hs hb1 hbel.size hbel.os hbel.output hg hge (xs:=AP Dy zs) (fun i x hx=>by
    rw[JP,List.getElem?_map] at hx
    cases hi:zs[i]? with
    | none=>rw[hi] at hx;cases hx
    | some q =>
     rw[hi] at hx;injection hx with hx;subst hx
     have hlt:i < zs.length:=(List.getElem?_eq_some_iff.1 hi).1
     refine⟨_,by rw[Nat.zero_add];exact hcells i hlt,?_⟩
     rw[hi];exact .int _ _) (by rw[Fh];omega)
   have hget:(H.push (.cells (AP Dy zs) false false [])).get H.next = .cells (AP Dy zs) false false []:=by rw[Aa.get_push,if_pos rfl]
   have hlen2:(Cs zs).length=(AP Dy zs).length:=by rw[Cs,List.length_mergeSort,Fh]
   have haw:=Ua (vals:=Cs zs) hget hlen2
   have hp2:=Xd (R:=⟨fun i=>if i=H.next then some (g,0) else R.f i,fun c=>if c=g then cur.size else R.sz c,R.ro⟩) (c:=g) (β:=0) hp1.sim haw (by show (if H.next=H.next then _ else _)=_;rw[if_pos rfl]) n os
   rw[show Go.Sort.grow (Go.Sort.putRow (Value.int .i64) (Go.Sort.ahead w1 n) g 0 (Cs zs).toArray) os=w2 from hw2.symm] at hp2
   have hp3:=hp1.trans hp2 hs
   have hgl2:(((H.push (.cells (AP Dy zs) false false [])).kill []).set H.next (.cells (AP Dy (Cs zs)) false false [])).get H.next = .cells (AP Dy (Cs zs)) false false []:=by rw[Aa.get_set,if_pos rfl]
   have hfz:Cq H.next false (.slice (some ⟨H.next,0,some 1⟩) zs.length (2*zs.length)) (((H.push (.cells (AP Dy zs) false false [])).kill []).set H.next (.cells (AP Dy (Cs zs)) false false []))=some (FP 1 zs.length 0 (AP Dy (Cs zs)),(((H.push (.cells (AP Dy zs) false false [])).kill []).set H.next (.cells (AP Dy (Cs zs)) false false [])).set H.next .dead):=by
    unfold Cq
    show oo (Bv (Aa.get _ H.next)) none _=_
    rw[hgl2]
    have ht:Aq (zs.length*1) (Am 0 (AP Dy (Cs zs)))=AP Dy (Cs zs):=by
     rw[Cg,Bz,List.drop_zero,List.take_of_length_le (by rw[Fh];simp[Cs])]
    show bb (an (Nat.ble H.next H.next) (an true (an true (an (Nat.ble (0+zs.length*1) (len (AP Dy (Cs zs)))) (Au Ah (Aq (zs.length*1) (Am 0 (AP Dy (Cs zs))))))))) (some (FP 1 zs.length 0 (Aq (zs.length*1) (Am 0 (AP Dy (Cs zs)))),_)) none=_
    rw[ht,Nat.ble_eq_true_of_le (Nat.le_refl _),AV,Fh,Nat.ble_eq_true_of_le (by simp[Cs])]
    have hc:Au Ah (AP Dy (Cs zs))=true:=by
     rw[Bh,List.all_eq_true,JP]
     intro x hx
     obtain⟨z,_,rfl⟩:=List.mem_map.1 hx
     rfl
    rw[hc];rfl
   obtain ⟨R2, _, _, q2, q3⟩ := Gg hfz hs (Nat.le_refl _) hp3 (.sl (c := g) (β := 0) (off := 0) (sz := 1) (ln := zs.length) (c2 := 2 * zs.length) (cap := cap) (by show (if H.next = H.next then _ else _) = _; rw [if_pos rfl]) (by omega) (by omega) (fun h => by omega) (by
    show 0+0+cap*1≤if g=g then cur.size else R.sz g
    rw[if_pos rfl];omega))
   refine⟨R2,q3,q2.congrR (fun i=>?_) ?_⟩
   ·rw[Aa.get_push,Aa.get_set,Aa.get_set]
    split
    ·rfl
    ·show Aa.get H i=(H.push (.cells (AP Dy zs) false false [])).get i
     rw[Aa.get_push,if_neg (by assumption)]
   ·rw[Aa.next_push,Aa.next_set,Aa.next_set,Aa.next_kill,Aa.next_push]
theorem QD (hm:Tryd.prog.follows .mixedOrders=true) {args:List Value} {H H':Aa} {v:Value} (h:K7 args H=some (v,H')) :
 (∀ (xs:Array Value) (w:World),(callFunc 43 xs).run Tryd.prog w = .ok (.enter 43 xs) w) ∧
 ∀ R w args',Ck H R w→JH (List.range 1) R→Cf R args args'→Calls Tryd.prog 43 ⟨args'⟩ w fun e w'=>∃ u R',e = .returned u∧VR R' v u∧Ba H R w H' R' w':=by
 refine⟨enters_of Tryd.func43 (by kernel_rfl) rfl,fun R w args' hs hgl ha=>?_⟩
 replace h:=Ad h;obtain⟨x,r,rfl,h⟩:=h
 replace h:=AC h;obtain⟨rfl,h⟩:=h
 replace h:=Ab h;obtain⟨l,hfn,h⟩:=h
 replace h:=Ad h;obtain⟨p,l2,rfl,h⟩:=h
 replace h:=AC h;obtain⟨rfl,h⟩:=h
 replace h:=Ab h;obtain⟨⟨id,off⟩,hp,h⟩:=h
 replace h:oo (Bv (H.get id)) none (fun o=>oo (AL o.xs off) none fun sv=>oo (KS sv H) none fun zs=>bb (Nat.ble (len zs) 1000000) (ll zs (some (.slice none 0 0,H)) fun _ _=>some (FP 1 (len zs) 0 (AP Dy (Cs zs)),H.push .dead)) none)=some (v,H'):=h
 replace h:=Ab h;obtain⟨o,ho,h⟩:=h
 replace h:=Ab h;obtain⟨sv,hsv,h⟩:=h
 replace h:=Ab h;obtain⟨zs,hzs,h⟩:=h
 replace h:=Ae h;obtain⟨hlen,h⟩:=h
 replace hlen:=Nat.le_of_ble_eq_true hlen
 rw[AV] at hlen
 obtain⟨u0,us,rfl,hu0,hnil⟩:=ha.uncons
 obtain rfl:=hnil.unnil
 obtain rfl:=Hu hfn
 obtain rfl:=Dg hp
 obtain⟨u1,rfl,hu1⟩:∃ u1,u0 = .func (.func 64) ⟨[]⟩ ⟨[u1]⟩∧VR R (.pointer (some ⟨id,off,none⟩)) u1:=by
  cases hu0 with
  | @func _ _ ys _ us hl h hl' h' =>
   have e1:ys=[]:=List.eq_nil_of_length_eq_zero hl.symm
   subst e1
   match us,hl' with
   | [u1],_=>exact⟨u1,rfl,h' 0 _ u1 rfl rfl⟩
 obtain⟨c,β,hid,rfl⟩:=hu1.ptr_l
 obtain⟨C,t,fz,g1,g2,g3,g4⟩:=hs.cells hid ho
 rw[BZ] at hsv
 obtain⟨y,hy,hvy⟩:=g4 off sv hsv
 have hcell:w.cell? ⟨c,β+off,none⟩=some y:=by
  unfold World.cell?
  simp only[g1]
  exact hy
 have hI:=LX hs hvy hzs
 refine(Ph hm hs hgl c (β+off) y zs hlen (Array.getElem?_eq_some_iff.1 g1).1 hcell hI).mono fun e w2 ⟨v1,he,hnil,k1,k2⟩=>?_
 by_cases hz:zs=[]
 ·subst hz
  injection (show some (Value.slice none 0 0,H)=some (v,H') from h) with h;injection h with e1 e2;subst e1;subst e2
  obtain⟨R2,hp2⟩:=k1 rfl
  rw[hnil.2 rfl] at he
  exact⟨_,R2,he,.slNil,hp2⟩
 ·obtain⟨R2,hv2,hp2⟩:=k2 hz
  obtain⟨z,zs',rfl⟩:=List.exists_cons_of_ne_nil hz
  have h:some (FP 1 (len (z::zs')) 0 (AP Dy (Cs (z::zs'))),H.push .dead)=some (v,H'):=h
  rw[AV] at h
  injection h with h;injection h with e1 e2;subst e1;subst e2
  exact⟨_,R2,he,hv2,hp2⟩
theorem Yt {H:Aa} {R:Sp.Ren} {w:World} (hs:Ck H R w) {s:Sl} {u:Value} (hv:VR R (Sl.v 1 s) u) {zs:List Int} (hz:CG (Bi .i64) s.cs=some zs) (hl:Nat.beq (len zs) s.n=true):Hw w.heap.size w u zs:=by
 by_cases h0:s.n=0
 ·have hzs : zs = [] := by
   have:=Nat.eq_of_beq_eq_true hl
   rw[AV,h0] at this
   exact List.eq_nil_of_length_eq_zero this
  refine .inl ⟨?_,hzs⟩
  rcases hv.fs_l (f:=⟨1,s.n,s.fl,s.cs⟩) rfl with⟨_,_,rfl⟩ | ⟨_,_,_,c,o,sp,rfl⟩ | ⟨c,o,cap,C,_,rfl,_⟩
  ·exact⟨_,_,rfl⟩
  ·exact⟨_,_,rfl⟩
  ·refine⟨some ⟨c,o,none⟩,cap,?_⟩
   rw[h0]
 ·refine LX hs hv (H:=H) ?_
  have h1:Nat.ble 1 s.n=true:=Nat.ble_eq_true_of_le (by omega)
  show bb (an (Nat.beq 1 1) (Nat.ble 1 s.n)) (oo (CG (Bi .i64) s.cs) none fun zs=>bb (Nat.beq (len zs) s.n) (some zs) none) none=some zs
  rw[h1,show an (Nat.beq 1 1) true=true from rfl,Ak,hz,Ac,hl,Ak]
theorem sortedF_ok (hm:Tryd.prog.follows .mixedOrders=true) {args:List Value} {H H':Aa} {v:Value} (h:Go.Sp.sortedF 64 args H=some (v,H')) :
 (∀ (xs:Array Value) (w:World),(callFunc 43 xs).run Tryd.prog w = .ok (.enter 43 xs) w) ∧
 ∀ R w args',Ck H R w→JH (List.range 1) R→Cf R args args'→Calls Tryd.prog 43 ⟨args'⟩ w fun e w'=>∃ u R',e = .returned u∧VR R' v u∧Ba H R w H' R' w':=by
 refine⟨enters_of Tryd.func43 (by kernel_rfl) rfl,fun R w args' hs hgl ha=>?_⟩
 unfold Go.Sp.sortedF at h
 replace h:=Ad h;obtain⟨x,r,rfl,h⟩:=h
 replace h:=AC h;obtain⟨rfl,h⟩:=h
 replace h:=Ab h;obtain⟨l,hfn,h⟩:=h
 replace h:=Ad h;obtain⟨p,l2,rfl,h⟩:=h
 replace h:=AC h;obtain⟨rfl,h⟩:=h
 replace h:=Ab h;obtain⟨⟨id,off⟩,hp,h⟩:=h
 replace h:oo (Bv (H.get id)) none (fun o=>oo (AL o.xs off) none fun sv=>oo (Bj 1 sv) none fun s=>oo (CG (Bi .i64) s.cs) none fun zs=>bb (an (Nat.beq (len zs) s.n) (Nat.ble (len zs) 1000000)) (some (Sl.v 1 ⟨len zs,bb (MQ zs) 2 0,AP Dy (Cs zs)⟩,H.push .dead)) none)=some (v,H'):=h
 replace h:=Ab h;obtain⟨o,ho,h⟩:=h
 replace h:=Ab h;obtain⟨sv,hsv,h⟩:=h
 replace h:=Ab h;obtain⟨s,hsl,h⟩:=h
 obtain rfl:=Qh hsl
 replace h:=Ab h;obtain⟨zs,hz,h⟩:=h
 replace h:=Ae h;obtain⟨hc,h⟩:=h
 obtain⟨hl,hlen⟩:=Av hc
 replace hlen:=Nat.le_of_ble_eq_true hlen
 rw[AV] at hlen
 obtain⟨u0,us,rfl,hu0,hnil⟩:=ha.uncons
 obtain rfl:=hnil.unnil
 obtain rfl:=Hu hfn
 obtain rfl:=Dg hp
 obtain⟨u1,rfl,hu1⟩:∃ u1,u0 = .func (.func 64) ⟨[]⟩ ⟨[u1]⟩∧VR R (.pointer (some ⟨id,off,none⟩)) u1:=by
  cases hu0 with
  | @func _ _ ys _ us hl h hl' h' =>
   have e1:ys=[]:=List.eq_nil_of_length_eq_zero hl.symm
   subst e1
   match us,hl' with
   | [u1],_=>exact⟨u1,rfl,h' 0 _ u1 rfl rfl⟩
 obtain⟨c,β,hid,rfl⟩:=hu1.ptr_l
 obtain⟨C,t,fz,g1,g2,g3,g4⟩:=hs.cells hid ho
 rw[BZ] at hsv
 obtain⟨y,hy,hvy⟩:=g4 off _ hsv
 have hcell:w.cell? ⟨c,β+off,none⟩=some y:=by
  unfold World.cell?
  simp only[g1]
  exact hy
 have hI:=Yt hs hvy hz hl
 injection h with h;injection h with e1 e2;subst e1;subst e2
 refine(Ph hm hs hgl c (β+off) y zs hlen (Array.getElem?_eq_some_iff.1 g1).1 hcell hI).mono fun e w2 ⟨v1,he,hnil,k1,k2⟩=>?_
 by_cases hz0:zs=[]
 ·subst hz0
  obtain⟨R2,hp2⟩:=k1 rfl
  rw[hnil.2 rfl] at he
  refine⟨_,R2,he,?_,hp2.absPush (obj:=.dead) rfl⟩
  rw[show Cs []=[] from List.mergeSort_nil]
  exact .fsN 1 2 (by decide)
 ·obtain⟨R2,hv2,hp2⟩:=k2 hz0
  refine⟨_,R2,he,?_,hp2⟩
  have e0:MQ zs=false:=by
   cases zs with
   | nil=>exact absurd rfl hz0
   | cons=>rfl
  rw[e0,AV]
  exact hv2
end Go.Proofs
set_option maxRecDepth 100000
namespace Go.Proofs.YtokbaaeimejjlaaDoor.BkS
open Go Go.Sp Go.BkSM Go.BkS
noncomputable section
theorem fk4:Ar Tryd.prog (List.range tabs.length) 4 ⟨157,PM,[.tmp 2]⟩:=by
 have h:c4=PM:=by kernel_rfl
 rw[←h];exact AaQ
theorem fk9:Ar Tryd.prog (List.range tabs.length) 9 ⟨79,UI,[.cell 6 27,.tmp 7]⟩:=by
 have h:c9=UI:=by kernel_rfl
 rw[←h];exact AaR
theorem Ac1:Ar Tryd.prog (List.range tabs.length) 10 ⟨103,PN,[.tmp 8]⟩:=by
 have h:c10=PN:=by kernel_rfl
 rw[←h];exact fC
theorem Ac2:Ar Tryd.prog (List.range tabs.length) 12 ⟨26,PO,[.tmp 4]⟩:=by
 have h:c12=PO:=by kernel_rfl
 rw[←h];exact fD
theorem Ac3:Ar Tryd.prog (List.range tabs.length) 13 ⟨30,PP,[.tmp 4]⟩:=by
 have h:c13=PP:=by kernel_rfl
 rw[←h];exact fE
theorem Ac4:Ar Tryd.prog (List.range tabs.length) 20 ⟨25,PQ,[.tmp 4,.tmp 5]⟩:=by
 have h:c20=PQ:=by kernel_rfl
 rw[←h];exact fG
theorem Ac5:Ar Tryd.prog (List.range tabs.length) 21 ⟨70,Qp,[.tmp 6]⟩:=by
 have h:c21=Qp:=by kernel_rfl
 rw[←h];exact fH
theorem Ac6:Ar Tryd.prog (List.range tabs.length) 22 ⟨4,UJ,[.tmp 2]⟩:=by
 have h:c22=UJ:=by kernel_rfl
 rw[←h];exact fI
theorem Ac7:Ar Tryd.prog (List.range tabs.length) 32 ⟨33,Qq,[.tmp 4,.tmp 5]⟩:=by
 have h:c32=Qq:=by kernel_rfl
 rw[←h];exact fK
theorem Ac8:Ar Tryd.prog (List.range tabs.length) 36 ⟨38,Qr,[.tmp 6]⟩:=by
 have h:c36=Qr:=by kernel_rfl
 rw[←h];exact fM
theorem Ac9:Ar Tryd.prog (List.range tabs.length) 45 ⟨36,Qs,[.tmp 4]⟩:=by
 have h:c45=Qs:=by kernel_rfl
 rw[←h];exact fU
theorem Ada:Ar Tryd.prog (List.range tabs.length) 46 ⟨9,UK,[.tmp 2]⟩:=by
 have h:c46=UK:=by kernel_rfl
 rw[←h];exact fV
theorem Adb:Ar Tryd.prog (List.range tabs.length) 47 ⟨15,UL,[.tmp 2]⟩:=by
 have h:c47=UL:=by kernel_rfl
 rw[←h];exact fZ
theorem Adc:Ar Tryd.prog (List.range tabs.length) 48 ⟨15,UM,[.tmp 6]⟩:=by
 have h:c48=UM:=by kernel_rfl
 rw[←h];exact gD
theorem Ade:Ar Tryd.prog (List.range tabs.length) 49 ⟨110,Qt,[.tmp 2,.tmp 3]⟩:=by
 have h:c49=Qt:=by kernel_rfl
 rw[←h];exact gF
theorem Adf:Ar Tryd.prog (List.range tabs.length) 51 ⟨18,Qu,[.cell 2 86]⟩:=by
 have h:c51=Qu:=by kernel_rfl
 rw[←h];exact gG
theorem Adg:Ar Tryd.prog (List.range tabs.length) 52 ⟨22,UN,[.cell 4 86]⟩:=by
 have h:c52=UN:=by kernel_rfl
 rw[←h];exact gH
theorem Adh:Ar Tryd.prog (List.range tabs.length) 53 ⟨22,Qv,[.tmp 2]⟩:=by
 have h:c53=Qv:=by kernel_rfl
 rw[←h];exact gI
theorem Adi:Ar Tryd.prog (List.range tabs.length) 58 ⟨34,Qw,[.tmp 4]⟩:=by
 have h:c58=Qw:=by kernel_rfl
 rw[←h];exact gK
theorem Adj:Ar Tryd.prog (List.range tabs.length) 65 ⟨20,Qz,[.tmp 4]⟩:=by
 have h:c65=Qz:=by kernel_rfl
 rw[←h];exact gM
theorem Adk:Ar Tryd.prog (List.range tabs.length) 68 ⟨25,QA,[.tmp 2]⟩:=by
 have h:c68=QA:=by kernel_rfl
 rw[←h];exact gQ
theorem Adl:Ar Tryd.prog (List.range tabs.length) 69 ⟨25,QB,[.tmp 2]⟩:=by
 have h:c69=QB:=by kernel_rfl
 rw[←h];exact gT
theorem Adm:Ar Tryd.prog (List.range tabs.length) 74 ⟨6,UO,[.tmp 2]⟩:=by
 have h:c74=UO:=by kernel_rfl
 rw[←h];exact gU
theorem Adn:Ar Tryd.prog (List.range tabs.length) 40 ⟨88,MU,[]⟩:=by
 have h:c40=MU:=by kernel_rfl
 rw[←h];exact fO
theorem Ado:Ar Tryd.prog (List.range tabs.length) 41 ⟨9,RQ,[.tmp 4]⟩:=by
 have h:c41=RQ:=by kernel_rfl
 rw[←h];exact fP
theorem Adp:Ar Tryd.prog (List.range tabs.length) 61 ⟨19,M8,[.tmp 4]⟩:=by
 have h:c61=M8:=by kernel_rfl
 rw[←h];exact gL
theorem Adq:Ar Tryd.prog (List.range tabs.length) 42 ⟨9,RS,[.tmp 3]⟩:=by
 have h:c42=RS:=by kernel_rfl
 rw[←h];exact fQ
theorem Adr:Ar Tryd.prog (List.range tabs.length) 44 ⟨4,RU,[.tmp 2]⟩:=by
 have h:c44=RU:=by kernel_rfl
 rw[←h];exact fT
theorem Gq:∀ t∈tabs,t≠[]:=by intro t ht;simp[tabs] at ht;subst ht;intro h;cases h
theorem Gs:∀ t∈tabs,∀ x∈t,BR x=true:=by intro t ht x hx;simp[tabs] at ht;subst ht;simp[OY] at hx;rcases hx with rfl | rfl | rfl | rfl | rfl | rfl | rfl | rfl | rfl | rfl | rfl | rfl | rfl | rfl | rfl | rfl | rfl | rfl | rfl | rfl | rfl | rfl | rfl | rfl | rfl | rfl | rfl | rfl | rfl | rfl | rfl | rfl <;> rfl
theorem uG (hm:Tryd.prog.follows .mixedOrders=true) {pu:Af} (hg22:BA Tryd.prog tabs 22 (pu 22)) (hg77:BA Tryd.prog tabs 77 (pu 77)) (hg32:BA Tryd.prog tabs 32 (pu 32)) (h0:Cn Tryd.prog tabs 7 5 40 (pu 10400)) (h1:Cn Tryd.prog tabs 2 1 41 (pu 10410)) (h2:Cn Tryd.prog tabs 2 1 61 (pu 10610)) (h3:Cn Tryd.prog tabs 2 1 42 (pu 10420)) (h4:Cn Tryd.prog tabs 1 0 44 (pu 10440)):CO Tryd.prog (List.range tabs.length) (inl pu):=fun g args H v H' h=>by
 replace h:bb (Nat.beq g 43) (sortedF 64 args H) (bb (Nat.beq g 22) (Hr tabs 1 (pu 22) args H) (bb (Nat.beq g 77) (Hr tabs 1 (pu 77) args H) (bb (Nat.beq g 32) (Hr tabs 1 (pu 32) args H) (bb (Nat.beq g 40) (EK tabs [[some 1],[none],[none],[none],[none],[none],[none]] 7 [.tmp 2 false,.tmp 3 false,.tmp 4 false,.tmp 5 false,.tmp 6 true] [false,false,false,false,true] (pu 10400) args H) (bb (Nat.beq g 41) (EK tabs [[some 1],[none]] 2 [.cap 1 0 false] [false] (pu 10410) args H) (bb (Nat.beq g 61) (EK tabs [[some 1],[none]] 2 [.cap 1 0 false] [false] (pu 10610) args H) (bb (Nat.beq g 42) (EK tabs [[none],[none]] 2 [.tmp 1 false] [false] (pu 10420) args H) (bb (Nat.beq g 44) (EK tabs [[some 1]] 1 [] [false] (pu 10440) args H) (none)))))))))=some (v,H'):=h
 have hq:=Ag h;clear h;rcases hq with⟨e,h⟩ | ⟨_,h⟩
 ·obtain rfl:=Nat.eq_of_beq_eq_true e
  exact Go.Proofs.sortedF_ok hm h
 have hq:=Ag h;clear h;rcases hq with⟨e,h⟩ | ⟨_,h⟩
 ·obtain rfl:=Nat.eq_of_beq_eq_true e
  exact Og Gq Gs hg22 h
 have hq:=Ag h;clear h;rcases hq with⟨e,h⟩ | ⟨_,h⟩
 ·obtain rfl:=Nat.eq_of_beq_eq_true e
  exact Og Gq Gs hg77 h
 have hq:=Ag h;clear h;rcases hq with⟨e,h⟩ | ⟨_,h⟩
 ·obtain rfl:=Nat.eq_of_beq_eq_true e
  exact Og Gq Gs hg32 h
 have hq:=Ag h;clear h;rcases hq with⟨e,h⟩ | ⟨_,h⟩
 ·obtain rfl:=Nat.eq_of_beq_eq_true e
  exact Ip (rs:=[.tmp 2 false,.tmp 3 false,.tmp 4 false,.tmp 5 false,.tmp 6 true]) Gq Gs h0 h
 have hq:=Ag h;clear h;rcases hq with⟨e,h⟩ | ⟨_,h⟩
 ·obtain rfl:=Nat.eq_of_beq_eq_true e
  exact Ip (rs:=[.cap 1 0 false]) Gq Gs h1 h
 have hq:=Ag h;clear h;rcases hq with⟨e,h⟩ | ⟨_,h⟩
 ·obtain rfl:=Nat.eq_of_beq_eq_true e
  exact Ip (rs:=[.cap 1 0 false]) Gq Gs h2 h
 have hq:=Ag h;clear h;rcases hq with⟨e,h⟩ | ⟨_,h⟩
 ·obtain rfl:=Nat.eq_of_beq_eq_true e
  exact Ip (rs:=[.tmp 1 false]) Gq Gs h3 h
 have hq:=Ag h;clear h;rcases hq with⟨e,h⟩ | ⟨_,h⟩
 ·obtain rfl:=Nat.eq_of_beq_eq_true e
  exact Ip (rs:=[]) Gq Gs h4 h
 cases h
theorem bV (hm:Tryd.prog.follows .mixedOrders=true) (hw:BA Tryd.prog tabs 19 RV∧BA Tryd.prog tabs 66 RX∧BA Tryd.prog tabs 77 RY) {pu:Af} (hall:(∀ g,isP g=true→BA Tryd.prog tabs g (pu g))∧BA Tryd.prog tabs 22 (pu 22)∧BA Tryd.prog tabs 77 (pu 77)∧BA Tryd.prog tabs 32 (pu 32)∧Cn Tryd.prog tabs 7 5 40 (pu 10400)∧Cn Tryd.prog tabs 2 1 41 (pu 10410)∧Cn Tryd.prog tabs 2 1 61 (pu 10610)∧Cn Tryd.prog tabs 2 1 42 (pu 10420)∧Cn Tryd.prog tabs 1 0 44 (pu 10440)):(∀ g,isP g=true→BA Tryd.prog tabs g (O0 pu g))∧BA Tryd.prog tabs 22 (O0 pu 22)∧BA Tryd.prog tabs 77 (O0 pu 77)∧BA Tryd.prog tabs 32 (O0 pu 32)∧Cn Tryd.prog tabs 7 5 40 (O0 pu 10400)∧Cn Tryd.prog tabs 2 1 41 (O0 pu 10410)∧Cn Tryd.prog tabs 2 1 61 (O0 pu 10610)∧Cn Tryd.prog tabs 2 1 42 (O0 pu 10420)∧Cn Tryd.prog tabs 1 0 44 (O0 pu 10440):=by
 obtain⟨hpu,hg22,hg77,hg32,h0,h4,h5,h6,h7⟩:=hall
 have hcall:=TG (P:=Tryd.prog) (tabs:=tabs) Gq Gs (uG hm hg22 hg77 hg32 h0 h4 h5 h6 h7) hpu
 refine⟨fun g hg=>?_,?_,?_,?_,?_,?_,?_,?_,?_⟩
 ·have hg:g∈R4:=CS.1 hg
  simp only[R4,List.mem_cons,List.not_mem_nil,or_false] at hg
  rcases hg with rfl | rfl | rfl | rfl | rfl | rfl | rfl | rfl | rfl | rfl | rfl | rfl | rfl | rfl | rfl | rfl | rfl | rfl | rfl | rfl | rfl | rfl | rfl
  ·exact Aw (tabs:=tabs) (f:=m4 pu L) Eo hm hcall fk4 fun args v h hc=>r4 pu L rfl h hc
  ·exact Aw (tabs:=tabs) (f:=m9 pu L) Eo hm hcall fk9 fun args v h hc=>r9 pu L rfl h hc
  ·exact Aw (tabs:=tabs) (f:=m10 pu L) Eo hm hcall Ac1 fun args v h hc=>r10 pu L rfl h hc
  ·exact Aw (tabs:=tabs) (f:=m12 pu L) Eo hm hcall Ac2 fun args v h hc=>r12 pu L rfl h hc
  ·exact Aw (tabs:=tabs) (f:=m13 pu L) Eo hm hcall Ac3 fun args v h hc=>r13 pu L rfl h hc
  ·exact hw.1
  ·exact Aw (tabs:=tabs) (f:=m20 pu L) Eo hm hcall Ac4 fun args v h hc=>r20 pu L rfl h hc
  ·exact Aw (tabs:=tabs) (f:=m21 pu L) Eo hm hcall Ac5 fun args v h hc=>r21 pu L rfl h hc
  ·exact Aw (tabs:=tabs) (f:=m36 pu L) Eo hm hcall Ac8 fun args v h hc=>r36 pu L rfl h hc
  ·exact Aw (tabs:=tabs) (f:=m45 pu L) Eo hm hcall Ac9 fun args v h hc=>r45 pu L rfl h hc
  ·exact Aw (tabs:=tabs) (f:=m46 pu L) Eo hm hcall Ada fun args v h hc=>r46 pu L rfl h hc
  ·exact Aw (tabs:=tabs) (f:=m47 pu L) Eo hm hcall Adb fun args v h hc=>r47 pu L rfl h hc
  ·exact Aw (tabs:=tabs) (f:=m48 pu L) Eo hm hcall Adc fun args v h hc=>r48 pu L rfl h hc
  ·exact Aw (tabs:=tabs) (f:=m49 pu L) Eo hm hcall Ade fun args v h hc=>r49 pu L rfl h hc
  ·exact Aw (tabs:=tabs) (f:=m51 pu L) Eo hm hcall Adf fun args v h hc=>r51 pu L rfl h hc
  ·exact Aw (tabs:=tabs) (f:=m52 pu L) Eo hm hcall Adg fun args v h hc=>r52 pu L rfl h hc
  ·exact Aw (tabs:=tabs) (f:=m53 pu L) Eo hm hcall Adh fun args v h hc=>r53 pu L rfl h hc
  ·exact Aw (tabs:=tabs) (f:=m58 pu L) Eo hm hcall Adi fun args v h hc=>r58 pu L rfl h hc
  ·exact Aw (tabs:=tabs) (f:=vE pu L) Eo hm hcall Adj fun args v h hc=>r65 pu L rfl h hc
  ·exact hw.2.1
  ·exact Aw (tabs:=tabs) (f:=m68 pu L) Eo hm hcall Adk fun args v h hc=>r68 pu L rfl h hc
  ·exact Aw (tabs:=tabs) (f:=m69 pu L) Eo hm hcall Adl fun args v h hc=>r69 pu L rfl h hc
  ·exact Aw (tabs:=tabs) (f:=m74 pu L) Eo hm hcall Adm fun args v h hc=>r74 pu L rfl h hc
 ·exact Aw (tabs:=tabs) (f:=m22 pu L) Eo hm hcall Ac6 fun args v h hc=>r22 pu L rfl h hc
 ·exact hw.2.2
 ·exact Aw (tabs:=tabs) (f:=m32 pu L) Eo hm hcall Ac7 fun args v h hc=>r32 pu L rfl h hc
 ·exact Dx (tabs:=tabs) (f:=Kb pu L) Eo hm hcall Adn fun args os z h1 h2 h3 h=>uB pu L rfl h1 h2 h3 h
 ·exact Dx (tabs:=tabs) (f:=K3 pu L) Eo hm hcall Ado fun args os z h1 h2 h3 h=>uC pu L rfl h1 h2 h3 h
 ·exact Dx (tabs:=tabs) (f:=K4 pu L) Eo hm hcall Adp fun args os z h1 h2 h3 h=>uD pu L rfl h1 h2 h3 h
 ·exact Dx (tabs:=tabs) (f:=K5 pu L) Eo hm hcall Adq fun args os z h1 h2 h3 h=>uE pu L rfl h1 h2 h3 h
 ·exact Dx (tabs:=tabs) (f:=K6 pu L) Eo hm hcall Adr fun args os z h1 h2 h3 h=>uF pu L rfl h1 h2 h3 h
theorem uH (hm:Tryd.prog.follows .mixedOrders=true) (hw:BA Tryd.prog tabs 19 RV∧BA Tryd.prog tabs 66 RX∧BA Tryd.prog tabs 77 RY):∀ n,(∀ g,isP g=true→BA Tryd.prog tabs g (Bp n g))∧BA Tryd.prog tabs 22 (Bp n 22)∧BA Tryd.prog tabs 77 (Bp n 77)∧BA Tryd.prog tabs 32 (Bp n 32)∧Cn Tryd.prog tabs 7 5 40 (Bp n 10400)∧Cn Tryd.prog tabs 2 1 41 (Bp n 10410)∧Cn Tryd.prog tabs 2 1 61 (Bp n 10610)∧Cn Tryd.prog tabs 2 1 42 (Bp n 10420)∧Cn Tryd.prog tabs 1 0 44 (Bp n 10440):=fun n=>by
 induction n with
 | zero =>
  refine⟨fun g hg=>?_,?_,?_,?_,?_,?_,?_,?_,?_⟩
  ·have hg:g∈R4:=CS.1 hg
   simp only[R4,List.mem_cons,List.not_mem_nil,or_false] at hg
   rcases hg with rfl | rfl | rfl | rfl | rfl | rfl | rfl | rfl | rfl | rfl | rfl | rfl | rfl | rfl | rfl | rfl | rfl | rfl | rfl | rfl | rfl | rfl | rfl
   ·exact⟨A9 fk4,fun args v h=>by cases h⟩
   ·exact⟨A9 fk9,fun args v h=>by cases h⟩
   ·exact⟨A9 Ac1,fun args v h=>by cases h⟩
   ·exact⟨A9 Ac2,fun args v h=>by cases h⟩
   ·exact⟨A9 Ac3,fun args v h=>by cases h⟩
   ·exact⟨(hw.1).1,fun args v h=>by cases h⟩
   ·exact⟨A9 Ac4,fun args v h=>by cases h⟩
   ·exact⟨A9 Ac5,fun args v h=>by cases h⟩
   ·exact⟨A9 Ac8,fun args v h=>by cases h⟩
   ·exact⟨A9 Ac9,fun args v h=>by cases h⟩
   ·exact⟨A9 Ada,fun args v h=>by cases h⟩
   ·exact⟨A9 Adb,fun args v h=>by cases h⟩
   ·exact⟨A9 Adc,fun args v h=>by cases h⟩
   ·exact⟨A9 Ade,fun args v h=>by cases h⟩
   ·exact⟨A9 Adf,fun args v h=>by cases h⟩
   ·exact⟨A9 Adg,fun args v h=>by cases h⟩
   ·exact⟨A9 Adh,fun args v h=>by cases h⟩
   ·exact⟨A9 Adi,fun args v h=>by cases h⟩
   ·exact⟨A9 Adj,fun args v h=>by cases h⟩
   ·exact⟨(hw.2.1).1,fun args v h=>by cases h⟩
   ·exact⟨A9 Adk,fun args v h=>by cases h⟩
   ·exact⟨A9 Adl,fun args v h=>by cases h⟩
   ·exact⟨A9 Adm,fun args v h=>by cases h⟩
  ·exact⟨A9 Ac6,fun args v h=>by cases h⟩
  ·exact⟨(hw.2.2).1,fun args v h=>by cases h⟩
  ·exact⟨A9 Ac7,fun args v h=>by cases h⟩
  ·exact⟨A9 Adn,fun args os z h1 h2 h3 h=>by cases h⟩
  ·exact⟨A9 Ado,fun args os z h1 h2 h3 h=>by cases h⟩
  ·exact⟨A9 Adp,fun args os z h1 h2 h3 h=>by cases h⟩
  ·exact⟨A9 Adq,fun args os z h1 h2 h3 h=>by cases h⟩
  ·exact⟨A9 Adr,fun args os z h1 h2 h3 h=>by cases h⟩
 | succ n ih=>exact bV hm hw ih
theorem Ads (hm:Tryd.prog.follows .mixedOrders=true) (hw:BA Tryd.prog tabs 19 RV∧BA Tryd.prog tabs 66 RX∧BA Tryd.prog tabs 77 RY):∀ n g,isP g=true→BA Tryd.prog tabs g (Bp n g):=fun n=>(uH hm hw n).1
end
end Go.Proofs.YtokbaaeimejjlaaDoor.BkS
