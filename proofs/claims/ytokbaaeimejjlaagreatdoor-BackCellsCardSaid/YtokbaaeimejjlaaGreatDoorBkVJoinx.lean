/- Made from wip. -/
import Derived.RangeFuncBox
import Derived.RangeFuncNested
import Derived.RangeFuncBound
import Derived.RangeFuncCalls
import Derived.RangeFuncLeaves
import Derived.Shelf.Abstract
import Derived.Shelf.RegionOpen
import Derived.WalkKit
import Derived.OwnWalkIn
import Derived.TacticsInMore
import Derived.LoopNIn
import Derived.LoopIn
import Derived.Maps.AppendAt
import Derived.Test.YtokbaaeimejjlaaGreatDoorProg
import Derived.Test.YtokbaaeimejjlaaGreatDoorBzShelfx
import Derived.Test.YtokbaaeimejjlaaGreatDoorSpYield
import Derived.Test.YtokbaaeimejjlaaGreatDoorBkVNodesx
import Derived.Test.YtokbaaeimejjlaaGreatDoorSpClo3x
import Derived.Test.YtokbaaeimejjlaaGreatDoorSpMorex
import Derived.KernelRfl
import Derived.Test.YtokbaaeimejjlaaGreatDoorBkVPux

namespace Go.Proofs
open Go Go.RowKit Go.Shelf
attribute [local go_sem] Oper.semAt_some

def Jb {α:Type} (f:Nat→α) (k:Nat):List α:=(List.range k).map f
theorem Wq {α:Type} (f:Nat→α) (k:Nat):Jb f (k+1)=Jb f k++[f k]:=by simp[Jb,List.range_succ]
theorem RS {α:Type} (f:Nat→α) (k:Nat):(Jb f k).length=k:=by simp[Jb]
theorem WX (zs:List Int):Jb (fun j=>zs[j]?.getD 0) zs.length=zs:=by
 apply List.ext_getElem
 ·simp[Jb]
 ·intro i h1 h2
  simp[Jb,h2]

set_option maxRecDepth 100000 in
set_option maxHeartbeats 2000000 in
theorem ZQ (F:Fence) (n:Nat) (h7:F.fn 89) (hro:F.round=none) (hn:1≤n) (l Bs ob n₀ b off len cap:Nat) (zs:List Int) (hreach:len*8≤140737488351232) (hb:b < n₀) (J Jx:List Int→World→Prop)
 (hY : ∀ pre x W, J pre W → pre.length < len → YieldAt F (n - 1) Tryz.prog l #[.int .i64 x] W fun e W' =>
   (e = .returned (.bool true)∧J (pre++[x]) W'∧Below n₀ W W')∨(e = .returned (.bool false)∧Jx (pre++[x]) W'))
 (W:World) (hBs:W.cell? ⟨Bs,ob,none⟩=some (.slice (some ⟨b,off,none⟩) len cap)) (hc:∀ j,j < len→W.cell? ⟨b,off+j,none⟩=some (.int .i64 (zs[j]?.getD 0))) (h0:J [] W) :
 CallsIn F n Tryz.prog 89 #[.func (.yield l) #[] #[], .pointer (some ⟨Bs, ob, none⟩)] W fun e W' => (∃ v, e = .returned v) ∧
  ((∃ ys,ys=Jb (fun j=>zs[j]?.getD 0) len∧J ys W')∨(∃ pre,True∧Jx pre W')):=by
 refine callsIn_of_wp Tryz.func89 rfl h7 ?_ hro
 simp only[Tryz.ntmps89,List.size_toArray,List.length_cons,List.length_nil,Nat.reduceAdd,Nat.reduceSub,Array.replicate_succ,Array.replicate_zero,List.push_toArray,List.append_toArray,List.nil_append,List.cons_append]
 gi_wp2
 gi_loopw [7] (fun i wr => ∃ k : Nat, k ≤ len ∧ i = .int .i64 k ∧ J (Jb (fun j => zs[j]?.getD 0) k) wr ∧ Below n₀ W wr)
  (fun i _=>len - (intOf i).toNat)
 case atStart=>exact⟨0,Nat.zero_le _,rfl,h0,Below.refl _ _⟩
 case round=>
  obtain⟨k,hk,rfl,hJs,hnx⟩:=hrel
  have hcx:k < len→wr.cell? ⟨b,off+k,none⟩=some (.int .i64 (zs[k]?.getD 0)):=fun h=>(hnx.cell (p:=⟨b,off+k,none⟩) hb).trans (hc k h)
  by_cases hlt:k < len
  ·obtain⟨fn,tmps,assign,body,hy,hR⟩:=hY _ (zs[k]?.getD 0) wr hJs (by rw[RS];exact hlt)
   have hcx':=hcx hlt
   gi_wp2
   refine hR.mono ?_
   rintro e W3 (⟨rfl,hJ3,hk3⟩ | ⟨rfl,hJx3⟩)
   ·gi_wp2
    go_roundw
    case rel=>exact⟨k+1,by omega,by simp,by rw[Wq];exact hJ3,hnx.trans hk3⟩
    case measure=>simp[intOf];omega
   ·gi_wp2
    refine bodyPost_ret (results_none rfl _ _ _) rfl ?_
    exact⟨⟨_,rfl⟩,.inr ⟨_,trivial,hJx3⟩⟩
  ·obtain rfl:k=len:=by omega
   gi_wp2
   go_end0
   exact⟨⟨_,rfl⟩,.inl ⟨_,rfl,hJs⟩⟩
set_option maxRecDepth 100000 in
set_option maxHeartbeats 1000000 in
theorem RU (F:Fence) (n:Nat) (h7:F.fn 89) (hro:F.round=none) (l Bs ob:Nat) (J:List Int→World→Prop) (W:World) (a:Option Addr) (cap:Nat) (hBs:W.cell? ⟨Bs,ob,none⟩=some (.slice a 0 cap)) (h0:J [] W) :
 CallsIn F n Tryz.prog 89 #[.func (.yield l) #[] #[],.pointer (some ⟨Bs,ob,none⟩)] W fun e W'=>(∃ v,e = .returned v)∧J [] W':=by
 refine callsIn_of_wp Tryz.func89 rfl h7 ?_ hro
 simp only[Tryz.ntmps89,List.size_toArray,List.length_cons,List.length_nil,Nat.reduceAdd,Nat.reduceSub,Array.replicate_succ,Array.replicate_zero,List.push_toArray,List.append_toArray,List.nil_append,List.cons_append]
 gi_wp2
 gi_loopw [7] (fun i wr=>i = .int .i64 0∧J [] wr) (fun _ _=>0)
 case atStart=>exact⟨rfl,h0⟩
 case round=>
  obtain⟨rfl,hJs⟩:=hrel
  gi_wp2
  go_end0
  exact⟨⟨_,rfl⟩,hJs⟩
def Jc (n₀:Nat) (W:World) (sv:Value) (zs:List Int):Prop:=
 ((∃ a cap,sv = .slice a 0 cap)∧zs=[])∨∃ b off cap,sv = .slice (some ⟨b,off,none⟩) zs.length cap∧b < n₀∧∀ j,j < zs.length→W.cell? ⟨b,off+j,none⟩=some (.int .i64 (zs[j]?.getD 0))
theorem Jc.below {n₀:Nat} {A B:World} (h:Below n₀ A B) {sv:Value} {zs:List Int}:Jc n₀ A sv zs→Jc n₀ B sv zs
 | .inl e=>.inl e
 | .inr ⟨b,off,cap,e,hb,hc⟩=>.inr ⟨b,off,cap,e,hb,fun j hj=>(h.cell (p:=⟨b,off+j,none⟩) hb).trans (hc j hj)⟩
theorem RV (F:Fence) (n:Nat) (h7:F.fn 89) (hro:F.round=none) (hn:1≤n) (Bs ob n₀:Nat) (sv:Value) (zs:List Int) (hreach:zs.length*8≤140737488351232) (w:World) (hBs:Bs < w.heap.size) (hn₀:n₀≤w.heap.size)
 (hc:w.cell? ⟨Bs,ob,none⟩=some sv) (hI:Jc n₀ w sv zs) :
 SeqStopsK F n Tryz.prog 89 #[.pointer (some ⟨Bs,ob,none⟩)] (fun x:Int=>#[Value.int .i64 x]) (Below n₀) (fun ys=>ys=zs) (fun _=>True) zs.length w:=fun l J Jx W hW _ _ hY h0=>by
 have hc':=(hW.cell (p:=⟨Bs,ob,none⟩) hBs).trans hc
 rcases hI.below (hW.mono hn₀) with⟨⟨a,cap,rfl⟩,rfl⟩ | ⟨b,off,cap,rfl,hb,hcs⟩
 ·exact(RU F n h7 hro l Bs ob J W a cap hc' h0).mono fun e W' ⟨he,hj⟩=>⟨he,.inl ⟨_,rfl,hj⟩⟩
 ·refine(ZQ F n h7 hro hn l Bs ob n₀ b off zs.length cap zs hreach hb J Jx hY W hc' hcs h0).mono ?_
  rintro e W' ⟨he,⟨ys,rfl,hj⟩ | ⟨pre,_,hj⟩⟩
  ·exact⟨he,.inl ⟨_,WX zs,hj⟩⟩
  ·exact⟨he,.inr ⟨_,trivial,hj⟩⟩
theorem mF:(Tryz.prog.info? 3).map (fun i=>(i.zero,i.size,i.bytes))=some (some (.int .i64 0),1,8):=by kernel_rfl

set_option maxRecDepth 100000 in
set_option maxHeartbeats 2000000 in
theorem Ws (F:Fence) (n:Nat) (h72:F.fn 99) (h64:F.fn 89) (hro:F.round=none) (hn:3≤n) (Bs ob:Nat) (sv:Value) (zs:List Int) (hlen:zs.length≤1000000) (w:World) (hBs:Bs < w.heap.size)
 (hc0:w.cell? ⟨Bs,ob,none⟩=some sv) (hI:Jc w.heap.size w sv zs) :
 CallsIn F n Tryz.prog 99 #[.slice none 0 0,.func (.func 89) #[] #[.pointer (some ⟨Bs,ob,none⟩)]] w fun e W'=>∃ v,e = .returned v∧W'.ownsRow w.heap.size 3 1 v zs.length (zs.map (Value.int .i64))∧(v = .slice none 0 0↔zs=[])∧Below w.heap.size w W':=by
 have h1:1≤n:=by omega
 obtain⟨i0,hi,hz0,hz1,hz2⟩:=info_parts mF
 refine callsIn_of_wp_marks Tryz.func99 rfl h72 ?_ hro
 simp only[Tryz.ntmps99,List.size_toArray,List.length_cons,List.length_nil,Nat.reduceAdd,Nat.reduceSub,Array.replicate_succ,Array.replicate_zero,List.push_toArray,List.append_toArray,List.nil_append,List.cons_append]
 gi_wp2
 have bO:=Boxed.new w 22 (.slice none 0 0)
 have hB0:Below w.heap.size w (w.alloc (.cells #[.slice none 0 0] 22)):=(Below.refl _ w).alloc (Nat.le_refl _) _
 refine wpIn_rangeFunc_ownG hro h1 (gf := 89) (lb := #[.pointer (some ⟨Bs, ob, none⟩)]) rfl h64 (enters_of Tryz.func89 (by kernel_rfl) rfl)
  (RV F (n - 1) h64 hro (by omega) Bs ob w.heap.size sv zs (by omega) _ (by simp;omega) (by simp) ((hB0.cell (p:=⟨Bs,ob,none⟩) hBs).trans hc0) (hI.below hB0)) belowK_t (belowK_b (by simp)) (Below.refl _ _) (fun _=>rfl)
  (fun pre W=>(∃ v,Boxed W w.heap.size 22 v∧W.ownsRow w.heap.size 3 1 v pre.length (pre.map (Value.int .i64))∧(v = .slice none 0 0↔pre=[]))∧Below w.heap.size w W)
  (fun _ _ _=>False)
  (OwnFrom.and (Own.from (holdsRow_own w.heap.size w.heap.size 22 3 1 (fun pre=>pre.length) (fun pre=>pre.map (Value.int .i64)) (fun pre v=>v = .slice none 0 0↔pre=[])) _) (ownFrom_below (Nat.le_refl _) (by simp)))
  (fun _ _ _ _ _ hs _ _=>hs)
  ⟨⟨_,bO,World.ownsRow_nil _ _ _ _,by simp⟩,hB0⟩
  (fun x=>{ tmps:=#[.slice none 0 0,.func (.func 89) #[] #[.pointer (some ⟨Bs,ob,none⟩)],.pointer (some ⟨w.heap.size,0,none⟩),undef,.slice none 0 0,.int .i64 x,.func (.func 89) #[] #[.pointer (some ⟨Bs,ob,none⟩)],.int .i64 x,undef,undef,undef,undef,undef],defers:=[] }) ?assign ?body ?done ?stop
 case assign=>
  intro l x W K hK
  gi_wp2
  exact hK
 case body=>
  rintro l pre x W ⟨⟨v,hv,hrow,hnil⟩,hB⟩ hlt
  have hc:=hv.cell
  gi_wp2_with (gi_at_builtin;refine wpListIn_append_own _ rfl _ _ 22 rfl w.heap.size 3 i0 (.int .i64 0) 1 8 Tryz.underlying22 hi hz0 hz1 hz2 rfl (by decide) _ _ _ rfl (hrow.alloc _) ⟨W.heap.size,0,none⟩ 1 1 [.int .i64 x] rfl rfl (cell_one_new _ _ _) (by simp[Value.oneCell']) (by have:maxLen=9223372036854775807:=rfl;omega) (by omega) (by have:=hB.size;simp;omega) ?_;intro v' w1 hown' hgrow _;obtain⟨g',cap',rfl⟩:=ownsRow_succ hown';obtain⟨hv1,hv2,hr2,hk2,hb2⟩:=hv.appended (by decide) hrow hB.size (Nat.le_refl _) hown' hgrow;have hc1:=hv1.cell;have hf1:=hv1.frozen)
  exact⟨hk2.from _,hb2,⟨_,hv2,by simpa using hr2,by simp⟩,hB.trans hb2⟩
 case done=>
  rintro D ys W hD rfl ⟨⟨v,hv,hrow,hnil⟩,hB⟩ hK
  have hc:=hv.cell
  gi_wp2
  refine⟨by simp,.inl ⟨_,_,rfl,run_takeDeferred hK,?_⟩⟩
  exact⟨_,results_tmp rfl _ _ _,v,rfl,ownsRow_putObj hrow _ hK rfl,hnil,hB.trans (belowK_b (w:=w) (Nat.le_refl _) W D _ _ (by simp at hD;omega) hK rfl rfl)⟩
 case stop=>
  rintro D c pre W _ _ h _
  exact h.elim

set_option maxRecDepth 100000 in
set_option maxHeartbeats 2000000 in
theorem ZR (Bs ob:Nat) (sv:Value) (zs:List Int) (hlen:zs.length≤1000000) (w:World) (hBs:Bs < w.heap.size)
 (hc0:w.cell? ⟨Bs,ob,none⟩=some sv) (hI:Jc w.heap.size w sv zs) :
 CallsIn Fence.wide 8 Tryz.prog 87 #[.func (.func 89) #[] #[.pointer (some ⟨Bs,ob,none⟩)]] w fun e W'=>∃ v,e = .returned v∧W'.ownsRow w.heap.size 3 1 v zs.length (zs.map (Value.int .i64))∧(v = .slice none 0 0↔zs=[])∧Below w.heap.size w W':=by
 have ha:=Ws Fence.wide 7 trivial trivial rfl (by omega) Bs ob sv zs hlen w hBs hc0 hI
 refine callsIn_of_wp Tryz.func87 rfl trivial ?_ rfl
 simp only[Tryz.ntmps87,List.size_toArray,List.length_cons,List.length_nil,Nat.reduceAdd,Nat.reduceSub,Array.replicate_succ,Array.replicate_zero,List.push_toArray,List.append_toArray,List.nil_append,List.cons_append]
 gi_wp2_with (refine⟨trivial,?_⟩;gi_at_call 99;refine ha.mono ?_;clear ha;rintro e w1 ⟨v,rfl,h1,h2,h3⟩)
 go_ret
 exact⟨v,rfl,h1,h2,h3⟩
open Go.Sp Go.BkV Go.Proofs.YtokbaaeimejjlaaGreatDoor.BkV in
theorem ZT (k:Nat) (T:Tr AJ):Cr tt KT 40 88 [.slice none 0 0] ⟨k,T,true⟩=some (.tuple ⟨[]⟩,⟨k,T,true⟩):=by kernel_rfl
set_option maxRecDepth 100000 in
set_option maxHeartbeats 2000000 in
theorem gQ (Bs ob:Nat) (sv:Value) (zs:List Int) (hlen:zs.length≤1000000) (w:World) (hBs:Bs < w.heap.size)
 (hc0:w.cell? ⟨Bs,ob,none⟩=some sv) (hI:Jc w.heap.size w sv zs) (K:Value→World→World→Prop)
 (hK:∀ v w1,w1.ownsRow w.heap.size 3 1 v zs.length (zs.map (Value.int .i64))→(v = .slice none 0 0↔zs=[])→Below w.heap.size w w1→Calls Tryz.prog 88 #[v] w1 fun e w2=>e = .returned (.tuple #[])∧K v w1 w2) :
 Calls Tryz.prog 68 #[.func (.func 89) #[] #[.pointer (some ⟨Bs,ob,none⟩)]] w fun e W'=>∃ v w1,e = .returned v∧w1.ownsRow w.heap.size 3 1 v zs.length (zs.map (Value.int .i64))∧(v = .slice none 0 0↔zs=[])∧Below w.heap.size w w1∧K v w1 W':=by
 have ha:=ZR Bs ob sv zs hlen w hBs hc0 hI
 refine callsIn_wide (n:=9).1 ?_
 refine callsIn_of_wp Tryz.func68 rfl trivial ?_ rfl
 simp only[Tryz.ntmps68,List.size_toArray,List.length_cons,List.length_nil,Nat.reduceAdd,Nat.reduceSub,Array.replicate_succ,Array.replicate_zero,List.push_toArray,List.append_toArray,List.nil_append,List.cons_append]
 gi_wp2_with first
  | (refine⟨trivial,?_⟩;gi_at_call 87;refine ha.mono ?_;clear ha;rintro e w1 ⟨v,rfl,h1,h2,h3⟩;have hk:=hK v w1 h1 h2 h3)
  | (refine⟨trivial,?_⟩;gi_at_call 88;refine(callsIn_wide.2 hk).mono ?_;clear hk;rintro e w2 ⟨rfl,h4⟩)
 go_ret
 exact⟨v,w1,rfl,h1,h2,h3,h4⟩

open Go.Sp Go.BkV Go.Proofs.YtokbaaeimejjlaaGreatDoor.BkV

noncomputable section
def Ng (v:Value) (H:Aa):Option (List Int):=bb (DN v) (some [])
 (oo (IA v) (oo (Le v) none fun f => bb (an (Nat.beq f.sz 1) (Nat.ble 1 f.n)) (oo (CG (Bi .i64) f.cs) none fun zs => bb (Nat.beq (len zs) f.n) (some zs) none) none)
   fun s=>ss s fun id off sz ln _=>bb (Nat.beq sz 1) (oo (Bv (H.get id)) none fun o=>oo (CG (Bi .i64) (Aq ln (Am off o.xs))) none fun zs=>bb (Nat.beq (len zs) ln) (some zs) none) none)
def OH (args:List Value) (H:Aa):Option (Value×Aa):=ll args none fun x r=>ll r (oo (Om 89 0 x) none fun l=>ll l none fun p l2=>ll l2 (oo (FO p) none fun q=>pp q fun id off=>oo (Bv (H.get id)) none fun o=>oo (AL o.xs off) none fun sv=>oo (Ng sv H) none fun zs=>
 bb (Nat.ble (len zs) 1000000) (ll zs (some (.slice none 0 0,H)) fun _ _=>some (FP 1 (len zs) 0 (AP Dy (CY zs)),H.push .dead)) none) fun _ _=>none) fun _ _=>none
end
theorem WY {v:Value} (h:DN v=true):v = .slice none 0 0:=Zr h
theorem OZ {H:Aa} {R:Sp.Ren} {w:World} (hs:Ck H R w) {v u:Value} (hv:VR R v u) {zs:List Int} (h:Ng v H=some zs):Jc w.heap.size w u zs:=by
 unfold Ng at h
 rcases Ag h with⟨e,h⟩ | ⟨_,h⟩
 ·obtain rfl:=WY e
  injection h with h;subst h
  exact .inl ⟨⟨none,0,hv.slNil_l⟩,rfl⟩
 ·have cellOf : ∀ (C : Array Value) (t : TypeId) (fz : Nat × Nat) (c o : Nat) (k : Nat), w.heap[c]? = some (.cells C t fz) → w.cell? ⟨c, o + k, none⟩ = C[o + k]? := fun C t fz c o k hC => by
   unfold World.cell?
   simp only[hC]
   rfl
  cases hsl:IA v with
  | none =>
   rw[hsl,Az] at h
   obtain⟨f,hf,h⟩:=Ab h
   obtain⟨hc,h⟩:=Ae h
   obtain⟨zs',hz,h⟩:=Ab h
   obtain⟨hl,h⟩:=Ae h
   injection h with h;subst h
   obtain⟨c1,c2⟩:=Av hc
   replace c1:=Nat.eq_of_beq_eq_true c1
   replace c2:=Nat.le_of_ble_eq_true c2
   replace hl:=Nat.eq_of_beq_eq_true hl
   rw[AV] at hl
   rcases hv.fs_l hf with⟨h1,_⟩ | ⟨_,h1,_⟩ | ⟨c,o,cap,C,hro,rfl,hn,k1,k2,k3,hfit,hcr,hcl⟩
   ·omega
   ·omega
   ·obtain⟨⟨t,fz,hC⟩,_⟩:=hs.ro c C hro
    refine .inr ⟨c,o,cap,by rw[hl],(Array.getElem?_eq_some_iff.1 hC).1,fun j hj=>?_⟩
    rw[cellOf C t fz c o j hC]
    obtain⟨m1,m2⟩:=Di hz
    have hx:=List.getElem?_eq_getElem (show j < f.cs.length by omega)
    obtain⟨b,n1,n2⟩:=m2 j _ hx
    obtain⟨y,g1,g2⟩:=hcr j _ hx
    rw[Eh n2] at g2
    rw[g2.int_l] at g1
    rw[g1,n1];rfl
  | some s =>
   rw[hsl,Ac] at h
   obtain⟨id,off,sz,ln,c2⟩:=s
   replace h:bb (Nat.beq sz 1) (oo (Bv (H.get id)) none fun o=>oo (CG (Bi .i64) (Aq ln (Am off o.xs))) none fun zs=>bb (Nat.beq (len zs) ln) (some zs) none) none=some zs:=h
   obtain⟨e1,h⟩:=Ae h
   obtain⟨o,ho,h⟩:=Ab h
   obtain⟨zs',hz,h⟩:=Ab h
   obtain⟨hl,h⟩:=Ae h
   injection h with h;subst h
   obtain rfl:=Nat.eq_of_beq_eq_true e1
   replace hl:=Nat.eq_of_beq_eq_true hl
   rw[AV] at hl
   rcases hv.sl_l hsl with⟨c,β,cap,hid,rfl,k1,k2,k3,k4⟩ | ⟨c,o2,rfl,k0,_⟩ | ⟨rfl,k0,_⟩
   ·obtain⟨C,t,fz,g1,g2,g3,g4⟩:=hs.cells hid ho
    refine .inr ⟨c,β+off,cap,by rw[hl],(Array.getElem?_eq_some_iff.1 g1).1,fun j hj=>?_⟩
    rw[cellOf C t fz c (β+off) j g1]
    obtain⟨m1,m2⟩:=Di hz
    have hx:=List.getElem?_eq_getElem (show j < (Aq ln (Am off o.xs)).length by omega)
    obtain⟨b,n1,n2⟩:=m2 j _ hx
    have hx2 : o.xs[off + j]? = some ((Aq ln (Am off o.xs))[j]'(by omega)) := by
     rw[←hx,Cg,Bz,List.getElem?_take_of_lt (by omega),List.getElem?_drop]
    obtain⟨y,q1,q2⟩:=g4 (off+j) _ hx2
    rw[Eh n2] at q2
    rw[q2.int_l] at q1
    rw[Nat.add_assoc,q1,n1];rfl
   ·replace k0:ln=0:=k0
    exact .inl ⟨⟨_,_,rfl⟩,List.eq_nil_of_length_eq_zero (by omega)⟩
   ·replace k0:ln=0:=k0
    exact .inl ⟨⟨_,_,rfl⟩,List.eq_nil_of_length_eq_zero (by omega)⟩
theorem Sd (hm:Tryz.prog.follows .mixedOrders=true) {H:Aa} {R:Sp.Ren} {w:World} (hs:Ck H R w) (hgl:JH (List.range 1) R) (c ob:Nat) (y:Value) (zs:List Int) (hlen:zs.length≤1000000) (hBs:c < w.heap.size) (hcell:w.cell? ⟨c,ob,none⟩=some y) (hI:Jc w.heap.size w y zs) :
 Calls Tryz.prog 68 #[.func (.func 89) #[] #[.pointer (some ⟨c,ob,none⟩)]] w fun e w2=>∃ v,e = .returned v∧(v = .slice none 0 0↔zs=[])∧(zs=[]→∃ R2,Ba H R w H R2 w2)∧(zs≠[]→∃ R2,VR R2 (FP 1 zs.length 0 (AP Dy (CY zs))) v∧Ba H R w (H.push .dead) R2 w2):=by
 have hcalls := gQ c ob y zs hlen w hBs hcell hI
  (fun v w1 w2=>(zs=[]→∃ R2,Ba H R w H R2 w2)∧(zs≠[]→∃ R2,VR R2 (FP 1 zs.length 0 (AP Dy (CY zs))) v∧Ba H R w (H.push .dead) R2 w2)) ?_
 ·exact hcalls.mono fun e w2 ⟨v1,w1,he,hown,hnil,hbel,k1,k2⟩=>⟨v1,he,hnil,k1,k2⟩
 ·intro v1 w1 hown hnil hbel
  have hb1:∀ c,c < w.heap.size→w1.heap[c]?=w.heap[c]?:=hbel.block
  have hpb:=V7 hs hbel
  by_cases hz:zs=[]
  ·subst hz
   rw[hnil.2 rfl]
   obtain⟨k,T,z⟩:=H
   have hs1:Ck ⟨k,T,true⟩ R w1:=Ck.congr (H:=⟨k,T,z⟩) (H2:=⟨k,T,true⟩) (fun i=>rfl) rfl hpb.sim
   have:=((Rx Dn VL hm 40) 88 _ _ _ _ (ZT k T)).2 R w1 [.slice none 0 0] hs1 hgl (.one .slNil)
   refine this.mono fun e w2 ⟨u,R2,he,hu,hp2⟩=>?_
   obtain⟨us,rfl,hul⟩:=hu.tuple_l
   have hus:us=[]:=by have:=hul.1;simpa using this.symm
   subst hus
   refine⟨he,fun _=>⟨R2,hpb.trans (Ba.congrR (H':=⟨k,T,true⟩) (H2:=⟨k,T,z⟩) (fun i=>rfl) rfl (Ba.congrL (H:=⟨k,T,true⟩) (H2:=⟨k,T,z⟩) (fun i=>rfl) rfl hp2)) hs⟩,fun hne=>absurd rfl hne⟩
  ·obtain⟨hl1,hcase⟩:=hown
   rcases hcase with⟨rfl,hn0⟩ | ⟨g,cap,cur,rfl,hge,hg,hcap,hmax,hcur,htake⟩
   ·exact absurd (hnil.1 rfl) hz
   rw[Nat.mul_one] at htake hcur
   have hcells:∀ j,j < zs.length→cur[j]?=some (.int .i64 (zs[j]?.getD 0)):=fun j hj=>by
    have h1:(cur.toList.take zs.length)[j]?=(zs.map (Value.int .i64))[j]?:=by rw[htake]
    rw[List.getElem?_take_of_lt hj,Array.getElem?_toList,List.getElem?_map,List.getElem?_eq_getElem hj] at h1
    rw[h1,List.getElem?_eq_getElem hj];rfl
   have hH:Go.Sort.Holds (Value.int .i64) w1 g 0 zs.toArray:=fun j hj=>by
    have hj:j < zs.length:=by simpa using hj
    refine⟨?_,?_⟩
    ·unfold World.cell?
     simp only[hg,Nat.zero_add]
     show cur[j]?=_
     rw[hcells j hj]
     simp[hj]
    ·unfold World.frozen?
     simp only[hg]
     simp
   have hsrt:=Tryz.slices_Sort_int g 0 cap zs w1 hH (Array.getElem?_eq_some_iff.1 hg).1 (by omega)
   refine hsrt.mono fun e w2 ⟨he,n,os,hw2⟩=>⟨he,fun e=>absurd e hz,fun _=>?_⟩
   have hp1:=fJ hs hb1 hbel.size hbel.os hbel.output hg hge (xs:=AP Dy zs) (fun i x hx=>by
    rw[L6,List.getElem?_map] at hx
    cases hi:zs[i]? with
    | none=>rw[hi] at hx;cases hx
    | some q =>
     rw[hi] at hx;injection hx with hx;subst hx
     have hlt:i < zs.length:=(List.getElem?_eq_some_iff.1 hi).1
     refine⟨_,by rw[Nat.zero_add];exact hcells i hlt,?_⟩
     rw[hi];exact .int _ _) (by rw[FL];omega)
   have hget:(H.push (.cells (AP Dy zs) false false [])).get H.next = .cells (AP Dy zs) false false []:=by rw[Aa.get_push,if_pos rfl]
   have hlen2:(CY zs).length=(AP Dy zs).length:=by rw[CY,List.length_mergeSort,FL]
   have haw:=WR (vals:=CY zs) hget hlen2
   have hp2:=cZ (R:=⟨fun i=>if i=H.next then some (g,0) else R.f i,fun c=>if c=g then cur.size else R.sz c,R.ro⟩) (c:=g) (β:=0) hp1.sim haw (by show (if H.next=H.next then _ else _)=_;rw[if_pos rfl]) n os
   rw[show Go.Sort.grow (Go.Sort.putRow (Value.int .i64) (Go.Sort.ahead w1 n) g 0 (CY zs).toArray) os=w2 from hw2.symm] at hp2
   have hp3:=hp1.trans hp2 hs
   have hgl2:(((H.push (.cells (AP Dy zs) false false [])).kill []).set H.next (.cells (AP Dy (CY zs)) false false [])).get H.next = .cells (AP Dy (CY zs)) false false []:=by rw[Aa.get_set,if_pos rfl]
   have hfz:Cq H.next false (.slice (some ⟨H.next,0,some 1⟩) zs.length (2*zs.length)) (((H.push (.cells (AP Dy zs) false false [])).kill []).set H.next (.cells (AP Dy (CY zs)) false false []))=some (FP 1 zs.length 0 (AP Dy (CY zs)),(((H.push (.cells (AP Dy zs) false false [])).kill []).set H.next (.cells (AP Dy (CY zs)) false false [])).set H.next .dead):=by
    unfold Cq
    show oo (Bv (Aa.get _ H.next)) none _=_
    rw[hgl2]
    have ht:Aq (zs.length*1) (Am 0 (AP Dy (CY zs)))=AP Dy (CY zs):=by
     rw[Cg,Bz,List.drop_zero,List.take_of_length_le (by rw[FL];simp[CY])]
    show bb (an (Nat.ble H.next H.next) (an true (an true (an (Nat.ble (0+zs.length*1) (len (AP Dy (CY zs)))) (Au Ah (Aq (zs.length*1) (Am 0 (AP Dy (CY zs))))))))) (some (FP 1 zs.length 0 (Aq (zs.length*1) (Am 0 (AP Dy (CY zs)))),_)) none=_
    rw[ht,Nat.ble_eq_true_of_le (Nat.le_refl _),AV,FL,Nat.ble_eq_true_of_le (by simp[CY])]
    have hc:Au Ah (AP Dy (CY zs))=true:=by
     rw[Bh,List.all_eq_true,L6]
     intro x hx
     obtain⟨z,_,rfl⟩:=List.mem_map.1 hx
     rfl
    rw[hc];rfl
   obtain ⟨R2, _, _, q2, q3⟩ := Gg hfz hs (Nat.le_refl _) hp3 (.sl (c := g) (β := 0) (off := 0) (sz := 1) (ln := zs.length) (c2 := 2 * zs.length) (cap := cap) (by show (if H.next = H.next then _ else _) = _; rw [if_pos rfl]) (by omega) (by omega) (fun h => by omega) (by
    show 0+0+cap*1≤if g=g then cur.size else R.sz g
    rw[if_pos rfl];omega))
   refine⟨R2,q3,q2.congrR (fun i=>?_) ?_⟩
   ·rw[Aa.get_push,Aa.get_set,Aa.get_set]
    split
    ·rfl
    ·show Aa.get H i=(H.push (.cells (AP Dy zs) false false [])).get i
     rw[Aa.get_push,if_neg (by assumption)]
   ·rw[Aa.next_push,Aa.next_set,Aa.next_set,Aa.next_kill,Aa.next_push]
theorem UC (hm:Tryz.prog.follows .mixedOrders=true) {args:List Value} {H H':Aa} {v:Value} (h:OH args H=some (v,H')) :
 (∀ (xs:Array Value) (w:World),(callFunc 68 xs).run Tryz.prog w = .ok (.enter 68 xs) w) ∧
 ∀ R w args',Ck H R w→JH (List.range 1) R→Cf R args args'→Calls Tryz.prog 68 ⟨args'⟩ w fun e w'=>∃ u R',e = .returned u∧VR R' v u∧Ba H R w H' R' w':=by
 refine⟨enters_of Tryz.func68 (by kernel_rfl) rfl,fun R w args' hs hgl ha=>?_⟩
 replace h:=Ad h;obtain⟨x,r,rfl,h⟩:=h
 replace h:=AC h;obtain⟨rfl,h⟩:=h
 replace h:=Ab h;obtain⟨l,hfn,h⟩:=h
 replace h:=Ad h;obtain⟨p,l2,rfl,h⟩:=h
 replace h:=AC h;obtain⟨rfl,h⟩:=h
 replace h:=Ab h;obtain⟨⟨id,off⟩,hp,h⟩:=h
 replace h:oo (Bv (H.get id)) none (fun o=>oo (AL o.xs off) none fun sv=>oo (Ng sv H) none fun zs=>bb (Nat.ble (len zs) 1000000) (ll zs (some (.slice none 0 0,H)) fun _ _=>some (FP 1 (len zs) 0 (AP Dy (CY zs)),H.push .dead)) none)=some (v,H'):=h
 replace h:=Ab h;obtain⟨o,ho,h⟩:=h
 replace h:=Ab h;obtain⟨sv,hsv,h⟩:=h
 replace h:=Ab h;obtain⟨zs,hzs,h⟩:=h
 replace h:=Ae h;obtain⟨hlen,h⟩:=h
 replace hlen:=Nat.le_of_ble_eq_true hlen
 rw[AV] at hlen
 obtain⟨u0,us,rfl,hu0,hnil⟩:=ha.uncons
 obtain rfl:=hnil.unnil
 obtain rfl:=Hu hfn
 obtain rfl:=Dg hp
 obtain⟨u1,rfl,hu1⟩:∃ u1,u0 = .func (.func 89) ⟨[]⟩ ⟨[u1]⟩∧VR R (.pointer (some ⟨id,off,none⟩)) u1:=by
  cases hu0 with
  | @func _ _ ys _ us hl h hl' h' =>
   have e1:ys=[]:=List.eq_nil_of_length_eq_zero hl.symm
   subst e1
   match us,hl' with
   | [u1],_=>exact⟨u1,rfl,h' 0 _ u1 rfl rfl⟩
 obtain⟨c,β,hid,rfl⟩:=hu1.ptr_l
 obtain⟨C,t,fz,g1,g2,g3,g4⟩:=hs.cells hid ho
 rw[BZ] at hsv
 obtain⟨y,hy,hvy⟩:=g4 off sv hsv
 have hcell:w.cell? ⟨c,β+off,none⟩=some y:=by
  unfold World.cell?
  simp only[g1]
  exact hy
 have hI:=OZ hs hvy hzs
 refine(Sd hm hs hgl c (β+off) y zs hlen (Array.getElem?_eq_some_iff.1 g1).1 hcell hI).mono fun e w2 ⟨v1,he,hnil,k1,k2⟩=>?_
 by_cases hz:zs=[]
 ·subst hz
  injection (show some (Value.slice none 0 0,H)=some (v,H') from h) with h;injection h with e1 e2;subst e1;subst e2
  obtain⟨R2,hp2⟩:=k1 rfl
  rw[hnil.2 rfl] at he
  exact⟨_,R2,he,.slNil,hp2⟩
 ·obtain⟨R2,hv2,hp2⟩:=k2 hz
  obtain⟨z,zs',rfl⟩:=List.exists_cons_of_ne_nil hz
  have h:some (FP 1 (len (z::zs')) 0 (AP Dy (CY (z::zs'))),H.push .dead)=some (v,H'):=h
  rw[AV] at h
  injection h with h;injection h with e1 e2;subst e1;subst e2
  exact⟨_,R2,he,hv2,hp2⟩
theorem gT {H:Aa} {R:Sp.Ren} {w:World} (hs:Ck H R w) {s:Sl} {u:Value} (hv:VR R (Sl.v 1 s) u) {zs:List Int} (hz:CG (Bi .i64) s.cs=some zs) (hl:Nat.beq (len zs) s.n=true):Jc w.heap.size w u zs:=by
 by_cases h0:s.n=0
 ·have hzs : zs = [] := by
   have:=Nat.eq_of_beq_eq_true hl
   rw[AV,h0] at this
   exact List.eq_nil_of_length_eq_zero this
  refine .inl ⟨?_,hzs⟩
  rcases hv.fs_l (f:=⟨1,s.n,s.fl,s.cs⟩) rfl with⟨_,_,rfl⟩ | ⟨_,_,_,c,o,sp,rfl⟩ | ⟨c,o,cap,C,_,rfl,_⟩
  ·exact⟨_,_,rfl⟩
  ·exact⟨_,_,rfl⟩
  ·refine⟨some ⟨c,o,none⟩,cap,?_⟩
   rw[h0]
 ·refine OZ hs hv (H:=H) ?_
  have h1:Nat.ble 1 s.n=true:=Nat.ble_eq_true_of_le (by omega)
  show bb (an (Nat.beq 1 1) (Nat.ble 1 s.n)) (oo (CG (Bi .i64) s.cs) none fun zs=>bb (Nat.beq (len zs) s.n) (some zs) none) none=some zs
  rw[h1,show an (Nat.beq 1 1) true=true from rfl,Ak,hz,Ac,hl,Ak]
theorem sortedF_ok (hm:Tryz.prog.follows .mixedOrders=true) {args:List Value} {H H':Aa} {v:Value} (h:Go.Sp.sortedF 89 args H=some (v,H')) :
 (∀ (xs:Array Value) (w:World),(callFunc 68 xs).run Tryz.prog w = .ok (.enter 68 xs) w) ∧
 ∀ R w args',Ck H R w→JH (List.range 1) R→Cf R args args'→Calls Tryz.prog 68 ⟨args'⟩ w fun e w'=>∃ u R',e = .returned u∧VR R' v u∧Ba H R w H' R' w':=by
 refine⟨enters_of Tryz.func68 (by kernel_rfl) rfl,fun R w args' hs hgl ha=>?_⟩
 unfold Go.Sp.sortedF at h
 replace h:=Ad h;obtain⟨x,r,rfl,h⟩:=h
 replace h:=AC h;obtain⟨rfl,h⟩:=h
 replace h:=Ab h;obtain⟨l,hfn,h⟩:=h
 replace h:=Ad h;obtain⟨p,l2,rfl,h⟩:=h
 replace h:=AC h;obtain⟨rfl,h⟩:=h
 replace h:=Ab h;obtain⟨⟨id,off⟩,hp,h⟩:=h
 replace h:oo (Bv (H.get id)) none (fun o=>oo (AL o.xs off) none fun sv=>oo (Bj 1 sv) none fun s=>oo (CG (Bi .i64) s.cs) none fun zs=>bb (an (Nat.beq (len zs) s.n) (Nat.ble (len zs) 1000000)) (some (Sl.v 1 ⟨len zs,bb (MQ zs) 2 0,AP Dy (CY zs)⟩,H.push .dead)) none)=some (v,H'):=h
 replace h:=Ab h;obtain⟨o,ho,h⟩:=h
 replace h:=Ab h;obtain⟨sv,hsv,h⟩:=h
 replace h:=Ab h;obtain⟨s,hsl,h⟩:=h
 obtain rfl:=Qh hsl
 replace h:=Ab h;obtain⟨zs,hz,h⟩:=h
 replace h:=Ae h;obtain⟨hc,h⟩:=h
 obtain⟨hl,hlen⟩:=Av hc
 replace hlen:=Nat.le_of_ble_eq_true hlen
 rw[AV] at hlen
 obtain⟨u0,us,rfl,hu0,hnil⟩:=ha.uncons
 obtain rfl:=hnil.unnil
 obtain rfl:=Hu hfn
 obtain rfl:=Dg hp
 obtain⟨u1,rfl,hu1⟩:∃ u1,u0 = .func (.func 89) ⟨[]⟩ ⟨[u1]⟩∧VR R (.pointer (some ⟨id,off,none⟩)) u1:=by
  cases hu0 with
  | @func _ _ ys _ us hl h hl' h' =>
   have e1:ys=[]:=List.eq_nil_of_length_eq_zero hl.symm
   subst e1
   match us,hl' with
   | [u1],_=>exact⟨u1,rfl,h' 0 _ u1 rfl rfl⟩
 obtain⟨c,β,hid,rfl⟩:=hu1.ptr_l
 obtain⟨C,t,fz,g1,g2,g3,g4⟩:=hs.cells hid ho
 rw[BZ] at hsv
 obtain⟨y,hy,hvy⟩:=g4 off _ hsv
 have hcell:w.cell? ⟨c,β+off,none⟩=some y:=by
  unfold World.cell?
  simp only[g1]
  exact hy
 have hI:=gT hs hvy hz hl
 injection h with h;injection h with e1 e2;subst e1;subst e2
 refine(Sd hm hs hgl c (β+off) y zs hlen (Array.getElem?_eq_some_iff.1 g1).1 hcell hI).mono fun e w2 ⟨v1,he,hnil,k1,k2⟩=>?_
 by_cases hz0:zs=[]
 ·subst hz0
  obtain⟨R2,hp2⟩:=k1 rfl
  rw[hnil.2 rfl] at he
  refine⟨_,R2,he,?_,hp2.absPush (obj:=.dead) rfl⟩
  rw[show CY []=[] from List.mergeSort_nil]
  exact .fsN 1 2 (by decide)
 ·obtain⟨R2,hv2,hp2⟩:=k2 hz0
  refine⟨_,R2,he,?_,hp2⟩
  have e0:MQ zs=false:=by
   cases zs with
   | nil=>exact absurd rfl hz0
   | cons=>rfl
  rw[e0,AV]
  exact hv2
end Go.Proofs
set_option maxRecDepth 100000
namespace Go.Proofs.YtokbaaeimejjlaaGreatDoor.BkV
open Go Go.Sp Go.BkVM Go.BkV
noncomputable section
theorem fk6:Ar Tryz.prog (List.range tabs.length) 6 ⟨52,XT,[.tmp 6]⟩:=by
 have h:c6=XT:=by kernel_rfl
 rw[←h];exact Ae6
theorem fk9:Ar Tryz.prog (List.range tabs.length) 9 ⟨21,lT,[.tmp 6]⟩:=by
 have h:c9=lT:=by kernel_rfl
 rw[←h];exact Ae7
theorem Ag1:Ar Tryz.prog (List.range tabs.length) 17 ⟨26,TZ,[.tmp 4]⟩:=by
 have h:c17=TZ:=by kernel_rfl
 rw[←h];exact oH
theorem Ag2:Ar Tryz.prog (List.range tabs.length) 29 ⟨25,T9,[.tmp 4,.tmp 5]⟩:=by
 have h:c29=T9:=by kernel_rfl
 rw[←h];exact oI
theorem Ag3:Ar Tryz.prog (List.range tabs.length) 30 ⟨39,Ua,[.tmp 4,.tmp 5]⟩:=by
 have h:c30=Ua:=by kernel_rfl
 rw[←h];exact oJ
theorem Ag4:Ar Tryz.prog (List.range tabs.length) 31 ⟨70,Ub,[.tmp 6]⟩:=by
 have h:c31=Ub:=by kernel_rfl
 rw[←h];exact oK
theorem Ag5:Ar Tryz.prog (List.range tabs.length) 32 ⟨55,Ud,[.tmp 6]⟩:=by
 have h:c32=Ud:=by kernel_rfl
 rw[←h];exact oL
theorem Ag6:Ar Tryz.prog (List.range tabs.length) 34 ⟨37,Ue,[.tmp 4,.tmp 5]⟩:=by
 have h:c34=Ue:=by kernel_rfl
 rw[←h];exact oM
theorem Ag7:Ar Tryz.prog (List.range tabs.length) 36 ⟨106,Uf,[.tmp 2]⟩:=by
 have h:c36=Uf:=by kernel_rfl
 rw[←h];exact oN
theorem Ag8:Ar Tryz.prog (List.range tabs.length) 43 ⟨33,Ug,[.tmp 4,.tmp 5]⟩:=by
 have h:c43=Ug:=by kernel_rfl
 rw[←h];exact oO
theorem Ag9:Ar Tryz.prog (List.range tabs.length) 46 ⟨41,Uh,[.tmp 4]⟩:=by
 have h:c46=Uh:=by kernel_rfl
 rw[←h];exact oP
theorem Aha:Ar Tryz.prog (List.range tabs.length) 47 ⟨18,Ui,[.tmp 4]⟩:=by
 have h:c47=Ui:=by kernel_rfl
 rw[←h];exact oQ
theorem Ahb:Ar Tryz.prog (List.range tabs.length) 50 ⟨21,Uj,[.tmp 4]⟩:=by
 have h:c50=Uj:=by kernel_rfl
 rw[←h];exact oV
theorem Ahc:Ar Tryz.prog (List.range tabs.length) 51 ⟨38,Uk,[.tmp 6]⟩:=by
 have h:c51=Uk:=by kernel_rfl
 rw[←h];exact oW
theorem Ahd:Ar Tryz.prog (List.range tabs.length) 55 ⟨110,Ul,[.tmp 2,.tmp 3]⟩:=by
 have h:c55=Ul:=by kernel_rfl
 rw[←h];exact oZ
theorem Ahe:Ar Tryz.prog (List.range tabs.length) 59 ⟨15,XU,[.tmp 6]⟩:=by
 have h:c59=XU:=by kernel_rfl
 rw[←h];exact pE
theorem Ahf:Ar Tryz.prog (List.range tabs.length) 62 ⟨15,XZ,[.tmp 6]⟩:=by
 have h:c62=XZ:=by kernel_rfl
 rw[←h];exact pF
theorem Ahg:Ar Tryz.prog (List.range tabs.length) 70 ⟨36,Um,[.tmp 4]⟩:=by
 have h:c70=Um:=by kernel_rfl
 rw[←h];exact pM
theorem Ahh:Ar Tryz.prog (List.range tabs.length) 71 ⟨9,X0,[.tmp 2]⟩:=by
 have h:c71=X0:=by kernel_rfl
 rw[←h];exact pO
theorem Ahi:Ar Tryz.prog (List.range tabs.length) 72 ⟨15,X3,[.tmp 2]⟩:=by
 have h:c72=X3:=by kernel_rfl
 rw[←h];exact pQ
theorem Ahj:Ar Tryz.prog (List.range tabs.length) 74 ⟨55,Un,[.tmp 6]⟩:=by
 have h:c74=Un:=by kernel_rfl
 rw[←h];exact pV
theorem Ahk:Ar Tryz.prog (List.range tabs.length) 75 ⟨18,Uo,[.cell 2 99]⟩:=by
 have h:c75=Uo:=by kernel_rfl
 rw[←h];exact pW
theorem Ahl:Ar Tryz.prog (List.range tabs.length) 76 ⟨22,X4,[.cell 4 99]⟩:=by
 have h:c76=X4:=by kernel_rfl
 rw[←h];exact pX
theorem Ahm:Ar Tryz.prog (List.range tabs.length) 77 ⟨22,Uq,[.tmp 2]⟩:=by
 have h:c77=Uq:=by kernel_rfl
 rw[←h];exact pY
theorem Ahn:Ar Tryz.prog (List.range tabs.length) 80 ⟨34,Uw,[.tmp 4]⟩:=by
 have h:c80=Uw:=by kernel_rfl
 rw[←h];exact qB
theorem Aho:Ar Tryz.prog (List.range tabs.length) 81 ⟨32,X5,[.tmp 6]⟩:=by
 have h:c81=X5:=by kernel_rfl
 rw[←h];exact qC
theorem Ahp:Ar Tryz.prog (List.range tabs.length) 90 ⟨20,Ux,[.tmp 4]⟩:=by
 have h:c90=Ux:=by kernel_rfl
 rw[←h];exact qV
theorem Ahq:Ar Tryz.prog (List.range tabs.length) 91 ⟨25,Uy,[.tmp 2]⟩:=by
 have h:c91=Uy:=by kernel_rfl
 rw[←h];exact qW
theorem Ahr:Ar Tryz.prog (List.range tabs.length) 92 ⟨25,Uz,[.tmp 2]⟩:=by
 have h:c92=Uz:=by kernel_rfl
 rw[←h];exact qX
theorem Ahs:Ar Tryz.prog (List.range tabs.length) 93 ⟨67,UA,[.tmp 10,.tmp 11]⟩:=by
 have h:c93=UA:=by kernel_rfl
 rw[←h];exact qY
theorem rA:Ar Tryz.prog (List.range tabs.length) 101 ⟨6,UB,[.tmp 2]⟩:=by
 have h:fC=UB:=by kernel_rfl
 rw[←h];exact fD
theorem Aht:Ar Tryz.prog (List.range tabs.length) 65 ⟨88,Po,[]⟩:=by
 have h:c65=Po:=by kernel_rfl
 rw[←h];exact pG
theorem Ahu:Ar Tryz.prog (List.range tabs.length) 66 ⟨9,UV,[.tmp 4]⟩:=by
 have h:c66=UV:=by kernel_rfl
 rw[←h];exact pI
theorem Ahv:Ar Tryz.prog (List.range tabs.length) 86 ⟨19,Pp,[.tmp 4]⟩:=by
 have h:c86=Pp:=by kernel_rfl
 rw[←h];exact qU
theorem Ahw:Ar Tryz.prog (List.range tabs.length) 67 ⟨9,UW,[.tmp 3]⟩:=by
 have h:c67=UW:=by kernel_rfl
 rw[←h];exact pJ
theorem Ahx:Ar Tryz.prog (List.range tabs.length) 69 ⟨4,UX,[.tmp 2]⟩:=by
 have h:c69=UX:=by kernel_rfl
 rw[←h];exact pK
theorem Ahy:Ar Tryz.prog (List.range tabs.length) 73 ⟨44,Pq,[.tmp 6]⟩:=by
 have h:c73=Pq:=by kernel_rfl
 rw[←h];exact pR
theorem mG:Ar Tryz.prog (List.range tabs.length) 48 ⟨26,MF,[.tmp 6]⟩:=by
 have h:c48=MF:=by kernel_rfl
 rw[←h];exact oU
theorem Gn:∀ t∈tabs,t≠[]:=by intro t ht;simp[tabs] at ht;subst ht;intro h;cases h
theorem Gp:∀ t∈tabs,∀ x∈t,BR x=true:=by intro t ht x hx;simp[tabs] at ht;subst ht;simp[RQ] at hx;rcases hx with rfl | rfl | rfl | rfl | rfl | rfl | rfl | rfl | rfl | rfl | rfl | rfl | rfl | rfl | rfl | rfl | rfl | rfl | rfl | rfl | rfl | rfl | rfl | rfl | rfl | rfl | rfl | rfl | rfl | rfl | rfl | rfl <;> rfl
theorem Abn (hm:Tryz.prog.follows .mixedOrders=true) {pu:Af} (hg98:BA Tryz.prog tabs 98 (pu 98)) (hg43:BA Tryz.prog tabs 43 (pu 43)) (h0:Cn Tryz.prog tabs 7 5 65 (pu 10650)) (h1:Cn Tryz.prog tabs 2 1 66 (pu 10660)) (h2:Cn Tryz.prog tabs 2 1 86 (pu 10860)) (h3:Cn Tryz.prog tabs 2 1 67 (pu 10670)) (h4:Cn Tryz.prog tabs 1 0 69 (pu 10690)) (h5:Cn Tryz.prog tabs 3 0 73 (pu 10730)) (h6:Cn Tryz.prog tabs 3 1 48 (pu 10480)) (h7:Cn Tryz.prog tabs 3 0 48 (pu 10481)):CO Tryz.prog (List.range tabs.length) (inl pu):=fun g args H v H' h=>by
 replace h:bb (Nat.beq g 68) (sortedF 89 args H) (bb (Nat.beq g 98) (Hr tabs 1 (pu 98) args H) (bb (Nat.beq g 43) (Hr tabs 1 (pu 43) args H) (bb (Nat.beq g 65) (EK tabs [[some 1],[none],[none],[none],[none],[none],[none]] 7 [.tmp 2 false,.tmp 3 false,.tmp 4 false,.tmp 5 false,.tmp 6 true] [false,false,false,false,true] (pu 10650) args H) (bb (Nat.beq g 66) (EK tabs [[some 1],[none]] 2 [.cap 1 0 false] [false] (pu 10660) args H) (bb (Nat.beq g 86) (EK tabs [[some 1],[none]] 2 [.cap 1 0 false] [false] (pu 10860) args H) (bb (Nat.beq g 67) (EK tabs [[none],[none]] 2 [.tmp 1 false] [false] (pu 10670) args H) (bb (Nat.beq g 69) (EK tabs [[some 1]] 1 [] [false] (pu 10690) args H) (bb (Nat.beq g 73) (EK tabs [[none],[none],[some 1]] 3 [] [] (pu 10730) args H) (bb (Nat.beq g 48) (bb (an (oo (AL args 1) false (fun v=>isS (IA v))) true) (EK tabs [[none,none,none,some 1],[none],[none]] 3 [.tmp 1 false] [false] (pu 10480) args H) (EK tabs [[none,none,none,some 1],[some 1],[none]] 3 [] [] (pu 10481) args H)) (none))))))))))=some (v,H'):=h
 have hq:=Ag h;clear h;rcases hq with⟨e,h⟩ | ⟨_,h⟩
 ·obtain rfl:=Nat.eq_of_beq_eq_true e
  exact Go.Proofs.sortedF_ok hm h
 have hq:=Ag h;clear h;rcases hq with⟨e,h⟩ | ⟨_,h⟩
 ·obtain rfl:=Nat.eq_of_beq_eq_true e
  exact Og Gn Gp hg98 h
 have hq:=Ag h;clear h;rcases hq with⟨e,h⟩ | ⟨_,h⟩
 ·obtain rfl:=Nat.eq_of_beq_eq_true e
  exact Og Gn Gp hg43 h
 have hq:=Ag h;clear h;rcases hq with⟨e,h⟩ | ⟨_,h⟩
 ·obtain rfl:=Nat.eq_of_beq_eq_true e
  exact Ip (rs:=[.tmp 2 false,.tmp 3 false,.tmp 4 false,.tmp 5 false,.tmp 6 true]) Gn Gp h0 h
 have hq:=Ag h;clear h;rcases hq with⟨e,h⟩ | ⟨_,h⟩
 ·obtain rfl:=Nat.eq_of_beq_eq_true e
  exact Ip (rs:=[.cap 1 0 false]) Gn Gp h1 h
 have hq:=Ag h;clear h;rcases hq with⟨e,h⟩ | ⟨_,h⟩
 ·obtain rfl:=Nat.eq_of_beq_eq_true e
  exact Ip (rs:=[.cap 1 0 false]) Gn Gp h2 h
 have hq:=Ag h;clear h;rcases hq with⟨e,h⟩ | ⟨_,h⟩
 ·obtain rfl:=Nat.eq_of_beq_eq_true e
  exact Ip (rs:=[.tmp 1 false]) Gn Gp h3 h
 have hq:=Ag h;clear h;rcases hq with⟨e,h⟩ | ⟨_,h⟩
 ·obtain rfl:=Nat.eq_of_beq_eq_true e
  exact Ip (rs:=[]) Gn Gp h4 h
 have hq:=Ag h;clear h;rcases hq with⟨e,h⟩ | ⟨_,h⟩
 ·obtain rfl:=Nat.eq_of_beq_eq_true e
  exact Ip (rs:=[]) Gn Gp h5 h
 have hq:=Ag h;clear h;rcases hq with⟨e,h⟩ | ⟨_,h⟩
 ·obtain rfl:=Nat.eq_of_beq_eq_true e
  have hq:=AaX h;clear h;rcases hq with h | h
  ·exact Ip (rs:=[.tmp 1 false]) Gn Gp h6 h
  exact Ip (rs:=[]) Gn Gp h7 h
 cases h
theorem Yv (hm:Tryz.prog.follows .mixedOrders=true) (hw:BA Tryz.prog tabs 10 UY∧BA Tryz.prog tabs 84 UZ∧BA Tryz.prog tabs 98 U0) {pu:Af} (hall:(∀ g,isP g=true→BA Tryz.prog tabs g (pu g))∧BA Tryz.prog tabs 98 (pu 98)∧BA Tryz.prog tabs 43 (pu 43)∧Cn Tryz.prog tabs 7 5 65 (pu 10650)∧Cn Tryz.prog tabs 2 1 66 (pu 10660)∧Cn Tryz.prog tabs 2 1 86 (pu 10860)∧Cn Tryz.prog tabs 2 1 67 (pu 10670)∧Cn Tryz.prog tabs 1 0 69 (pu 10690)∧Cn Tryz.prog tabs 3 0 73 (pu 10730)∧Cn Tryz.prog tabs 3 1 48 (pu 10480)∧Cn Tryz.prog tabs 3 0 48 (pu 10481)):(∀ g,isP g=true→BA Tryz.prog tabs g (LQ pu g))∧BA Tryz.prog tabs 98 (LQ pu 98)∧BA Tryz.prog tabs 43 (LQ pu 43)∧Cn Tryz.prog tabs 7 5 65 (LQ pu 10650)∧Cn Tryz.prog tabs 2 1 66 (LQ pu 10660)∧Cn Tryz.prog tabs 2 1 86 (LQ pu 10860)∧Cn Tryz.prog tabs 2 1 67 (LQ pu 10670)∧Cn Tryz.prog tabs 1 0 69 (LQ pu 10690)∧Cn Tryz.prog tabs 3 0 73 (LQ pu 10730)∧Cn Tryz.prog tabs 3 1 48 (LQ pu 10480)∧Cn Tryz.prog tabs 3 0 48 (LQ pu 10481):=by
 obtain⟨hpu,hg98,hg43,h0,h4,h5,h6,h7,h8,h9,h10⟩:=hall
 have hcall:=TG (P:=Tryz.prog) (tabs:=tabs) Gn Gp (Abn hm hg98 hg43 h0 h4 h5 h6 h7 h8 h9 h10) hpu
 refine⟨fun g hg=>?_,?_,?_,?_,?_,?_,?_,?_,?_,?_,?_⟩
 ·have hg:g∈VM:=CS.1 hg
  simp only[VM,List.mem_cons,List.not_mem_nil,or_false] at hg
  rcases hg with rfl | rfl | rfl | rfl | rfl | rfl | rfl | rfl | rfl | rfl | rfl | rfl | rfl | rfl | rfl | rfl | rfl | rfl | rfl | rfl | rfl | rfl | rfl | rfl | rfl | rfl | rfl | rfl | rfl | rfl | rfl | rfl
  ·exact Aw (tabs:=tabs) (f:=m6 pu L) Dn hm hcall fk6 fun args v h hc=>r6 pu L rfl h hc
  ·exact Aw (tabs:=tabs) (f:=m9 pu L) Dn hm hcall fk9 fun args v h hc=>r9 pu L rfl h hc
  ·exact hw.1
  ·exact Aw (tabs:=tabs) (f:=m17 pu L) Dn hm hcall Ag1 fun args v h hc=>r17 pu L rfl h hc
  ·exact Aw (tabs:=tabs) (f:=m29 pu L) Dn hm hcall Ag2 fun args v h hc=>r29 pu L rfl h hc
  ·exact Aw (tabs:=tabs) (f:=m30 pu L) Dn hm hcall Ag3 fun args v h hc=>r30 pu L rfl h hc
  ·exact Aw (tabs:=tabs) (f:=m31 pu L) Dn hm hcall Ag4 fun args v h hc=>r31 pu L rfl h hc
  ·exact Aw (tabs:=tabs) (f:=m32 pu L) Dn hm hcall Ag5 fun args v h hc=>r32 pu L rfl h hc
  ·exact Aw (tabs:=tabs) (f:=m34 pu L) Dn hm hcall Ag6 fun args v h hc=>r34 pu L rfl h hc
  ·exact Aw (tabs:=tabs) (f:=m36 pu L) Dn hm hcall Ag7 fun args v h hc=>r36 pu L rfl h hc
  ·exact Aw (tabs:=tabs) (f:=m46 pu L) Dn hm hcall Ag9 fun args v h hc=>r46 pu L rfl h hc
  ·exact Aw (tabs:=tabs) (f:=m47 pu L) Dn hm hcall Aha fun args v h hc=>r47 pu L rfl h hc
  ·exact Aw (tabs:=tabs) (f:=m50 pu L) Dn hm hcall Ahb fun args v h hc=>r50 pu L rfl h hc
  ·exact Aw (tabs:=tabs) (f:=m51 pu L) Dn hm hcall Ahc fun args v h hc=>r51 pu L rfl h hc
  ·exact Aw (tabs:=tabs) (f:=m55 pu L) Dn hm hcall Ahd fun args v h hc=>r55 pu L rfl h hc
  ·exact Aw (tabs:=tabs) (f:=m59 pu L) Dn hm hcall Ahe fun args v h hc=>r59 pu L rfl h hc
  ·exact Aw (tabs:=tabs) (f:=m62 pu L) Dn hm hcall Ahf fun args v h hc=>r62 pu L rfl h hc
  ·exact Aw (tabs:=tabs) (f:=m70 pu L) Dn hm hcall Ahg fun args v h hc=>r70 pu L rfl h hc
  ·exact Aw (tabs:=tabs) (f:=m71 pu L) Dn hm hcall Ahh fun args v h hc=>r71 pu L rfl h hc
  ·exact Aw (tabs:=tabs) (f:=m72 pu L) Dn hm hcall Ahi fun args v h hc=>r72 pu L rfl h hc
  ·exact Aw (tabs:=tabs) (f:=m74 pu L) Dn hm hcall Ahj fun args v h hc=>r74 pu L rfl h hc
  ·exact Aw (tabs:=tabs) (f:=m75 pu L) Dn hm hcall Ahk fun args v h hc=>r75 pu L rfl h hc
  ·exact Aw (tabs:=tabs) (f:=m76 pu L) Dn hm hcall Ahl fun args v h hc=>r76 pu L rfl h hc
  ·exact Aw (tabs:=tabs) (f:=m77 pu L) Dn hm hcall Ahm fun args v h hc=>r77 pu L rfl h hc
  ·exact Aw (tabs:=tabs) (f:=m80 pu L) Dn hm hcall Ahn fun args v h hc=>r80 pu L rfl h hc
  ·exact Aw (tabs:=tabs) (f:=m81 pu L) Dn hm hcall Aho fun args v h hc=>r81 pu L rfl h hc
  ·exact hw.2.1
  ·exact Aw (tabs:=tabs) (f:=m90 pu L) Dn hm hcall Ahp fun args v h hc=>r90 pu L rfl h hc
  ·exact Aw (tabs:=tabs) (f:=m91 pu L) Dn hm hcall Ahq fun args v h hc=>r91 pu L rfl h hc
  ·exact Aw (tabs:=tabs) (f:=m92 pu L) Dn hm hcall Ahr fun args v h hc=>r92 pu L rfl h hc
  ·exact Aw (tabs:=tabs) (f:=m93 pu L) Dn hm hcall Ahs fun args v h hc=>r93 pu L rfl h hc
  ·exact Aw (tabs:=tabs) (f:=gG pu L) Dn hm hcall rA fun args v h hc=>Ajj pu L rfl h hc
 ·exact hw.2.2
 ·exact Aw (tabs:=tabs) (f:=m43 pu L) Dn hm hcall Ag8 fun args v h hc=>r43 pu L rfl h hc
 ·exact Dx (tabs:=tabs) (f:=MG pu L) Dn hm hcall Aht fun args os z h1 h2 h3 h=>Aa8 pu L rfl h1 h2 h3 h
 ·exact Dx (tabs:=tabs) (f:=OA pu L) Dn hm hcall Ahu fun args os z h1 h2 h3 h=>Aba pu L rfl h1 h2 h3 h
 ·exact Dx (tabs:=tabs) (f:=OB pu L) Dn hm hcall Ahv fun args os z h1 h2 h3 h=>Abc pu L rfl h1 h2 h3 h
 ·exact Dx (tabs:=tabs) (f:=OC pu L) Dn hm hcall Ahw fun args os z h1 h2 h3 h=>Abe pu L rfl h1 h2 h3 h
 ·exact Dx (tabs:=tabs) (f:=OD pu L) Dn hm hcall Ahx fun args os z h1 h2 h3 h=>Abg pu L rfl h1 h2 h3 h
 ·exact Dx (tabs:=tabs) (f:=OE pu L) Dn hm hcall Ahy fun args os z h1 h2 h3 h=>Abi pu L rfl h1 h2 h3 h
 ·exact Dx (tabs:=tabs) (f:=QD pu L) Dn hm hcall mG fun args os z h1 h2 h3 h=>Abk pu L rfl h1 h2 h3 h
 ·exact Dx (tabs:=tabs) (f:=OG pu L) Dn hm hcall mG fun args os z h1 h2 h3 h=>Abm pu L rfl h1 h2 h3 h
theorem gU (hm:Tryz.prog.follows .mixedOrders=true) (hw:BA Tryz.prog tabs 10 UY∧BA Tryz.prog tabs 84 UZ∧BA Tryz.prog tabs 98 U0):∀ n,(∀ g,isP g=true→BA Tryz.prog tabs g (Pi n g))∧BA Tryz.prog tabs 98 (Pi n 98)∧BA Tryz.prog tabs 43 (Pi n 43)∧Cn Tryz.prog tabs 7 5 65 (Pi n 10650)∧Cn Tryz.prog tabs 2 1 66 (Pi n 10660)∧Cn Tryz.prog tabs 2 1 86 (Pi n 10860)∧Cn Tryz.prog tabs 2 1 67 (Pi n 10670)∧Cn Tryz.prog tabs 1 0 69 (Pi n 10690)∧Cn Tryz.prog tabs 3 0 73 (Pi n 10730)∧Cn Tryz.prog tabs 3 1 48 (Pi n 10480)∧Cn Tryz.prog tabs 3 0 48 (Pi n 10481):=fun n=>by
 induction n with
 | zero =>
  refine⟨fun g hg=>?_,?_,?_,?_,?_,?_,?_,?_,?_,?_,?_⟩
  ·have hg:g∈VM:=CS.1 hg
   simp only[VM,List.mem_cons,List.not_mem_nil,or_false] at hg
   rcases hg with rfl | rfl | rfl | rfl | rfl | rfl | rfl | rfl | rfl | rfl | rfl | rfl | rfl | rfl | rfl | rfl | rfl | rfl | rfl | rfl | rfl | rfl | rfl | rfl | rfl | rfl | rfl | rfl | rfl | rfl | rfl | rfl
   ·exact⟨A9 fk6,fun args v h=>by cases h⟩
   ·exact⟨A9 fk9,fun args v h=>by cases h⟩
   ·exact⟨(hw.1).1,fun args v h=>by cases h⟩
   ·exact⟨A9 Ag1,fun args v h=>by cases h⟩
   ·exact⟨A9 Ag2,fun args v h=>by cases h⟩
   ·exact⟨A9 Ag3,fun args v h=>by cases h⟩
   ·exact⟨A9 Ag4,fun args v h=>by cases h⟩
   ·exact⟨A9 Ag5,fun args v h=>by cases h⟩
   ·exact⟨A9 Ag6,fun args v h=>by cases h⟩
   ·exact⟨A9 Ag7,fun args v h=>by cases h⟩
   ·exact⟨A9 Ag9,fun args v h=>by cases h⟩
   ·exact⟨A9 Aha,fun args v h=>by cases h⟩
   ·exact⟨A9 Ahb,fun args v h=>by cases h⟩
   ·exact⟨A9 Ahc,fun args v h=>by cases h⟩
   ·exact⟨A9 Ahd,fun args v h=>by cases h⟩
   ·exact⟨A9 Ahe,fun args v h=>by cases h⟩
   ·exact⟨A9 Ahf,fun args v h=>by cases h⟩
   ·exact⟨A9 Ahg,fun args v h=>by cases h⟩
   ·exact⟨A9 Ahh,fun args v h=>by cases h⟩
   ·exact⟨A9 Ahi,fun args v h=>by cases h⟩
   ·exact⟨A9 Ahj,fun args v h=>by cases h⟩
   ·exact⟨A9 Ahk,fun args v h=>by cases h⟩
   ·exact⟨A9 Ahl,fun args v h=>by cases h⟩
   ·exact⟨A9 Ahm,fun args v h=>by cases h⟩
   ·exact⟨A9 Ahn,fun args v h=>by cases h⟩
   ·exact⟨A9 Aho,fun args v h=>by cases h⟩
   ·exact⟨(hw.2.1).1,fun args v h=>by cases h⟩
   ·exact⟨A9 Ahp,fun args v h=>by cases h⟩
   ·exact⟨A9 Ahq,fun args v h=>by cases h⟩
   ·exact⟨A9 Ahr,fun args v h=>by cases h⟩
   ·exact⟨A9 Ahs,fun args v h=>by cases h⟩
   ·exact⟨A9 rA,fun args v h=>by cases h⟩
  ·exact⟨(hw.2.2).1,fun args v h=>by cases h⟩
  ·exact⟨A9 Ag8,fun args v h=>by cases h⟩
  ·exact⟨A9 Aht,fun args os z h1 h2 h3 h=>by cases h⟩
  ·exact⟨A9 Ahu,fun args os z h1 h2 h3 h=>by cases h⟩
  ·exact⟨A9 Ahv,fun args os z h1 h2 h3 h=>by cases h⟩
  ·exact⟨A9 Ahw,fun args os z h1 h2 h3 h=>by cases h⟩
  ·exact⟨A9 Ahx,fun args os z h1 h2 h3 h=>by cases h⟩
  ·exact⟨A9 Ahy,fun args os z h1 h2 h3 h=>by cases h⟩
  ·exact⟨A9 mG,fun args os z h1 h2 h3 h=>by cases h⟩
  ·exact⟨A9 mG,fun args os z h1 h2 h3 h=>by cases h⟩
 | succ n ih=>exact Yv hm hw ih
theorem Ahz (hm:Tryz.prog.follows .mixedOrders=true) (hw:BA Tryz.prog tabs 10 UY∧BA Tryz.prog tabs 84 UZ∧BA Tryz.prog tabs 98 U0):∀ n g,isP g=true→BA Tryz.prog tabs g (Pi n g):=fun n=>(gU hm hw n).1
end
end Go.Proofs.YtokbaaeimejjlaaGreatDoor.BkV
