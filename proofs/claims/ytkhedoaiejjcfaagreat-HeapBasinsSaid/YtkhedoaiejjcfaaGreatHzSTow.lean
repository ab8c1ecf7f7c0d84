/- Made from wip. -/
import Derived.Test.YtkhedoaiejjcfaaGreatHzSRepx
import Derived.Test.YtkhedoaiejjcfaaGreatHzSDefx
import Derived.Test.YtkhedoaiejjcfaaGreatHzSRun0
import Derived.Test.YtkhedoaiejjcfaaGreatHzSRun1
import Derived.Test.YtkhedoaiejjcfaaGreatHzSRun2
import Derived.Test.YtkhedoaiejjcfaaGreatHzSRun3
import Derived.Test.YtkhedoaiejjcfaaGreatHzSRun4
import Derived.Test.YtkhedoaiejjcfaaGreatHzSRun5
import Derived.Test.YtkhedoaiejjcfaaGreatHzSRun6
import Derived.Test.YtkhedoaiejjcfaaGreatHzSRun7
import Derived.Test.YtkhedoaiejjcfaaGreatHzSRun8
import Derived.Test.YtkhedoaiejjcfaaGreatHzSRun9
import Derived.Test.YtkhedoaiejjcfaaGreatHzSRun10
import Derived.Test.YtkhedoaiejjcfaaGreatHzSRun11
import Derived.Test.YtkhedoaiejjcfaaGreatHzSRun12
import Derived.Test.YtkhedoaiejjcfaaGreatHzSRun13
import Derived.Test.YtkhedoaiejjcfaaGreatHzSRun14
import Derived.Test.YtkhedoaiejjcfaaGreatHzSRun15
import Derived.Test.YtkhedoaiejjcfaaGreatHzSRun16
import Derived.Test.YtkhedoaiejjcfaaGreatHzSRun17
import Derived.Test.YtkhedoaiejjcfaaGreatHzSRun18
import Derived.Test.YtkhedoaiejjcfaaGreatHzSRun19
import Derived.Test.YtkhedoaiejjcfaaGreatHzSRun20
import Derived.Test.YtkhedoaiejjcfaaGreatHzSLaw2
import Derived.Test.YtkhedoaiejjcfaaGreatHzSSamex

set_option maxRecDepth 100000
set_option maxHeartbeats 0
namespace Go.Proofs.YtkhedoaiejjcfaaGreat.HzS
open Go Go.Sp Go.HzSM Go.HzS Go.HpT
theorem hw (hm:Tryz.prog.follows .mixedOrders = true):PureOk Tryz.prog tabs 16 orc16∧PureOk Tryz.prog tabs 60 orc60∧PureOk Tryz.prog tabs 68 orc68∧PureOk Tryz.prog tabs 8 orc8∧PureOk Tryz.prog tabs 11 orc11∧PureOk Tryz.prog tabs 51 orc51:=⟨⟨enter_ok fok16,fun _ _ h=>by cases h⟩,orc60_ok hm,orc68_ok hm,⟨enter_ok fok8,fun _ _ h=>by cases h⟩,⟨enter_ok fok11,fun _ _ h=>by cases h⟩,⟨enter_ok fok51,fun _ _ h=>by cases h⟩⟩
theorem q0 (hm:Tryz.prog.follows .mixedOrders = true):(∀ g,isQ g = true→PureOk Tryz.prog tabs g (pu0 g)):=fun g hg=>(all_ok hm (hw hm) 30).1 g (an_inv hg).1
theorem i0 (hm:Tryz.prog.follows .mixedOrders = true):CallOk Tryz.prog (List.range tabs.length) (inl pu0):=by
 have all:=all_ok hm (hw hm) 30
 exact inl_ok hm all.2.1 all.2.2.1 all.2.2.2.1 all.2.2.2.2
theorem onP_inv {β:Type} {args:List Value} {k:List Nat→Option β} {v:β} (h:onP args k = some v):∃ p,args = [sv p]∧okP 12 p = true∧k p = some v:=by
 replace h:=ll_uncons h;obtain ⟨a,r,rfl,h⟩:=h
 replace h:=ll_end h;obtain ⟨rfl,h⟩:=h
 obtain ⟨s,hs,h1⟩:=oo_inv h
 obtain ⟨p,hp,h2⟩:=oo_inv h1
 obtain ⟨hc,h3⟩:=bb_inv h2
 obtain ⟨c1,hc⟩:=an_inv hc
 obtain ⟨c2,hc⟩:=an_inv hc
 obtain ⟨c3,c4⟩:=an_inv hc
 refine ⟨p,?_,c1,h3⟩
 rw [toSl_some hs]
 obtain ⟨n,fl,cs⟩:=s
 have e1:n = len p:=Nat.eq_of_beq_eq_true c2
 have e2:fl = 0:=Nat.eq_of_beq_eq_true c3
 have e3:cs = iL p:=valsEq_eq c4
 subst e1;subst e2;subst e3;rfl
theorem pure_le {P:Program} {tabs:List (List Value)} {g:FuncId} {f f':List Value→Option Value} (h:PureOk P tabs g f) (hf:∀ a v,f' a = some v→f a = some v):PureOk P tabs g f':=⟨h.1,fun args v hv=>h.2 args v (hf args v hv)⟩
theorem ok8 (hm:Tryz.prog.follows .mixedOrders = true):PureOk Tryz.prog tabs 8 orcE:=by
 refine pureOk_deep (tabs:=tabs) (n:=200) (g:=8) (H:=tabsHeap tabs) (isP:=fun _=>false) (pu:=fun _ _=>none) (inl:=fun _ _ _=>none) ttOk tabs_ne tabs_pl fnsOk hm (fun g hg=>by cases hg) no_ok (fun i=>tabsHeap_get i) rfl (enter_ok fok8) fun args v h=>?_
 replace h:=ll_uncons h;obtain ⟨a,r,rfl,h⟩:=h
 replace h:=ll_end h;obtain ⟨rfl,h⟩:=h
 replace h:=oo_inv h;obtain ⟨z,hz,h⟩:=h
 obtain rfl:=toI_some hz
 replace h:=oo_inv h;obtain ⟨n,hn,h⟩:=h
 obtain rfl:=toN_some hn
 match n with
 | 0=>exact absurd (show (none:Option Value) = some v from h) (by simp)
 | 1=>injection (show some _ = some v from h) with h;subst h;exact ⟨by kernel_rfl,2,.inl ev8_1⟩
 | 2=>injection (show some _ = some v from h) with h;subst h;exact ⟨by kernel_rfl,2,.inl ev8_2⟩
 | 3=>injection (show some _ = some v from h) with h;subst h;exact ⟨by kernel_rfl,2,.inl ev8_3⟩
 | 4=>injection (show some _ = some v from h) with h;subst h;exact ⟨by kernel_rfl,2,.inl ev8_4⟩
 | 5=>injection (show some _ = some v from h) with h;subst h;exact ⟨by kernel_rfl,2,.inl ev8_5⟩
 | 6=>injection (show some _ = some v from h) with h;subst h;exact ⟨by kernel_rfl,2,.inl ev8_6⟩
 | 7=>injection (show some _ = some v from h) with h;subst h;exact ⟨by kernel_rfl,2,.inl ev8_7⟩
 | 8=>injection (show some _ = some v from h) with h;subst h;exact ⟨by kernel_rfl,2,.inl ev8_8⟩
 | 9=>injection (show some _ = some v from h) with h;subst h;exact ⟨by kernel_rfl,2,.inl ev8_9⟩
 | 10=>injection (show some _ = some v from h) with h;subst h;exact ⟨by kernel_rfl,2,.inl ev8_10⟩
 | 11=>injection (show some _ = some v from h) with h;subst h;exact ⟨by kernel_rfl,2,.inl ev8_11⟩
 | 12=>injection (show some _ = some v from h) with h;subst h;exact ⟨by kernel_rfl,2,.inl ev8_12⟩
 | n + 13=>exact absurd (show (none:Option Value) = some v from h) (by simp)
theorem ok11 (hm:Tryz.prog.follows .mixedOrders = true):PureOk Tryz.prog tabs 11 orcG:=by
 refine pureOk_deep (tabs:=tabs) (n:=400) (g:=11) (H:=tabsHeap tabs) (isP:=isQ) (pu:=pu0) (inl:=inl pu0) ttOk tabs_ne tabs_pl fnsOk hm (q0 hm) (i0 hm) (fun i=>tabsHeap_get i) rfl (enter_ok fok11) fun args v h=>?_
 replace h:=ll_uncons h;obtain ⟨a,r,rfl,h⟩:=h
 replace h:=ll_end h;obtain ⟨rfl,h⟩:=h
 replace h:=oo_inv h;obtain ⟨z,hz,h⟩:=h
 obtain rfl:=toI_some hz
 replace h:=oo_inv h;obtain ⟨n,hn,h⟩:=h
 obtain rfl:=toN_some hn
 match n with
 | 0=>exact absurd (show (none:Option Value) = some v from h) (by simp)
 | 1=>injection (show some _ = some v from h) with h;subst h;exact ⟨by kernel_rfl,3,.inr ev11_1⟩
 | 2=>injection (show some _ = some v from h) with h;subst h;exact ⟨by kernel_rfl,3,.inr ev11_2⟩
 | 3=>injection (show some _ = some v from h) with h;subst h;exact ⟨by kernel_rfl,3,.inr ev11_3⟩
 | 4=>injection (show some _ = some v from h) with h;subst h;exact ⟨by kernel_rfl,3,.inr ev11_4⟩
 | 5=>injection (show some _ = some v from h) with h;subst h;exact ⟨by kernel_rfl,3,.inr ev11_5⟩
 | 6=>injection (show some _ = some v from h) with h;subst h;exact ⟨by kernel_rfl,3,.inr ev11_6⟩
 | 7=>injection (show some _ = some v from h) with h;subst h;exact ⟨by kernel_rfl,3,.inr ev11_7⟩
 | 8=>injection (show some _ = some v from h) with h;subst h;exact ⟨by kernel_rfl,3,.inr ev11_8⟩
 | 9=>injection (show some _ = some v from h) with h;subst h;exact ⟨by kernel_rfl,3,.inr ev11_9⟩
 | 10=>injection (show some _ = some v from h) with h;subst h;exact ⟨by kernel_rfl,3,.inr ev11_10⟩
 | 11=>injection (show some _ = some v from h) with h;subst h;exact ⟨by kernel_rfl,3,.inr ev11_11⟩
 | 12=>injection (show some _ = some v from h) with h;subst h;exact ⟨by kernel_rfl,3,.inr ev11_12⟩
 | n + 13=>exact absurd (show (none:Option Value) = some v from h) (by simp)
theorem ok16 (hm:Tryz.prog.follows .mixedOrders = true):PureOk Tryz.prog tabs 16 tru:=by
 refine pureOk_closedP (tabs:=tabs) (n:=400) (g:=16) (H:=tabsHeap tabs) (isP:=isQ) (pu:=pu0) (inl:=inl pu0) ttOk tabs_ne tabs_pl fnsOk hm (q0 hm) (i0 hm) (fun i=>tabsHeap_get i) rfl (enter_ok fok16) fun args v h=>?_
 replace h:=ll_end h;obtain ⟨rfl,h⟩:=h
 injection h with h;subst h
 exact ⟨rfl,.inl worksRun⟩
theorem ok15 (hm:Tryz.prog.follows .mixedOrders = true):PureOk Tryz.prog tabs 15 orcR:=pure_le ((all_ok hm (hw hm) 30).1 15 rfl) fun a v h=>by
 obtain ⟨p,rfl,hp,h⟩:=onP_inv h
 rw [←h];exact HzSM.p15 28 hp
theorem puX_g (g:FuncId) (h1:Nat.beq g 15 = false):puX g = puN 30 g:=by unfold puX;rw [h1,bb_false]
theorem qX (hm:Tryz.prog.follows .mixedOrders = true):∀ g,isP g = true→PureOk Tryz.prog tabs g (puX g):=fun g hg=>by
 cases h1:Nat.beq g 15 with
 | true=>obtain rfl:=Nat.eq_of_beq_eq_true h1;exact ok15 hm
 | false=>rw [puX_g g h1];exact (all_ok hm (hw hm) 30).1 g hg
theorem iX (hm:Tryz.prog.follows .mixedOrders = true):CallOk Tryz.prog (List.range tabs.length) (callP tabs isP puX (inl puX)):=by
 have all:=all_ok hm (hw hm) 30
 exact callP_ok (P:=Tryz.prog) (tabs:=tabs) (pu:=puX) tabs_ne tabs_pl (inl_ok hm (pu:=puX) (by rw [puX_g 56 rfl];exact all.2.1) (by rw [puX_g 60 rfl];exact all.2.2.1) (by rw [puX_g 68 rfl];exact all.2.2.2.1) (by rw [puX_g 10440 rfl];exact all.2.2.2.2)) (qX hm)
theorem onC_inv {β:Type} {args:List Value} {k:List Nat→Option β} {v:β} (h:onC args k = some v):∃ p,args = [cv p]∧okP 12 p = true∧k p = some v:=by
 replace h:=ll_uncons h;obtain ⟨a,r,rfl,h⟩:=h
 replace h:=ll_end h;obtain ⟨rfl,h⟩:=h
 obtain ⟨cs,hs,h1⟩:=oo_inv h
 obtain ⟨p,hp,h2⟩:=oo_inv h1
 obtain ⟨hc,h3⟩:=bb_inv h2
 obtain ⟨c1,c2⟩:=an_inv hc
 refine ⟨p,?_,c1,h3⟩
 rw [vAgg_some hs,valsEq_eq c2];rfl
theorem decOk {p:List Nat} (h:okP 12 p = true):onC [cv p] (fun q=>some q) = some p:=by
 obtain ⟨k,h1,h2,hs,hm⟩:=in_pts h
 clear hs
 match k,h1,h2,hm with
 | 1,_,_,hm=>exact map_at (f:=fun p=>onC [cv p] fun q=>some q) (g:=fun p=>some p) dec_1 hm
 | 2,_,_,hm=>exact map_at (f:=fun p=>onC [cv p] fun q=>some q) (g:=fun p=>some p) dec_2 hm
 | 3,_,_,hm=>exact map_at (f:=fun p=>onC [cv p] fun q=>some q) (g:=fun p=>some p) dec_3 hm
 | 4,_,_,hm=>exact map_at (f:=fun p=>onC [cv p] fun q=>some q) (g:=fun p=>some p) dec_4 hm
 | 5,_,_,hm=>exact map_at (f:=fun p=>onC [cv p] fun q=>some q) (g:=fun p=>some p) dec_5 hm
 | 6,_,_,hm=>exact map_at (f:=fun p=>onC [cv p] fun q=>some q) (g:=fun p=>some p) dec_6 hm
 | 7,_,_,hm=>exact map_at (f:=fun p=>onC [cv p] fun q=>some q) (g:=fun p=>some p) dec_7 hm
 | 8,_,_,hm=>exact map_at (f:=fun p=>onC [cv p] fun q=>some q) (g:=fun p=>some p) dec_8 hm
 | 9,_,_,hm=>exact map_at (f:=fun p=>onC [cv p] fun q=>some q) (g:=fun p=>some p) dec_9 hm
 | 10,_,_,hm=>exact map_at (f:=fun p=>onC [cv p] fun q=>some q) (g:=fun p=>some p) dec_10 hm
 | 11,_,_,hm=>exact map_at (f:=fun p=>onC [cv p] fun q=>some q) (g:=fun p=>some p) dec_11 hm
 | 12,_,_,hm=>exact map_at (f:=fun p=>onC [cv p] fun q=>some q) (g:=fun p=>some p) dec_12 hm
 | k + 13,_,h2,_=>omega
theorem onC_to {β:Type} {p:List Nat} {k:List Nat→Option β} (h:okP 12 p = true):onC [cv p] k = k p:=by
 have e:oo (decC (cvl p)) none (fun q=>bb (an (okP 12 q) (valsEq (cvl p) (cvl q))) (some q) none) = some p:=decOk h
 show oo (decC (cvl p)) none (fun q=>bb (an (okP 12 q) (valsEq (cvl p) (cvl q))) (k q) none) = k p
 obtain ⟨q,h1,h2⟩:=oo_inv e
 obtain ⟨hc,h3⟩:=bb_inv h2
 injection h3 with h3;subst h3
 rw [h1,oo_some,hc,bb_true]
theorem P27 {p:List Nat} (h:okP 12 p = true):pu0 27 [sv p] = some (Value.int .i64 0):=by
 obtain ⟨k,h1,h2,hs,hm⟩:=in_pts h
 clear hs
 match k,h1,h2,hm with
 | 1,_,_,hm=>exact map_at (f:=fun p=>pu0 27 [sv p]) (g:=fun p=>some (Value.int .i64 0)) e27_1 hm
 | 2,_,_,hm=>exact map_at (f:=fun p=>pu0 27 [sv p]) (g:=fun p=>some (Value.int .i64 0)) e27_2 hm
 | 3,_,_,hm=>exact map_at (f:=fun p=>pu0 27 [sv p]) (g:=fun p=>some (Value.int .i64 0)) e27_3 hm
 | 4,_,_,hm=>exact map_at (f:=fun p=>pu0 27 [sv p]) (g:=fun p=>some (Value.int .i64 0)) e27_4 hm
 | 5,_,_,hm=>exact map_at (f:=fun p=>pu0 27 [sv p]) (g:=fun p=>some (Value.int .i64 0)) e27_5 hm
 | 6,_,_,hm=>exact map_at (f:=fun p=>pu0 27 [sv p]) (g:=fun p=>some (Value.int .i64 0)) e27_6 hm
 | 7,_,_,hm=>exact map_at (f:=fun p=>pu0 27 [sv p]) (g:=fun p=>some (Value.int .i64 0)) e27_7 hm
 | 8,_,_,hm=>exact map_at (f:=fun p=>pu0 27 [sv p]) (g:=fun p=>some (Value.int .i64 0)) e27_8 hm
 | 9,_,_,hm=>exact map_at (f:=fun p=>pu0 27 [sv p]) (g:=fun p=>some (Value.int .i64 0)) e27_9 hm
 | 10,_,_,hm=>exact map_at (f:=fun p=>pu0 27 [sv p]) (g:=fun p=>some (Value.int .i64 0)) e27_10 hm
 | 11,_,_,hm=>exact map_at (f:=fun p=>pu0 27 [sv p]) (g:=fun p=>some (Value.int .i64 0)) e27_11 hm
 | 12,_,_,hm=>exact map_at (f:=fun p=>pu0 27 [sv p]) (g:=fun p=>some (Value.int .i64 0)) e27_12 hm
 | k + 13,_,h2,_=>omega
theorem P28 {p:List Nat} (h:okP 12 p = true):pu0 28 [sv p] = some (cv p):=by
 obtain ⟨k,h1,h2,hs,hm⟩:=in_pts h
 clear hs
 match k,h1,h2,hm with
 | 1,_,_,hm=>exact map_at (f:=fun p=>pu0 28 [sv p]) (g:=fun p=>some (cv p)) e28_1 hm
 | 2,_,_,hm=>exact map_at (f:=fun p=>pu0 28 [sv p]) (g:=fun p=>some (cv p)) e28_2 hm
 | 3,_,_,hm=>exact map_at (f:=fun p=>pu0 28 [sv p]) (g:=fun p=>some (cv p)) e28_3 hm
 | 4,_,_,hm=>exact map_at (f:=fun p=>pu0 28 [sv p]) (g:=fun p=>some (cv p)) e28_4 hm
 | 5,_,_,hm=>exact map_at (f:=fun p=>pu0 28 [sv p]) (g:=fun p=>some (cv p)) e28_5 hm
 | 6,_,_,hm=>exact map_at (f:=fun p=>pu0 28 [sv p]) (g:=fun p=>some (cv p)) e28_6 hm
 | 7,_,_,hm=>exact map_at (f:=fun p=>pu0 28 [sv p]) (g:=fun p=>some (cv p)) e28_7 hm
 | 8,_,_,hm=>exact map_at (f:=fun p=>pu0 28 [sv p]) (g:=fun p=>some (cv p)) e28_8 hm
 | 9,_,_,hm=>exact map_at (f:=fun p=>pu0 28 [sv p]) (g:=fun p=>some (cv p)) e28_9 hm
 | 10,_,_,hm=>exact map_at (f:=fun p=>pu0 28 [sv p]) (g:=fun p=>some (cv p)) e28_10 hm
 | 11,_,_,hm=>exact map_at (f:=fun p=>pu0 28 [sv p]) (g:=fun p=>some (cv p)) e28_11 hm
 | 12,_,_,hm=>exact map_at (f:=fun p=>pu0 28 [sv p]) (g:=fun p=>some (cv p)) e28_12 hm
 | k + 13,_,h2,_=>omega
theorem P51 {p:List Nat} (h:okP 12 p = true):bb (nilL (aheadT p)) (valR (evB 51 [cv p])) (deepR 0 2 (evB 51 [cv p])) = some (aR p):=by
 obtain ⟨k,h1,h2,hs,hm⟩:=in_pts h
 clear hs
 match k,h1,h2,hm with
 | 1,_,_,hm=>exact map_at (f:=fun p=>bb (nilL (aheadT p)) (valR (evB 51 [cv p])) (deepR 0 2 (evB 51 [cv p]))) (g:=fun p=>some (aR p)) ev51_1 hm
 | 2,_,_,hm=>exact map_at (f:=fun p=>bb (nilL (aheadT p)) (valR (evB 51 [cv p])) (deepR 0 2 (evB 51 [cv p]))) (g:=fun p=>some (aR p)) ev51_2 hm
 | 3,_,_,hm=>exact map_at (f:=fun p=>bb (nilL (aheadT p)) (valR (evB 51 [cv p])) (deepR 0 2 (evB 51 [cv p]))) (g:=fun p=>some (aR p)) ev51_3 hm
 | 4,_,_,hm=>exact map_at (f:=fun p=>bb (nilL (aheadT p)) (valR (evB 51 [cv p])) (deepR 0 2 (evB 51 [cv p]))) (g:=fun p=>some (aR p)) ev51_4 hm
 | 5,_,_,hm=>exact map_at (f:=fun p=>bb (nilL (aheadT p)) (valR (evB 51 [cv p])) (deepR 0 2 (evB 51 [cv p]))) (g:=fun p=>some (aR p)) ev51_5 hm
 | 6,_,_,hm=>exact map_at (f:=fun p=>bb (nilL (aheadT p)) (valR (evB 51 [cv p])) (deepR 0 2 (evB 51 [cv p]))) (g:=fun p=>some (aR p)) ev51_6 hm
 | 7,_,_,hm=>exact map_at (f:=fun p=>bb (nilL (aheadT p)) (valR (evB 51 [cv p])) (deepR 0 2 (evB 51 [cv p]))) (g:=fun p=>some (aR p)) ev51_7 hm
 | 8,_,_,hm=>exact map_at (f:=fun p=>bb (nilL (aheadT p)) (valR (evB 51 [cv p])) (deepR 0 2 (evB 51 [cv p]))) (g:=fun p=>some (aR p)) ev51_8 hm
 | 9,_,_,hm=>exact map_at (f:=fun p=>bb (nilL (aheadT p)) (valR (evB 51 [cv p])) (deepR 0 2 (evB 51 [cv p]))) (g:=fun p=>some (aR p)) ev51_9 hm
 | 10,_,_,hm=>exact map_at (f:=fun p=>bb (nilL (aheadT p)) (valR (evB 51 [cv p])) (deepR 0 2 (evB 51 [cv p]))) (g:=fun p=>some (aR p)) ev51_10 hm
 | 11,_,_,hm=>exact map_at (f:=fun p=>bb (nilL (aheadT p)) (valR (evB 51 [cv p])) (deepR 0 2 (evB 51 [cv p]))) (g:=fun p=>some (aR p)) ev51_11 hm
 | 12,_,_,hm=>exact map_at (f:=fun p=>bb (nilL (aheadT p)) (valR (evB 51 [cv p])) (deepR 0 2 (evB 51 [cv p]))) (g:=fun p=>some (aR p)) ev51_12 hm
 | k + 13,_,h2,_=>omega
theorem P36 {p:List Nat} (h:okP 12 p = true):deepR 0 2 (evB 36 [cv p]) = some (Sl.v 1 (rSl (ringOf p))):=by
 obtain ⟨k,h1,h2,hs,hm⟩:=in_pts h
 clear hs
 match k,h1,h2,hm with
 | 1,_,_,hm=>exact map_at (f:=fun p=>deepR 0 2 (evB 36 [cv p])) (g:=fun p=>some (Sl.v 1 (rSl (ringOf p)))) ev36_1 hm
 | 2,_,_,hm=>exact map_at (f:=fun p=>deepR 0 2 (evB 36 [cv p])) (g:=fun p=>some (Sl.v 1 (rSl (ringOf p)))) ev36_2 hm
 | 3,_,_,hm=>exact map_at (f:=fun p=>deepR 0 2 (evB 36 [cv p])) (g:=fun p=>some (Sl.v 1 (rSl (ringOf p)))) ev36_3 hm
 | 4,_,_,hm=>exact map_at (f:=fun p=>deepR 0 2 (evB 36 [cv p])) (g:=fun p=>some (Sl.v 1 (rSl (ringOf p)))) ev36_4 hm
 | 5,_,_,hm=>exact map_at (f:=fun p=>deepR 0 2 (evB 36 [cv p])) (g:=fun p=>some (Sl.v 1 (rSl (ringOf p)))) ev36_5 hm
 | 6,_,_,hm=>exact map_at (f:=fun p=>deepR 0 2 (evB 36 [cv p])) (g:=fun p=>some (Sl.v 1 (rSl (ringOf p)))) ev36_6 hm
 | 7,_,_,hm=>exact map_at (f:=fun p=>deepR 0 2 (evB 36 [cv p])) (g:=fun p=>some (Sl.v 1 (rSl (ringOf p)))) ev36_7 hm
 | 8,_,_,hm=>exact map_at (f:=fun p=>deepR 0 2 (evB 36 [cv p])) (g:=fun p=>some (Sl.v 1 (rSl (ringOf p)))) ev36_8 hm
 | 9,_,_,hm=>exact map_at (f:=fun p=>deepR 0 2 (evB 36 [cv p])) (g:=fun p=>some (Sl.v 1 (rSl (ringOf p)))) ev36_9 hm
 | 10,_,_,hm=>exact map_at (f:=fun p=>deepR 0 2 (evB 36 [cv p])) (g:=fun p=>some (Sl.v 1 (rSl (ringOf p)))) ev36_10 hm
 | 11,_,_,hm=>exact map_at (f:=fun p=>deepR 0 2 (evB 36 [cv p])) (g:=fun p=>some (Sl.v 1 (rSl (ringOf p)))) ev36_11 hm
 | 12,_,_,hm=>exact map_at (f:=fun p=>deepR 0 2 (evB 36 [cv p])) (g:=fun p=>some (Sl.v 1 (rSl (ringOf p)))) ev36_12 hm
 | k + 13,_,h2,_=>omega
theorem P22 {p:List Nat} (h:okP 12 p = true):m22 puX 1000000 [sv p] = some (sv (endT p)):=by
 obtain ⟨k,h1,h2,hs,hm⟩:=in_pts h
 clear hs
 match k,h1,h2,hm with
 | 1,_,_,hm=>exact map_at (f:=fun p=>m22 puX 1000000 [sv p]) (g:=fun p=>some (sv (endT p))) e22_1 hm
 | 2,_,_,hm=>exact map_at (f:=fun p=>m22 puX 1000000 [sv p]) (g:=fun p=>some (sv (endT p))) e22_2 hm
 | 3,_,_,hm=>exact map_at (f:=fun p=>m22 puX 1000000 [sv p]) (g:=fun p=>some (sv (endT p))) e22_3 hm
 | 4,_,_,hm=>exact map_at (f:=fun p=>m22 puX 1000000 [sv p]) (g:=fun p=>some (sv (endT p))) e22_4 hm
 | 5,_,_,hm=>exact map_at (f:=fun p=>m22 puX 1000000 [sv p]) (g:=fun p=>some (sv (endT p))) e22_5 hm
 | 6,_,_,hm=>exact map_at (f:=fun p=>m22 puX 1000000 [sv p]) (g:=fun p=>some (sv (endT p))) e22_6 hm
 | 7,_,_,hm=>exact map_at (f:=fun p=>m22 puX 1000000 [sv p]) (g:=fun p=>some (sv (endT p))) e22_7 hm
 | 8,_,_,hm=>exact map_at (f:=fun p=>m22 puX 1000000 [sv p]) (g:=fun p=>some (sv (endT p))) e22_8 hm
 | 9,_,_,hm=>exact map_at (f:=fun p=>m22 puX 1000000 [sv p]) (g:=fun p=>some (sv (endT p))) e22_9 hm
 | 10,_,_,hm=>exact map_at (f:=fun p=>m22 puX 1000000 [sv p]) (g:=fun p=>some (sv (endT p))) e22_10 hm
 | 11,_,_,hm=>exact map_at (f:=fun p=>m22 puX 1000000 [sv p]) (g:=fun p=>some (sv (endT p))) e22_11 hm
 | 12,_,_,hm=>exact map_at (f:=fun p=>m22 puX 1000000 [sv p]) (g:=fun p=>some (sv (endT p))) e22_12 hm
 | k + 13,_,h2,_=>omega
theorem P23 {p:List Nat} (h:okP 12 p = true):rest23 (rSl (ringOf p)) = some (cntAt (sumL p) (ringIx p)):=by
 obtain ⟨k,h1,h2,hs,hm⟩:=in_pts h
 unfold ringOf
 rw [hs]
 clear hs
 match k,h1,h2,hm with
 | 1, _, _, hm =>
  have hi:=Nat.le_of_ble_eq_true (all_at (f:=fun p=>Nat.blt (ringIx p) 1) rix_1 hm)
  generalize ringIx p = i at hi
  match i,hi with
  | 0,_=>exact c23_1_0
  | i + 1,hi=>omega
 | 2, _, _, hm =>
  have hi:=Nat.le_of_ble_eq_true (all_at (f:=fun p=>Nat.blt (ringIx p) 1) rix_2 hm)
  generalize ringIx p = i at hi
  match i,hi with
  | 0,_=>exact c23_2_0
  | i + 1,hi=>omega
 | 3, _, _, hm =>
  have hi:=Nat.le_of_ble_eq_true (all_at (f:=fun p=>Nat.blt (ringIx p) 1) rix_3 hm)
  generalize ringIx p = i at hi
  match i,hi with
  | 0,_=>exact c23_3_0
  | i + 1,hi=>omega
 | 4, _, _, hm =>
  have hi:=Nat.le_of_ble_eq_true (all_at (f:=fun p=>Nat.blt (ringIx p) 1) rix_4 hm)
  generalize ringIx p = i at hi
  match i,hi with
  | 0,_=>exact c23_4_0
  | i + 1,hi=>omega
 | 5, _, _, hm =>
  have hi:=Nat.le_of_ble_eq_true (all_at (f:=fun p=>Nat.blt (ringIx p) 1) rix_5 hm)
  generalize ringIx p = i at hi
  match i,hi with
  | 0,_=>exact c23_5_0
  | i + 1,hi=>omega
 | 6, _, _, hm =>
  have hi:=Nat.le_of_ble_eq_true (all_at (f:=fun p=>Nat.blt (ringIx p) 1) rix_6 hm)
  generalize ringIx p = i at hi
  match i,hi with
  | 0,_=>exact c23_6_0
  | i + 1,hi=>omega
 | 7, _, _, hm =>
  have hi:=Nat.le_of_ble_eq_true (all_at (f:=fun p=>Nat.blt (ringIx p) 1) rix_7 hm)
  generalize ringIx p = i at hi
  match i,hi with
  | 0,_=>exact c23_7_0
  | i + 1,hi=>omega
 | 8, _, _, hm =>
  have hi:=Nat.le_of_ble_eq_true (all_at (f:=fun p=>Nat.blt (ringIx p) 2) rix_8 hm)
  generalize ringIx p = i at hi
  match i,hi with
  | 0,_=>exact c23_8_0
  | 1,_=>exact c23_8_1
  | i + 2,hi=>omega
 | 9, _, _, hm =>
  have hi:=Nat.le_of_ble_eq_true (all_at (f:=fun p=>Nat.blt (ringIx p) 1) rix_9 hm)
  generalize ringIx p = i at hi
  match i,hi with
  | 0,_=>exact c23_9_0
  | i + 1,hi=>omega
 | 10, _, _, hm =>
  have hi:=Nat.le_of_ble_eq_true (all_at (f:=fun p=>Nat.blt (ringIx p) 1) rix_10 hm)
  generalize ringIx p = i at hi
  match i,hi with
  | 0,_=>exact c23_10_0
  | i + 1,hi=>omega
 | 11, _, _, hm =>
  have hi:=Nat.le_of_ble_eq_true (all_at (f:=fun p=>Nat.blt (ringIx p) 1) rix_11 hm)
  generalize ringIx p = i at hi
  match i,hi with
  | 0,_=>exact c23_11_0
  | i + 1,hi=>omega
 | 12, _, _, hm =>
  have hi:=Nat.le_of_ble_eq_true (all_at (f:=fun p=>Nat.blt (ringIx p) 2) rix_12 hm)
  generalize ringIx p = i at hi
  match i,hi with
  | 0,_=>exact c23_12_0
  | 1,_=>exact c23_12_1
  | i + 2,hi=>omega
 | k + 13,_,h2,_=>omega
theorem ok51 (hm:Tryz.prog.follows .mixedOrders = true):PureOk Tryz.prog tabs 51 orcAh:=by
 have h1:PureOk Tryz.prog tabs 51 (fun args=>onC args fun p=>bb (nilL (aheadT p)) none (some (aR p))):=by
  refine pureOk_deep (tabs:=tabs) (n:=400) (g:=51) (H:=tabsHeap tabs) (isP:=isQ) (pu:=pu0) (inl:=inl pu0) ttOk tabs_ne tabs_pl fnsOk hm (q0 hm) (i0 hm) (fun i=>tabsHeap_get i) rfl (enter_ok fok51) fun args v h=>?_
  obtain ⟨p,rfl,hp,h⟩:=onC_inv h
  have e:=P51 hp
  cases hn:nilL (aheadT p) with
  | true=>rw [hn,bb_true] at h;cases h
  | false =>
   rw [hn,bb_false] at h e
   injection h with h;subst h
   refine ⟨?_,2,.inl e⟩
   unfold aR;rw [hn];rfl
 have h2:PureOk Tryz.prog tabs 51 (fun args=>onC args fun p=>bb (nilL (aheadT p)) (some (aR p)) none):=by
  refine pureOk_closedP (tabs:=tabs) (n:=400) (g:=51) (H:=tabsHeap tabs) (isP:=isQ) (pu:=pu0) (inl:=inl pu0) ttOk tabs_ne tabs_pl fnsOk hm (q0 hm) (i0 hm) (fun i=>tabsHeap_get i) rfl (enter_ok fok51) fun args v h=>?_
  obtain ⟨p,rfl,hp,h⟩:=onC_inv h
  have e:=P51 hp
  cases hn:nilL (aheadT p) with
  | false=>rw [hn,bb_false] at h;cases h
  | true =>
   rw [hn,bb_true] at h e
   injection h with h;subst h
   refine ⟨?_,.inl e⟩
   unfold aR;rw [hn];rfl
 have h0:PureOk Tryz.prog tabs 51 (fun args=>onC args fun p=>some (aR p)):=⟨h1.1,fun args v hv=>by
  obtain ⟨p,rfl,hp,hv⟩:=onC_inv hv
  cases hn:nilL (aheadT p) with
  | false=>exact h1.2 [cv p] v (by show onC [cv p] _ = _;rw [onC_to hp,hn,bb_false];exact hv)
  | true=>exact h2.2 [cv p] v (by show onC [cv p] _ = _;rw [onC_to hp,hn,bb_true];exact hv)⟩
 refine ⟨h0.1,fun args v hv hcl R w args' hR hs ha=>?_⟩
 have hq:∃ p,v = aV p∧(fun args=>onC args fun p=>some (aR p)) args = some (aR p):=by
  replace hv:=ll_uncons hv;obtain ⟨a,r,rfl,hv⟩:=hv
  replace hv:=ll_end hv;obtain ⟨rfl,hv⟩:=hv
  obtain ⟨cs,hs,h1⟩:=oo_inv hv
  obtain ⟨p,hp,h2⟩:=oo_inv h1
  obtain ⟨hc,h3⟩:=bb_inv h2
  injection h3 with h3;subst h3
  refine ⟨p,rfl,?_⟩
  show oo (vAgg a) none (fun cs=>oo (decC cs) none fun p=>bb (an (okP 12 p) (valsEq cs (cvl p))) (some (aR p)) none) = _
  rw [hs,oo_some,hp,oo_some,hc,bb_true]
 obtain ⟨p,rfl,hq⟩:=hq
 refine (h0.2 _ _ hq hcl R w args' hR hs ha).mono fun e w' ⟨u,H',R',he,_,hu,hpo⟩=>⟨u,H',R',he,?_,?_,hpo⟩
 ·unfold aV
  cases nilL (aheadT p) <;> rfl
 ·unfold aR at hu
  unfold aV
  cases hn:nilL (aheadT p) with
  | true=>rw [hn,bb_true] at hu;rw [bb_true];exact Weak.nil 1 2 (by decide) _ _ hu
  | false=>rw [hn,bb_false] at hu;rw [bb_false];exact hu
theorem ok36 (hm:Tryz.prog.follows .mixedOrders = true):PureOk Tryz.prog tabs 36 orcRg:=by
 refine pureOk_deep (tabs:=tabs) (n:=400) (g:=36) (H:=tabsHeap tabs) (isP:=isQ) (pu:=pu0) (inl:=inl pu0) ttOk tabs_ne tabs_pl fnsOk hm (q0 hm) (i0 hm) (fun i=>tabsHeap_get i) rfl (enter_ok fok36) fun args v h=>?_
 obtain ⟨p,rfl,hp,h⟩:=onC_inv h
 injection h with h;subst h
 exact ⟨rfl,2,.inl (P36 hp)⟩
theorem puY_g (g:FuncId) (h1:Nat.beq g 51 = false) (h2:Nat.beq g 36 = false):puY g = puN 30 g:=by unfold puY;rw [h1,h2,bb_false,bb_false]
theorem qY (hm:Tryz.prog.follows .mixedOrders = true):∀ g,isP g = true→PureOk Tryz.prog tabs g (puY g):=fun g hg=>by
 cases h1:Nat.beq g 51 with
 | true=>obtain rfl:=Nat.eq_of_beq_eq_true h1;exact ok51 hm
 | false =>
  cases h2:Nat.beq g 36 with
  | true=>obtain rfl:=Nat.eq_of_beq_eq_true h2;exact ok36 hm
  | false=>rw [puY_g g h1 h2];exact (all_ok hm (hw hm) 30).1 g hg
theorem ok23 (hm:Tryz.prog.follows .mixedOrders = true):PureOk Tryz.prog tabs 23 orcS:=by
 have all:=all_ok hm (hw hm) 30
 have hc:=callP_ok (P:=Tryz.prog) (tabs:=tabs) (pu:=puY) tabs_ne tabs_pl (inl_ok hm (pu:=puY) (by rw [puY_g 56 rfl rfl];exact all.2.1) (by rw [puY_g 60 rfl rfl];exact all.2.2.1) (by rw [puY_g 68 rfl rfl];exact all.2.2.2.1) (by rw [puY_g 10440 rfl rfl];exact all.2.2.2.2)) (qY hm)
 have h0:PureOk Tryz.prog tabs 23 (m23 puY 1000000):=pureOk_of_run (tabs:=tabs) (f:=m23 puY 1000000) ttOk hm hc fk23 fun args v h hx=>r23 puY 1000000 rfl h hx
 exact pure_le h0 fun a v h=>by
  obtain ⟨p,rfl,hp,h⟩:=onP_inv h
  rw [←h]
  refine Eq.trans (b:=m23_ puY 1000000 (slOf p)) (by kernel_rfl) ?_
  have e36:puY 36 [cv p] = some (Sl.v 1 (rSl (ringOf p))):=by
   show onC [cv p] _ = _
   exact onC_to hp
  rw [m23_rest p (P27 hp) (P28 hp),e36,oo_some,toSl_mk,oo_some]
  exact P23 hp
theorem ok22 (hm:Tryz.prog.follows .mixedOrders = true):PureOk Tryz.prog tabs 22 orcQ:=pure_le (pureOk_of_run (tabs:=tabs) (f:=m22 puX 1000000) ttOk hm (iX hm) fk22 fun args v h hx=>r22 puX 1000000 rfl h hx) fun a v h=>by
 obtain ⟨p,rfl,hp,h⟩:=onP_inv h
 rw [←h];exact P22 hp
theorem allW (hm:Tryz.prog.follows .mixedOrders = true):∀ g,isP g = true→PureOk Tryz.prog tabs g (puW g):=fun g hg=>by
 cases h8:Nat.beq g 8 with
 | true=>obtain rfl:=Nat.eq_of_beq_eq_true h8;exact ok8 hm
 | false =>
  cases h11:Nat.beq g 11 with
  | true=>obtain rfl:=Nat.eq_of_beq_eq_true h11;exact ok11 hm
  | false =>
   cases h16:Nat.beq g 16 with
   | true=>obtain rfl:=Nat.eq_of_beq_eq_true h16;exact ok16 hm
   | false =>
    cases h15:Nat.beq g 15 with
    | true=>obtain rfl:=Nat.eq_of_beq_eq_true h15;exact ok15 hm
    | false =>
     cases h22:Nat.beq g 22 with
     | true=>obtain rfl:=Nat.eq_of_beq_eq_true h22;exact ok22 hm
     | false =>
      cases h23:Nat.beq g 23 with
      | true=>obtain rfl:=Nat.eq_of_beq_eq_true h23;exact ok23 hm
      | false =>
       rw [puW_g g h8 h11 h16 h15 h22 h23];exact (all_ok hm (hw hm) 30).1 g hg
noncomputable def mLaw (args:List Value):Option Value:=m5 puW 1000000 args
theorem lawOk (hm:Tryz.prog.follows .mixedOrders = true):PureOk Tryz.prog [] 5 mLaw:=by
 have all:=all_ok hm (hw hm) 30
 have hc:=callP_ok (P:=Tryz.prog) (tabs:=tabs) (pu:=puW) tabs_ne tabs_pl (inl_ok hm (pu:=puW) (by rw [puW_g 56 rfl rfl rfl rfl rfl rfl];exact all.2.1) (by rw [puW_g 60 rfl rfl rfl rfl rfl rfl];exact all.2.2.1) (by rw [puW_g 68 rfl rfl rfl rfl rfl rfl];exact all.2.2.2.1) (by rw [puW_g 10440 rfl rfl rfl rfl rfl rfl];exact all.2.2.2.2)) (allW hm)
 exact pureOk_of_run (tabs:=tabs) (f:=mLaw) ttOk hm hc fk5 fun args v h hx=>r5 puW 1000000 rfl h hx
theorem restOk {p:List Nat} (h:okP 12 p = true):rest (slOf p) = some (.bool true):=by
 obtain ⟨k,h1,h2,hs,hm⟩:=in_pts h
 clear hs
 match k,h1,h2,hm with
 | 1,_,_,hm=>exact map_at (f:=fun p=>rest (slOf p)) (g:=fun _=>some (Value.bool true)) law_1 hm
 | 2,_,_,hm=>exact map_at (f:=fun p=>rest (slOf p)) (g:=fun _=>some (Value.bool true)) law_2 hm
 | 3,_,_,hm=>exact map_at (f:=fun p=>rest (slOf p)) (g:=fun _=>some (Value.bool true)) law_3 hm
 | 4,_,_,hm=>exact map_at (f:=fun p=>rest (slOf p)) (g:=fun _=>some (Value.bool true)) law_4 hm
 | 5,_,_,hm=>exact map_at (f:=fun p=>rest (slOf p)) (g:=fun _=>some (Value.bool true)) law_5 hm
 | 6,_,_,hm=>exact map_at (f:=fun p=>rest (slOf p)) (g:=fun _=>some (Value.bool true)) law_6 hm
 | 7,_,_,hm=>exact map_at (f:=fun p=>rest (slOf p)) (g:=fun _=>some (Value.bool true)) law_7 hm
 | 8,_,_,hm=>exact map_at (f:=fun p=>rest (slOf p)) (g:=fun _=>some (Value.bool true)) law_8 hm
 | 9,_,_,hm=>exact map_at (f:=fun p=>rest (slOf p)) (g:=fun _=>some (Value.bool true)) law_9 hm
 | 10,_,_,hm=>exact map_at (f:=fun p=>rest (slOf p)) (g:=fun _=>some (Value.bool true)) law_10 hm
 | 11,_,_,hm=>exact map_at (f:=fun p=>rest (slOf p)) (g:=fun _=>some (Value.bool true)) law_11 hm
 | 12,_,_,hm=>exact map_at (f:=fun p=>rest (slOf p)) (g:=fun _=>some (Value.bool true)) law_12 hm
 | k + 13,_,h2,_=>omega
theorem mLaw_ok (b:List Int) (hb:∀ x ∈ b,0≤x∧x < 256):mLaw [Sl.v 1 ⟨b.length,0,b.map (Value.int .u8)⟩] = some (.bool true):=by
 obtain ⟨r,⟨hr,hs⟩,e⟩:=HzSM.p17 28 0 b hb
 have hp:okP 12 r = true:=ok_down (HyM.ok_hp hr) (by rw [HyM.sumL_eq];exact hs)
 have e17:puW 17 [Sl.v 1 ⟨b.length,0,b.map (Value.int .u8)⟩,.int .i64 12] = some (sv r):=by
  rw [puW_g 17 rfl rfl rfl rfl rfl rfl,sv_eq];exact e
 refine Eq.trans (b:=m5_ puW 1000000 ⟨b.length,0,b.map (Value.int .u8)⟩) (by kernel_rfl) ?_
 rw [m_rest,e17,oo_some,show toSl 1 (sv r) = some (slOf r) from rfl,oo_some]
 exact restOk hp
end Go.Proofs.YtkhedoaiejjcfaaGreat.HzS
