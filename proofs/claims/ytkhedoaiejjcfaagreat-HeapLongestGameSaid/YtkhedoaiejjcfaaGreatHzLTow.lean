/- Made from wip. -/
import Derived.Test.YtkhedoaiejjcfaaGreatHzLRepx
import Derived.Test.YtkhedoaiejjcfaaGreatHzLDefx
import Derived.Test.YtkhedoaiejjcfaaGreatHzLRun0
import Derived.Test.YtkhedoaiejjcfaaGreatHzLRun1
import Derived.Test.YtkhedoaiejjcfaaGreatHzLRun2
import Derived.Test.YtkhedoaiejjcfaaGreatHzLRun3
import Derived.Test.YtkhedoaiejjcfaaGreatHzLRun4
import Derived.Test.YtkhedoaiejjcfaaGreatHzLRun5
import Derived.Test.YtkhedoaiejjcfaaGreatHzLRun6
import Derived.Test.YtkhedoaiejjcfaaGreatHzLRun7
import Derived.Test.YtkhedoaiejjcfaaGreatHzLRun8
import Derived.Test.YtkhedoaiejjcfaaGreatHzLRun9
import Derived.Test.YtkhedoaiejjcfaaGreatHzLRun10
import Derived.Test.YtkhedoaiejjcfaaGreatHzLRun11
import Derived.Test.YtkhedoaiejjcfaaGreatHzLRun12
import Derived.Test.YtkhedoaiejjcfaaGreatHzLRun13
import Derived.Test.YtkhedoaiejjcfaaGreatHzLRun14
import Derived.Test.YtkhedoaiejjcfaaGreatHzLRun15
import Derived.Test.YtkhedoaiejjcfaaGreatHzLRun16
import Derived.Test.YtkhedoaiejjcfaaGreatHzLRun17
import Derived.Test.YtkhedoaiejjcfaaGreatHzLRun18
import Derived.Test.YtkhedoaiejjcfaaGreatHzLRun19
import Derived.Test.YtkhedoaiejjcfaaGreatHzLRun20
import Derived.Test.YtkhedoaiejjcfaaGreatHzLRun21

set_option maxRecDepth 100000
set_option maxHeartbeats 0
namespace Go.Proofs.YtkhedoaiejjcfaaGreat.HzL
open Go Go.Sp Go.HzLM Go.HzL Go.HpT
theorem hw (hm:Tryz.prog.follows .mixedOrders = true):PureOk Tryz.prog tabs 16 orc16∧PureOk Tryz.prog tabs 60 orc60∧PureOk Tryz.prog tabs 68 orc68∧PureOk Tryz.prog tabs 8 orc8∧PureOk Tryz.prog tabs 25 orc25:=⟨⟨enter_ok fok16,fun _ _ h=>by cases h⟩,orc60_ok hm,orc68_ok hm,⟨enter_ok fok8,fun _ _ h=>by cases h⟩,⟨enter_ok fok25,fun _ _ h=>by cases h⟩⟩
theorem q0 (hm:Tryz.prog.follows .mixedOrders = true):(∀ g,isQ g = true→PureOk Tryz.prog tabs g (pu0 g)):=fun g hg=>(all_ok hm (hw hm) 30).1 g (an_inv hg).1
theorem i0 (hm:Tryz.prog.follows .mixedOrders = true):CallOk Tryz.prog (List.range tabs.length) (inl pu0):=by
 have all:=all_ok hm (hw hm) 30
 exact inl_ok hm all.2.1 all.2.2.1 all.2.2.2.1 all.2.2.2.2
theorem onP_inv {β:Type} {args:List Value} {k:List Nat→Option β} {v:β} (h:onP args k = some v):∃ p,args = [sv p]∧okP 15 p = true∧k p = some v:=by
 replace h:=ll_uncons h;obtain ⟨a,r,rfl,h⟩:=h
 replace h:=ll_end h;obtain ⟨rfl,h⟩:=h
 obtain ⟨s,hs,h1⟩:=oo_inv h
 obtain ⟨p,hp,h2⟩:=oo_inv h1
 obtain ⟨hc,h3⟩:=bb_inv h2
 obtain ⟨c1,hc⟩:=an_inv hc
 obtain ⟨c2,hc⟩:=an_inv hc
 obtain ⟨c3,c4⟩:=an_inv hc
 refine ⟨p,?_,c1,h3⟩
 rw [toSl_some hs]
 obtain ⟨n,fl,cs⟩:=s
 have e1:n = len p:=Nat.eq_of_beq_eq_true c2
 have e2:fl = 0:=Nat.eq_of_beq_eq_true c3
 have e3:cs = iL p:=valsEq_eq c4
 subst e1;subst e2;subst e3;rfl
theorem pure_le {P:Program} {tabs:List (List Value)} {g:FuncId} {f f':List Value→Option Value} (h:PureOk P tabs g f) (hf:∀ a v,f' a = some v→f a = some v):PureOk P tabs g f':=⟨h.1,fun args v hv=>h.2 args v (hf args v hv)⟩
theorem onC_inv {β:Type} {args:List Value} {k:List Nat→Option β} {v:β} (h:onC args k = some v):∃ p,args = [cv p]∧okP 15 p = true∧k p = some v:=by
 replace h:=ll_uncons h;obtain ⟨a,r,rfl,h⟩:=h
 replace h:=ll_end h;obtain ⟨rfl,h⟩:=h
 obtain ⟨cs,hs,h1⟩:=oo_inv h
 obtain ⟨p,hp,h2⟩:=oo_inv h1
 obtain ⟨hc,h3⟩:=bb_inv h2
 obtain ⟨c1,c2⟩:=an_inv hc
 refine ⟨p,?_,c1,h3⟩
 rw [vAgg_some hs,valsEq_eq c2];rfl
theorem P29 {p:List Nat} (h:okP 15 p = true):pu0 29 [cv p] = some (.bool (ret p)):=by
 obtain ⟨k,h1,h2,hs,hm⟩:=in_pts h
 clear hs
 match k,h1,h2,hm with
 | 1,_,_,hm=>exact map_at (f:=fun p=>pu0 29 [cv p]) (g:=fun p=>some (.bool (ret p))) e29_1 hm
 | 2,_,_,hm=>exact map_at (f:=fun p=>pu0 29 [cv p]) (g:=fun p=>some (.bool (ret p))) e29_2 hm
 | 3,_,_,hm=>exact map_at (f:=fun p=>pu0 29 [cv p]) (g:=fun p=>some (.bool (ret p))) e29_3 hm
 | 4,_,_,hm=>exact map_at (f:=fun p=>pu0 29 [cv p]) (g:=fun p=>some (.bool (ret p))) e29_4 hm
 | 5,_,_,hm=>exact map_at (f:=fun p=>pu0 29 [cv p]) (g:=fun p=>some (.bool (ret p))) e29_5 hm
 | 6,_,_,hm=>exact map_at (f:=fun p=>pu0 29 [cv p]) (g:=fun p=>some (.bool (ret p))) e29_6 hm
 | 7,_,_,hm=>exact map_at (f:=fun p=>pu0 29 [cv p]) (g:=fun p=>some (.bool (ret p))) e29_7 hm
 | 8,_,_,hm=>exact map_at (f:=fun p=>pu0 29 [cv p]) (g:=fun p=>some (.bool (ret p))) e29_8 hm
 | 9,_,_,hm=>exact map_at (f:=fun p=>pu0 29 [cv p]) (g:=fun p=>some (.bool (ret p))) e29_9 hm
 | 10,_,_,hm=>exact map_at (f:=fun p=>pu0 29 [cv p]) (g:=fun p=>some (.bool (ret p))) e29_10 hm
 | 11,_,_,hm=>exact map_at (f:=fun p=>pu0 29 [cv p]) (g:=fun p=>some (.bool (ret p))) e29_11 hm
 | 12,_,_,hm=>exact map_at (f:=fun p=>pu0 29 [cv p]) (g:=fun p=>some (.bool (ret p))) e29_12 hm
 | 13,_,_,hm=>exact map_at (f:=fun p=>pu0 29 [cv p]) (g:=fun p=>some (.bool (ret p))) e29_13 hm
 | 14,_,_,hm=>exact map_at (f:=fun p=>pu0 29 [cv p]) (g:=fun p=>some (.bool (ret p))) e29_14 hm
 | 15,_,_,hm=>exact map_at (f:=fun p=>pu0 29 [cv p]) (g:=fun p=>some (.bool (ret p))) e29_15 hm
 | k + 16,_,h2,_=>omega
theorem P59 {p:List Nat} (h:okP 15 p = true):pu0 59 [cv p] = some (cv (rnd p)):=by
 obtain ⟨k,h1,h2,hs,hm⟩:=in_pts h
 clear hs
 match k,h1,h2,hm with
 | 1,_,_,hm=>exact map_at (f:=fun p=>pu0 59 [cv p]) (g:=fun p=>some (cv (rnd p))) e59_1 hm
 | 2,_,_,hm=>exact map_at (f:=fun p=>pu0 59 [cv p]) (g:=fun p=>some (cv (rnd p))) e59_2 hm
 | 3,_,_,hm=>exact map_at (f:=fun p=>pu0 59 [cv p]) (g:=fun p=>some (cv (rnd p))) e59_3 hm
 | 4,_,_,hm=>exact map_at (f:=fun p=>pu0 59 [cv p]) (g:=fun p=>some (cv (rnd p))) e59_4 hm
 | 5,_,_,hm=>exact map_at (f:=fun p=>pu0 59 [cv p]) (g:=fun p=>some (cv (rnd p))) e59_5 hm
 | 6,_,_,hm=>exact map_at (f:=fun p=>pu0 59 [cv p]) (g:=fun p=>some (cv (rnd p))) e59_6 hm
 | 7,_,_,hm=>exact map_at (f:=fun p=>pu0 59 [cv p]) (g:=fun p=>some (cv (rnd p))) e59_7 hm
 | 8,_,_,hm=>exact map_at (f:=fun p=>pu0 59 [cv p]) (g:=fun p=>some (cv (rnd p))) e59_8 hm
 | 9,_,_,hm=>exact map_at (f:=fun p=>pu0 59 [cv p]) (g:=fun p=>some (cv (rnd p))) e59_9 hm
 | 10,_,_,hm=>exact map_at (f:=fun p=>pu0 59 [cv p]) (g:=fun p=>some (cv (rnd p))) e59_10 hm
 | 11,_,_,hm=>exact map_at (f:=fun p=>pu0 59 [cv p]) (g:=fun p=>some (cv (rnd p))) e59_11 hm
 | 12,_,_,hm=>exact map_at (f:=fun p=>pu0 59 [cv p]) (g:=fun p=>some (cv (rnd p))) e59_12 hm
 | 13,_,_,hm=>exact map_at (f:=fun p=>pu0 59 [cv p]) (g:=fun p=>some (cv (rnd p))) e59_13 hm
 | 14,_,_,hm=>exact map_at (f:=fun p=>pu0 59 [cv p]) (g:=fun p=>some (cv (rnd p))) e59_14 hm
 | 15,_,_,hm=>exact map_at (f:=fun p=>pu0 59 [cv p]) (g:=fun p=>some (cv (rnd p))) e59_15 hm
 | k + 16,_,h2,_=>omega
theorem P55 {p:List Nat} (h:okP 15 p = true):m55 puV 1000000 [cv p] = some (untV p):=by
 obtain ⟨k,h1,h2,hs,hm⟩:=in_pts h
 clear hs
 match k,h1,h2,hm with
 | 1,_,_,hm=>exact map_at (f:=fun p=>m55 puV 1000000 [cv p]) (g:=fun p=>some (untV p)) e55_1 hm
 | 2,_,_,hm=>exact map_at (f:=fun p=>m55 puV 1000000 [cv p]) (g:=fun p=>some (untV p)) e55_2 hm
 | 3,_,_,hm=>exact map_at (f:=fun p=>m55 puV 1000000 [cv p]) (g:=fun p=>some (untV p)) e55_3 hm
 | 4,_,_,hm=>exact map_at (f:=fun p=>m55 puV 1000000 [cv p]) (g:=fun p=>some (untV p)) e55_4 hm
 | 5,_,_,hm=>exact map_at (f:=fun p=>m55 puV 1000000 [cv p]) (g:=fun p=>some (untV p)) e55_5 hm
 | 6,_,_,hm=>exact map_at (f:=fun p=>m55 puV 1000000 [cv p]) (g:=fun p=>some (untV p)) e55_6 hm
 | 7,_,_,hm=>exact map_at (f:=fun p=>m55 puV 1000000 [cv p]) (g:=fun p=>some (untV p)) e55_7 hm
 | 8,_,_,hm=>exact map_at (f:=fun p=>m55 puV 1000000 [cv p]) (g:=fun p=>some (untV p)) e55_8 hm
 | 9,_,_,hm=>exact map_at (f:=fun p=>m55 puV 1000000 [cv p]) (g:=fun p=>some (untV p)) e55_9 hm
 | 10,_,_,hm=>exact map_at (f:=fun p=>m55 puV 1000000 [cv p]) (g:=fun p=>some (untV p)) e55_10 hm
 | 11,_,_,hm=>exact map_at (f:=fun p=>m55 puV 1000000 [cv p]) (g:=fun p=>some (untV p)) e55_11 hm
 | 12,_,_,hm=>exact map_at (f:=fun p=>m55 puV 1000000 [cv p]) (g:=fun p=>some (untV p)) e55_12 hm
 | 13,_,_,hm=>exact map_at (f:=fun p=>m55 puV 1000000 [cv p]) (g:=fun p=>some (untV p)) e55_13 hm
 | 14,_,_,hm=>exact map_at (f:=fun p=>m55 puV 1000000 [cv p]) (g:=fun p=>some (untV p)) e55_14 hm
 | 15,_,_,hm=>exact map_at (f:=fun p=>m55 puV 1000000 [cv p]) (g:=fun p=>some (untV p)) e55_15 hm
 | k + 16,_,h2,_=>omega
theorem puV_g (g:FuncId) (h1:Nat.beq g 29 = false) (h2:Nat.beq g 59 = false):puV g = pu0 g:=by unfold puV;rw [h1,h2,bb_false,bb_false]
theorem qV (hm:Tryz.prog.follows .mixedOrders = true):∀ g,isP g = true→PureOk Tryz.prog tabs g (puV g):=fun g hg=>by
 have all:=(all_ok hm (hw hm) 30).1
 cases h1:Nat.beq g 29 with
 | true =>
  obtain rfl:=Nat.eq_of_beq_eq_true h1
  exact pure_le (all 29 hg) fun a v h=>by
   obtain ⟨p,rfl,hp,h⟩:=onC_inv h
   rw [←h];exact P29 hp
 | false =>
  cases h2:Nat.beq g 59 with
  | true =>
   obtain rfl:=Nat.eq_of_beq_eq_true h2
   exact pure_le (all 59 hg) fun a v h=>by
    obtain ⟨p,rfl,hp,h⟩:=onC_inv h
    rw [←h];exact P59 hp
  | false=>rw [puV_g g h1 h2];exact all g hg
theorem ok55 (hm:Tryz.prog.follows .mixedOrders = true):PureOk Tryz.prog tabs 55 (m55 puV 1000000):=by
 have all:=all_ok hm (hw hm) 30
 have hc:=callP_ok (P:=Tryz.prog) (tabs:=tabs) (pu:=puV) tabs_ne tabs_pl (inl_ok hm (pu:=puV) (by rw [puV_g 56 rfl rfl];exact all.2.1) (by rw [puV_g 60 rfl rfl];exact all.2.2.1) (by rw [puV_g 68 rfl rfl];exact all.2.2.2.1) (by rw [puV_g 10440 rfl rfl];exact all.2.2.2.2)) (qV hm)
 exact pureOk_of_run (tabs:=tabs) (f:=m55 puV 1000000) ttOk hm hc fk55 fun args v h hx=>r55 puV 1000000 rfl h hx
theorem qU (hm:Tryz.prog.follows .mixedOrders = true):∀ g,isQ g = true→PureOk Tryz.prog tabs g (puU g):=fun g hg=>by
 cases h:Nat.beq g 55 with
 | true =>
  obtain rfl:=Nat.eq_of_beq_eq_true h
  exact pure_le (ok55 hm) fun a v h=>by
   obtain ⟨p,rfl,hp,h⟩:=onC_inv h
   rw [←h];exact P55 hp
 | false=>unfold puU;rw [h,bb_false];exact q0 hm g hg
theorem ok8 (hm:Tryz.prog.follows .mixedOrders = true):PureOk Tryz.prog tabs 8 orcE:=by
 refine pureOk_deep (tabs:=tabs) (n:=200) (g:=8) (H:=tabsHeap tabs) (isP:=fun _=>false) (pu:=fun _ _=>none) (inl:=fun _ _ _=>none) ttOk tabs_ne tabs_pl fnsOk hm (fun g hg=>by cases hg) no_ok (fun i=>tabsHeap_get i) rfl (enter_ok fok8) fun args v h=>?_
 replace h:=ll_uncons h;obtain ⟨a,r,rfl,h⟩:=h
 replace h:=ll_end h;obtain ⟨rfl,h⟩:=h
 replace h:=oo_inv h;obtain ⟨z,hz,h⟩:=h
 obtain rfl:=toI_some hz
 replace h:=oo_inv h;obtain ⟨n,hn,h⟩:=h
 obtain rfl:=toN_some hn
 match n with
 | 0=>exact absurd (show (none:Option Value) = some v from h) (by simp)
 | 1=>injection (show some _ = some v from h) with h;subst h;exact ⟨by kernel_rfl,2,.inl ev8_1⟩
 | 2=>injection (show some _ = some v from h) with h;subst h;exact ⟨by kernel_rfl,2,.inl ev8_2⟩
 | 3=>injection (show some _ = some v from h) with h;subst h;exact ⟨by kernel_rfl,2,.inl ev8_3⟩
 | 4=>injection (show some _ = some v from h) with h;subst h;exact ⟨by kernel_rfl,2,.inl ev8_4⟩
 | 5=>injection (show some _ = some v from h) with h;subst h;exact ⟨by kernel_rfl,2,.inl ev8_5⟩
 | 6=>injection (show some _ = some v from h) with h;subst h;exact ⟨by kernel_rfl,2,.inl ev8_6⟩
 | 7=>injection (show some _ = some v from h) with h;subst h;exact ⟨by kernel_rfl,2,.inl ev8_7⟩
 | 8=>injection (show some _ = some v from h) with h;subst h;exact ⟨by kernel_rfl,2,.inl ev8_8⟩
 | 9=>injection (show some _ = some v from h) with h;subst h;exact ⟨by kernel_rfl,2,.inl ev8_9⟩
 | 10=>injection (show some _ = some v from h) with h;subst h;exact ⟨by kernel_rfl,2,.inl ev8_10⟩
 | 11=>injection (show some _ = some v from h) with h;subst h;exact ⟨by kernel_rfl,2,.inl ev8_11⟩
 | 12=>injection (show some _ = some v from h) with h;subst h;exact ⟨by kernel_rfl,2,.inl ev8_12⟩
 | 13=>injection (show some _ = some v from h) with h;subst h;exact ⟨by kernel_rfl,2,.inl ev8_13⟩
 | 14=>injection (show some _ = some v from h) with h;subst h;exact ⟨by kernel_rfl,2,.inl ev8_14⟩
 | 15=>injection (show some _ = some v from h) with h;subst h;exact ⟨by kernel_rfl,2,.inl ev8_15⟩
 | n + 16=>exact absurd (show (none:Option Value) = some v from h) (by simp)
theorem ok25 (hm:Tryz.prog.follows .mixedOrders = true):PureOk Tryz.prog tabs 25 orcM:=by
 refine pureOk_deep (tabs:=tabs) (n:=400) (g:=25) (H:=tabsHeap tabs) (isP:=isQ) (pu:=puU) (inl:=inl pu0) ttOk tabs_ne tabs_pl fnsOk hm (qU hm) (i0 hm) (fun i=>tabsHeap_get i) rfl (enter_ok fok25) fun args v h=>?_
 replace h:=ll_uncons h;obtain ⟨a,r,rfl,h⟩:=h
 replace h:=ll_end h;obtain ⟨rfl,h⟩:=h
 replace h:=oo_inv h;obtain ⟨z,hz,h⟩:=h
 obtain rfl:=toI_some hz
 replace h:=oo_inv h;obtain ⟨n,hn,h⟩:=h
 obtain rfl:=toN_some hn
 match n with
 | 0=>exact absurd (show (none:Option Value) = some v from h) (by simp)
 | 1=>injection (show some _ = some v from h) with h;subst h;exact ⟨by kernel_rfl,2,.inr ev25_1⟩
 | 2=>injection (show some _ = some v from h) with h;subst h;exact ⟨by kernel_rfl,2,.inr ev25_2⟩
 | 3=>injection (show some _ = some v from h) with h;subst h;exact ⟨by kernel_rfl,2,.inr ev25_3⟩
 | 4=>injection (show some _ = some v from h) with h;subst h;exact ⟨by kernel_rfl,2,.inr ev25_4⟩
 | 5=>injection (show some _ = some v from h) with h;subst h;exact ⟨by kernel_rfl,2,.inr ev25_5⟩
 | 6=>injection (show some _ = some v from h) with h;subst h;exact ⟨by kernel_rfl,2,.inr ev25_6⟩
 | 7=>injection (show some _ = some v from h) with h;subst h;exact ⟨by kernel_rfl,2,.inr ev25_7⟩
 | 8=>injection (show some _ = some v from h) with h;subst h;exact ⟨by kernel_rfl,2,.inr ev25_8⟩
 | 9=>injection (show some _ = some v from h) with h;subst h;exact ⟨by kernel_rfl,2,.inr ev25_9⟩
 | 10=>injection (show some _ = some v from h) with h;subst h;exact ⟨by kernel_rfl,2,.inr ev25_10⟩
 | 11=>injection (show some _ = some v from h) with h;subst h;exact ⟨by kernel_rfl,2,.inr ev25_11⟩
 | 12=>injection (show some _ = some v from h) with h;subst h;exact ⟨by kernel_rfl,2,.inr ev25_12⟩
 | 13=>injection (show some _ = some v from h) with h;subst h;exact ⟨by kernel_rfl,2,.inr ev25_13⟩
 | 14=>injection (show some _ = some v from h) with h;subst h;exact ⟨by kernel_rfl,2,.inr ev25_14⟩
 | 15=>injection (show some _ = some v from h) with h;subst h;exact ⟨by kernel_rfl,2,.inr ev25_15⟩
 | n + 16=>exact absurd (show (none:Option Value) = some v from h) (by simp)
theorem ok16 (hm:Tryz.prog.follows .mixedOrders = true):PureOk Tryz.prog tabs 16 tru:=by
 refine pureOk_closedP (tabs:=tabs) (n:=400) (g:=16) (H:=tabsHeap tabs) (isP:=isQ) (pu:=pu0) (inl:=inl pu0) ttOk tabs_ne tabs_pl fnsOk hm (q0 hm) (i0 hm) (fun i=>tabsHeap_get i) rfl (enter_ok fok16) fun args v h=>?_
 replace h:=ll_end h;obtain ⟨rfl,h⟩:=h
 injection h with h;subst h
 exact ⟨rfl,.inl worksRun⟩
theorem ok15 (hm:Tryz.prog.follows .mixedOrders = true):PureOk Tryz.prog tabs 15 orcR:=pure_le ((all_ok hm (hw hm) 30).1 15 rfl) fun a v h=>by
 obtain ⟨p,rfl,hp,h⟩:=onP_inv h
 rw [←h];exact HzLM.p15 28 hp
theorem allW (hm:Tryz.prog.follows .mixedOrders = true):∀ g,isP g = true→PureOk Tryz.prog tabs g (puW g):=fun g hg=>by
 cases h8:Nat.beq g 8 with
 | true=>obtain rfl:=Nat.eq_of_beq_eq_true h8;exact ok8 hm
 | false =>
  cases h25:Nat.beq g 25 with
  | true=>obtain rfl:=Nat.eq_of_beq_eq_true h25;exact ok25 hm
  | false =>
   cases h16:Nat.beq g 16 with
   | true=>obtain rfl:=Nat.eq_of_beq_eq_true h16;exact ok16 hm
   | false =>
    cases h15:Nat.beq g 15 with
    | true=>obtain rfl:=Nat.eq_of_beq_eq_true h15;exact ok15 hm
    | false =>
     rw [puW_g g h8 h25 h16 h15];exact (all_ok hm (hw hm) 30).1 g hg
noncomputable def mLaw (args:List Value):Option Value:=m6 puW 1000000 args
theorem lawOk (hm:Tryz.prog.follows .mixedOrders = true):PureOk Tryz.prog [] 6 mLaw:=by
 have all:=all_ok hm (hw hm) 30
 have hc:=callP_ok (P:=Tryz.prog) (tabs:=tabs) (pu:=puW) tabs_ne tabs_pl (inl_ok hm (pu:=puW) (by rw [puW_g 56 rfl rfl rfl rfl];exact all.2.1) (by rw [puW_g 60 rfl rfl rfl rfl];exact all.2.2.1) (by rw [puW_g 68 rfl rfl rfl rfl];exact all.2.2.2.1) (by rw [puW_g 10440 rfl rfl rfl rfl];exact all.2.2.2.2)) (allW hm)
 exact pureOk_of_run (tabs:=tabs) (f:=mLaw) ttOk hm hc fk6 fun args v h hx=>r6 puW 1000000 rfl h hx
theorem mLaw_ok (x:Int) (hx:0≤x∧x < 256):mLaw [.int .u8 x] = some (.bool true):=by
 obtain ⟨y,rfl⟩:∃ y:Nat,x = Int.ofNat y:=⟨x.toNat,by simp only [Int.ofNat_eq_natCast];omega⟩
 simp only [Int.ofNat_eq_natCast] at hx
 have ew:∀ z:Nat,z < 256→Int.tmod (wrapF .i64 (Int.ofNat z)) 15 = Int.ofNat (z % 15):=fun z hz=>by
  rw [wrapI _ (by simp only [Int.ofNat_eq_natCast];omega) (by simp only [Int.ofNat_eq_natCast];omega)]
  exact (Int.ofNat_tmod z 15).symm
 have e:m6_ puW 1000000 (Int.ofNat y) = m6_ puW 1000000 (Int.ofNat (y % 15)):=by
  unfold m6_;rw [ew y (by omega),ew (y % 15) (by omega),Nat.mod_mod]
 refine Eq.trans (b:=m6_ puW 1000000 (Int.ofNat y)) (by kernel_rfl) (e.trans ?_)
 have hy:y % 15 < 15:=Nat.mod_lt _ (by omega)
 generalize y % 15 = k at hy
 match k,hy with
 | 0,_=>exact law_0
 | 1,_=>exact law_1
 | 2,_=>exact law_2
 | 3,_=>exact law_3
 | 4,_=>exact law_4
 | 5,_=>exact law_5
 | 6,_=>exact law_6
 | 7,_=>exact law_7
 | 8,_=>exact law_8
 | 9,_=>exact law_9
 | 10,_=>exact law_10
 | 11,_=>exact law_11
 | 12,_=>exact law_12
 | 13,_=>exact law_13
 | 14,_=>exact law_14
 | k + 15,h=>omega
end Go.Proofs.YtkhedoaiejjcfaaGreat.HzL
