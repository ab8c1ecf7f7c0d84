/- Made from wip. -/
import Derived.Test.YtkhedoaiejjcfaaHvRRepx
import Derived.Test.YtkhedoaiejjcfaaHvRLaw2

set_option maxRecDepth 100000
set_option maxHeartbeats 0
namespace Go.Proofs.Ytkhedoaiejjcfaa.HvR
open Go Go.Sp Go.HvRM Go.HvR Go.HpT
theorem hw (hm:Try.prog.follows .mixedOrders = true):PureOk Try.prog tabs 5 orc5∧PureOk Try.prog tabs 8 orc8∧PureOk Try.prog tabs 26 orc26∧PureOk Try.prog tabs 53 orc53∧PureOk Try.prog tabs 63 orc63:=⟨⟨enter_ok fok5,fun _ _ h=>by cases h⟩,⟨enter_ok fok8,fun _ _ h=>by cases h⟩,⟨enter_ok fok26,fun _ _ h=>by cases h⟩,orc53_ok hm,orc63_ok hm⟩
theorem q0 (hm:Try.prog.follows .mixedOrders = true):∀ g,isQ g = true→PureOk Try.prog tabs g (pu0 g):=fun g hg=>(all_ok hm (hw hm) 60).1 g (an_inv hg).1
theorem i0 (hm:Try.prog.follows .mixedOrders = true):CallOk Try.prog (List.range tabs.length) (inl pu0):=by
 have all:=all_ok hm (hw hm) 60
 exact inl_ok hm all.2.1 all.2.2.1 all.2.2.2
theorem pure_le {P:Program} {tabs:List (List Value)} {g:FuncId} {f f':List Value→Option Value} (h:PureOk P tabs g f) (hf:∀ a v,f' a = some v→f a = some v):PureOk P tabs g f':=⟨h.1,fun args v hv=>h.2 args v (hf args v hv)⟩
theorem o_tR (hm:Try.prog.follows .mixedOrders = true):PureOk Try.prog tabs 57 tR:=pure_le ((all_ok hm (hw hm) 60).1 57 rfl) fun a v h=>by
 obtain ⟨p,rfl,hp,h⟩:=onP_inv h
 rw [←h];exact P57 hp
theorem g_puA (g:FuncId) (h57:Nat.beq g 57 = false):puA g = puN 60 g:=by unfold puA;rw [h57,bb_false]
theorem q_puA (hm:Try.prog.follows .mixedOrders = true):∀ g,isP g = true→PureOk Try.prog tabs g (puA g):=fun g hg=>by
 cases h57:Nat.beq g 57 with
 | true=>obtain rfl:=Nat.eq_of_beq_eq_true h57;exact o_tR hm
 | false =>
  rw [g_puA g h57];exact (all_ok hm (hw hm) 60).1 g hg
theorem i_puA (hm:Try.prog.follows .mixedOrders = true):CallOk Try.prog (List.range tabs.length) (callP tabs isP puA (inl puA)):=by
 have all:=all_ok hm (hw hm) 60
 exact callP_ok (P:=Try.prog) (tabs:=tabs) (pu:=puA) tabs_ne tabs_pl (inl_ok hm (pu:=puA) (by rw [g_puA 46 rfl];exact all.2.1) (by rw [g_puA 53 rfl];exact all.2.2.1) (by rw [g_puA 63 rfl];exact all.2.2.2)) (q_puA hm)
theorem o_tB (hm:Try.prog.follows .mixedOrders = true):PureOk Try.prog tabs 44 tB:=pure_le (pureOk_of_run (tabs:=tabs) (f:=m44 puA 1000000) ttOk hm (i_puA hm) fk44 fun args v h hx=>r44 puA 1000000 rfl h hx) fun a v h=>by
 obtain ⟨p,rfl,hp,h⟩:=onP_inv h
 rw [←h];exact P44 hp
theorem g_puB (g:FuncId) (h57:Nat.beq g 57 = false) (h44:Nat.beq g 44 = false):puB g = puN 60 g:=by unfold puB;rw [h57,bb_false,h44,bb_false]
theorem q_puB (hm:Try.prog.follows .mixedOrders = true):∀ g,isP g = true→PureOk Try.prog tabs g (puB g):=fun g hg=>by
 cases h57:Nat.beq g 57 with
 | true=>obtain rfl:=Nat.eq_of_beq_eq_true h57;exact o_tR hm
 | false =>
  cases h44:Nat.beq g 44 with
  | true=>obtain rfl:=Nat.eq_of_beq_eq_true h44;exact o_tB hm
  | false =>
   rw [g_puB g h57 h44];exact (all_ok hm (hw hm) 60).1 g hg
theorem i_puB (hm:Try.prog.follows .mixedOrders = true):CallOk Try.prog (List.range tabs.length) (callP tabs isP puB (inl puB)):=by
 have all:=all_ok hm (hw hm) 60
 exact callP_ok (P:=Try.prog) (tabs:=tabs) (pu:=puB) tabs_ne tabs_pl (inl_ok hm (pu:=puB) (by rw [g_puB 46 rfl rfl];exact all.2.1) (by rw [g_puB 53 rfl rfl];exact all.2.2.1) (by rw [g_puB 63 rfl rfl];exact all.2.2.2)) (q_puB hm)
theorem o_tU (hm:Try.prog.follows .mixedOrders = true):PureOk Try.prog tabs 56 tU:=pure_le (pureOk_of_run (tabs:=tabs) (f:=m56 puB 1000000) ttOk hm (i_puB hm) fk56 fun args v h hx=>r56 puB 1000000 rfl h hx) fun a v h=>by
 obtain ⟨p,rfl,hp,h⟩:=onP_inv h
 rw [←h];exact P56 hp
theorem g_puC (g:FuncId) (h57:Nat.beq g 57 = false) (h56:Nat.beq g 56 = false):puC g = puN 60 g:=by unfold puC;rw [h57,bb_false,h56,bb_false]
theorem q_puC (hm:Try.prog.follows .mixedOrders = true):∀ g,isP g = true→PureOk Try.prog tabs g (puC g):=fun g hg=>by
 cases h57:Nat.beq g 57 with
 | true=>obtain rfl:=Nat.eq_of_beq_eq_true h57;exact o_tR hm
 | false =>
  cases h56:Nat.beq g 56 with
  | true=>obtain rfl:=Nat.eq_of_beq_eq_true h56;exact o_tU hm
  | false =>
   rw [g_puC g h57 h56];exact (all_ok hm (hw hm) 60).1 g hg
theorem i_puC (hm:Try.prog.follows .mixedOrders = true):CallOk Try.prog (List.range tabs.length) (callP tabs isP puC (inl puC)):=by
 have all:=all_ok hm (hw hm) 60
 exact callP_ok (P:=Try.prog) (tabs:=tabs) (pu:=puC) tabs_ne tabs_pl (inl_ok hm (pu:=puC) (by rw [g_puC 46 rfl rfl];exact all.2.1) (by rw [g_puC 53 rfl rfl];exact all.2.2.1) (by rw [g_puC 63 rfl rfl];exact all.2.2.2)) (q_puC hm)
theorem o_tG (hm:Try.prog.follows .mixedOrders = true):PureOk Try.prog tabs 28 tG:=pure_le (pureOk_of_run (tabs:=tabs) (f:=m28 puC 1000000) ttOk hm (i_puC hm) fk28 fun args v h hx=>r28 puC 1000000 rfl h hx) fun a v h=>by
 obtain ⟨p,rfl,hp,h⟩:=onP_inv h
 rw [←h];exact P28 hp
theorem o_orcAll (hm:Try.prog.follows .mixedOrders = true):PureOk Try.prog tabs 29 orcAll:=pure_le ((all_ok hm (hw hm) 60).1 29 rfl) fun a v h=>by
 replace h:=ll_uncons h;obtain ⟨a,r,rfl,h⟩:=h
 replace h:=ll_uncons h;obtain ⟨b,r,rfl,h⟩:=h
 replace h:=ll_end h;obtain ⟨rfl,h⟩:=h
 replace h:=oo_inv h;obtain ⟨z,hz,h⟩:=h
 obtain rfl:=toI_some hz
 replace h:=oo_inv h;obtain ⟨n,hn,h⟩:=h
 obtain rfl:=toN_some hn
 replace h:=oo_inv h;obtain ⟨y,hy,h⟩:=h
 obtain rfl:=toI_some hy
 replace h:=bb_inv h;obtain ⟨hc,h⟩:=h
 rw [ieq_eq] at hc
 have hc:y = 21:=of_decide_eq_true hc
 subst hc
 match n with
 | 0=>exact absurd (show (none:Option Value) = some v from h) (by simp)
 | 1=>exact (e29_1).trans (show some eV1 = some v from h)
 | 2=>exact (e29_2).trans (show some eV2 = some v from h)
 | 3=>exact (e29_3).trans (show some eV3 = some v from h)
 | 4=>exact (e29_4).trans (show some eV4 = some v from h)
 | 5=>exact (e29_5).trans (show some eV5 = some v from h)
 | 6=>exact (e29_6).trans (show some eV6 = some v from h)
 | 7=>exact (e29_7).trans (show some eV7 = some v from h)
 | 8=>exact (e29_8).trans (show some eV8 = some v from h)
 | 9=>exact (e29_9).trans (show some eV9 = some v from h)
 | 10=>exact (e29_10).trans (show some eV10 = some v from h)
 | 11=>exact (e29_11).trans (show some eV11 = some v from h)
 | 12=>exact (e29_12).trans (show some eV12 = some v from h)
 | 13=>exact (e29_13).trans (show some eV13 = some v from h)
 | 14=>exact (e29_14).trans (show some eV14 = some v from h)
 | n + 15=>exact absurd (show (none:Option Value) = some v from h) (by simp)
theorem g_puD (g:FuncId) (h28:Nat.beq g 28 = false) (h29:Nat.beq g 29 = false) (h44:Nat.beq g 44 = false):puD g = puN 60 g:=by unfold puD;rw [h28,bb_false,h29,bb_false,h44,bb_false]
theorem q_puD (hm:Try.prog.follows .mixedOrders = true):∀ g,isP g = true→PureOk Try.prog tabs g (puD g):=fun g hg=>by
 cases h28:Nat.beq g 28 with
 | true=>obtain rfl:=Nat.eq_of_beq_eq_true h28;exact o_tG hm
 | false =>
  cases h29:Nat.beq g 29 with
  | true=>obtain rfl:=Nat.eq_of_beq_eq_true h29;exact o_orcAll hm
  | false =>
   cases h44:Nat.beq g 44 with
   | true=>obtain rfl:=Nat.eq_of_beq_eq_true h44;exact o_tB hm
   | false =>
    rw [g_puD g h28 h29 h44];exact (all_ok hm (hw hm) 60).1 g hg
theorem i_puD (hm:Try.prog.follows .mixedOrders = true):CallOk Try.prog (List.range tabs.length) (callP tabs isP puD (inl puD)):=by
 have all:=all_ok hm (hw hm) 60
 exact callP_ok (P:=Try.prog) (tabs:=tabs) (pu:=puD) tabs_ne tabs_pl (inl_ok hm (pu:=puD) (by rw [g_puD 46 rfl rfl rfl];exact all.2.1) (by rw [g_puD 53 rfl rfl rfl];exact all.2.2.1) (by rw [g_puD 63 rfl rfl rfl];exact all.2.2.2)) (q_puD hm)
theorem o_cB (hm:Try.prog.follows .mixedOrders = true):PureOk Try.prog tabs 47 cB:=pure_le ((all_ok hm (hw hm) 60).1 47 rfl) fun a v h=>by
 obtain ⟨p,rfl,hp,h⟩:=onC_inv h
 rw [←h];exact P47 hp
theorem o_cR (hm:Try.prog.follows .mixedOrders = true):PureOk Try.prog tabs 45 cR:=pure_le ((all_ok hm (hw hm) 60).1 45 rfl) fun a v h=>by
 obtain ⟨p,rfl,hp,h⟩:=onC_inv h
 rw [←h];exact P45 hp
theorem g_puV (g:FuncId) (h47:Nat.beq g 47 = false) (h45:Nat.beq g 45 = false):puV g = puN 60 g:=by unfold puV;rw [h47,bb_false,h45,bb_false]
theorem q_puV (hm:Try.prog.follows .mixedOrders = true):∀ g,isP g = true→PureOk Try.prog tabs g (puV g):=fun g hg=>by
 cases h47:Nat.beq g 47 with
 | true=>obtain rfl:=Nat.eq_of_beq_eq_true h47;exact o_cB hm
 | false =>
  cases h45:Nat.beq g 45 with
  | true=>obtain rfl:=Nat.eq_of_beq_eq_true h45;exact o_cR hm
  | false =>
   rw [g_puV g h47 h45];exact (all_ok hm (hw hm) 60).1 g hg
theorem i_puV (hm:Try.prog.follows .mixedOrders = true):CallOk Try.prog (List.range tabs.length) (callP tabs isP puV (inl puV)):=by
 have all:=all_ok hm (hw hm) 60
 exact callP_ok (P:=Try.prog) (tabs:=tabs) (pu:=puV) tabs_ne tabs_pl (inl_ok hm (pu:=puV) (by rw [g_puV 46 rfl rfl];exact all.2.1) (by rw [g_puV 53 rfl rfl];exact all.2.2.1) (by rw [g_puV 63 rfl rfl];exact all.2.2.2)) (q_puV hm)
theorem o_cU (hm:Try.prog.follows .mixedOrders = true):PureOk Try.prog tabs 49 cU:=pure_le (pureOk_of_run (tabs:=tabs) (f:=m49 puV 1000000) ttOk hm (i_puV hm) fk49 fun args v h hx=>r49 puV 1000000 rfl h hx) fun a v h=>by
 obtain ⟨p,rfl,hp,h⟩:=onC_inv h
 rw [←h];exact P49 hp
theorem qU (hm:Try.prog.follows .mixedOrders = true):∀ g,isQ g = true→PureOk Try.prog tabs g (puU g):=fun g hg=>by
 cases h:Nat.beq g 49 with
 | true=>obtain rfl:=Nat.eq_of_beq_eq_true h;exact o_cU hm
 | false=>unfold puU;rw [h,bb_false];exact q0 hm g hg
theorem o_cG (hm:Try.prog.follows .mixedOrders = true):PureOk Try.prog tabs 25 cG:=by
 refine pureOk_deep (tabs:=tabs) (n:=400) (g:=25) (H:=tabsHeap tabs) (isP:=isQ) (pu:=puU) (inl:=inl pu0) ttOk tabs_ne tabs_pl fnsOk hm (qU hm) (i0 hm) (fun i=>tabsHeap_get i) rfl (enter_ok fok25) fun args v h=>?_
 obtain ⟨p,rfl,hp,h⟩:=onC_inv h
 injection h with h;subst h
 exact ⟨rfl,2,.inl (P25 hp)⟩
theorem o_cA (hm:Try.prog.follows .mixedOrders = true):PureOk Try.prog tabs 26 cA:=by
 have h1:PureOk Try.prog tabs 26 (fun args=>onC args fun p=>bb (nilL (aheadT p)) none (some (aR p))):=by
  refine pureOk_deep (tabs:=tabs) (n:=400) (g:=26) (H:=tabsHeap tabs) (isP:=isQ) (pu:=pu0) (inl:=inl pu0) ttOk tabs_ne tabs_pl fnsOk hm (q0 hm) (i0 hm) (fun i=>tabsHeap_get i) rfl (enter_ok fok26) fun args v h=>?_
  obtain ⟨p,rfl,hp,h⟩:=onC_inv h
  have e:=P26 hp
  cases hn:nilL (aheadT p) with
  | true=>rw [hn,bb_true] at h;cases h
  | false =>
   rw [hn,bb_false] at h e
   injection h with h;subst h
   refine ⟨?_,2,.inl e⟩
   unfold aR;rw [hn];rfl
 have h2:PureOk Try.prog tabs 26 (fun args=>onC args fun p=>bb (nilL (aheadT p)) (some (aR p)) none):=by
  refine pureOk_closedP (tabs:=tabs) (n:=400) (g:=26) (H:=tabsHeap tabs) (isP:=isQ) (pu:=pu0) (inl:=inl pu0) ttOk tabs_ne tabs_pl fnsOk hm (q0 hm) (i0 hm) (fun i=>tabsHeap_get i) rfl (enter_ok fok26) fun args v h=>?_
  obtain ⟨p,rfl,hp,h⟩:=onC_inv h
  have e:=P26 hp
  cases hn:nilL (aheadT p) with
  | false=>rw [hn,bb_false] at h;cases h
  | true =>
   rw [hn,bb_true] at h e
   injection h with h;subst h
   refine ⟨?_,.inl e⟩
   unfold aR;rw [hn];rfl
 have h0:PureOk Try.prog tabs 26 (fun args=>onC args fun p=>some (aR p)):=⟨h1.1,fun args v hv=>by
  obtain ⟨p,rfl,hp,hv⟩:=onC_inv hv
  cases hn:nilL (aheadT p) with
  | false=>exact h1.2 [cv p] v (by show onC [cv p] _ = _;rw [onC_to hp,hn,bb_false];exact hv)
  | true=>exact h2.2 [cv p] v (by show onC [cv p] _ = _;rw [onC_to hp,hn,bb_true];exact hv)⟩
 refine ⟨h0.1,fun args v hv hcl R w args' hR hs ha=>?_⟩
 have hq:∃ p,v = aV p∧(fun args=>onC args fun p=>some (aR p)) args = some (aR p):=by
  replace hv:=ll_uncons hv;obtain ⟨a,r,rfl,hv⟩:=hv
  replace hv:=ll_end hv;obtain ⟨rfl,hv⟩:=hv
  obtain ⟨cs,hs,h1⟩:=oo_inv hv
  obtain ⟨p,hp,h2⟩:=oo_inv h1
  obtain ⟨hc,h3⟩:=bb_inv h2
  injection h3 with h3;subst h3
  refine ⟨p,rfl,?_⟩
  show oo (vAgg a) none (fun cs=>oo (decC cs) none fun p=>bb (an (okP 14 p) (valsEq cs (cvl p))) (some (aR p)) none) = _
  rw [hs,oo_some,hp,oo_some,hc,bb_true]
 obtain ⟨p,rfl,hq⟩:=hq
 refine (h0.2 _ _ hq hcl R w args' hR hs ha).mono fun e w' ⟨u,H',R',he,_,hu,hpo⟩=>⟨u,H',R',he,?_,?_,hpo⟩
 ·unfold aV
  cases nilL (aheadT p) <;> rfl
 ·unfold aR at hu
  unfold aV
  cases hn:nilL (aheadT p) with
  | true=>rw [hn,bb_true] at hu;rw [bb_true];exact Weak.nil 1 2 (by decide) _ _ hu
  | false=>rw [hn,bb_false] at hu;rw [bb_false];exact hu
theorem g_puY (g:FuncId) (h26:Nat.beq g 26 = false) (h25:Nat.beq g 25 = false):puY g = puN 60 g:=by unfold puY;rw [h26,bb_false,h25,bb_false]
theorem q_puY (hm:Try.prog.follows .mixedOrders = true):∀ g,isP g = true→PureOk Try.prog tabs g (puY g):=fun g hg=>by
 cases h26:Nat.beq g 26 with
 | true=>obtain rfl:=Nat.eq_of_beq_eq_true h26;exact o_cA hm
 | false =>
  cases h25:Nat.beq g 25 with
  | true=>obtain rfl:=Nat.eq_of_beq_eq_true h25;exact o_cG hm
  | false =>
   rw [g_puY g h26 h25];exact (all_ok hm (hw hm) 60).1 g hg
theorem i_puY (hm:Try.prog.follows .mixedOrders = true):CallOk Try.prog (List.range tabs.length) (callP tabs isP puY (inl puY)):=by
 have all:=all_ok hm (hw hm) 60
 exact callP_ok (P:=Try.prog) (tabs:=tabs) (pu:=puY) tabs_ne tabs_pl (inl_ok hm (pu:=puY) (by rw [g_puY 46 rfl rfl];exact all.2.1) (by rw [g_puY 53 rfl rfl];exact all.2.2.1) (by rw [g_puY 63 rfl rfl];exact all.2.2.2)) (q_puY hm)
theorem o5 (hm:Try.prog.follows .mixedOrders = true):PureOk Try.prog tabs 5 tru:=by
 refine pureOk_closedP (tabs:=tabs) (n:=400) (g:=5) (H:=tabsHeap tabs) (isP:=isQ) (pu:=pu0) (inl:=inl pu0) ttOk tabs_ne tabs_pl fnsOk hm (q0 hm) (i0 hm) (fun i=>tabsHeap_get i) rfl (enter_ok fok5) fun args v h=>?_
 replace h:=ll_end h;obtain ⟨rfl,h⟩:=h
 injection h with h;subst h
 exact ⟨rfl,.inl worksRun⟩
theorem o6 (hm:Try.prog.follows .mixedOrders = true):PureOk Try.prog tabs 6 (m6 puY 1000000):=pureOk_of_run (tabs:=tabs) (f:=m6 puY 1000000) ttOk hm (i_puY hm) fk6 fun args v h hx=>r6 puY 1000000 rfl h hx
theorem o7 (hm:Try.prog.follows .mixedOrders = true):PureOk Try.prog tabs 7 (m7 puD 1000000):=pureOk_of_run (tabs:=tabs) (f:=m7 puD 1000000) ttOk hm (i_puD hm) fk7 fun args v h hx=>r7 puD 1000000 rfl h hx
theorem o9 (hm:Try.prog.follows .mixedOrders = true):PureOk Try.prog tabs 9 (m9 puD 1000000):=pureOk_of_run (tabs:=tabs) (f:=m9 puD 1000000) ttOk hm (i_puD hm) fk9 fun args v h hx=>r9 puD 1000000 rfl h hx
noncomputable def nilR:Value:=.tuple ⟨[.slice none 0 0,.int .i64 1]⟩
noncomputable def nilW:Value:=.tuple ⟨[Sl.v 1 ⟨0,2,[]⟩,.int .i64 1]⟩
noncomputable def or8R (args:List Value):Option Value:=ll args none fun a r=>ll r (oo (toI .i64 a) none fun z=>ii z (fun n=>bb (Nat.ble 22 n) (some nilR) (bb (Nat.beq n 0) (some nilR) (oo (nthL or8L n) none fun v=>v))) fun _=>some nilR) fun _ _=>none
theorem o8R (hm:Try.prog.follows .mixedOrders = true):PureOk Try.prog tabs 8 or8R:=by
 refine pureOk_deep (tabs:=tabs) (n:=400) (g:=8) (H:=tabsHeap tabs) (isP:=isQ) (pu:=pu0) (inl:=inl pu0) ttOk tabs_ne tabs_pl fnsOk hm (q0 hm) (i0 hm) (fun i=>tabsHeap_get i) rfl (enter_ok fok8) fun args v h=>?_
 replace h:=ll_uncons h;obtain ⟨a,r,rfl,h⟩:=h
 replace h:=ll_end h;obtain ⟨rfl,h⟩:=h
 replace h:=oo_inv h;obtain ⟨z,hz,h⟩:=h
 obtain rfl:=toI_some hz
 cases z with
 | negSucc m =>
  injection (show some nilR = some v from h) with h;subst h
  cases m with
  | zero=>exact ⟨rfl,3,.inr e8_n0⟩
  | succ m=>exact ⟨rfl,3,.inr (e8_n m)⟩
 | ofNat n =>
  replace h:bb (Nat.ble 22 n) (some nilR) (bb (Nat.beq n 0) (some nilR) (oo (nthL or8L n) none fun v=>v)) = some v:=h
  match n with
  | 0=>injection (show some nilR = some v from h) with h;subst h;exact ⟨rfl,3,.inr e8_0⟩
  | 1=>injection (show some eG1 = some v from h) with h;subst h;exact ⟨by kernel_rfl,3,.inr e8_1⟩
  | 2=>injection (show some eG2 = some v from h) with h;subst h;exact ⟨by kernel_rfl,3,.inr e8_2⟩
  | 3=>injection (show some eG3 = some v from h) with h;subst h;exact ⟨by kernel_rfl,3,.inr e8_3⟩
  | 4=>injection (show some eG4 = some v from h) with h;subst h;exact ⟨by kernel_rfl,3,.inr e8_4⟩
  | 5=>injection (show some eG5 = some v from h) with h;subst h;exact ⟨by kernel_rfl,3,.inr e8_5⟩
  | 6=>injection (show some eG6 = some v from h) with h;subst h;exact ⟨by kernel_rfl,3,.inr e8_6⟩
  | 7=>injection (show some eG7 = some v from h) with h;subst h;exact ⟨by kernel_rfl,3,.inr e8_7⟩
  | 8=>injection (show some eG8 = some v from h) with h;subst h;exact ⟨by kernel_rfl,3,.inr e8_8⟩
  | 9=>injection (show some eG9 = some v from h) with h;subst h;exact ⟨by kernel_rfl,3,.inr e8_9⟩
  | 10=>injection (show some eG10 = some v from h) with h;subst h;exact ⟨by kernel_rfl,3,.inr e8_10⟩
  | 11=>injection (show some eG11 = some v from h) with h;subst h;exact ⟨by kernel_rfl,3,.inr e8_11⟩
  | 12=>injection (show some eG12 = some v from h) with h;subst h;exact ⟨by kernel_rfl,3,.inr e8_12⟩
  | 13=>injection (show some eG13 = some v from h) with h;subst h;exact ⟨by kernel_rfl,3,.inr e8_13⟩
  | 14=>injection (show some eG14 = some v from h) with h;subst h;exact ⟨by kernel_rfl,3,.inr e8_14⟩
  | 15=>exact absurd (show (none:Option Value) = some v from h) (by simp)
  | 16=>exact absurd (show (none:Option Value) = some v from h) (by simp)
  | 17=>exact absurd (show (none:Option Value) = some v from h) (by simp)
  | 18=>exact absurd (show (none:Option Value) = some v from h) (by simp)
  | 19=>exact absurd (show (none:Option Value) = some v from h) (by simp)
  | 20=>exact absurd (show (none:Option Value) = some v from h) (by simp)
  | 21=>exact absurd (show (none:Option Value) = some v from h) (by simp)
  | m + 22 =>
   have e:Nat.ble 22 (m + 22) = true:=Nat.ble_eq_true_of_le (by omega)
   rw [e,bb_true] at h
   injection h with h;subst h
   exact ⟨rfl,3,.inr (e8_b m)⟩
theorem weak8:Weak nilR nilW:=Weak.tup (l:=[.slice none 0 0,.int .i64 1]) (l':=[Sl.v 1 ⟨0,2,[]⟩,.int .i64 1]) ⟨Weak.nil 1 2,Weak.refl _,trivial⟩
theorem pure_weak {P:Program} {tabs:List (List Value)} {g:FuncId} {f f':List Value→Option Value} (h:PureOk P tabs g f) (hf:∀ a v,f' a = some v→∃ v0,f a = some v0∧Weak v0 v∧closedV v = true):PureOk P tabs g f':=⟨h.1,fun args v hv hcl R w args' hR hs ha=>by
 obtain ⟨v0,h1,h2,h3⟩:=hf args v hv
 exact (h.2 args v0 h1 hcl R w args' hR hs ha).mono fun e w' ⟨u,H',R',he,_,hu,hp⟩=>⟨u,H',R',he,h3,h2 _ _ hu,hp⟩⟩
theorem o8 (hm:Try.prog.follows .mixedOrders = true):PureOk Try.prog tabs 8 or8:=pure_weak (o8R hm) fun args v h=>by
 replace h:=ll_uncons h;obtain ⟨a,r,rfl,h⟩:=h
 replace h:=ll_end h;obtain ⟨rfl,h⟩:=h
 replace h:=oo_inv h;obtain ⟨z,hz,h⟩:=h
 obtain rfl:=toI_some hz
 cases z with
 | negSucc m =>
  injection (show some nilW = some v from h) with h;subst h
  exact ⟨nilR,rfl,weak8,rfl⟩
 | ofNat n =>
  replace h:bb (Nat.ble 22 n) (some nilW) (oo (nthL or8L n) none fun v=>v) = some v:=h
  match n with
  | 0=>injection (show some nilW = some v from h) with h;subst h;exact ⟨nilR,rfl,weak8,rfl⟩
  | 1=>injection (show some eG1 = some v from h) with h;subst h;exact ⟨eG1,by kernel_rfl,Weak.refl _,by kernel_rfl⟩
  | 2=>injection (show some eG2 = some v from h) with h;subst h;exact ⟨eG2,by kernel_rfl,Weak.refl _,by kernel_rfl⟩
  | 3=>injection (show some eG3 = some v from h) with h;subst h;exact ⟨eG3,by kernel_rfl,Weak.refl _,by kernel_rfl⟩
  | 4=>injection (show some eG4 = some v from h) with h;subst h;exact ⟨eG4,by kernel_rfl,Weak.refl _,by kernel_rfl⟩
  | 5=>injection (show some eG5 = some v from h) with h;subst h;exact ⟨eG5,by kernel_rfl,Weak.refl _,by kernel_rfl⟩
  | 6=>injection (show some eG6 = some v from h) with h;subst h;exact ⟨eG6,by kernel_rfl,Weak.refl _,by kernel_rfl⟩
  | 7=>injection (show some eG7 = some v from h) with h;subst h;exact ⟨eG7,by kernel_rfl,Weak.refl _,by kernel_rfl⟩
  | 8=>injection (show some eG8 = some v from h) with h;subst h;exact ⟨eG8,by kernel_rfl,Weak.refl _,by kernel_rfl⟩
  | 9=>injection (show some eG9 = some v from h) with h;subst h;exact ⟨eG9,by kernel_rfl,Weak.refl _,by kernel_rfl⟩
  | 10=>injection (show some eG10 = some v from h) with h;subst h;exact ⟨eG10,by kernel_rfl,Weak.refl _,by kernel_rfl⟩
  | 11=>injection (show some eG11 = some v from h) with h;subst h;exact ⟨eG11,by kernel_rfl,Weak.refl _,by kernel_rfl⟩
  | 12=>injection (show some eG12 = some v from h) with h;subst h;exact ⟨eG12,by kernel_rfl,Weak.refl _,by kernel_rfl⟩
  | 13=>injection (show some eG13 = some v from h) with h;subst h;exact ⟨eG13,by kernel_rfl,Weak.refl _,by kernel_rfl⟩
  | 14=>injection (show some eG14 = some v from h) with h;subst h;exact ⟨eG14,by kernel_rfl,Weak.refl _,by kernel_rfl⟩
  | 15=>exact absurd (show (none:Option Value) = some v from h) (by simp)
  | 16=>exact absurd (show (none:Option Value) = some v from h) (by simp)
  | 17=>exact absurd (show (none:Option Value) = some v from h) (by simp)
  | 18=>exact absurd (show (none:Option Value) = some v from h) (by simp)
  | 19=>exact absurd (show (none:Option Value) = some v from h) (by simp)
  | 20=>exact absurd (show (none:Option Value) = some v from h) (by simp)
  | 21=>exact absurd (show (none:Option Value) = some v from h) (by simp)
  | m + 22 =>
   have e:Nat.ble 22 (m + 22) = true:=Nat.ble_eq_true_of_le (by omega)
   rw [e,bb_true] at h
   injection h with h;subst h
   exact ⟨nilR,by kernel_rfl,weak8,rfl⟩
theorem allW (hm:Try.prog.follows .mixedOrders = true):∀ g,isP g = true→PureOk Try.prog tabs g (puW g):=fun g hg=>by
 cases h5:Nat.beq g 5 with
 | true=>obtain rfl:=Nat.eq_of_beq_eq_true h5;exact o5 hm
 | false =>
  cases h6:Nat.beq g 6 with
  | true=>obtain rfl:=Nat.eq_of_beq_eq_true h6;exact o6 hm
  | false =>
   cases h7:Nat.beq g 7 with
   | true=>obtain rfl:=Nat.eq_of_beq_eq_true h7;exact o7 hm
   | false =>
    cases h8:Nat.beq g 8 with
    | true=>obtain rfl:=Nat.eq_of_beq_eq_true h8;exact o8 hm
    | false =>
     cases h9:Nat.beq g 9 with
     | true=>obtain rfl:=Nat.eq_of_beq_eq_true h9;exact o9 hm
     | false =>
      rw [puW_g g h5 h6 h7 h8 h9];exact (all_ok hm (hw hm) 60).1 g hg
theorem lawOk (hm:Try.prog.follows .mixedOrders = true):PureOk Try.prog [] 3 mLaw:=by
 have all:=all_ok hm (hw hm) 60
 have hc:=callP_ok (P:=Try.prog) (tabs:=tabs) (pu:=puW) tabs_ne tabs_pl (inl_ok hm (pu:=puW) (by rw [puW_g 46 rfl rfl rfl rfl rfl];exact all.2.1) (by rw [puW_g 53 rfl rfl rfl rfl rfl];exact all.2.2.1) (by rw [puW_g 63 rfl rfl rfl rfl rfl];exact all.2.2.2)) (allW hm)
 exact pureOk_of_run (tabs:=tabs) (f:=mLaw) ttOk hm hc fk3 fun args v h hx=>r3 puW 1000000 rfl h hx
end Go.Proofs.Ytkhedoaiejjcfaa.HvR
