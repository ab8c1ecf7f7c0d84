/- Made from wip. -/
import Derived.Test.YtkhedoaiejjcfaaGreatHzARepx
import Derived.Test.YtkhedoaiejjcfaaGreatHzADefx
import Derived.Test.YtkhedoaiejjcfaaGreatHzARun0
import Derived.Test.YtkhedoaiejjcfaaGreatHzARun1
import Derived.Test.YtkhedoaiejjcfaaGreatHzARun2
import Derived.Test.YtkhedoaiejjcfaaGreatHzARun3
import Derived.Test.YtkhedoaiejjcfaaGreatHzARun4
import Derived.Test.YtkhedoaiejjcfaaGreatHzARun5
import Derived.Test.YtkhedoaiejjcfaaGreatHzARun6
import Derived.Test.YtkhedoaiejjcfaaGreatHzARun7
import Derived.Test.YtkhedoaiejjcfaaGreatHzARun8
import Derived.Test.YtkhedoaiejjcfaaGreatHzARun9
import Derived.Test.YtkhedoaiejjcfaaGreatHzARun10
import Derived.Test.YtkhedoaiejjcfaaGreatHzARun11
import Derived.Test.YtkhedoaiejjcfaaGreatHzARun12
import Derived.Test.YtkhedoaiejjcfaaGreatHzARun13
import Derived.Test.YtkhedoaiejjcfaaGreatHzALaw2x

set_option maxRecDepth 100000
set_option maxHeartbeats 0
namespace Go.Proofs.YtkhedoaiejjcfaaGreat.HzA
open Go Go.Sp Go.HzAM Go.HzA Go.HpT
theorem hw (hm:Tryz.prog.follows .mixedOrders = true):PureOk Tryz.prog tabs 16 orc16∧PureOk Tryz.prog tabs 60 orc60∧PureOk Tryz.prog tabs 68 orc68∧PureOk Tryz.prog tabs 8 orc8∧PureOk Tryz.prog tabs 19 orc19∧PureOk Tryz.prog tabs 20 orc20:=⟨⟨enter_ok fok16,fun _ _ h=>by cases h⟩,orc60_ok hm,orc68_ok hm,⟨enter_ok fok8,fun _ _ h=>by cases h⟩,⟨enter_ok fok19,fun _ _ h=>by cases h⟩,⟨enter_ok fok20,fun _ _ h=>by cases h⟩⟩
theorem q0 (hm:Tryz.prog.follows .mixedOrders = true):(∀ g,isQ g = true→PureOk Tryz.prog tabs g (pu0 g)):=fun g hg=>(all_ok hm (hw hm) 30).1 g (an_inv hg).1
theorem i0 (hm:Tryz.prog.follows .mixedOrders = true):CallOk Tryz.prog (List.range tabs.length) (inl pu0):=by
 have all:=all_ok hm (hw hm) 30
 exact inl_ok hm all.2.1 all.2.2.1 all.2.2.2.1 all.2.2.2.2.1 all.2.2.2.2.2
theorem onP_inv {β:Type} {args:List Value} {k:List Nat→Option β} {v:β} (h:onP args k = some v):∃ p,args = [sv p]∧okP 12 p = true∧k p = some v:=by
 replace h:=ll_uncons h;obtain ⟨a,r,rfl,h⟩:=h
 replace h:=ll_end h;obtain ⟨rfl,h⟩:=h
 obtain ⟨s,hs,h1⟩:=oo_inv h
 obtain ⟨p,hp,h2⟩:=oo_inv h1
 obtain ⟨hc,h3⟩:=bb_inv h2
 obtain ⟨c1,hc⟩:=an_inv hc
 obtain ⟨c2,hc⟩:=an_inv hc
 obtain ⟨c3,c4⟩:=an_inv hc
 refine ⟨p,?_,c1,h3⟩
 rw [toSl_some hs]
 obtain ⟨n,fl,cs⟩:=s
 have e1:n = len p:=Nat.eq_of_beq_eq_true c2
 have e2:fl = 0:=Nat.eq_of_beq_eq_true c3
 have e3:cs = iL p:=valsEq_eq c4
 subst e1;subst e2;subst e3;rfl
theorem decL_iL : ∀ p : List Nat, decL (iL p) = some p
 | []=>rfl
 | a :: p => by
  have e:=decL_iL p
  show oo (decL (iL p)) none (fun r=>some (a :: r)) = _
  rw [e];rfl
theorem valsEq_iL : ∀ p : List Nat, valsEq (iL p) (iL p) = true
 | []=>rfl
 | a :: p => by
  have e:=valsEq_iL p
  show an (an (intKindEq .i64 .i64) (ieq (.ofNat a) (.ofNat a))) (valsEq (iL p) (iL p)) = true
  rw [e,ieqr];rfl
theorem onP_to {β:Type} {p:List Nat} {k:List Nat→Option β} (h:okP 12 p = true):onP [sv p] k = k p:=by
 unfold onP
 show oo (decL (iL p)) none (fun q=>bb (an (okP 12 q) (an (Nat.beq (len p) (len q)) (an (Nat.beq 0 0) (valsEq (iL p) (iL q))))) (k q) none) = _
 rw [decL_iL,oo_some,h,valsEq_iL,Nat.beq_refl];rfl
theorem pure_le {P:Program} {tabs:List (List Value)} {g:FuncId} {f f':List Value→Option Value} (h:PureOk P tabs g f) (hf:∀ a v,f' a = some v→f a = some v):PureOk P tabs g f':=⟨h.1,fun args v hv=>h.2 args v (hf args v hv)⟩
theorem ok8 (hm:Tryz.prog.follows .mixedOrders = true):PureOk Tryz.prog tabs 8 orcE:=by
 refine pureOk_deep (tabs:=tabs) (n:=200) (g:=8) (H:=tabsHeap tabs) (isP:=fun _=>false) (pu:=fun _ _=>none) (inl:=fun _ _ _=>none) ttOk tabs_ne tabs_pl fnsOk hm (fun g hg=>by cases hg) no_ok (fun i=>tabsHeap_get i) rfl (enter_ok fok8) fun args v h=>?_
 replace h:=ll_uncons h;obtain ⟨a,r,rfl,h⟩:=h
 replace h:=ll_end h;obtain ⟨rfl,h⟩:=h
 replace h:=oo_inv h;obtain ⟨z,hz,h⟩:=h
 obtain rfl:=toI_some hz
 replace h:=oo_inv h;obtain ⟨n,hn,h⟩:=h
 obtain rfl:=toN_some hn
 match n with
 | 0=>exact absurd (show (none:Option Value) = some v from h) (by simp)
 | 1=>injection (show some _ = some v from h) with h;subst h;exact ⟨by kernel_rfl,2,.inl ev8_1⟩
 | 2=>injection (show some _ = some v from h) with h;subst h;exact ⟨by kernel_rfl,2,.inl ev8_2⟩
 | 3=>injection (show some _ = some v from h) with h;subst h;exact ⟨by kernel_rfl,2,.inl ev8_3⟩
 | 4=>injection (show some _ = some v from h) with h;subst h;exact ⟨by kernel_rfl,2,.inl ev8_4⟩
 | 5=>injection (show some _ = some v from h) with h;subst h;exact ⟨by kernel_rfl,2,.inl ev8_5⟩
 | 6=>injection (show some _ = some v from h) with h;subst h;exact ⟨by kernel_rfl,2,.inl ev8_6⟩
 | 7=>injection (show some _ = some v from h) with h;subst h;exact ⟨by kernel_rfl,2,.inl ev8_7⟩
 | 8=>injection (show some _ = some v from h) with h;subst h;exact ⟨by kernel_rfl,2,.inl ev8_8⟩
 | 9=>injection (show some _ = some v from h) with h;subst h;exact ⟨by kernel_rfl,2,.inl ev8_9⟩
 | 10=>injection (show some _ = some v from h) with h;subst h;exact ⟨by kernel_rfl,2,.inl ev8_10⟩
 | 11=>injection (show some _ = some v from h) with h;subst h;exact ⟨by kernel_rfl,2,.inl ev8_11⟩
 | 12=>injection (show some _ = some v from h) with h;subst h;exact ⟨by kernel_rfl,2,.inl ev8_12⟩
 | n + 13=>exact absurd (show (none:Option Value) = some v from h) (by simp)
theorem ok20 (hm:Tryz.prog.follows .mixedOrders = true):PureOk Tryz.prog tabs 20 orcD:=by
 refine pureOk_deep (tabs:=tabs) (n:=400) (g:=20) (H:=tabsHeap tabs) (isP:=isQ) (pu:=pu0) (inl:=inl pu0) ttOk tabs_ne tabs_pl fnsOk hm (q0 hm) (i0 hm) (fun i=>tabsHeap_get i) rfl (enter_ok fok20) fun args v h=>?_
 replace h:=ll_uncons h;obtain ⟨a,r,rfl,h⟩:=h
 replace h:=ll_end h;obtain ⟨rfl,h⟩:=h
 replace h:=oo_inv h;obtain ⟨z,hz,h⟩:=h
 obtain rfl:=toI_some hz
 replace h:=oo_inv h;obtain ⟨n,hn,h⟩:=h
 obtain rfl:=toN_some hn
 match n with
 | 0=>exact absurd (show (none:Option Value) = some v from h) (by simp)
 | 1=>injection (show some _ = some v from h) with h;subst h;exact ⟨by kernel_rfl,2,.inr ev20_1⟩
 | 2=>injection (show some _ = some v from h) with h;subst h;exact ⟨by kernel_rfl,2,.inr ev20_2⟩
 | 3=>injection (show some _ = some v from h) with h;subst h;exact ⟨by kernel_rfl,2,.inr ev20_3⟩
 | 4=>injection (show some _ = some v from h) with h;subst h;exact ⟨by kernel_rfl,2,.inr ev20_4⟩
 | 5=>injection (show some _ = some v from h) with h;subst h;exact ⟨by kernel_rfl,2,.inr ev20_5⟩
 | 6=>injection (show some _ = some v from h) with h;subst h;exact ⟨by kernel_rfl,2,.inr ev20_6⟩
 | 7=>injection (show some _ = some v from h) with h;subst h;exact ⟨by kernel_rfl,2,.inr ev20_7⟩
 | 8=>injection (show some _ = some v from h) with h;subst h;exact ⟨by kernel_rfl,2,.inr ev20_8⟩
 | 9=>injection (show some _ = some v from h) with h;subst h;exact ⟨by kernel_rfl,2,.inr ev20_9⟩
 | 10=>injection (show some _ = some v from h) with h;subst h;exact ⟨by kernel_rfl,2,.inr ev20_10⟩
 | 11=>injection (show some _ = some v from h) with h;subst h;exact ⟨by kernel_rfl,2,.inr ev20_11⟩
 | 12=>injection (show some _ = some v from h) with h;subst h;exact ⟨by kernel_rfl,2,.inr ev20_12⟩
 | n + 13=>exact absurd (show (none:Option Value) = some v from h) (by simp)
theorem ok16 (hm:Tryz.prog.follows .mixedOrders = true):PureOk Tryz.prog tabs 16 tru:=by
 refine pureOk_closedP (tabs:=tabs) (n:=400) (g:=16) (H:=tabsHeap tabs) (isP:=isQ) (pu:=pu0) (inl:=inl pu0) ttOk tabs_ne tabs_pl fnsOk hm (q0 hm) (i0 hm) (fun i=>tabsHeap_get i) rfl (enter_ok fok16) fun args v h=>?_
 replace h:=ll_end h;obtain ⟨rfl,h⟩:=h
 injection h with h;subst h
 exact ⟨rfl,.inl worksRun⟩
theorem ok15 (hm:Tryz.prog.follows .mixedOrders = true):PureOk Tryz.prog tabs 15 orcR:=pure_le ((all_ok hm (hw hm) 30).1 15 rfl) fun a v h=>by
 obtain ⟨p,rfl,hp,h⟩:=onP_inv h
 rw [←h];exact HzAM.p15 28 hp
theorem P19 {p:List Nat} (h:okP 12 p = true):deepT 0 2 (evB 19 [sv p]) = some (aR p):=by
 obtain ⟨k,h1,h2,hs,hm⟩:=in_pts h
 clear hs
 match k,h1,h2,hm with
 | 1,_,_,hm=>exact map_at (f:=fun p=>deepT 0 2 (evB 19 [sv p])) (g:=fun p=>some (aR p)) ev19_1 hm
 | 2,_,_,hm=>exact map_at (f:=fun p=>deepT 0 2 (evB 19 [sv p])) (g:=fun p=>some (aR p)) ev19_2 hm
 | 3,_,_,hm=>exact map_at (f:=fun p=>deepT 0 2 (evB 19 [sv p])) (g:=fun p=>some (aR p)) ev19_3 hm
 | 4,_,_,hm=>exact map_at (f:=fun p=>deepT 0 2 (evB 19 [sv p])) (g:=fun p=>some (aR p)) ev19_4 hm
 | 5,_,_,hm=>exact map_at (f:=fun p=>deepT 0 2 (evB 19 [sv p])) (g:=fun p=>some (aR p)) ev19_5 hm
 | 6,_,_,hm=>exact map_at (f:=fun p=>deepT 0 2 (evB 19 [sv p])) (g:=fun p=>some (aR p)) ev19_6 hm
 | 7,_,_,hm=>exact map_at (f:=fun p=>deepT 0 2 (evB 19 [sv p])) (g:=fun p=>some (aR p)) ev19_7 hm
 | 8,_,_,hm=>exact map_at (f:=fun p=>deepT 0 2 (evB 19 [sv p])) (g:=fun p=>some (aR p)) ev19_8 hm
 | 9,_,_,hm=>exact map_at (f:=fun p=>deepT 0 2 (evB 19 [sv p])) (g:=fun p=>some (aR p)) ev19_9 hm
 | 10,_,_,hm=>exact map_at (f:=fun p=>deepT 0 2 (evB 19 [sv p])) (g:=fun p=>some (aR p)) ev19_10 hm
 | 11,_,_,hm=>exact map_at (f:=fun p=>deepT 0 2 (evB 19 [sv p])) (g:=fun p=>some (aR p)) ev19_11 hm
 | 12,_,_,hm=>exact map_at (f:=fun p=>deepT 0 2 (evB 19 [sv p])) (g:=fun p=>some (aR p)) ev19_12 hm
 | k + 13,_,h2,_=>omega
theorem ok19 (hm:Tryz.prog.follows .mixedOrders = true):PureOk Tryz.prog tabs 19 orcA:=by
 have h0:PureOk Tryz.prog tabs 19 (fun args=>onP args fun p=>some (aR p)):=by
  refine pureOk_deep (tabs:=tabs) (n:=400) (g:=19) (H:=tabsHeap tabs) (isP:=isQ) (pu:=pu0) (inl:=inl pu0) ttOk tabs_ne tabs_pl fnsOk hm (q0 hm) (i0 hm) (fun i=>tabsHeap_get i) rfl (enter_ok fok19) fun args v h=>?_
  obtain ⟨p,rfl,hp,h⟩:=onP_inv h
  injection h with h;subst h
  refine ⟨?_,2,.inr (P19 hp)⟩
  unfold aR
  cases nilL (aheadT p) <;> rfl
 refine ⟨h0.1,fun args v hv hcl R w args' hR hs ha=>?_⟩
 obtain ⟨p,rfl,hp,hv⟩:=onP_inv hv
 injection hv with hv;subst hv
 have hq:(fun args=>onP args fun p=>some (aR p)) [sv p] = some (aR p):=by
  have:=onP_to (k:=fun p=>some (aR p)) hp
  exact this
 refine (h0.2 _ _ hq hcl R w args' hR hs ha).mono fun e w' ⟨u,H',R',he,_,hu,hpo⟩=>⟨u,H',R',he,?_,?_,hpo⟩
 ·unfold aV
  cases nilL (aheadT p) <;> rfl
 ·unfold aR at hu
  unfold aV
  cases hn:nilL (aheadT p) with
  | true=>rw [hn,bb_true] at hu;rw [bb_true];exact Weak.tup (l:=[.slice none 0 0,.int .i64 (.ofNat 0)]) (l':=[Sl.v 1 ⟨0,2,[]⟩,.int .i64 (.ofNat 0)]) ⟨Weak.nil 1 2,Weak.refl _,trivial⟩ _ _ hu
  | false=>rw [hn,bb_false] at hu;rw [bb_false];exact hu
theorem allW (hm:Tryz.prog.follows .mixedOrders = true):∀ g,isP g = true→PureOk Tryz.prog tabs g (puW g):=fun g hg=>by
 cases h8:Nat.beq g 8 with
 | true=>obtain rfl:=Nat.eq_of_beq_eq_true h8;exact ok8 hm
 | false =>
  cases h20:Nat.beq g 20 with
  | true=>obtain rfl:=Nat.eq_of_beq_eq_true h20;exact ok20 hm
  | false =>
   cases h16:Nat.beq g 16 with
   | true=>obtain rfl:=Nat.eq_of_beq_eq_true h16;exact ok16 hm
   | false =>
    cases h15:Nat.beq g 15 with
    | true=>obtain rfl:=Nat.eq_of_beq_eq_true h15;exact ok15 hm
    | false =>
     cases h19:Nat.beq g 19 with
     | true=>obtain rfl:=Nat.eq_of_beq_eq_true h19;exact ok19 hm
     | false =>
      rw [puW_g g h8 h20 h16 h15 h19];exact (all_ok hm (hw hm) 30).1 g hg
noncomputable def mLaw (args:List Value):Option Value:=m4 puW 1000000 args
theorem lawOk (hm:Tryz.prog.follows .mixedOrders = true):PureOk Tryz.prog [] 4 mLaw:=by
 have all:=all_ok hm (hw hm) 30
 have hc:=callP_ok (P:=Tryz.prog) (tabs:=tabs) (pu:=puW) tabs_ne tabs_pl (inl_ok hm (pu:=puW) (by rw [puW_g 56 rfl rfl rfl rfl rfl];exact all.2.1) (by rw [puW_g 60 rfl rfl rfl rfl rfl];exact all.2.2.1) (by rw [puW_g 68 rfl rfl rfl rfl rfl];exact all.2.2.2.1) (by rw [puW_g 21 rfl rfl rfl rfl rfl];exact all.2.2.2.2.1) (by rw [puW_g 10440 rfl rfl rfl rfl rfl];exact all.2.2.2.2.2)) (allW hm)
 exact pureOk_of_run (tabs:=tabs) (f:=mLaw) ttOk hm hc fk4 fun args v h hx=>r4 puW 1000000 rfl h hx
theorem restOk {p:List Nat} (h:okP 12 p = true):rest (slOf p) = some (.bool true):=by
 obtain ⟨k,h1,h2,hs,hm⟩:=in_pts h
 clear hs
 match k,h1,h2,hm with
 | 1,_,_,hm=>exact map_at (f:=fun p=>rest (slOf p)) (g:=fun _=>some (Value.bool true)) law_1 hm
 | 2,_,_,hm=>exact map_at (f:=fun p=>rest (slOf p)) (g:=fun _=>some (Value.bool true)) law_2 hm
 | 3,_,_,hm=>exact map_at (f:=fun p=>rest (slOf p)) (g:=fun _=>some (Value.bool true)) law_3 hm
 | 4,_,_,hm=>exact map_at (f:=fun p=>rest (slOf p)) (g:=fun _=>some (Value.bool true)) law_4 hm
 | 5,_,_,hm=>exact map_at (f:=fun p=>rest (slOf p)) (g:=fun _=>some (Value.bool true)) law_5 hm
 | 6,_,_,hm=>exact map_at (f:=fun p=>rest (slOf p)) (g:=fun _=>some (Value.bool true)) law_6 hm
 | 7,_,_,hm=>exact map_at (f:=fun p=>rest (slOf p)) (g:=fun _=>some (Value.bool true)) law_7 hm
 | 8,_,_,hm=>exact map_at (f:=fun p=>rest (slOf p)) (g:=fun _=>some (Value.bool true)) law_8 hm
 | 9,_,_,hm=>exact map_at (f:=fun p=>rest (slOf p)) (g:=fun _=>some (Value.bool true)) law_9 hm
 | 10,_,_,hm=>exact map_at (f:=fun p=>rest (slOf p)) (g:=fun _=>some (Value.bool true)) law_10 hm
 | 11,_,_,hm=>exact map_at (f:=fun p=>rest (slOf p)) (g:=fun _=>some (Value.bool true)) law_11 hm
 | 12,_,_,hm=>exact map_at (f:=fun p=>rest (slOf p)) (g:=fun _=>some (Value.bool true)) law_12 hm
 | k + 13,_,h2,_=>omega
theorem mLaw_ok (b:List Int) (hb:∀ x ∈ b,0≤x∧x < 256):mLaw [Sl.v 1 ⟨b.length,0,b.map (Value.int .u8)⟩] = some (.bool true):=by
 obtain ⟨r,⟨hr,hs⟩,e⟩:=HzAM.p17 28 0 b hb
 have hp:okP 12 r = true:=ok_down (HyM.ok_hp hr) (by rw [HyM.sumL_eq];exact hs)
 have e17:puW 17 [Sl.v 1 ⟨b.length,0,b.map (Value.int .u8)⟩,.int .i64 12] = some (sv r):=by
  rw [puW_g 17 rfl rfl rfl rfl rfl,sv_eq];exact e
 refine Eq.trans (b:=m4_ puW 1000000 ⟨b.length,0,b.map (Value.int .u8)⟩) (by kernel_rfl) ?_
 rw [m_rest,e17,oo_some,show toSl 1 (sv r) = some (slOf r) from rfl,oo_some]
 exact restOk hp
end Go.Proofs.YtkhedoaiejjcfaaGreat.HzA
