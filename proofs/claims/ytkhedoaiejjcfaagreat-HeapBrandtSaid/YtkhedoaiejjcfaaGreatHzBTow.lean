/- Made from wip. -/
import Derived.Test.YtkhedoaiejjcfaaGreatHzBRepx
import Derived.Test.YtkhedoaiejjcfaaGreatHzBDefx
import Derived.Test.YtkhedoaiejjcfaaGreatHzBRun0
import Derived.Test.YtkhedoaiejjcfaaGreatHzBRun1
import Derived.Test.YtkhedoaiejjcfaaGreatHzBRun2
import Derived.Test.YtkhedoaiejjcfaaGreatHzBRun3
import Derived.Test.YtkhedoaiejjcfaaGreatHzBRun4
import Derived.Test.YtkhedoaiejjcfaaGreatHzBRun5
import Derived.Test.YtkhedoaiejjcfaaGreatHzBRun6
import Derived.Test.YtkhedoaiejjcfaaGreatHzBRun7

set_option maxRecDepth 100000
set_option maxHeartbeats 0
namespace Go.Proofs.YtkhedoaiejjcfaaGreat.HzB
open Go Go.Sp Go.HzBM Go.HzB Go.HpT
theorem hw (hm:Tryz.prog.follows .mixedOrders = true):PureOk Tryz.prog tabs 16 orc16∧PureOk Tryz.prog tabs 60 orc60∧PureOk Tryz.prog tabs 68 orc68∧PureOk Tryz.prog tabs 8 orc8∧PureOk Tryz.prog tabs 11 orc11:=⟨⟨enter_ok fok16,fun _ _ h=>by cases h⟩,orc60_ok hm,orc68_ok hm,⟨enter_ok fok8,fun _ _ h=>by cases h⟩,⟨enter_ok fok11,fun _ _ h=>by cases h⟩⟩
theorem q0 (hm:Tryz.prog.follows .mixedOrders = true):(∀ g,isQ g = true→PureOk Tryz.prog tabs g (pu0 g)):=fun g hg=>(all_ok hm (hw hm) 30).1 g (an_inv hg).1
theorem i0 (hm:Tryz.prog.follows .mixedOrders = true):CallOk Tryz.prog (List.range tabs.length) (inl pu0):=by
 have all:=all_ok hm (hw hm) 30
 exact inl_ok hm all.2.1 all.2.2.1 all.2.2.2.1 all.2.2.2.2
theorem onP_inv {β:Type} {args:List Value} {k:List Nat→Option β} {v:β} (h:onP args k = some v):∃ p,args = [sv p]∧okP 12 p = true∧k p = some v:=by
 replace h:=ll_uncons h;obtain ⟨a,r,rfl,h⟩:=h
 replace h:=ll_end h;obtain ⟨rfl,h⟩:=h
 obtain ⟨s,hs,h1⟩:=oo_inv h
 obtain ⟨p,hp,h2⟩:=oo_inv h1
 obtain ⟨hc,h3⟩:=bb_inv h2
 obtain ⟨c1,hc⟩:=an_inv hc
 obtain ⟨c2,hc⟩:=an_inv hc
 obtain ⟨c3,c4⟩:=an_inv hc
 refine ⟨p,?_,c1,h3⟩
 rw [toSl_some hs]
 obtain ⟨n,fl,cs⟩:=s
 have e1:n = len p:=Nat.eq_of_beq_eq_true c2
 have e2:fl = 0:=Nat.eq_of_beq_eq_true c3
 have e3:cs = iL p:=valsEq_eq c4
 subst e1;subst e2;subst e3;rfl
theorem pure_le {P:Program} {tabs:List (List Value)} {g:FuncId} {f f':List Value→Option Value} (h:PureOk P tabs g f) (hf:∀ a v,f' a = some v→f a = some v):PureOk P tabs g f':=⟨h.1,fun args v hv=>h.2 args v (hf args v hv)⟩
theorem ok8 (hm:Tryz.prog.follows .mixedOrders = true):PureOk Tryz.prog tabs 8 orcE:=by
 refine pureOk_deep (tabs:=tabs) (n:=200) (g:=8) (H:=tabsHeap tabs) (isP:=fun _=>false) (pu:=fun _ _=>none) (inl:=fun _ _ _=>none) ttOk tabs_ne tabs_pl fnsOk hm (fun g hg=>by cases hg) no_ok (fun i=>tabsHeap_get i) rfl (enter_ok fok8) fun args v h=>?_
 replace h:=ll_uncons h;obtain ⟨a,r,rfl,h⟩:=h
 replace h:=ll_end h;obtain ⟨rfl,h⟩:=h
 replace h:=oo_inv h;obtain ⟨z,hz,h⟩:=h
 obtain rfl:=toI_some hz
 replace h:=oo_inv h;obtain ⟨n,hn,h⟩:=h
 obtain rfl:=toN_some hn
 match n with
 | 0=>exact absurd (show (none:Option Value) = some v from h) (by simp)
 | 1=>injection (show some _ = some v from h) with h;subst h;exact ⟨by kernel_rfl,2,.inl ev8_1⟩
 | 2=>injection (show some _ = some v from h) with h;subst h;exact ⟨by kernel_rfl,2,.inl ev8_2⟩
 | 3=>injection (show some _ = some v from h) with h;subst h;exact ⟨by kernel_rfl,2,.inl ev8_3⟩
 | 4=>injection (show some _ = some v from h) with h;subst h;exact ⟨by kernel_rfl,2,.inl ev8_4⟩
 | 5=>injection (show some _ = some v from h) with h;subst h;exact ⟨by kernel_rfl,2,.inl ev8_5⟩
 | 6=>injection (show some _ = some v from h) with h;subst h;exact ⟨by kernel_rfl,2,.inl ev8_6⟩
 | 7=>injection (show some _ = some v from h) with h;subst h;exact ⟨by kernel_rfl,2,.inl ev8_7⟩
 | 8=>injection (show some _ = some v from h) with h;subst h;exact ⟨by kernel_rfl,2,.inl ev8_8⟩
 | 9=>injection (show some _ = some v from h) with h;subst h;exact ⟨by kernel_rfl,2,.inl ev8_9⟩
 | 10=>injection (show some _ = some v from h) with h;subst h;exact ⟨by kernel_rfl,2,.inl ev8_10⟩
 | 11=>injection (show some _ = some v from h) with h;subst h;exact ⟨by kernel_rfl,2,.inl ev8_11⟩
 | 12=>injection (show some _ = some v from h) with h;subst h;exact ⟨by kernel_rfl,2,.inl ev8_12⟩
 | n + 13=>exact absurd (show (none:Option Value) = some v from h) (by simp)
theorem ok11 (hm:Tryz.prog.follows .mixedOrders = true):PureOk Tryz.prog tabs 11 orcG:=by
 refine pureOk_deep (tabs:=tabs) (n:=400) (g:=11) (H:=tabsHeap tabs) (isP:=isQ) (pu:=pu0) (inl:=inl pu0) ttOk tabs_ne tabs_pl fnsOk hm (q0 hm) (i0 hm) (fun i=>tabsHeap_get i) rfl (enter_ok fok11) fun args v h=>?_
 replace h:=ll_uncons h;obtain ⟨a,r,rfl,h⟩:=h
 replace h:=ll_end h;obtain ⟨rfl,h⟩:=h
 replace h:=oo_inv h;obtain ⟨z,hz,h⟩:=h
 obtain rfl:=toI_some hz
 replace h:=oo_inv h;obtain ⟨n,hn,h⟩:=h
 obtain rfl:=toN_some hn
 match n with
 | 0=>exact absurd (show (none:Option Value) = some v from h) (by simp)
 | 1=>injection (show some _ = some v from h) with h;subst h;exact ⟨by kernel_rfl,3,.inr ev11_1⟩
 | 2=>injection (show some _ = some v from h) with h;subst h;exact ⟨by kernel_rfl,3,.inr ev11_2⟩
 | 3=>injection (show some _ = some v from h) with h;subst h;exact ⟨by kernel_rfl,3,.inr ev11_3⟩
 | 4=>injection (show some _ = some v from h) with h;subst h;exact ⟨by kernel_rfl,3,.inr ev11_4⟩
 | 5=>injection (show some _ = some v from h) with h;subst h;exact ⟨by kernel_rfl,3,.inr ev11_5⟩
 | 6=>injection (show some _ = some v from h) with h;subst h;exact ⟨by kernel_rfl,3,.inr ev11_6⟩
 | 7=>injection (show some _ = some v from h) with h;subst h;exact ⟨by kernel_rfl,3,.inr ev11_7⟩
 | 8=>injection (show some _ = some v from h) with h;subst h;exact ⟨by kernel_rfl,3,.inr ev11_8⟩
 | 9=>injection (show some _ = some v from h) with h;subst h;exact ⟨by kernel_rfl,3,.inr ev11_9⟩
 | 10=>injection (show some _ = some v from h) with h;subst h;exact ⟨by kernel_rfl,3,.inr ev11_10⟩
 | 11=>injection (show some _ = some v from h) with h;subst h;exact ⟨by kernel_rfl,3,.inr ev11_11⟩
 | 12=>injection (show some _ = some v from h) with h;subst h;exact ⟨by kernel_rfl,3,.inr ev11_12⟩
 | n + 13=>exact absurd (show (none:Option Value) = some v from h) (by simp)
theorem ok16 (hm:Tryz.prog.follows .mixedOrders = true):PureOk Tryz.prog tabs 16 tru:=by
 refine pureOk_closedP (tabs:=tabs) (n:=400) (g:=16) (H:=tabsHeap tabs) (isP:=isQ) (pu:=pu0) (inl:=inl pu0) ttOk tabs_ne tabs_pl fnsOk hm (q0 hm) (i0 hm) (fun i=>tabsHeap_get i) rfl (enter_ok fok16) fun args v h=>?_
 replace h:=ll_end h;obtain ⟨rfl,h⟩:=h
 injection h with h;subst h
 exact ⟨rfl,.inl worksRun⟩
theorem ok15 (hm:Tryz.prog.follows .mixedOrders = true):PureOk Tryz.prog tabs 15 orcR:=pure_le ((all_ok hm (hw hm) 30).1 15 rfl) fun a v h=>by
 obtain ⟨p,rfl,hp,h⟩:=onP_inv h
 rw [←h];exact HzBM.p15 28 hp
theorem puX_g (g:FuncId) (h1:Nat.beq g 15 = false):puX g = puN 30 g:=by unfold puX;rw [h1,bb_false]
theorem qX (hm:Tryz.prog.follows .mixedOrders = true):∀ g,isP g = true→PureOk Tryz.prog tabs g (puX g):=fun g hg=>by
 cases h1:Nat.beq g 15 with
 | true=>obtain rfl:=Nat.eq_of_beq_eq_true h1;exact ok15 hm
 | false=>rw [puX_g g h1];exact (all_ok hm (hw hm) 30).1 g hg
theorem iX (hm:Tryz.prog.follows .mixedOrders = true):CallOk Tryz.prog (List.range tabs.length) (callP tabs isP puX (inl puX)):=by
 have all:=all_ok hm (hw hm) 30
 exact callP_ok (P:=Tryz.prog) (tabs:=tabs) (pu:=puX) tabs_ne tabs_pl (inl_ok hm (pu:=puX) (by rw [puX_g 56 rfl];exact all.2.1) (by rw [puX_g 60 rfl];exact all.2.2.1) (by rw [puX_g 68 rfl];exact all.2.2.2.1) (by rw [puX_g 10440 rfl];exact all.2.2.2.2)) (qX hm)
theorem ok10 (hm:Tryz.prog.follows .mixedOrders = true):PureOk Tryz.prog tabs 10 (m10 puX 1000000):=pureOk_of_run (tabs:=tabs) (f:=m10 puX 1000000) ttOk hm (iX hm) fk10 fun args v h hx=>r10 puX 1000000 rfl h hx
theorem allW (hm:Tryz.prog.follows .mixedOrders = true):∀ g,isP g = true→PureOk Tryz.prog tabs g (puW g):=fun g hg=>by
 cases h8:Nat.beq g 8 with
 | true=>obtain rfl:=Nat.eq_of_beq_eq_true h8;exact ok8 hm
 | false =>
  cases h11:Nat.beq g 11 with
  | true=>obtain rfl:=Nat.eq_of_beq_eq_true h11;exact ok11 hm
  | false =>
   cases h16:Nat.beq g 16 with
   | true=>obtain rfl:=Nat.eq_of_beq_eq_true h16;exact ok16 hm
   | false =>
    cases h15:Nat.beq g 15 with
    | true=>obtain rfl:=Nat.eq_of_beq_eq_true h15;exact ok15 hm
    | false =>
     cases h10:Nat.beq g 10 with
     | true=>obtain rfl:=Nat.eq_of_beq_eq_true h10;exact ok10 hm
     | false =>
      rw [puW_g g h8 h11 h16 h15 h10];exact (all_ok hm (hw hm) 30).1 g hg
noncomputable def mLaw (args:List Value):Option Value:=m3 puW 1000000 args
theorem lawOk (hm:Tryz.prog.follows .mixedOrders = true):PureOk Tryz.prog [] 3 mLaw:=by
 have all:=all_ok hm (hw hm) 30
 have hc:=callP_ok (P:=Tryz.prog) (tabs:=tabs) (pu:=puW) tabs_ne tabs_pl (inl_ok hm (pu:=puW) (by rw [puW_g 56 rfl rfl rfl rfl rfl];exact all.2.1) (by rw [puW_g 60 rfl rfl rfl rfl rfl];exact all.2.2.1) (by rw [puW_g 68 rfl rfl rfl rfl rfl];exact all.2.2.2.1) (by rw [puW_g 10440 rfl rfl rfl rfl rfl];exact all.2.2.2.2)) (allW hm)
 exact pureOk_of_run (tabs:=tabs) (f:=mLaw) ttOk hm hc fk3 fun args v h hx=>r3 puW 1000000 rfl h hx
theorem mLaw_ok (x:Int) (hx:0≤x∧x < 256):mLaw [.int .u8 x] = some (.bool true):=by
 obtain ⟨y,rfl⟩:∃ y:Nat,x = Int.ofNat y:=⟨x.toNat,by simp only [Int.ofNat_eq_natCast];omega⟩
 simp only [Int.ofNat_eq_natCast] at hx
 have ew:∀ z:Nat,z < 256→Int.tmod (wrapF .i64 (Int.ofNat z)) 12 = Int.ofNat (z % 12):=fun z hz=>by
  rw [wrapI _ (by simp only [Int.ofNat_eq_natCast];omega) (by simp only [Int.ofNat_eq_natCast];omega)]
  exact (Int.ofNat_tmod z 12).symm
 have e:m3_ puW 1000000 (Int.ofNat y) = m3_ puW 1000000 (Int.ofNat (y % 12)):=by
  unfold m3_;rw [ew y (by omega),ew (y % 12) (by omega),Nat.mod_mod]
 refine Eq.trans (b:=m3_ puW 1000000 (Int.ofNat y)) (by kernel_rfl) (e.trans ?_)
 have hy:y % 12 < 12:=Nat.mod_lt _ (by omega)
 generalize y % 12 = k at hy
 match k,hy with
 | 0,_=>exact law_0
 | 1,_=>exact law_1
 | 2,_=>exact law_2
 | 3,_=>exact law_3
 | 4,_=>exact law_4
 | 5,_=>exact law_5
 | 6,_=>exact law_6
 | 7,_=>exact law_7
 | 8,_=>exact law_8
 | 9,_=>exact law_9
 | 10,_=>exact law_10
 | 11,_=>exact law_11
 | k + 12,h=>omega
end Go.Proofs.YtkhedoaiejjcfaaGreat.HzB
