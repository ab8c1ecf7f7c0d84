/- Made from wip. -/
import Derived.Test.YtommhepgkaddaaaGreatHpYRepx
import Derived.Test.YtommhepgkaddaaaGreatHpYRun0
import Derived.Test.YtommhepgkaddaaaGreatHpYLaw5x

set_option maxRecDepth 100000
namespace Go.Proofs.YtommhepgkaddaaaGreat.HpY
open Go Go.Sp Go.HpYM Go.HpY
theorem hw (hm:Tryz.prog.follows .mixedOrders = true):PureOk Tryz.prog tabs 14 orc14∧PureOk Tryz.prog tabs 41 orc41∧PureOk Tryz.prog tabs 42 orc42:=⟨⟨enter_ok fok14,fun _ _ h=>by cases h⟩,orc41_ok hm,orc42_ok hm⟩
theorem works (hm:Tryz.prog.follows .mixedOrders = true):PureOk Tryz.prog tabs 14 (fun args=>ll args (some (.bool true)) fun _ _=>none):=by
 have all:=all_ok hm (hw hm) 30
 refine pureOk_closedP (tabs:=tabs) (n:=1000) (g:=14) (H:=tabsHeap tabs) (isP:=isQ) (pu:=puN 30) (inl:=inl (puN 30)) ttOk tabs_ne tabs_pl fnsOk hm (fun g hg=>all.1 g (an_inv hg).1) (inl_ok hm all.2.1 all.2.2.1 all.2.2.2.1 all.2.2.2.2) (fun i=>tabsHeap_get i) rfl (enter_ok fok14) fun args v h=>?_
 replace h:=ll_end h;obtain ⟨rfl,h⟩:=h
 injection h with h;subst h
 exact ⟨rfl,.inl worksRun⟩
theorem allW (hm:Tryz.prog.follows .mixedOrders = true):∀ g,isP g = true→PureOk Tryz.prog tabs g (puW g):=fun g hg=>by
 cases e:Nat.beq g 14 with
 | true=>obtain rfl:=Nat.eq_of_beq_eq_true e;rw [puW_w];exact works hm
 | false=>rw [puW_g g e];exact (all_ok hm (hw hm) 30).1 g hg
theorem law3 (hm:Tryz.prog.follows .mixedOrders = true):PureOk Tryz.prog [] 3 mLaw:=by
 have all:=all_ok hm (hw hm) 30
 have hc:=callP_ok (P:=Tryz.prog) (tabs:=tabs) (pu:=puW) tabs_ne tabs_pl (inl_ok hm (pu:=puW) (by rw [puW_g 21 rfl];exact all.2.1) (by rw [puW_g 41 rfl];exact all.2.2.1) (by rw [puW_g 42 rfl];exact all.2.2.2.1) (by rw [puW_g 10170 rfl];exact all.2.2.2.2)) (allW hm)
 exact pureOk_of_run (tabs:=tabs) (f:=mLaw) ttOk hm hc fk3 fun args v h hx=>r3 puW 1000000 rfl h hx
end Go.Proofs.YtommhepgkaddaaaGreat.HpY
