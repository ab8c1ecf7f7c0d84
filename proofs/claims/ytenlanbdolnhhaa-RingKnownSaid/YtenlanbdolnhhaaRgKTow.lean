/- The promises of the tables. -/
import Derived.Test.YtenlanbdolnhhaaRgKJoinx
import Derived.Test.YtenlanbdolnhhaaRgKAblex

set_option maxRecDepth 100000
set_option maxHeartbeats 0
namespace Go.Proofs.Ytenlanbdolnhhaa.RgK
open Go Go.Sp Go.RgP Go.RgKM Go.RgK
noncomputable section
def trueF (args:List Value):Option Value:=ll args (some (.bool true)) fun _ _=>none
end
theorem pure_le {P:Program} {tabs:List (List Value)} {g:FuncId} {f f':List Value→Option Value} (h:PureOk P tabs g f) (hf:∀ a v,f' a = some v→f a = some v):PureOk P tabs g f':=⟨h.1,fun args v hv=>h.2 args v (hf args v hv)⟩
theorem hw:PureOk Try.prog tabs 10 orc10∧PureOk Try.prog tabs 14 orc14∧PureOk Try.prog tabs 35 orc35∧PureOk Try.prog tabs 37 orc37:=
 ⟨⟨enter_ok fok10,fun _ _ h=>by cases h⟩,⟨enter_ok fok14,fun _ _ h=>by cases h⟩,⟨enter_ok fok35,fun _ _ h=>by cases h⟩,⟨enter_ok fok37,fun _ _ h=>by cases h⟩⟩
theorem q0 (hm:Try.prog.follows .mixedOrders = true):∀ g,isR g = true→PureOk Try.prog tabs g (puV g):=fun g hg=>by
 have h:=(all_ok hm hw 30).1 g (an_inv hg).1
 by_cases e1:g = 76
 ·subst e1;exact pure_le h or76
 ·by_cases e2 : g = 74
  ·subst e2;exact pure_le h or74
  ·by_cases e3 : g = 78
   ·subst e3;exact pure_le h or78
   ·have f1 : Nat.beq g 76 = false := by cases hb : Nat.beq g 76 with | false => rfl | true => exact absurd (Nat.eq_of_beq_eq_true hb) e1
    have f2:Nat.beq g 74 = false:=by cases hb:Nat.beq g 74 with | false=>rfl | true=>exact absurd (Nat.eq_of_beq_eq_true hb) e2
    have f3:Nat.beq g 78 = false:=by cases hb:Nat.beq g 78 with | false=>rfl | true=>exact absurd (Nat.eq_of_beq_eq_true hb) e3
    have:puV g = pu0 g:=by unfold puV;rw [f1,f2,f3];rfl
    rw [this];exact h
theorem obj_le {P:Program} {tabs:List (List Value)} {na k:Nat} {g:FuncId} {f f':List Value→Option Value} (h:ObjOk P tabs na k g f) (hf:∀ a v,f' a = some v→f a = some v):ObjOk P tabs na k g f':=⟨h.1,fun args os z h1 h2 h3 h4=>h.2 args os z h1 h2 h3 (hf _ _ h4)⟩
theorem eW (g:FuncId) (h:Nat.beq g 10850 = false):puW g = pu0 g:=by unfold puW;rw [h,bb_false]
theorem eA:puW 10850 = orcA:=by unfold puW;rw [show Nat.beq 10850 10850 = true from rfl,bb_true]
theorem i0 (hm:Try.prog.follows .mixedOrders = true):CallOk Try.prog (List.range tabs.length) (inl puW):=by
 have all:(∀ g,isP g = true→PureOk Try.prog tabs g (pu0 g))∧PureOk Try.prog tabs 55 (pu0 55)∧ObjOk Try.prog tabs 1 0 86 (pu0 10860)∧ObjOk Try.prog tabs 2 1 85 (pu0 10850):=all_ok hm hw 30
 obtain ⟨_,h1,h2,h3⟩:=all
 exact inl_ok hm (pu:=puW) (by rw [eW 55 rfl];exact h1) (by rw [eW 10860 rfl];exact h2) (by rw [eA];exact obj_le h3 orA)
theorem run10:valR (evW 400 10 []) = some (.bool true):=by kernel_rfl
theorem lawOk (hm:Try.prog.follows .mixedOrders = true):PureOk Try.prog tabs 10 trueF:=by
 refine pureOk_closedP (tabs:=tabs) (n:=400) (g:=10) (H:=tabsHeap tabs) (isP:=isR) (pu:=puV) (inl:=inl puW) ttOk tabs_ne tabs_pl fnsOk hm (q0 hm) (i0 hm) (fun i=>tabsHeap_get i) rfl (enter_ok fok10) fun args v h=>?_
 replace h:=ll_end h;obtain ⟨rfl,h⟩:=h
 injection h with h;subst h
 exact ⟨rfl,.inl run10⟩
end Go.Proofs.Ytenlanbdolnhhaa.RgK
