/- The law HeapAhead, as a promise: the examples by their closed run, the rest by models. -/
import Derived.Test.YthcmfnmmgejnaaaHpBRepx
import Derived.Test.YthcmfnmmgejnaaaHpBRun0
import Derived.Test.YthcmfnmmgejnaaaHpBLaw3x

set_option maxRecDepth 100000
namespace Go.Proofs.Ythcmfnmmgejnaaa.HpB
open Go Go.Sp Go.HpBM Go.HpB
theorem hw (hm : Try.prog.follows .mixedOrders = true) : PureOk Try.prog tabs 6 orc6 ∧ PureOk Try.prog tabs 62 orc62 := ⟨⟨enter_ok fok6, fun _ _ h => by cases h⟩, orc62_ok hm⟩
theorem works (hm : Try.prog.follows .mixedOrders = true) : PureOk Try.prog tabs 6 (fun args => ll args (some (.bool true)) fun _ _ => none) := by
  have all := all_ok hm (hw hm) 30
  refine pureOk_closedP (tabs := tabs) (n := 1000) (g := 6) (H := tabsHeap tabs) (isP := isP) (pu := puN 30) (inl := inl (puN 30)) ttOk tabs_ne tabs_pl fnsOk hm all.1 (inl_ok hm all.2.1 all.2.2.1 all.2.2.2.1 all.2.2.2.2.1 all.2.2.2.2.2) (fun i => tabsHeap_get i) rfl (enter_ok fok6) fun args v h => ?_
  replace h := ll_end h; obtain ⟨rfl, h⟩ := h
  injection h with h; subst h
  exact ⟨rfl, .inl worksRun⟩
theorem allW (hm : Try.prog.follows .mixedOrders = true) : ∀ g, isP g = true → PureOk Try.prog tabs g (puW g) := fun g hg => by
  cases e : Nat.beq g 6 with
  | true => obtain rfl := Nat.eq_of_beq_eq_true e; rw [puW_w]; exact works hm
  | false => rw [puW_g g e]; exact (all_ok hm (hw hm) 60).1 g hg
theorem law3 (hm : Try.prog.follows .mixedOrders = true) : PureOk Try.prog [] 3 mLaw := by
  have all := all_ok hm (hw hm) 60
  have hc := callP_ok (P := Try.prog) (tabs := tabs) (pu := puW) tabs_ne tabs_pl (inl_ok hm (pu := puW) (by rw [puW_g 41 rfl]; exact all.2.1) (by rw [puW_g 62 rfl]; exact all.2.2.1) (by rw [puW_g 10580 rfl]; exact all.2.2.2.1) (by rw [puW_g 10680 rfl]; exact all.2.2.2.2.1) (by rw [puW_g 10820 rfl]; exact all.2.2.2.2.2)) (allW hm)
  exact pureOk_of_run (tabs := tabs) (f := mLaw) ttOk hm hc fk3 fun args v h hx => r3 puW 1000000 rfl h hx
end Go.Proofs.Ythcmfnmmgejnaaa.HpB
