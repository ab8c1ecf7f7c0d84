/- slices.Repeat: closed runs. -/
import Derived.Test.YtgddliaacoofiaaHpAJoinx
import Derived.Test.YtgddliaacoofiaaSpClox

set_option maxRecDepth 100000
namespace Go.Proofs.Ytgddliaacoofiaa.HpA
open Go Go.Sp Go.HpAM Go.HpA
theorem no_ok {P : Program} {gl : List Nat} : CallOk P gl (fun _ _ _ => none) := fun g args H v H' h => by cases h
noncomputable def runR (fl k : Nat) (y : Int) : Option Value := frzR 0 (evFnP [] (fun _ => false) (fun _ _ => none) (fun _ _ _ => none) tt fns 60 75 [Sl.v 1 ⟨1, fl, [.int .i64 y]⟩, .int .i64 (.ofNat k)] (pureHeap []))
theorem rep_run (fl : Nat) (y : Int) : ∀ k, k ≤ 21 → runR fl k y = some (Sl.v 1 ⟨k, 0, zeroRow [.int .i64 y] k⟩)
  | 0, _ => by kernel_rfl
  | 1, _ => by kernel_rfl
  | 2, _ => by kernel_rfl
  | 3, _ => by kernel_rfl
  | 4, _ => by kernel_rfl
  | 5, _ => by kernel_rfl
  | 6, _ => by kernel_rfl
  | 7, _ => by kernel_rfl
  | 8, _ => by kernel_rfl
  | 9, _ => by kernel_rfl
  | 10, _ => by kernel_rfl
  | 11, _ => by kernel_rfl
  | 12, _ => by kernel_rfl
  | 13, _ => by kernel_rfl
  | 14, _ => by kernel_rfl
  | 15, _ => by kernel_rfl
  | 16, _ => by kernel_rfl
  | 17, _ => by kernel_rfl
  | 18, _ => by kernel_rfl
  | 19, _ => by kernel_rfl
  | 20, _ => by kernel_rfl
  | 21, _ => by kernel_rfl
  | k + 22, h => by omega
theorem orc75_ok (hm : Try.prog.follows .mixedOrders = true) : PureOk Try.prog tabs 75 orc75 := by
  refine pureOk_closedP (tabs := tabs) (n := 60) (g := 75) (H := pureHeap tabs) (isP := fun _ => false) (pu := fun _ _ => none) (inl := fun _ _ _ => none) ttOk tabs_ne tabs_pl fnsOk hm (fun g h => by cases h) no_ok (fun _ => rfl) rfl (enter_ok fok75) fun args v h => ?_
  replace h := ll_uncons h; obtain ⟨a, r, rfl, h⟩ := h
  replace h := ll_uncons h; obtain ⟨b, r, rfl, h⟩ := h
  replace h := ll_end h; obtain ⟨rfl, h⟩ := h
  replace h := oo_inv h; obtain ⟨s, hs, h⟩ := h
  replace h := oo_inv h; obtain ⟨z, hz, h⟩ := h
  replace h := oo_inv h; obtain ⟨k, hk, h⟩ := h
  obtain rfl := toN_some hk
  obtain rfl := toSl_some hs
  obtain rfl := toI_some hz
  obtain ⟨n, fl, cs⟩ := s
  replace h := ll_uncons h; obtain ⟨x, r, hcs, h⟩ := h
  have hcs : cs = x :: r := hcs
  replace h := ll_end h; obtain ⟨rfl, h⟩ := h
  replace h := oo_inv h; obtain ⟨y, hy, h⟩ := h
  obtain rfl := toI_some hy
  subst hcs
  replace h := bb_inv h; obtain ⟨hc, h⟩ := h
  obtain ⟨h1, h2⟩ := an_inv hc
  have h1 : n = 1 := Nat.eq_of_beq_eq_true h1
  subst h1
  injection h with h; subst h
  refine ⟨rfl, .inr ?_⟩
  exact rep_run fl y k (Nat.le_of_ble_eq_true h2)
end Go.Proofs.Ytgddliaacoofiaa.HpA
