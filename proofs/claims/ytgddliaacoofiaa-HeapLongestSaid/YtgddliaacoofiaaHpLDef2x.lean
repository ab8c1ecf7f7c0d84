/- Closed runs whose results hold slices: these become values. -/
import Derived.Test.YtgddliaacoofiaaSpClox
import Derived.Test.YtgddliaacoofiaaHpLDefx

namespace Go.Sp
noncomputable section
def frzL (k : Nat) (l : List Value) : AHeap → Option (List Value × AHeap) :=
  List.rec (motive := fun _ => AHeap → Option (List Value × AHeap)) (fun H => some ([], H))
    (fun v _ ih H => oo (vSl v) (oo (ih H) none fun p => pp p fun r H' => some (v :: r, H')) fun _ => oo (freezeV k false v H) none fun q => pp q fun v' H1 => oo (ih H1) none fun p => pp p fun r H' => some (v' :: r, H')) l
def frzT (k : Nat) (r : Option (Value × AHeap)) : Option Value := oo r none fun p => pp p fun q H1 => oo (vTup q) none fun l => oo (frzL k l H1) none fun p2 => pp p2 fun l' _ => some (.tuple ⟨l'⟩)
end
theorem frzL_ok {n0 k : Nat} (hn : Nat.ble n0 k = true) : ∀ {l : List Value} {H : AHeap} {l' : List Value} {H' : AHeap}, frzL k l H = some (l', H') → TellL n0 H l H' l'
  | [], H, l', H', h => by
    injection h with h; injection h with e1 e2; subst e1; subst e2; exact .nil H
  | v :: l, H, l', H', h => by
    have h : oo (vSl v) (oo (frzL k l H) none fun p => pp p fun r H' => some (v :: r, H')) (fun _ => oo (freezeV k false v H) none fun q => pp q fun v' H1 => oo (frzL k l H1) none fun p => pp p fun r H' => some (v' :: r, H')) = some (l', H') := h
    cases hv : vSl v with
    | none =>
      rw [hv, oo_none] at h
      obtain ⟨p, hp, h1⟩ := oo_inv h
      rw [pp_eta] at h1
      injection h1 with h1; injection h1 with e1 e2; subst e1; subst e2
      exact .cons (Tell.refl n0 H v) (frzL_ok hn hp)
    | some s =>
      rw [hv, oo_some] at h
      obtain ⟨q, hq, h1⟩ := oo_inv h
      rw [pp_eta] at h1
      obtain ⟨p, hp, h2⟩ := oo_inv h1
      rw [pp_eta] at h2
      injection h2 with h2; injection h2 with e1 e2; subst e1; subst e2
      exact .cons (.frz (v' := q.1) (H1 := q.2) k false true hn hq rfl) (frzL_ok hn hp)
section
variable {P : Program} {tt : TT} {tabs : List (List Value)}
theorem pureOk_closedT (hT : TOk P tt) (hne : ∀ t ∈ tabs, t ≠ []) (hpl : ∀ t ∈ tabs, ∀ x ∈ t, plain1 x = true) {fns : FuncId → Option RFn} (hf : ∀ f r, fns f = some r → FnOk P (List.range tabs.length) f r) (hm : P.follows .mixedOrders = true)
    {isP : FuncId → Bool} {pu : PureF} {inl : CallF} (hpu : ∀ g, isP g = true → PureOk P tabs g (pu g)) (hinl : CallOk P (List.range tabs.length) inl) {g n : Nat} {H : AHeap} (hH : ∀ i, H.get i = (pureHeap tabs).get i) (hHn : H.next = (pureHeap tabs).next) {f : List Value → Option Value}
    (hen : ∀ (as : Array Value) (w : World), (callFunc g as).run P w = .ok (.enter g as) w)
    (hrun : ∀ args v, f args = some v → closedV v = true ∧ frzT tabs.length (evFnP tabs isP pu inl tt fns n g args H) = some v) : PureOk P tabs g f := by
  refine ⟨hen, fun args v hv _ R w args' hR hs ha => ?_⟩
  obtain ⟨hcv, hr⟩ := hrun args v hv
  have hs' : Sim H R w := hs.congr hH hHn
  have hgl : GlR (List.range tabs.length) R := fun g hg => by rw [hR]; simp at hg; simp [hg]
  obtain ⟨q, hq, h1⟩ := oo_inv (show oo (evFnP tabs isP pu inl tt fns n g args H) none (fun p => pp p fun q H1 => oo (vTup q) none fun l => oo (frzL tabs.length l H1) none fun p2 => pp p2 fun l' _ => some (.tuple ⟨l'⟩)) = some v from hr)
  rw [pp_eta] at h1
  obtain ⟨l, hl, h2⟩ := oo_inv h1
  obtain ⟨p2, hp2, h3⟩ := oo_inv h2
  rw [pp_eta] at h3
  injection h3 with h3
  have hok := (evFnP_ok hT hne hpl hf hm hpu hinl n) g args H q.1 q.2 hq
  refine (hok.2 R w args' hs' hgl ha).mono fun e w' ⟨u, R', he, hu, hp⟩ => ?_
  have hn : H.next ≤ tabs.length := by rw [hHn]; show len tabs ≤ _; rw [len_eq]; exact Nat.le_refl _
  rw [vTup_some hl] at hu
  have hn2 : H.next ≤ tabs.length := hn
  obtain ⟨R2, _, _, k2, k3⟩ := (Tell.tup (frzL_ok (n0 := tabs.length) (Nat.ble_eq_true_of_le (Nat.le_refl _)) (show frzL tabs.length l q.2 = some (p2.1, p2.2) from hp2))) H R w R' w' u hs' hn hp hu
  rw [h3] at k3
  exact ⟨u, p2.2, R2, he, hcv, k3, Post.congrL (fun i => (hH i).symm) hHn.symm k2⟩
end
end Go.Sp
set_option maxRecDepth 100000
namespace Go.HpLM
open Go Go.Sp Go.HpL Go.HpT
noncomputable section
def ev1t (f : Nat) (args : List Value) : Option Value := frzT 0 (evFnP tabs is1' pu1 (inl pu0) tt fns 1000 f args (tabsHeap tabs))
def chkT58 (p : List Nat) : Bool := pp (untP p) fun n q => isU n q (ev1t 58 [slP p])
def longs : List (Nat × List Nat) := [(0, []), (0, [1]), (0, [1, 1]), (2, [1, 1, 1]), (2, [1, 1, 1, 1]), (3, [1, 1, 1, 1, 1]), (6, [2, 2, 1, 1]), (4, [1, 1, 1, 1, 1, 1, 1]), (5, [1, 1, 1, 1, 1, 1, 1, 1]), (7, [3, 2, 2, 1, 1]), (12, [3, 2, 2, 1, 1, 1]), (8, [3, 2, 2, 2, 1, 1]), (8, [1, 1, 1, 1, 1, 1, 1, 1, 1, 1, 1, 1]), (9, [1, 1, 1, 1, 1, 1, 1, 1, 1, 1, 1, 1, 1]), (14, [3, 3, 2, 2, 2, 1, 1])]
def longV (x : Nat × List Nat) : Value := pp x fun m q => .tuple ⟨[.int .i64 (.ofNat m), slP q, .int .i64 (.ofNat 0)]⟩
def orc36 (args : List Value) : Option Value := ll args none fun a r => ll r (oo (toI .i64 a) none fun z => oo (toN z) none fun n => bb (Nat.ble 1 n) (oo (nthL longs n) none fun x => some (longV x)) none) fun _ _ => none
def ev2t (f : Nat) (args : List Value) : Option Value := frzT 0 (evFnP tabs is2 pu2 (inl pu0) tt fns 1000 f args (tabsHeap tabs))
def pu3 : PureF := fun g => bb (Nat.beq g 11) tru (bb (Nat.beq g 34) orc34 (bb (Nat.beq g 35) orc34 (bb (Nat.beq g 36) orc36 (bb (Nat.beq g 37) orc36 (pu0 g)))))
def is3 : FuncId → Bool := fun g => orr (Nat.beq g 11) (orr (Nat.beq g 34) (orr (Nat.beq g 35) (orr (Nat.beq g 36) (orr (Nat.beq g 37) (isP g)))))
def ev3 (f : Nat) (args : List Value) : Option Value := valR (evFnP tabs is3 pu3 (inl pu0) tt fns 1000 f args (tabsHeap tabs))
end
end Go.HpLM
