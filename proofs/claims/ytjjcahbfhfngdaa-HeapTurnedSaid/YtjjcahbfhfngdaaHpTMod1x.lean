/- A call that hands its argument back, and slices.Repeat of one number as a promise that closed runs give. -/
import Derived.Test.YtjjcahbfhfngdaaSpSortKx
import Derived.Test.YtjjcahbfhfngdaaHpTCode
import Derived.KernelRfl

set_option maxRecDepth 100000
namespace Go.HpTM
open Go.Sp Go.HpT
noncomputable section
def orc58 (args : List Value) : Option Value :=
  ll args none fun a r => ll r none fun b r => ll r (oo (toSl 1 a) none fun s => oo (toI .i64 b) none fun z => oo (toN z) none fun k => ll s.cs none fun x r => ll r (oo (toI .i64 x) none fun y => bb (an (Nat.beq s.n 1) (Nat.ble k 21))
    (some (Sl.v 1 ⟨k, 0, zeroRow [.int .i64 y] k⟩)) none) fun _ _ => none) fun _ _ => none
def orc6 (_ : List Value) : Option Value := none
def identF (args : List Value) (H : AHeap) : Option (Value × AHeap) := ll args none fun a r => ll r (AHeap.rec (motive := fun _ => Option (Value × AHeap)) (fun k T z => bb z (some (a, ⟨k, T, true⟩)) none) H) fun _ _ => none
theorem identEv (a : Value) (k : Nat) (T : Tr AObj) : evFn tt fns 2 18 [a] ⟨k, T, true⟩ = some (a, ⟨k, T, true⟩) := by kernel_rfl
theorem ident18_ok {P : Program} (hT : TOk P tt) (hf : ∀ f r, fns f = some r → FnOk P [] f r) (hm : P.follows .mixedOrders = true) {args : List Value} {H H' : AHeap} {v : Value} (h : identF args H = some (v, H')) :
    (∀ (as : Array Value) (w : World), (callFunc 18 as).run P w = .ok (.enter 18 as) w) ∧
    ∀ R w args', Sim H R w → GlR [] R → VRL R args args' → Calls P 18 ⟨args'⟩ w fun e w' => ∃ u R', e = .returned u ∧ VR R' v u ∧ Post H R w H' R' w' := by
  obtain ⟨a, r, rfl, h⟩ := ll_uncons h
  obtain ⟨rfl, h⟩ := ll_end h
  obtain ⟨k, T, z⟩ := H
  obtain ⟨hz, h⟩ := bb_inv (show bb z _ none = some _ from h)
  subst hz
  injection h with h
  injection h with h1 h2
  subst h1; subst h2
  exact (evFn_ok hT hf hm 2) 18 _ _ _ _ (identEv a k T)
end
end Go.HpTM
set_option maxRecDepth 100000
set_option maxHeartbeats 20000000
set_option linter.unusedVariables false
namespace Go.HpTM
open Go.Sp Go.HpT
noncomputable section
def tabs : List (List Value) := []
def plist : List Nat := [4, 6, 11, 13, 14, 16, 17, 29, 30, 33, 34, 35, 36, 43, 57]
def isP : FuncId → Bool := fun g => memN g plist
def inl (pu : PureF) : CallF := fun g args H => bb (Nat.beq g 18) (identF args H) (bb (Nat.beq g 40) (sortF args H) (bb (Nat.beq g 31) (liveF tabs 1 (pu 31) args H) (bb (Nat.beq g 58) (giveF tabs 1 (pu 58) args H) (bb (Nat.beq g 41) (objG tabs [[none]] 1 [.tmp 0 false] [false] (pu 10410) args H) (none)))))
def zA53 : List Value := [(.int .i64 (0 : Int)), (.int .i64 (0 : Int)), (.int .i64 (0 : Int)), (.int .i64 (0 : Int)), (.int .i64 (0 : Int)), (.int .i64 (0 : Int)), (.int .i64 (0 : Int)), (.int .i64 (0 : Int)), (.int .i64 (0 : Int)), (.int .i64 (0 : Int)), (.int .i64 (0 : Int)), (.int .i64 (0 : Int)), (.int .i64 (0 : Int)), (.int .i64 (0 : Int)), (.int .i64 (0 : Int)), (.int .i64 (0 : Int)), (.int .i64 (0 : Int)), (.int .i64 (0 : Int)), (.int .i64 (0 : Int)), (.int .i64 (0 : Int)), (.int .i64 (0 : Int)), (.int .i64 (0 : Int))]
end
end Go.HpTM
set_option maxRecDepth 100000
set_option maxHeartbeats 20000000
set_option linter.unusedVariables false
namespace Go.HpTM
open Go.Sp Go.HpT
noncomputable section
def m4_2 (pu : PureF) (n : Nat) (b0 : Bool) : Option Value :=
  (some (.bool b0))
def m4_1 (pu : PureF) (n : Nat) (s0 : Sl) (s1 : Sl) : Option Value :=
  (oo (pu 11 [(Sl.v 1 s1)]) none fun v0 => (oo (vTup v0) none fun l0 => (ll l0 none fun v1 l0 => (ll l0 none fun v2 l0 => (ll l0 (oo (toSl 1 v1) none fun s2 => (oo (toI .i64 v2) none fun x0 => (bb (ieq x0 (0 : Int)) (oo (pu 13 [(Sl.v 1 s2), (Sl.v 1 s0)]) none fun v3 => (oo (vBool v3) none fun b0 => (bb b0 (oo (pu 6 []) none fun v4 => (oo (vBool v4) none fun b1 => (m4_2 pu n b1))) (m4_2 pu n false)))) (m4_2 pu n false)))) fun _ _ => none)))))
def m4_4 (pu : PureF) (n : Nat) (ih0 : Sl → Sl → Sl → Int → Int → Option Value) (s0 : Sl) (s1 : Sl) (s2 : Sl) (z0 : Int) (z1 : Int) : Option Value :=
  (ih0 s0 s1 s2 z0 (wrapF .i64 (Int.add z1 (1 : Int))))
def m4_5 (pu : PureF) (n : Nat) (ih0 : Sl → Sl → Sl → Int → Int → Option Value) (s0 : Sl) (s1 : Sl) (z0 : Int) (z1 : Int) (s2 : Sl) (z2 : Int) (z3 : Int) : Option Value :=
  (bb (nt (ieq z0 z1)) (some (.bool false)) (m4_4 pu n ih0 s0 s1 s2 z2 z3))
def m4_7 (pu : PureF) (n : Nat) (ih0 : Sl → Sl → Sl → Int → Int → Option Value) (ih1 : Sl → Sl → Int → Int → Int → Sl → Int → Int → Sl → Int → Int → Option Value) (s0 : Sl) (s1 : Sl) (z0 : Int) (z1 : Int) (z2 : Int) (s2 : Sl) (z3 : Int) (z4 : Int) (s3 : Sl) (z5 : Int) (z6 : Int) : Option Value :=
  (ih1 s0 s1 z0 z1 z2 s2 z3 z4 s3 z5 (wrapF .i64 (Int.add z6 (1 : Int))))
def b4_6 (pu : PureF) (n : Nat) (ih0 : Sl → Sl → Sl → Int → Int → Option Value) (ih1 : Sl → Sl → Int → Int → Int → Sl → Int → Int → Sl → Int → Int → Option Value) (s0 : Sl) (s1 : Sl) (z0 : Int) (z1 : Int) (z2 : Int) (s2 : Sl) (z3 : Int) (z4 : Int) (s3 : Sl) (z5 : Int) (z6 : Int) : Option Value :=
  (bb (ilt z6 z5) (oo (toN z6) none fun k1 => (bb (an (Nat.blt k1 (Sl.n s3)) true) (oo (nthL (Sl.cs s3) (k1 * 1)) none fun v0 => (oo (toI .i64 v0) none fun x0 => (bb (ilt z0 x0) (m4_7 pu n ih0 ih1 s0 s1 z0 z1 (wrapF .i64 (Int.add z2 (1 : Int))) s2 z3 z4 s3 z5 (Int.ofNat k1)) (m4_7 pu n ih0 ih1 s0 s1 z0 z1 z2 s2 z3 z4 s3 z5 (Int.ofNat k1))))) none)) (m4_5 pu n ih0 s0 s1 z1 z2 s2 z3 z4))
def l4_6 (pu : PureF) (n : Nat) (ih0 : Sl → Sl → Sl → Int → Int → Option Value) (w : Nat) : Sl → Sl → Int → Int → Int → Sl → Int → Int → Sl → Int → Int → Option Value :=
  Nat.rec (motive := fun _ => Sl → Sl → Int → Int → Int → Sl → Int → Int → Sl → Int → Int → Option Value) (fun _ _ _ _ _ _ _ _ _ _ _ => none) (fun _ ih1 => b4_6 pu n ih0 ih1) w
def b4_3 (pu : PureF) (n : Nat) (ih0 : Sl → Sl → Sl → Int → Int → Option Value) (s0 : Sl) (s1 : Sl) (s2 : Sl) (z0 : Int) (z1 : Int) : Option Value :=
  (bb (ilt z1 z0) (oo (toN z1) none fun k1 => (bb (an (Nat.blt k1 (Sl.n s2)) true) (oo (nthL (Sl.cs s2) (k1 * 1)) none fun v0 => (oo (toI .i64 v0) none fun x0 => (l4_6 pu n ih0 n s0 s1 (Int.ofNat k1) x0 (0 : Int) s2 z0 (Int.ofNat k1) s0 (Int.ofNat (Sl.n s0)) (0 : Int)))) none)) (m4_1 pu n s0 s1))
def l4_3 (pu : PureF) (n : Nat) (w : Nat) : Sl → Sl → Sl → Int → Int → Option Value :=
  Nat.rec (motive := fun _ => Sl → Sl → Sl → Int → Int → Option Value) (fun _ _ _ _ _ => none) (fun _ ih0 => b4_3 pu n ih0) w
def m4_0 (pu : PureF) (n : Nat) (s75 : Sl) (s76 : Sl) (b77 : Bool) : Option Value :=
  (bb b77 (some (.bool false)) (l4_3 pu n n s75 s76 s76 (Int.ofNat (Sl.n s76)) (0 : Int)))
def m4_ (pu : PureF) (n : Nat) (s1 : Sl) : Option Value :=
  (oo (pu 16 [(Sl.v 1 s1), (.int .i64 (21 : Int))]) none fun v7 => (oo (toSl 1 v7) none fun s9 => (oo (pu 11 [(Sl.v 1 s9)]) none fun v21 => (oo (vTup v21) none fun l23 => (ll l23 none fun v25 l23 => (ll l23 none fun v26 l23 => (ll l23 (oo (toSl 1 v25) none fun s27 => (oo (toI .i64 v26) none fun x29 => (bb (nt (ieq x29 (0 : Int))) (m4_0 pu n s9 s27 true) (oo (pu 17 [(Sl.v 1 s27)]) none fun v0 => (oo (toI .i64 v0) none fun x0 => (oo (pu 17 [(Sl.v 1 s9)]) none fun v1 => (oo (toI .i64 v1) none fun x1 => (bb (nt (ieq x0 x1)) (m4_0 pu n s9 s27 true) (bb (an (Nat.blt 0 (Sl.n s9)) true) (oo (nthL (Sl.cs s9) (0 * 1)) none fun v2 => (oo (toI .i64 v2) none fun x2 => (bb (nt (ieq (Int.ofNat (Sl.n s27)) x2)) (m4_0 pu n s9 s27 true) (bb (ieq (Int.ofNat (Sl.n s27)) (0 : Int)) (m4_0 pu n s9 s27 true) (bb (an (Nat.blt 0 (Sl.n s27)) true) (oo (nthL (Sl.cs s27) (0 * 1)) none fun v3 => (oo (toI .i64 v3) none fun x3 => (m4_0 pu n s9 s27 (nt (ieq x3 (Int.ofNat (Sl.n s9))))))) none))))) none))))))))) fun _ _ => none)))))))
def m4 (pu : PureF) (n : Nat) (args : List Value) : Option Value :=
  (ll args none fun a0 args => (ll args (oo (toSl 1 a0) none fun s1 => (m4_ pu n s1)) fun _ _ => none))
theorem w4_2 (pu : PureF) (n : Nat) (b0 : Bool) {v : Value} (hm : m4_2 pu n b0 = some v) : Run tt (callP tabs isP pu (inl pu)) 0 .ret (fr 88 [(2, (zB b0))]) (hp 0 []) (Fin tt 0 [.tmp 2] v) := by
  unfold m4_2 at hm
  refine .ret ?_
  exact fin_ret (zB b0) (by kernel_rfl) (by kernel_rfl) hm
theorem w4_1 (pu : PureF) (n : Nat) (s0 : Sl) (s1 : Sl) {v : Value} (hm : m4_1 pu n s0 s1 = some v) : Run tt (callP tabs isP pu (inl pu)) 0 c4_49 (fr 88 [(3, (Sl.v 1 s0)), (4, (Sl.v 1 s1))]) (hp 0 []) (Fin tt 0 [.tmp 2] v) := by
  unfold m4_1 at hm
  refine .then ?_
  replace hm := oo_inv hm; obtain ⟨v0, h0, hm⟩ := hm
  replace hm := inv_vTup hm; obtain ⟨l0, rfl, hm⟩ := hm
  replace hm := ll_uncons hm; obtain ⟨v1, l360_0, rfl, hm⟩ := hm
  replace hm := ll_uncons hm; obtain ⟨v2, l360_1, rfl, hm⟩ := hm
  replace hm := ll_end hm; obtain ⟨rfl, hm⟩ := hm
  replace hm := inv_toSl hm; obtain ⟨s2, rfl, hm⟩ := hm
  replace hm := inv_toI hm; obtain ⟨x0, rfl, hm⟩ := hm
  refine .reg (eC 1 ((oo (pu 11 [(Sl.v 1 s1)]) none fun v => some (v, (hp 0 [])))) (call_eq h0) (eE)) ?_
  refine .ghs (fr 88 [(3, (Sl.v 1 s0)), (11, (Sl.v 1 s2)), (12, (zI x0))]) (hp 0 []) (.k0 [] [] [3, 11, 12]) ?_
  refine .join (v := v) (fun y : Bool => ((fr 88 [(2, (zB y))]), (hp 0 []))) (fun y => m4_2 pu n y) ?_ ?_
  · rintro b0 hm
    exact w4_2 pu n b0 hm
  · replace hm := bb_cases hm; rcases hm with ⟨h1, hm⟩ | ⟨h1, hm⟩
    · replace hm := oo_inv hm; obtain ⟨v3, h2, hm⟩ := hm
      replace hm := inv_vBool hm; obtain ⟨b1, rfl, hm⟩ := hm
      replace hm := bb_cases hm; rcases hm with ⟨h3, hm⟩ | ⟨h3, hm⟩
      · replace hm := oo_inv hm; obtain ⟨v4, h4, hm⟩ := hm
        replace hm := inv_vBool hm; obtain ⟨b2, rfl, hm⟩ := hm
        refine .reg (eC 1 (some ((zB (ieq x0 (0 : Int))), (hp 0 []))) (show _ = some ((zB true), _) from (by rw [h1])) (eC 3 ((oo (pu 13 [(Sl.v 1 s2), (Sl.v 1 s0)]) none fun v => some (v, (hp 0 [])))) (show _ = some ((zB true), _) from (by have hz : (oo (pu 13 [(Sl.v 1 s2), (Sl.v 1 s0)]) none fun v => some (v, (hp 0 []))) = some ((zB b1), (hp 0 [])) := (call_eq h2); rw [h3] at hz; exact hz)) (eC 2 ((oo (pu 6 []) none fun v => some (v, (hp 0 [])))) (call_eq h4) (eE)))) ?_
        exact ⟨b2, hm, (.k0 [] [] [2])⟩
      · refine .reg (eC 1 (some ((zB (ieq x0 (0 : Int))), (hp 0 []))) (show _ = some ((zB true), _) from (by rw [h1])) (eC 3 ((oo (pu 13 [(Sl.v 1 s2), (Sl.v 1 s0)]) none fun v => some (v, (hp 0 [])))) (show _ = some ((zB false), _) from (by have hz : (oo (pu 13 [(Sl.v 1 s2), (Sl.v 1 s0)]) none fun v => some (v, (hp 0 []))) = some ((zB b1), (hp 0 [])) := (call_eq h2); rw [h3] at hz; exact hz)) (eE))) ?_
        exact ⟨false, hm, (.k0 [] [] [2])⟩
    · refine .reg (eC 1 (some ((zB (ieq x0 (0 : Int))), (hp 0 []))) (show _ = some ((zB false), _) from (by rw [h1])) (eE)) ?_
      exact ⟨false, hm, (.k0 [] [] [2])⟩
theorem r4 {call : CallF} (pu : PureF) (n : Nat) (hcall : call = callP tabs isP pu (inl pu)) {args : List Value} {v : Value} (hm : m4 pu n args = some v) (_ : ∀ x ∈ args, closed2 x = true) : args.length ≤ 88 ∧ Run tt call 0 c4_54 (Fr.made 88 args) (pureHeap tabs) (Fin tt 0 [.tmp 2] v) := by
  subst hcall
  unfold m4 at hm
  replace hm := ll_uncons hm; obtain ⟨a0, args_0, rfl, hm⟩ := hm
  replace hm := ll_end hm; obtain ⟨rfl, hm⟩ := hm
  replace hm := inv_toSl hm; obtain ⟨s1, rfl, hm⟩ := hm
  unfold m4_ at hm
  refine ⟨by simp, ?_⟩
  refine .same (F' := (fr 88 [(0, (Sl.v 1 s1))])) (H' := (hp 0 [])) (by kernel_rfl) (by kernel_rfl) ?_
  refine .then ?_
  refine .rK ?_
  refine .ghs (fr 88 [(0, (Sl.v 1 s1))]) (hp 0 []) (.k0 [] [] [0]) ?_
  refine .then ?_
  replace hm := oo_inv hm; obtain ⟨v7, h8, hm⟩ := hm
  replace hm := inv_toSl hm; obtain ⟨s9, rfl, hm⟩ := hm
  refine .reg (eC 1 ((oo (pu 16 [(Sl.v 1 s1), (zI (21 : Int))]) none fun v => some (v, (hp 0 [])))) (call_eq h8) (eE)) ?_
  refine .ghs (fr 88 [(3, (Sl.v 1 s9))]) (hp 0 []) (.k0 [] [] [3]) ?_
  refine .then ?_
  replace hm := oo_inv hm; obtain ⟨v21, h22, hm⟩ := hm
  replace hm := inv_vTup hm; obtain ⟨l23, rfl, hm⟩ := hm
  replace hm := ll_uncons hm; obtain ⟨v25, l23_0, rfl, hm⟩ := hm
  replace hm := ll_uncons hm; obtain ⟨v26, l23_1, rfl, hm⟩ := hm
  replace hm := ll_end hm; obtain ⟨rfl, hm⟩ := hm
  replace hm := inv_toSl hm; obtain ⟨s27, rfl, hm⟩ := hm
  replace hm := inv_toI hm; obtain ⟨x29, rfl, hm⟩ := hm
  refine .reg (eC 1 ((oo (pu 11 [(Sl.v 1 s9)]) none fun v => some (v, (hp 0 [])))) (call_eq h22) (eE)) ?_
  refine .ghs (fr 88 [(3, (Sl.v 1 s9)), (4, (Sl.v 1 s27)), (5, (zI x29))]) (hp 0 []) (.k0 [] [] [3, 4, 5]) ?_
  refine .then ?_
  refine .join (v := v) (fun y : Sl × Sl × Bool => ((fr 88 [(3, (Sl.v 1 y.1)), (4, (Sl.v 1 y.2.1)), (49, (zB y.2.2))]), (hp 0 []))) (fun y => m4_0 pu n y.1 y.2.1 y.2.2) ?_ ?_
  · rintro ⟨s75, s76, b77⟩ hm
    unfold m4_0 at hm
    replace hm := bb_cases hm; rcases hm with ⟨h78, hm⟩ | ⟨h78, hm⟩
    · refine .ifT b77 (by kernel_rfl) h78 ?_
      refine .then ?_
      refine .rK ?_
      refine .ghs (fr 88 [(2, (zB false))]) (hp 0 []) (.k0 [] [] [2]) ?_
      refine .ret ?_
      exact fin_ret (zB false) (by kernel_rfl) (by kernel_rfl) hm
    · refine .ifF b77 (by kernel_rfl) h78 ?_
      refine .skip ?_
      refine .ghs (fr 88 [(3, (Sl.v 1 s75)), (4, (Sl.v 1 s76))]) (hp 0 []) (.k0 [] [] [3, 4]) ?_
      refine .join (v := v) (fun y : Sl × Sl => ((fr 88 [(3, (Sl.v 1 y.1)), (4, (Sl.v 1 y.2))]), (hp 0 []))) (fun y => m4_1 pu n y.1 y.2) ?_ ?_
      · rintro ⟨s0, s2⟩ hm
        exact w4_1 pu n s0 s2 hm
      · refine .then ?_
        refine .rK ?_
        refine .ghs (fr 88 [(3, (Sl.v 1 s75)), (4, (Sl.v 1 s76)), (50, (Sl.v 1 s76)), (51, (zI (Int.ofNat (Sl.n s76)))), (52, (zI (0 : Int)))]) (hp 0 []) (.k0 [] [] [3, 4, 50, 51, 52]) ?_
        refine .block ?_
        refine .loopM (v := v) (fun y : Sl × Sl × Sl × Int × Int => ((fr 88 [(3, (Sl.v 1 y.1)), (4, (Sl.v 1 y.2.1)), (50, (Sl.v 1 y.2.2.1)), (51, (zI y.2.2.2.1)), (52, (zI y.2.2.2.2))]), (hp 0 []))) (fun w y => l4_3 pu n w y.1 y.2.1 y.2.2.1 y.2.2.2.1 y.2.2.2.2) n ⟨(s75, s76, s76, (Int.ofNat (Sl.n s76)), (0 : Int)), hm, (.k0 [] [] [3, 4, 50, 51, 52])⟩ (fun _ => rfl) ?_
        rintro w0 ⟨s3, s4, s5, z0, z1⟩ hm
        replace hm : b4_3 pu n (l4_3 pu n w0) s3 s4 s5 z0 z1 = some v := hm
        unfold b4_3 at hm
        refine .then ?_
        refine .rK ?_
        refine .ghs (fr 88 [(3, (Sl.v 1 s3)), (4, (Sl.v 1 s4)), (50, (Sl.v 1 s5)), (51, (zI z0)), (52, (zI z1)), (53, (zB (ilt z1 z0)))]) (hp 0 []) (.k0 [] [] [3, 4, 50, 51, 52, 53]) ?_
        refine .then ?_
        replace hm := bb_cases hm; rcases hm with ⟨h0, hm⟩ | ⟨h0, hm⟩
        · refine .ifT (ilt z1 z0) (by kernel_rfl) h0 ?_
          refine .skip ?_
          refine .ghs (fr 88 [(3, (Sl.v 1 s3)), (4, (Sl.v 1 s4)), (50, (Sl.v 1 s5)), (51, (zI z0)), (52, (zI z1))]) (hp 0 []) (.k0 [] [] [3, 4, 50, 51, 52]) ?_
          refine .join (v := v) (fun y : Sl × Sl × Sl × Int × Int => ((fr 88 [(3, (Sl.v 1 y.1)), (4, (Sl.v 1 y.2.1)), (50, (Sl.v 1 y.2.2.1)), (51, (zI y.2.2.2.1)), (52, (zI y.2.2.2.2))]), (hp 0 []))) (fun y => m4_4 pu n (l4_3 pu n w0) y.1 y.2.1 y.2.2.1 y.2.2.2.1 y.2.2.2.2) ?_ ?_
          · rintro ⟨s6, s7, s8, z2, z3⟩ hm
            unfold m4_4 at hm
            refine .rK ?_
            exact ⟨(s6, s7, s8, z2, (wrapF .i64 (Int.add z3 (1 : Int)))), hm, (.k0 [] [] [3, 4, 50, 51, 52])⟩
          · refine .block ?_
            refine .then ?_
            replace hm := oo_inv hm; obtain ⟨k1, h1, hm⟩ := hm
            obtain rfl := toN_some h1
            replace hm := bb_inv hm; obtain ⟨h2, hm⟩ := hm
            replace hm := oo_inv hm; obtain ⟨v0, h3, hm⟩ := hm
            replace hm := inv_toI hm; obtain ⟨x0, rfl, hm⟩ := hm
            refine .reg (eC 1 (keep (hp 0 []) (bb (an (Nat.blt k1 (Sl.n s5)) true) (some (fpV (k1 * 1) (Sl.cs s5))) none)) (keep_bb h2) (eD (keep (hp 0 []) (nthL (Sl.cs s5) (k1 * 1))) (keep_eq h3) (eE))) ?_
            refine .ghs (fr 88 [(3, (Sl.v 1 s3)), (4, (Sl.v 1 s4)), (6, (zI (Int.ofNat k1))), (7, (zI x0)), (50, (Sl.v 1 s5)), (51, (zI z0)), (52, (zI (Int.ofNat k1)))]) (hp 0 []) (.k0 [] [] [3, 4, 6, 7, 50, 51, 52]) ?_
            refine .then ?_
            refine .rK ?_
            refine .ghs (fr 88 [(3, (Sl.v 1 s3)), (4, (Sl.v 1 s4)), (6, (zI (Int.ofNat k1))), (7, (zI x0)), (8, (zI (0 : Int))), (50, (Sl.v 1 s5)), (51, (zI z0)), (52, (zI (Int.ofNat k1)))]) (hp 0 []) (.k0 [] [] [3, 4, 6, 7, 8, 50, 51, 52]) ?_
            refine .join (v := v) (fun y : Sl × Sl × Int × Int × Sl × Int × Int => ((fr 88 [(3, (Sl.v 1 y.1)), (4, (Sl.v 1 y.2.1)), (7, (zI y.2.2.1)), (8, (zI y.2.2.2.1)), (50, (Sl.v 1 y.2.2.2.2.1)), (51, (zI y.2.2.2.2.2.1)), (52, (zI y.2.2.2.2.2.2))]), (hp 0 []))) (fun y => m4_5 pu n (l4_3 pu n w0) y.1 y.2.1 y.2.2.1 y.2.2.2.1 y.2.2.2.2.1 y.2.2.2.2.2.1 y.2.2.2.2.2.2) ?_ ?_
            · rintro ⟨s10, s11, z4, z5, s12, z6, z7⟩ hm
              unfold m4_5 at hm
              refine .then ?_
              refine .rK ?_
              refine .ghs (fr 88 [(3, (Sl.v 1 s10)), (4, (Sl.v 1 s11)), (50, (Sl.v 1 s12)), (51, (zI z6)), (52, (zI z7)), (71, (zB (nt (ieq z4 z5))))]) (hp 0 []) (.k0 [] [] [3, 4, 50, 51, 52, 71]) ?_
              replace hm := bb_cases hm; rcases hm with ⟨h4, hm⟩ | ⟨h4, hm⟩
              · refine .ifT (nt (ieq z4 z5)) (by kernel_rfl) h4 ?_
                refine .then ?_
                refine .rK ?_
                refine .ghs (fr 88 [(2, (zB false))]) (hp 0 []) (.k0 [] [] [2]) ?_
                refine .ret ?_
                exact fin_ret (zB false) (by kernel_rfl) (by kernel_rfl) hm
              · refine .ifF (nt (ieq z4 z5)) (by kernel_rfl) h4 ?_
                refine .skip ?_
                exact ⟨(s10, s11, s12, z6, z7), hm, (.k0 [] [] [3, 4, 50, 51, 52])⟩
            · refine .then ?_
              refine .rK ?_
              refine .ghs (fr 88 [(3, (Sl.v 1 s3)), (4, (Sl.v 1 s4)), (6, (zI (Int.ofNat k1))), (7, (zI x0)), (8, (zI (0 : Int))), (50, (Sl.v 1 s5)), (51, (zI z0)), (52, (zI (Int.ofNat k1))), (57, (Sl.v 1 s3)), (58, (zI (Int.ofNat (Sl.n s3)))), (59, (zI (0 : Int)))]) (hp 0 []) (.k0 [] [] [3, 4, 6, 7, 8, 50, 51, 52, 57, 58, 59]) ?_
              refine .block ?_
              refine .loopM (v := v) (fun y : Sl × Sl × Int × Int × Int × Sl × Int × Int × Sl × Int × Int => ((fr 88 [(3, (Sl.v 1 y.1)), (4, (Sl.v 1 y.2.1)), (6, (zI y.2.2.1)), (7, (zI y.2.2.2.1)), (8, (zI y.2.2.2.2.1)), (50, (Sl.v 1 y.2.2.2.2.2.1)), (51, (zI y.2.2.2.2.2.2.1)), (52, (zI y.2.2.2.2.2.2.2.1)), (57, (Sl.v 1 y.2.2.2.2.2.2.2.2.1)), (58, (zI y.2.2.2.2.2.2.2.2.2.1)), (59, (zI y.2.2.2.2.2.2.2.2.2.2))]), (hp 0 []))) (fun w y => l4_6 pu n (l4_3 pu n w0) w y.1 y.2.1 y.2.2.1 y.2.2.2.1 y.2.2.2.2.1 y.2.2.2.2.2.1 y.2.2.2.2.2.2.1 y.2.2.2.2.2.2.2.1 y.2.2.2.2.2.2.2.2.1 y.2.2.2.2.2.2.2.2.2.1 y.2.2.2.2.2.2.2.2.2.2) n ⟨(s3, s4, (Int.ofNat k1), x0, (0 : Int), s5, z0, (Int.ofNat k1), s3, (Int.ofNat (Sl.n s3)), (0 : Int)), hm, (.k0 [] [] [3, 4, 6, 7, 8, 50, 51, 52, 57, 58, 59])⟩ (fun _ => rfl) ?_
              rintro w1 ⟨s13, s14, z8, z9, z10, s15, z11, z12, s16, z13, z14⟩ hm
              replace hm : b4_6 pu n (l4_3 pu n w0) (l4_6 pu n (l4_3 pu n w0) w1) s13 s14 z8 z9 z10 s15 z11 z12 s16 z13 z14 = some v := hm
              unfold b4_6 at hm
              refine .then ?_
              refine .rK ?_
              refine .ghs (fr 88 [(3, (Sl.v 1 s13)), (4, (Sl.v 1 s14)), (6, (zI z8)), (7, (zI z9)), (8, (zI z10)), (50, (Sl.v 1 s15)), (51, (zI z11)), (52, (zI z12)), (57, (Sl.v 1 s16)), (58, (zI z13)), (59, (zI z14)), (60, (zB (ilt z14 z13)))]) (hp 0 []) (.k0 [] [] [3, 4, 6, 7, 8, 50, 51, 52, 57, 58, 59, 60]) ?_
              refine .then ?_
              replace hm := bb_cases hm; rcases hm with ⟨h5, hm⟩ | ⟨h5, hm⟩
              · refine .ifT (ilt z14 z13) (by kernel_rfl) h5 ?_
                refine .skip ?_
                refine .ghs (fr 88 [(3, (Sl.v 1 s13)), (4, (Sl.v 1 s14)), (6, (zI z8)), (7, (zI z9)), (8, (zI z10)), (50, (Sl.v 1 s15)), (51, (zI z11)), (52, (zI z12)), (57, (Sl.v 1 s16)), (58, (zI z13)), (59, (zI z14))]) (hp 0 []) (.k0 [] [] [3, 4, 6, 7, 8, 50, 51, 52, 57, 58, 59]) ?_
                refine .join (v := v) (fun y : Sl × Sl × Int × Int × Int × Sl × Int × Int × Sl × Int × Int => ((fr 88 [(3, (Sl.v 1 y.1)), (4, (Sl.v 1 y.2.1)), (6, (zI y.2.2.1)), (7, (zI y.2.2.2.1)), (8, (zI y.2.2.2.2.1)), (50, (Sl.v 1 y.2.2.2.2.2.1)), (51, (zI y.2.2.2.2.2.2.1)), (52, (zI y.2.2.2.2.2.2.2.1)), (57, (Sl.v 1 y.2.2.2.2.2.2.2.2.1)), (58, (zI y.2.2.2.2.2.2.2.2.2.1)), (59, (zI y.2.2.2.2.2.2.2.2.2.2))]), (hp 0 []))) (fun y => m4_7 pu n (l4_3 pu n w0) (l4_6 pu n (l4_3 pu n w0) w1) y.1 y.2.1 y.2.2.1 y.2.2.2.1 y.2.2.2.2.1 y.2.2.2.2.2.1 y.2.2.2.2.2.2.1 y.2.2.2.2.2.2.2.1 y.2.2.2.2.2.2.2.2.1 y.2.2.2.2.2.2.2.2.2.1 y.2.2.2.2.2.2.2.2.2.2) ?_ ?_
                · rintro ⟨s17, s18, z15, z16, z17, s19, z18, z19, s20, z20, z21⟩ hm
                  unfold m4_7 at hm
                  refine .rK ?_
                  exact ⟨(s17, s18, z15, z16, z17, s19, z18, z19, s20, z20, (wrapF .i64 (Int.add z21 (1 : Int)))), hm, (.k0 [] [] [3, 4, 6, 7, 8, 50, 51, 52, 57, 58, 59])⟩
                · refine .block ?_
                  refine .then ?_
                  replace hm := oo_inv hm; obtain ⟨k2, h6, hm⟩ := hm
                  obtain rfl := toN_some h6
                  replace hm := bb_inv hm; obtain ⟨h7, hm⟩ := hm
                  replace hm := oo_inv hm; obtain ⟨v1, h9, hm⟩ := hm
                  replace hm := inv_toI hm; obtain ⟨x1, rfl, hm⟩ := hm
                  refine .reg (eD (keep (hp 0 []) (bb (an (Nat.blt k2 (Sl.n s16)) true) (some (fpV (k2 * 1) (Sl.cs s16))) none)) (keep_bb h7) (eD (keep (hp 0 []) (nthL (Sl.cs s16) (k2 * 1))) (keep_eq h9) (eE))) ?_
                  refine .ghs (fr 88 [(3, (Sl.v 1 s13)), (4, (Sl.v 1 s14)), (6, (zI z8)), (7, (zI z9)), (8, (zI z10)), (10, (zI x1)), (50, (Sl.v 1 s15)), (51, (zI z11)), (52, (zI z12)), (57, (Sl.v 1 s16)), (58, (zI z13)), (59, (zI (Int.ofNat k2)))]) (hp 0 []) (.k0 [] [] [3, 4, 6, 7, 8, 10, 50, 51, 52, 57, 58, 59]) ?_
                  refine .then ?_
                  refine .rK ?_
                  refine .ghs (fr 88 [(3, (Sl.v 1 s13)), (4, (Sl.v 1 s14)), (6, (zI z8)), (7, (zI z9)), (8, (zI z10)), (50, (Sl.v 1 s15)), (51, (zI z11)), (52, (zI z12)), (57, (Sl.v 1 s16)), (58, (zI z13)), (59, (zI (Int.ofNat k2))), (65, (zB (ilt z8 x1)))]) (hp 0 []) (.k0 [] [] [3, 4, 6, 7, 8, 50, 51, 52, 57, 58, 59, 65]) ?_
                  replace hm := bb_cases hm; rcases hm with ⟨h10, hm⟩ | ⟨h10, hm⟩
                  · refine .ifT (ilt z8 x1) (by kernel_rfl) h10 ?_
                    refine .rK ?_
                    exact ⟨(s13, s14, z8, z9, (wrapF .i64 (Int.add z10 (1 : Int))), s15, z11, z12, s16, z13, (Int.ofNat k2)), hm, (.k0 [] [] [3, 4, 6, 7, 8, 50, 51, 52, 57, 58, 59])⟩
                  · refine .ifF (ilt z8 x1) (by kernel_rfl) h10 ?_
                    refine .skip ?_
                    exact ⟨(s13, s14, z8, z9, z10, s15, z11, z12, s16, z13, (Int.ofNat k2)), hm, (.k0 [] [] [3, 4, 6, 7, 8, 50, 51, 52, 57, 58, 59])⟩
              · refine .ifF (ilt z14 z13) (by kernel_rfl) h5 ?_
                refine .exit ?_
                exact ⟨(s13, s14, z9, z10, s15, z11, z12), hm, (.k0 [] [] [3, 4, 7, 8, 50, 51, 52])⟩
        · refine .ifF (ilt z1 z0) (by kernel_rfl) h0 ?_
          refine .exit ?_
          exact ⟨(s3, s4), hm, (.k0 [] [] [3, 4])⟩
  · replace hm := bb_cases hm; rcases hm with ⟨h11, hm⟩ | ⟨h11, hm⟩
    · refine .reg (eC 1 (some ((zB (nt (ieq x29 (0 : Int)))), (hp 0 []))) (show _ = some ((zB true), _) from (by rw [h11])) (eE)) ?_
      exact ⟨(s9, s27, true), hm, (.k0 [] [] [3, 4, 49])⟩
    · replace hm := oo_inv hm; obtain ⟨v2, h12, hm⟩ := hm
      replace hm := inv_toI hm; obtain ⟨x2, rfl, hm⟩ := hm
      replace hm := oo_inv hm; obtain ⟨v3, h13, hm⟩ := hm
      replace hm := inv_toI hm; obtain ⟨x3, rfl, hm⟩ := hm
      replace hm := bb_cases hm; rcases hm with ⟨h14, hm⟩ | ⟨h14, hm⟩
      · refine .reg (eC 1 (some ((zB (nt (ieq x29 (0 : Int)))), (hp 0 []))) (show _ = some ((zB false), _) from (by rw [h11])) (eC 2 ((oo (pu 17 [(Sl.v 1 s27)]) none fun v => some (v, (hp 0 [])))) (call_eq h12) (eC 1 ((oo (pu 17 [(Sl.v 1 s9)]) none fun v => some (v, (hp 0 [])))) (call_eq h13) (eD (some ((zB (nt (ieq x2 x3))), (hp 0 []))) (show _ = some ((zB true), _) from (by rw [h14])) (eE))))) ?_
        exact ⟨(s9, s27, true), hm, (.k0 [] [] [3, 4, 49])⟩
      · replace hm := bb_inv hm; obtain ⟨h15, hm⟩ := hm
        replace hm := oo_inv hm; obtain ⟨v4, h16, hm⟩ := hm
        replace hm := inv_toI hm; obtain ⟨x4, rfl, hm⟩ := hm
        replace hm := bb_cases hm; rcases hm with ⟨h17, hm⟩ | ⟨h17, hm⟩
        · refine .reg (eN 7 (Fr.puts (fr 88 [(3, (Sl.v 1 s9)), (4, (Sl.v 1 s27)), (5, (zI x29))]) [(20, (zI x29)), (21, (zB false)), (22, (zB false)), (23, (Sl.v 1 s27)), (24, (zI x2)), (25, (Sl.v 1 s9)), (26, (zI x3))]) (hp 0 []) (eC 1 (some ((zB (nt (ieq x29 (0 : Int)))), (hp 0 []))) (show _ = some ((zB false), _) from (by rw [h11])) (eC 2 ((oo (pu 17 [(Sl.v 1 s27)]) none fun v => some (v, (hp 0 [])))) (call_eq h12) (eC 1 ((oo (pu 17 [(Sl.v 1 s9)]) none fun v => some (v, (hp 0 [])))) (call_eq h13) (by kernel_rfl)))) (eD (some ((zB (nt (ieq x2 x3))), (hp 0 []))) (show _ = some ((zB false), _) from (by rw [h14])) (eC 5 (keep (hp 0 []) (bb (an (Nat.blt 0 (Sl.n s9)) true) (some (fpV (0 * 1) (Sl.cs s9))) none)) (keep_bb h15) (eD (keep (hp 0 []) (nthL (Sl.cs s9) (0 * 1))) (keep_eq h16) (eD (some ((zB (nt (ieq (Int.ofNat (Sl.n s27)) x4))), (hp 0 []))) (show _ = some ((zB true), _) from (by rw [h17])) (eE)))))) ?_
          exact ⟨(s9, s27, true), hm, (.k0 [] [] [3, 4, 49])⟩
        · replace hm := bb_cases hm; rcases hm with ⟨h18, hm⟩ | ⟨h18, hm⟩
          · refine .reg (eN 7 (Fr.puts (fr 88 [(3, (Sl.v 1 s9)), (4, (Sl.v 1 s27)), (5, (zI x29))]) [(20, (zI x29)), (21, (zB false)), (22, (zB false)), (23, (Sl.v 1 s27)), (24, (zI x2)), (25, (Sl.v 1 s9)), (26, (zI x3))]) (hp 0 []) (eC 1 (some ((zB (nt (ieq x29 (0 : Int)))), (hp 0 []))) (show _ = some ((zB false), _) from (by rw [h11])) (eC 2 ((oo (pu 17 [(Sl.v 1 s27)]) none fun v => some (v, (hp 0 [])))) (call_eq h12) (eC 1 ((oo (pu 17 [(Sl.v 1 s9)]) none fun v => some (v, (hp 0 [])))) (call_eq h13) (by kernel_rfl)))) (eD (some ((zB (nt (ieq x2 x3))), (hp 0 []))) (show _ = some ((zB false), _) from (by rw [h14])) (eC 5 (keep (hp 0 []) (bb (an (Nat.blt 0 (Sl.n s9)) true) (some (fpV (0 * 1) (Sl.cs s9))) none)) (keep_bb h15) (eD (keep (hp 0 []) (nthL (Sl.cs s9) (0 * 1))) (keep_eq h16) (eD (some ((zB (nt (ieq (Int.ofNat (Sl.n s27)) x4))), (hp 0 []))) (show _ = some ((zB false), _) from (by rw [h17])) (eC 4 (some ((zB (ieq (Int.ofNat (Sl.n s27)) (0 : Int))), (hp 0 []))) (show _ = some ((zB true), _) from (by rw [h18])) (eE))))))) ?_
            exact ⟨(s9, s27, true), hm, (.k0 [] [] [3, 4, 49])⟩
          · replace hm := bb_inv hm; obtain ⟨h19, hm⟩ := hm
            replace hm := oo_inv hm; obtain ⟨v5, h20, hm⟩ := hm
            replace hm := inv_toI hm; obtain ⟨x5, rfl, hm⟩ := hm
            refine .reg (eN 7 (Fr.puts (fr 88 [(3, (Sl.v 1 s9)), (4, (Sl.v 1 s27)), (5, (zI x29))]) [(20, (zI x29)), (21, (zB false)), (22, (zB false)), (23, (Sl.v 1 s27)), (24, (zI x2)), (25, (Sl.v 1 s9)), (26, (zI x3))]) (hp 0 []) (eC 1 (some ((zB (nt (ieq x29 (0 : Int)))), (hp 0 []))) (show _ = some ((zB false), _) from (by rw [h11])) (eC 2 ((oo (pu 17 [(Sl.v 1 s27)]) none fun v => some (v, (hp 0 [])))) (call_eq h12) (eC 1 ((oo (pu 17 [(Sl.v 1 s9)]) none fun v => some (v, (hp 0 [])))) (call_eq h13) (by kernel_rfl)))) (eN 8 (Fr.puts (fr 88 [(3, (Sl.v 1 s9)), (4, (Sl.v 1 s27)), (5, (zI x29))]) [(20, (zI x29)), (21, (zB false)), (22, (zB false)), (23, (Sl.v 1 s27)), (24, (zI x2)), (25, (Sl.v 1 s9)), (26, (zI x3)), (27, (zB false)), (28, (zB false)), (29, (zB false)), (30, (Sl.v 1 s27)), (31, (zI (Int.ofNat (Sl.n s27)))), (32, (Sl.v 1 s9)), (33, (fpV (0 * 1) (Sl.cs s9))), (34, (zI x4))]) (hp 0 []) (eD (some ((zB (nt (ieq x2 x3))), (hp 0 []))) (show _ = some ((zB false), _) from (by rw [h14])) (eC 5 (keep (hp 0 []) (bb (an (Nat.blt 0 (Sl.n s9)) true) (some (fpV (0 * 1) (Sl.cs s9))) none)) (keep_bb h15) (eD (keep (hp 0 []) (nthL (Sl.cs s9) (0 * 1))) (keep_eq h16) (by kernel_rfl)))) (eD (some ((zB (nt (ieq (Int.ofNat (Sl.n s27)) x4))), (hp 0 []))) (show _ = some ((zB false), _) from (by rw [h17])) (eC 4 (some ((zB (ieq (Int.ofNat (Sl.n s27)) (0 : Int))), (hp 0 []))) (show _ = some ((zB false), _) from (by rw [h18])) (eC 3 (keep (hp 0 []) (bb (an (Nat.blt 0 (Sl.n s27)) true) (some (fpV (0 * 1) (Sl.cs s27))) none)) (keep_bb h19) (eD (keep (hp 0 []) (nthL (Sl.cs s27) (0 * 1))) (keep_eq h20) (eE))))))) ?_
            exact ⟨(s9, s27, (nt (ieq x5 (Int.ofNat (Sl.n s9))))), hm, (.k0 [] [] [3, 4, 49])⟩
def m11_0 (pu : PureF) (n : Nat) (n0 : Nat) (c0 : Nat) (q0 : List Value) : Option Value :=
  (bb (allL closed1 q0) (bb (an (Nat.ble (0 + n0 * 1) (len q0)) (allL closed1 (takeL (n0 * 1) (dropL 0 q0)))) (some (.tuple ⟨[(Sl.v 1 (Sl.mk n0 0 (takeL (n0 * 1) (dropL 0 q0)))), (.int .i64 (0 : Int))]⟩)) none) none)
def m11_2 (pu : PureF) (n : Nat) (ih0 : Nat → Nat → Sl → Int → Int → List Value → Option Value) (n0 : Nat) (c0 : Nat) (s0 : Sl) (z0 : Int) (z1 : Int) (q0 : List Value) : Option Value :=
  (bb (allL closed1 q0) (ih0 n0 c0 s0 z0 (wrapF .i64 (Int.add z1 (1 : Int))) q0) none)
def b11_3 (pu : PureF) (n : Nat) (ih0 : Nat → Nat → Sl → Int → Int → List Value → Option Value) (ih1 : Nat → Nat → Sl → Int → Int → Int → Int → List Value → Option Value) (n0 : Nat) (c0 : Nat) (s0 : Sl) (z0 : Int) (z1 : Int) (z2 : Int) (z3 : Int) (q0 : List Value) : Option Value :=
  (bb (allL closed1 q0) (bb (ilt z3 z2) (oo (toN z3) none fun k1 => (bb (an (Nat.blt k1 n0) true) (oo (nthL q0 (0 + k1 * 1)) none fun v0 => (oo (toI .i64 v0) none fun x0 => (bb (an (Nat.blt k1 n0) true) (bb (an (Nat.ble ((0 + k1 * 1) + 1) (len q0)) true) (bb (allL closed1 (setL ([(.int .i64 (wrapF .i64 (Int.add x0 (1 : Int))))] : List Value) (0 + k1 * 1) q0)) (ih1 n0 c0 s0 z0 z1 z2 (wrapF .i64 (Int.add (Int.ofNat k1) (1 : Int))) (setL ([(.int .i64 (wrapF .i64 (Int.add x0 (1 : Int))))] : List Value) (0 + k1 * 1) q0)) none) none) none))) none)) (m11_2 pu n ih0 n0 c0 s0 z0 z1 q0)) none)
def l11_3 (pu : PureF) (n : Nat) (ih0 : Nat → Nat → Sl → Int → Int → List Value → Option Value) (w : Nat) : Nat → Nat → Sl → Int → Int → Int → Int → List Value → Option Value :=
  Nat.rec (motive := fun _ => Nat → Nat → Sl → Int → Int → Int → Int → List Value → Option Value) (fun _ _ _ _ _ _ _ _ => none) (fun _ ih1 => b11_3 pu n ih0 ih1) w
def b11_1 (pu : PureF) (n : Nat) (ih0 : Nat → Nat → Sl → Int → Int → List Value → Option Value) (n0 : Nat) (c0 : Nat) (s0 : Sl) (z0 : Int) (z1 : Int) (q0 : List Value) : Option Value :=
  (bb (allL closed1 q0) (bb (ilt z1 z0) (oo (toN z1) none fun k1 => (bb (an (Nat.blt k1 (Sl.n s0)) true) (oo (nthL (Sl.cs s0) (k1 * 1)) none fun v0 => (oo (toI .i64 v0) none fun x0 => (l11_3 pu n ih0 n n0 c0 s0 z0 (Int.ofNat k1) x0 (0 : Int) q0))) none)) (m11_0 pu n n0 c0 q0)) none)
def l11_1 (pu : PureF) (n : Nat) (w : Nat) : Nat → Nat → Sl → Int → Int → List Value → Option Value :=
  Nat.rec (motive := fun _ => Nat → Nat → Sl → Int → Int → List Value → Option Value) (fun _ _ _ _ _ _ => none) (fun _ ih0 => b11_1 pu n ih0) w
def m11_ (pu : PureF) (n : Nat) (s0 : Sl) : Option Value :=
  (oo (pu 14 [(Sl.v 1 s0)]) none fun v0 => (oo (toI .i64 v0) none fun x0 => (bb (nt (ieq x0 (0 : Int))) (some (.tuple ⟨[(Sl.v 1 (Sl.mk 0 2 [])), (.int .i64 x0)]⟩)) (bb (an (Nat.blt 0 (Sl.n s0)) true) (oo (nthL (Sl.cs s0) (0 * 1)) none fun v1 => (oo (toI .i64 v1) none fun x1 => (oo (toN x1) none fun k1 => (bb (an (Nat.ble k1 k1) (an (Nat.ble (k1 * 8) 1099511627776) (an (Nat.ble k1 1099511627776) true))) (bb (allL closed1 (zeroRow ([(.int .i64 (0 : Int))] : List Value) k1)) (l11_1 pu n n k1 (2 * k1 + bb true 1 0) s0 (Int.ofNat (Sl.n s0)) (0 : Int) (zeroRow ([(.int .i64 (0 : Int))] : List Value) k1)) none) none)))) none))))
def m11 (pu : PureF) (n : Nat) (args : List Value) : Option Value :=
  (ll args none fun a0 args => (ll args (oo (toSl 1 a0) none fun s0 => (m11_ pu n s0)) fun _ _ => none))
theorem w11_0 (pu : PureF) (n : Nat) (n0 : Nat) (c0 : Nat) (q0 : List Value) {v : Value} (hm : m11_0 pu n n0 c0 q0 = some v) : Run tt (callP tabs isP pu (inl pu)) 0 c11_37 (fr 37 [(5, (sc 0 0 1 n0 c0))]) (hp 1 [(oC q0)]) (Fin tt 0 [.tmp 2, .tmp 3] v) := by
  unfold m11_0 at hm
  refine .then ?_
  refine .rK ?_
  replace hm := bb_inv hm; obtain ⟨h0, hm⟩ := hm
  refine .ghs (fr 37 [(2, (sc 0 0 1 n0 c0)), (3, (zI (0 : Int)))]) (hp 1 [(oC q0)]) (.k [0] [] [.tmp 2 false] [2, 3] ⟨trE (by kernel_rfl) h0, trivial⟩) ?_
  replace hm := bb_inv hm; obtain ⟨h1, hm⟩ := hm
  refine .ghs (Fr.puts (fr 37 [(2, (sc 0 0 1 n0 c0)), (3, (zI (0 : Int)))]) [(2, (Sl.v 1 (Sl.mk n0 0 (takeL (n0 * 1) (dropL 0 q0)))))]) (hp 1 [.dead]) (.freezeC 0 2 1 (an (Nat.ble (0 + n0 * 1) (len q0)) (allL closed1 (takeL (n0 * 1) (dropL 0 q0)))) (F1 := (Fr.puts (fr 37 [(2, (sc 0 0 1 n0 c0)), (3, (zI (0 : Int)))]) [(2, (Sl.v 1 (Sl.mk n0 0 (takeL (n0 * 1) (dropL 0 q0)))))])) (H1 := (hp 1 [.dead])) (by kernel_rfl) (by kernel_rfl) h1 (GhS.id _ _)) ?_
  refine .ret ?_
  exact fin_ret (.tuple ⟨[(Sl.v 1 (Sl.mk n0 0 (takeL (n0 * 1) (dropL 0 q0)))), (zI (0 : Int))]⟩) (by kernel_rfl) (by kernel_rfl) hm
theorem r11 {call : CallF} (pu : PureF) (n : Nat) (hcall : call = callP tabs isP pu (inl pu)) {args : List Value} {v : Value} (hm : m11 pu n args = some v) (_ : ∀ x ∈ args, closed2 x = true) : args.length ≤ 37 ∧ Run tt call 0 c11_41 (Fr.made 37 args) (pureHeap tabs) (Fin tt 0 [.tmp 2, .tmp 3] v) := by
  subst hcall
  unfold m11 at hm
  replace hm := ll_uncons hm; obtain ⟨a0, args_0, rfl, hm⟩ := hm
  replace hm := ll_end hm; obtain ⟨rfl, hm⟩ := hm
  replace hm := inv_toSl hm; obtain ⟨s0, rfl, hm⟩ := hm
  unfold m11_ at hm
  refine ⟨by simp, ?_⟩
  refine .same (F' := (fr 37 [(0, (Sl.v 1 s0))])) (H' := (hp 0 [])) (by kernel_rfl) (by kernel_rfl) ?_
  refine .then ?_
  refine .rK ?_
  refine .ghs (fr 37 [(0, (Sl.v 1 s0))]) (hp 0 []) (.k0 [] [] [0]) ?_
  refine .then ?_
  refine .then ?_
  replace hm := oo_inv hm; obtain ⟨v0, h0, hm⟩ := hm
  replace hm := inv_toI hm; obtain ⟨x0, rfl, hm⟩ := hm
  refine .reg (eC 1 ((oo (pu 14 [(Sl.v 1 s0)]) none fun v => some (v, (hp 0 [])))) (call_eq h0) (eE)) ?_
  refine .ghs (fr 37 [(0, (Sl.v 1 s0)), (4, (zI x0))]) (hp 0 []) (.k0 [] [] [0, 4]) ?_
  refine .then ?_
  refine .rK ?_
  refine .ghs (fr 37 [(0, (Sl.v 1 s0)), (4, (zI x0)), (12, (zB (nt (ieq x0 (0 : Int)))))]) (hp 0 []) (.k0 [] [] [0, 4, 12]) ?_
  replace hm := bb_cases hm; rcases hm with ⟨h1, hm⟩ | ⟨h1, hm⟩
  · refine .ifT (nt (ieq x0 (0 : Int))) (by kernel_rfl) h1 ?_
    refine .then ?_
    refine .rK ?_
    refine .ghs (fr 37 [(2, (.slice none 0 0)), (3, (zI x0))]) (hp 0 []) (.k0 [] [] [2, 3]) ?_
    refine .ghs (Fr.puts (fr 37 [(2, (.slice none 0 0)), (3, (zI x0))]) [(2, (Sl.v 1 (Sl.mk 0 2 [])))]) (hp 0 []) (.freeze 0 2 1 (by kernel_rfl) (by kernel_rfl) (GhS.id _ _)) ?_
    refine .ret ?_
    exact fin_ret (.tuple ⟨[(Sl.v 1 (Sl.mk 0 2 [])), (zI x0)]⟩) (by kernel_rfl) (by kernel_rfl) hm
  · refine .ifF (nt (ieq x0 (0 : Int))) (by kernel_rfl) h1 ?_
    refine .skip ?_
    refine .ghs (fr 37 [(0, (Sl.v 1 s0))]) (hp 0 []) (.k0 [] [] [0]) ?_
    refine .then ?_
    replace hm := bb_inv hm; obtain ⟨h2, hm⟩ := hm
    replace hm := oo_inv hm; obtain ⟨v1, h3, hm⟩ := hm
    replace hm := inv_toI hm; obtain ⟨x1, rfl, hm⟩ := hm
    replace hm := oo_inv hm; obtain ⟨k1, h4, hm⟩ := hm
    obtain rfl := toN_some h4
    replace hm := bb_inv hm; obtain ⟨h5, hm⟩ := hm
    refine .reg (eC 1 (keep (hp 0 []) (bb (an (Nat.blt 0 (Sl.n s0)) true) (some (fpV (0 * 1) (Sl.cs s0))) none)) (keep_bb h2) (eD (keep (hp 0 []) (nthL (Sl.cs s0) (0 * 1))) (keep_eq h3) (eD (bb (an (Nat.ble k1 k1) (an (Nat.ble (k1 * 8) 1099511627776) (an (Nat.ble k1 1099511627776) true))) (some ((sc 0 0 1 k1 (2 * k1 + bb true 1 0)), (hp 1 [(oC (zeroRow ([(zI (0 : Int))] : List Value) k1))]))) none) (bb_some h5) (eE)))) ?_
    replace hm := bb_inv hm; obtain ⟨h6, hm⟩ := hm
    refine .ghs (fr 37 [(0, (Sl.v 1 s0)), (5, (sc 0 0 1 k1 (2 * k1 + bb true 1 0)))]) (hp 1 [(oC (zeroRow ([(zI (0 : Int))] : List Value) k1))]) (.k [0] [] [.tmp 5 false] [0, 5] ⟨trE (by kernel_rfl) h6, trivial⟩) ?_
    refine .join (v := v) (fun y : Nat × Nat × List Value => ((fr 37 [(5, (sc 0 0 1 y.1 y.2.1))]), (hp 1 [(oC y.2.2)]))) (fun y => m11_0 pu n y.1 y.2.1 y.2.2) ?_ ?_
    · rintro ⟨n0, c0, q0⟩ hm
      exact w11_0 pu n n0 c0 q0 hm
    · refine .then ?_
      refine .rK ?_
      refine .ghs (fr 37 [(5, (sc 0 0 1 k1 (2 * k1 + bb true 1 0))), (18, (Sl.v 1 s0)), (19, (zI (Int.ofNat (Sl.n s0)))), (20, (zI (0 : Int)))]) (hp 1 [(oC (zeroRow ([(zI (0 : Int))] : List Value) k1))]) (.k [0] [] [.tmp 5 false] [5, 18, 19, 20] ⟨trE (by kernel_rfl) h6, trivial⟩) ?_
      refine .block ?_
      refine .loopM (v := v) (fun y : Nat × Nat × Sl × Int × Int × List Value => ((fr 37 [(5, (sc 0 0 1 y.1 y.2.1)), (18, (Sl.v 1 y.2.2.1)), (19, (zI y.2.2.2.1)), (20, (zI y.2.2.2.2.1))]), (hp 1 [(oC y.2.2.2.2.2)]))) (fun w y => l11_1 pu n w y.1 y.2.1 y.2.2.1 y.2.2.2.1 y.2.2.2.2.1 y.2.2.2.2.2) n ⟨(k1, (2 * k1 + bb true 1 0), s0, (Int.ofNat (Sl.n s0)), (0 : Int), (zeroRow ([(zI (0 : Int))] : List Value) k1)), hm, (.k [0] [] [.tmp 5 false] [5, 18, 19, 20] ⟨trE (by kernel_rfl) h6, trivial⟩)⟩ (fun _ => rfl) ?_
      rintro w0 ⟨n1, c1, s1, z0, z1, q1⟩ hm
      replace hm : b11_1 pu n (l11_1 pu n w0) n1 c1 s1 z0 z1 q1 = some v := hm
      unfold b11_1 at hm
      refine .then ?_
      refine .rK ?_
      replace hm := bb_inv hm; obtain ⟨h7, hm⟩ := hm
      refine .ghs (fr 37 [(5, (sc 0 0 1 n1 c1)), (18, (Sl.v 1 s1)), (19, (zI z0)), (20, (zI z1)), (21, (zB (ilt z1 z0)))]) (hp 1 [(oC q1)]) (.k [0] [] [.tmp 5 false] [5, 18, 19, 20, 21] ⟨trE (by kernel_rfl) h7, trivial⟩) ?_
      refine .then ?_
      replace hm := bb_cases hm; rcases hm with ⟨h8, hm⟩ | ⟨h8, hm⟩
      · refine .ifT (ilt z1 z0) (by kernel_rfl) h8 ?_
        refine .skip ?_
        refine .ghs (fr 37 [(5, (sc 0 0 1 n1 c1)), (18, (Sl.v 1 s1)), (19, (zI z0)), (20, (zI z1))]) (hp 1 [(oC q1)]) (.k [0] [] [.tmp 5 false] [5, 18, 19, 20] ⟨trE (by kernel_rfl) h7, trivial⟩) ?_
        refine .join (v := v) (fun y : Nat × Nat × Sl × Int × Int × List Value => ((fr 37 [(5, (sc 0 0 1 y.1 y.2.1)), (18, (Sl.v 1 y.2.2.1)), (19, (zI y.2.2.2.1)), (20, (zI y.2.2.2.2.1))]), (hp 1 [(oC y.2.2.2.2.2)]))) (fun y => m11_2 pu n (l11_1 pu n w0) y.1 y.2.1 y.2.2.1 y.2.2.2.1 y.2.2.2.2.1 y.2.2.2.2.2) ?_ ?_
        · rintro ⟨n2, c2, s2, z2, z3, q2⟩ hm
          unfold m11_2 at hm
          refine .rK ?_
          replace hm := bb_inv hm; obtain ⟨h9, hm⟩ := hm
          exact ⟨(n2, c2, s2, z2, (wrapF .i64 (Int.add z3 (1 : Int))), q2), hm, (.k [0] [] [.tmp 5 false] [5, 18, 19, 20] ⟨trE (by kernel_rfl) h9, trivial⟩)⟩
        · refine .block ?_
          refine .then ?_
          replace hm := oo_inv hm; obtain ⟨k2, h10, hm⟩ := hm
          obtain rfl := toN_some h10
          replace hm := bb_inv hm; obtain ⟨h11, hm⟩ := hm
          replace hm := oo_inv hm; obtain ⟨v2, h12, hm⟩ := hm
          replace hm := inv_toI hm; obtain ⟨x2, rfl, hm⟩ := hm
          refine .reg (eD (keep (hp 1 [(oC q1)]) (bb (an (Nat.blt k2 (Sl.n s1)) true) (some (fpV (k2 * 1) (Sl.cs s1))) none)) (keep_bb h11) (eD (keep (hp 1 [(oC q1)]) (nthL (Sl.cs s1) (k2 * 1))) (keep_eq h12) (eE))) ?_
          refine .ghs (fr 37 [(5, (sc 0 0 1 n1 c1)), (7, (zI x2)), (18, (Sl.v 1 s1)), (19, (zI z0)), (20, (zI (Int.ofNat k2)))]) (hp 1 [(oC q1)]) (.k [0] [] [.tmp 5 false] [5, 7, 18, 19, 20] ⟨trE (by kernel_rfl) h7, trivial⟩) ?_
          refine .then ?_
          refine .rK ?_
          refine .ghs (fr 37 [(5, (sc 0 0 1 n1 c1)), (18, (Sl.v 1 s1)), (19, (zI z0)), (20, (zI (Int.ofNat k2))), (24, (zI x2)), (25, (zI (0 : Int)))]) (hp 1 [(oC q1)]) (.k [0] [] [.tmp 5 false] [5, 18, 19, 20, 24, 25] ⟨trE (by kernel_rfl) h7, trivial⟩) ?_
          refine .block ?_
          refine .loopM (v := v) (fun y : Nat × Nat × Sl × Int × Int × Int × Int × List Value => ((fr 37 [(5, (sc 0 0 1 y.1 y.2.1)), (18, (Sl.v 1 y.2.2.1)), (19, (zI y.2.2.2.1)), (20, (zI y.2.2.2.2.1)), (24, (zI y.2.2.2.2.2.1)), (25, (zI y.2.2.2.2.2.2.1))]), (hp 1 [(oC y.2.2.2.2.2.2.2)]))) (fun w y => l11_3 pu n (l11_1 pu n w0) w y.1 y.2.1 y.2.2.1 y.2.2.2.1 y.2.2.2.2.1 y.2.2.2.2.2.1 y.2.2.2.2.2.2.1 y.2.2.2.2.2.2.2) n ⟨(n1, c1, s1, z0, (Int.ofNat k2), x2, (0 : Int), q1), hm, (.k [0] [] [.tmp 5 false] [5, 18, 19, 20, 24, 25] ⟨trE (by kernel_rfl) h7, trivial⟩)⟩ (fun _ => rfl) ?_
          rintro w1 ⟨n3, c3, s3, z4, z5, z6, z7, q3⟩ hm
          replace hm : b11_3 pu n (l11_1 pu n w0) (l11_3 pu n (l11_1 pu n w0) w1) n3 c3 s3 z4 z5 z6 z7 q3 = some v := hm
          unfold b11_3 at hm
          refine .then ?_
          refine .rK ?_
          replace hm := bb_inv hm; obtain ⟨h13, hm⟩ := hm
          refine .ghs (fr 37 [(5, (sc 0 0 1 n3 c3)), (18, (Sl.v 1 s3)), (19, (zI z4)), (20, (zI z5)), (24, (zI z6)), (25, (zI z7)), (26, (zB (ilt z7 z6)))]) (hp 1 [(oC q3)]) (.k [0] [] [.tmp 5 false] [5, 18, 19, 20, 24, 25, 26] ⟨trE (by kernel_rfl) h13, trivial⟩) ?_
          refine .then ?_
          replace hm := bb_cases hm; rcases hm with ⟨h14, hm⟩ | ⟨h14, hm⟩
          · refine .ifT (ilt z7 z6) (by kernel_rfl) h14 ?_
            refine .skip ?_
            refine .ghs (fr 37 [(5, (sc 0 0 1 n3 c3)), (18, (Sl.v 1 s3)), (19, (zI z4)), (20, (zI z5)), (24, (zI z6)), (25, (zI z7))]) (hp 1 [(oC q3)]) (.k [0] [] [.tmp 5 false] [5, 18, 19, 20, 24, 25] ⟨trE (by kernel_rfl) h13, trivial⟩) ?_
            refine .then ?_
            refine .block ?_
            refine .then ?_
            refine .rK ?_
            refine .ghs (fr 37 [(5, (sc 0 0 1 n3 c3)), (8, (zI z7)), (18, (Sl.v 1 s3)), (19, (zI z4)), (20, (zI z5)), (24, (zI z6)), (25, (zI z7))]) (hp 1 [(oC q3)]) (.k [0] [] [.tmp 5 false] [5, 8, 18, 19, 20, 24, 25] ⟨trE (by kernel_rfl) h13, trivial⟩) ?_
            replace hm := oo_inv hm; obtain ⟨k3, h15, hm⟩ := hm
            obtain rfl := toN_some h15
            replace hm := bb_inv hm; obtain ⟨h16, hm⟩ := hm
            replace hm := oo_inv hm; obtain ⟨v3, h17, hm⟩ := hm
            replace hm := inv_toI hm; obtain ⟨x3, rfl, hm⟩ := hm
            replace hm := bb_inv hm; obtain ⟨h18, hm⟩ := hm
            replace hm := bb_inv hm; obtain ⟨h19, hm⟩ := hm
            refine .reg (eC 2 (keep (hp 1 [(oC q3)]) (bb (an (Nat.blt k3 n3) true) (some (.pointer (some ⟨0, (0 + k3 * 1), none⟩))) none)) (keep_bb h16) (eD (keep (hp 1 [(oC q3)]) (nthL q3 (0 + k3 * 1))) (keep_eq h17) (eC 1 (keep (hp 1 [(oC q3)]) (bb (an (Nat.blt k3 n3) true) (some (.pointer (some ⟨0, (0 + k3 * 1), none⟩))) none)) (keep_bb h18) (eD (done (bb (an (Nat.ble ((0 + k3 * 1) + 1) (len q3)) true) (some (hp 1 [(oC (setL ([(zI (wrapF .i64 (Int.add x3 (1 : Int))))] : List Value) (0 + k3 * 1) q3))])) none) undef) (done_bb h19) (eE))))) ?_
            replace hm := bb_inv hm; obtain ⟨h20, hm⟩ := hm
            refine .ghs (fr 37 [(5, (sc 0 0 1 n3 c3)), (18, (Sl.v 1 s3)), (19, (zI z4)), (20, (zI z5)), (24, (zI z6)), (25, (zI (Int.ofNat k3)))]) (hp 1 [(oC (setL ([(zI (wrapF .i64 (Int.add x3 (1 : Int))))] : List Value) (0 + k3 * 1) q3))]) (.k [0] [] [.tmp 5 false] [5, 18, 19, 20, 24, 25] ⟨trE (by kernel_rfl) h20, trivial⟩) ?_
            refine .rK ?_
            exact ⟨(n3, c3, s3, z4, z5, z6, (wrapF .i64 (Int.add (Int.ofNat k3) (1 : Int))), (setL ([(zI (wrapF .i64 (Int.add x3 (1 : Int))))] : List Value) (0 + k3 * 1) q3)), hm, (.k [0] [] [.tmp 5 false] [5, 18, 19, 20, 24, 25] ⟨trE (by kernel_rfl) h20, trivial⟩)⟩
          · refine .ifF (ilt z7 z6) (by kernel_rfl) h14 ?_
            refine .exit ?_
            exact ⟨(n3, c3, s3, z4, z5, q3), hm, (.k [0] [] [.tmp 5 false] [5, 18, 19, 20] ⟨trE (by kernel_rfl) h13, trivial⟩)⟩
      · refine .ifF (ilt z1 z0) (by kernel_rfl) h8 ?_
        refine .exit ?_
        exact ⟨(n1, c1, q1), hm, (.k [0] [] [.tmp 5 false] [5] ⟨trE (by kernel_rfl) h7, trivial⟩)⟩
def m13_0 (pu : PureF) (n : Nat) : Option Value :=
  (some (.bool true))
def b13_1 (pu : PureF) (n : Nat) (ih0 : Sl → Sl → Int → Option Value) (s0 : Sl) (s1 : Sl) (z0 : Int) : Option Value :=
  (bb (ilt z0 (Int.ofNat (Sl.n s0))) (oo (toN z0) none fun k1 => (bb (an (Nat.blt k1 (Sl.n s0)) true) (oo (nthL (Sl.cs s0) (k1 * 1)) none fun v0 => (oo (toI .i64 v0) none fun x0 => (bb (an (Nat.blt k1 (Sl.n s1)) true) (oo (nthL (Sl.cs s1) (k1 * 1)) none fun v1 => (oo (toI .i64 v1) none fun x1 => (bb (nt (ieq x0 x1)) (some (.bool false)) (ih0 s0 s1 (wrapF .i64 (Int.add (Int.ofNat k1) (1 : Int))))))) none))) none)) (m13_0 pu n))
def l13_1 (pu : PureF) (n : Nat) (w : Nat) : Sl → Sl → Int → Option Value :=
  Nat.rec (motive := fun _ => Sl → Sl → Int → Option Value) (fun _ _ _ => none) (fun _ ih0 => b13_1 pu n ih0) w
def m13_ (pu : PureF) (n : Nat) (s0 : Sl) (s1 : Sl) : Option Value :=
  (bb (nt (ieq (Int.ofNat (Sl.n s0)) (Int.ofNat (Sl.n s1)))) (some (.bool false)) (l13_1 pu n n s0 s1 (0 : Int)))
def m13 (pu : PureF) (n : Nat) (args : List Value) : Option Value :=
  (ll args none fun a0 args => (ll args none fun a1 args => (ll args (oo (toSl 1 a0) none fun s0 => (oo (toSl 1 a1) none fun s1 => (m13_ pu n s0 s1))) fun _ _ => none)))
theorem w13_0 (pu : PureF) (n : Nat) {v : Value} (hm : m13_0 pu n = some v) : Run tt (callP tabs isP pu (inl pu)) 0 c13_23 (fr 26 []) (hp 0 []) (Fin tt 0 [.tmp 4] v) := by
  unfold m13_0 at hm
  refine .then ?_
  refine .rK ?_
  refine .ghs (fr 26 [(4, (zB true))]) (hp 0 []) (.k0 [] [] [4]) ?_
  refine .ret ?_
  exact fin_ret (zB true) (by kernel_rfl) (by kernel_rfl) hm
theorem r13 {call : CallF} (pu : PureF) (n : Nat) (hcall : call = callP tabs isP pu (inl pu)) {args : List Value} {v : Value} (hm : m13 pu n args = some v) (_ : ∀ x ∈ args, closed2 x = true) : args.length ≤ 26 ∧ Run tt call 0 c13_26 (Fr.made 26 args) (pureHeap tabs) (Fin tt 0 [.tmp 4] v) := by
  subst hcall
  unfold m13 at hm
  replace hm := ll_uncons hm; obtain ⟨a0, args_0, rfl, hm⟩ := hm
  replace hm := ll_uncons hm; obtain ⟨a1, args_1, rfl, hm⟩ := hm
  replace hm := ll_end hm; obtain ⟨rfl, hm⟩ := hm
  replace hm := inv_toSl hm; obtain ⟨s0, rfl, hm⟩ := hm
  replace hm := inv_toSl hm; obtain ⟨s1, rfl, hm⟩ := hm
  unfold m13_ at hm
  refine ⟨by simp, ?_⟩
  refine .same (F' := (fr 26 [(0, (Sl.v 1 s0)), (1, (Sl.v 1 s1))])) (H' := (hp 0 [])) (by kernel_rfl) (by kernel_rfl) ?_
  refine .then ?_
  refine .rK ?_
  refine .ghs (fr 26 [(0, (Sl.v 1 s0)), (1, (Sl.v 1 s1))]) (hp 0 []) (.k0 [] [] [0, 1]) ?_
  refine .then ?_
  refine .then ?_
  refine .rK ?_
  refine .ghs (fr 26 [(0, (Sl.v 1 s0)), (1, (Sl.v 1 s1)), (10, (zB (nt (ieq (Int.ofNat (Sl.n s0)) (Int.ofNat (Sl.n s1))))))]) (hp 0 []) (.k0 [] [] [0, 1, 10]) ?_
  replace hm := bb_cases hm; rcases hm with ⟨h0, hm⟩ | ⟨h0, hm⟩
  · refine .ifT (nt (ieq (Int.ofNat (Sl.n s0)) (Int.ofNat (Sl.n s1)))) (by kernel_rfl) h0 ?_
    refine .then ?_
    refine .rK ?_
    refine .ghs (fr 26 [(4, (zB false))]) (hp 0 []) (.k0 [] [] [4]) ?_
    refine .ret ?_
    exact fin_ret (zB false) (by kernel_rfl) (by kernel_rfl) hm
  · refine .ifF (nt (ieq (Int.ofNat (Sl.n s0)) (Int.ofNat (Sl.n s1)))) (by kernel_rfl) h0 ?_
    refine .skip ?_
    refine .ghs (fr 26 [(0, (Sl.v 1 s0)), (1, (Sl.v 1 s1))]) (hp 0 []) (.k0 [] [] [0, 1]) ?_
    refine .join (v := v) (fun y : Unit => ((fr 26 []), (hp 0 []))) (fun y => m13_0 pu n) ?_ ?_
    · rintro _ hm
      exact w13_0 pu n hm
    · refine .then ?_
      refine .rK ?_
      refine .ghs (fr 26 [(0, (Sl.v 1 s0)), (1, (Sl.v 1 s1)), (5, (zI (0 : Int)))]) (hp 0 []) (.k0 [] [] [0, 1, 5]) ?_
      refine .block ?_
      refine .loopM (v := v) (fun y : Sl × Sl × Int => ((fr 26 [(0, (Sl.v 1 y.1)), (1, (Sl.v 1 y.2.1)), (5, (zI y.2.2))]), (hp 0 []))) (fun w y => l13_1 pu n w y.1 y.2.1 y.2.2) n ⟨(s0, s1, (0 : Int)), hm, (.k0 [] [] [0, 1, 5])⟩ (fun _ => rfl) ?_
      rintro w0 ⟨s2, s3, z0⟩ hm
      replace hm : b13_1 pu n (l13_1 pu n w0) s2 s3 z0 = some v := hm
      unfold b13_1 at hm
      refine .then ?_
      refine .then ?_
      refine .rK ?_
      refine .ghs (fr 26 [(0, (Sl.v 1 s2)), (1, (Sl.v 1 s3)), (5, (zI z0)), (14, (zB (ilt z0 (Int.ofNat (Sl.n s2)))))]) (hp 0 []) (.k0 [] [] [0, 1, 5, 14]) ?_
      replace hm := bb_cases hm; rcases hm with ⟨h1, hm⟩ | ⟨h1, hm⟩
      · refine .ifT (ilt z0 (Int.ofNat (Sl.n s2))) (by kernel_rfl) h1 ?_
        refine .skip ?_
        refine .ghs (fr 26 [(0, (Sl.v 1 s2)), (1, (Sl.v 1 s3)), (5, (zI z0))]) (hp 0 []) (.k0 [] [] [0, 1, 5]) ?_
        refine .then ?_
        refine .block ?_
        refine .then ?_
        replace hm := oo_inv hm; obtain ⟨k1, h2, hm⟩ := hm
        obtain rfl := toN_some h2
        replace hm := bb_inv hm; obtain ⟨h3, hm⟩ := hm
        replace hm := oo_inv hm; obtain ⟨v0, h4, hm⟩ := hm
        replace hm := inv_toI hm; obtain ⟨x0, rfl, hm⟩ := hm
        replace hm := bb_inv hm; obtain ⟨h5, hm⟩ := hm
        replace hm := oo_inv hm; obtain ⟨v1, h6, hm⟩ := hm
        replace hm := inv_toI hm; obtain ⟨x1, rfl, hm⟩ := hm
        refine .reg (eC 2 (keep (hp 0 []) (bb (an (Nat.blt k1 (Sl.n s2)) true) (some (fpV (k1 * 1) (Sl.cs s2))) none)) (keep_bb h3) (eD (keep (hp 0 []) (nthL (Sl.cs s2) (k1 * 1))) (keep_eq h4) (eC 2 (keep (hp 0 []) (bb (an (Nat.blt k1 (Sl.n s3)) true) (some (fpV (k1 * 1) (Sl.cs s3))) none)) (keep_bb h5) (eD (keep (hp 0 []) (nthL (Sl.cs s3) (k1 * 1))) (keep_eq h6) (eE))))) ?_
        refine .ghs (fr 26 [(0, (Sl.v 1 s2)), (1, (Sl.v 1 s3)), (5, (zI (Int.ofNat k1))), (25, (zB (nt (ieq x0 x1))))]) (hp 0 []) (.k0 [] [] [0, 1, 5, 25]) ?_
        replace hm := bb_cases hm; rcases hm with ⟨h7, hm⟩ | ⟨h7, hm⟩
        · refine .ifT (nt (ieq x0 x1)) (by kernel_rfl) h7 ?_
          refine .then ?_
          refine .rK ?_
          refine .ghs (fr 26 [(4, (zB false))]) (hp 0 []) (.k0 [] [] [4]) ?_
          refine .ret ?_
          exact fin_ret (zB false) (by kernel_rfl) (by kernel_rfl) hm
        · refine .ifF (nt (ieq x0 x1)) (by kernel_rfl) h7 ?_
          refine .skip ?_
          refine .ghs (fr 26 [(0, (Sl.v 1 s2)), (1, (Sl.v 1 s3)), (5, (zI (Int.ofNat k1)))]) (hp 0 []) (.k0 [] [] [0, 1, 5]) ?_
          refine .rK ?_
          exact ⟨(s2, s3, (wrapF .i64 (Int.add (Int.ofNat k1) (1 : Int)))), hm, (.k0 [] [] [0, 1, 5])⟩
      · refine .ifF (ilt z0 (Int.ofNat (Sl.n s2))) (by kernel_rfl) h1 ?_
        refine .exit ?_
        exact ⟨(), hm, (.k0 [] [] [])⟩
def m14_0 (pu : PureF) (n : Nat) (z0 : Int) : Option Value :=
  (bb (ilt (21 : Int) z0) (some (.int .i64 (3 : Int))) (some (.int .i64 (0 : Int))))
def b14_1 (pu : PureF) (n : Nat) (ih0 : Int → Int → Sl → Int → Int → Option Value) (z0 : Int) (z1 : Int) (s0 : Sl) (z2 : Int) (z3 : Int) : Option Value :=
  (bb (ilt z3 z2) (oo (toN z3) none fun k1 => (bb (an (Nat.blt k1 (Sl.n s0)) true) (oo (nthL (Sl.cs s0) (k1 * 1)) none fun v0 => (oo (toI .i64 v0) none fun x0 => (oo (pu 33 [(.int .i64 (1 : Int)), (.int .i64 x0), (.int .i64 (21 : Int))]) none fun v1 => (oo (vBool v1) none fun b0 => (bb (nt b0) (some (.int .i64 (1 : Int))) (bb (ilt z1 x0) (some (.int .i64 (7 : Int))) (ih0 (bb (ilt (22 : Int) (wrapF .i64 (Int.add z0 x0))) (22 : Int) (wrapF .i64 (Int.add z0 x0))) x0 s0 z2 (wrapF .i64 (Int.add (Int.ofNat k1) (1 : Int)))))))))) none)) (m14_0 pu n z0))
def l14_1 (pu : PureF) (n : Nat) (w : Nat) : Int → Int → Sl → Int → Int → Option Value :=
  Nat.rec (motive := fun _ => Int → Int → Sl → Int → Int → Option Value) (fun _ _ _ _ _ => none) (fun _ ih0 => b14_1 pu n ih0) w
def m14_ (pu : PureF) (n : Nat) (s0 : Sl) : Option Value :=
  (bb (ieq (Int.ofNat (Sl.n s0)) (0 : Int)) (some (.int .i64 (4 : Int))) (l14_1 pu n n (0 : Int) (21 : Int) s0 (Int.ofNat (Sl.n s0)) (0 : Int)))
def m14 (pu : PureF) (n : Nat) (args : List Value) : Option Value :=
  (ll args none fun a0 args => (ll args (oo (toSl 1 a0) none fun s0 => (m14_ pu n s0)) fun _ _ => none))
theorem w14_0 (pu : PureF) (n : Nat) (z0 : Int) {v : Value} (hm : m14_0 pu n z0 = some v) : Run tt (callP tabs isP pu (inl pu)) 0 c14_42 (fr 32 [(3, (zI z0))]) (hp 0 []) (Fin tt 0 [.tmp 2] v) := by
  unfold m14_0 at hm
  refine .then ?_
  refine .then ?_
  refine .rK ?_
  refine .ghs (fr 32 [(31, (zB (ilt (21 : Int) z0)))]) (hp 0 []) (.k0 [] [] [31]) ?_
  replace hm := bb_cases hm; rcases hm with ⟨h0, hm⟩ | ⟨h0, hm⟩
  · refine .ifT (ilt (21 : Int) z0) (by kernel_rfl) h0 ?_
    refine .then ?_
    refine .rK ?_
    refine .ghs (fr 32 [(2, (zI (3 : Int)))]) (hp 0 []) (.k0 [] [] [2]) ?_
    refine .ret ?_
    exact fin_ret (zI (3 : Int)) (by kernel_rfl) (by kernel_rfl) hm
  · refine .ifF (ilt (21 : Int) z0) (by kernel_rfl) h0 ?_
    refine .skip ?_
    refine .ghs (fr 32 []) (hp 0 []) (.k0 [] [] []) ?_
    refine .then ?_
    refine .rK ?_
    refine .ghs (fr 32 [(2, (zI (0 : Int)))]) (hp 0 []) (.k0 [] [] [2]) ?_
    refine .ret ?_
    exact fin_ret (zI (0 : Int)) (by kernel_rfl) (by kernel_rfl) hm
theorem r14 {call : CallF} (pu : PureF) (n : Nat) (hcall : call = callP tabs isP pu (inl pu)) {args : List Value} {v : Value} (hm : m14 pu n args = some v) (_ : ∀ x ∈ args, closed2 x = true) : args.length ≤ 32 ∧ Run tt call 0 c14_46 (Fr.made 32 args) (pureHeap tabs) (Fin tt 0 [.tmp 2] v) := by
  subst hcall
  unfold m14 at hm
  replace hm := ll_uncons hm; obtain ⟨a0, args_0, rfl, hm⟩ := hm
  replace hm := ll_end hm; obtain ⟨rfl, hm⟩ := hm
  replace hm := inv_toSl hm; obtain ⟨s0, rfl, hm⟩ := hm
  unfold m14_ at hm
  refine ⟨by simp, ?_⟩
  refine .same (F' := (fr 32 [(0, (Sl.v 1 s0))])) (H' := (hp 0 [])) (by kernel_rfl) (by kernel_rfl) ?_
  refine .then ?_
  refine .rK ?_
  refine .ghs (fr 32 [(0, (Sl.v 1 s0))]) (hp 0 []) (.k0 [] [] [0]) ?_
  refine .then ?_
  refine .then ?_
  refine .rK ?_
  refine .ghs (fr 32 [(0, (Sl.v 1 s0)), (9, (zB (ieq (Int.ofNat (Sl.n s0)) (0 : Int))))]) (hp 0 []) (.k0 [] [] [0, 9]) ?_
  replace hm := bb_cases hm; rcases hm with ⟨h0, hm⟩ | ⟨h0, hm⟩
  · refine .ifT (ieq (Int.ofNat (Sl.n s0)) (0 : Int)) (by kernel_rfl) h0 ?_
    refine .then ?_
    refine .rK ?_
    refine .ghs (fr 32 [(2, (zI (4 : Int)))]) (hp 0 []) (.k0 [] [] [2]) ?_
    refine .ret ?_
    exact fin_ret (zI (4 : Int)) (by kernel_rfl) (by kernel_rfl) hm
  · refine .ifF (ieq (Int.ofNat (Sl.n s0)) (0 : Int)) (by kernel_rfl) h0 ?_
    refine .skip ?_
    refine .ghs (fr 32 [(0, (Sl.v 1 s0))]) (hp 0 []) (.k0 [] [] [0]) ?_
    refine .then ?_
    refine .rK ?_
    refine .ghs (fr 32 [(0, (Sl.v 1 s0)), (3, (zI (0 : Int))), (4, (zI (21 : Int)))]) (hp 0 []) (.k0 [] [] [0, 3, 4]) ?_
    refine .join (v := v) (fun y : Int => ((fr 32 [(3, (zI y))]), (hp 0 []))) (fun y => m14_0 pu n y) ?_ ?_
    · rintro z0 hm
      exact w14_0 pu n z0 hm
    · refine .then ?_
      refine .rK ?_
      refine .ghs (fr 32 [(3, (zI (0 : Int))), (4, (zI (21 : Int))), (10, (Sl.v 1 s0)), (11, (zI (Int.ofNat (Sl.n s0)))), (12, (zI (0 : Int)))]) (hp 0 []) (.k0 [] [] [3, 4, 10, 11, 12]) ?_
      refine .block ?_
      refine .loopM (v := v) (fun y : Int × Int × Sl × Int × Int => ((fr 32 [(3, (zI y.1)), (4, (zI y.2.1)), (10, (Sl.v 1 y.2.2.1)), (11, (zI y.2.2.2.1)), (12, (zI y.2.2.2.2))]), (hp 0 []))) (fun w y => l14_1 pu n w y.1 y.2.1 y.2.2.1 y.2.2.2.1 y.2.2.2.2) n ⟨((0 : Int), (21 : Int), s0, (Int.ofNat (Sl.n s0)), (0 : Int)), hm, (.k0 [] [] [3, 4, 10, 11, 12])⟩ (fun _ => rfl) ?_
      rintro w0 ⟨z1, z2, s1, z3, z4⟩ hm
      replace hm : b14_1 pu n (l14_1 pu n w0) z1 z2 s1 z3 z4 = some v := hm
      unfold b14_1 at hm
      refine .then ?_
      refine .rK ?_
      refine .ghs (fr 32 [(3, (zI z1)), (4, (zI z2)), (10, (Sl.v 1 s1)), (11, (zI z3)), (12, (zI z4)), (13, (zB (ilt z4 z3)))]) (hp 0 []) (.k0 [] [] [3, 4, 10, 11, 12, 13]) ?_
      refine .then ?_
      replace hm := bb_cases hm; rcases hm with ⟨h1, hm⟩ | ⟨h1, hm⟩
      · refine .ifT (ilt z4 z3) (by kernel_rfl) h1 ?_
        refine .skip ?_
        refine .ghs (fr 32 [(3, (zI z1)), (4, (zI z2)), (10, (Sl.v 1 s1)), (11, (zI z3)), (12, (zI z4))]) (hp 0 []) (.k0 [] [] [3, 4, 10, 11, 12]) ?_
        refine .then ?_
        refine .block ?_
        refine .then ?_
        replace hm := oo_inv hm; obtain ⟨k1, h2, hm⟩ := hm
        obtain rfl := toN_some h2
        replace hm := bb_inv hm; obtain ⟨h3, hm⟩ := hm
        replace hm := oo_inv hm; obtain ⟨v0, h4, hm⟩ := hm
        replace hm := inv_toI hm; obtain ⟨x0, rfl, hm⟩ := hm
        refine .reg (eD (keep (hp 0 []) (bb (an (Nat.blt k1 (Sl.n s1)) true) (some (fpV (k1 * 1) (Sl.cs s1))) none)) (keep_bb h3) (eD (keep (hp 0 []) (nthL (Sl.cs s1) (k1 * 1))) (keep_eq h4) (eE))) ?_
        refine .ghs (fr 32 [(3, (zI z1)), (4, (zI z2)), (6, (zI x0)), (10, (Sl.v 1 s1)), (11, (zI z3)), (12, (zI (Int.ofNat k1)))]) (hp 0 []) (.k0 [] [] [3, 4, 6, 10, 11, 12]) ?_
        refine .then ?_
        refine .block ?_
        refine .then ?_
        replace hm := oo_inv hm; obtain ⟨v1, h5, hm⟩ := hm
        replace hm := inv_vBool hm; obtain ⟨b0, rfl, hm⟩ := hm
        refine .reg (eC 1 ((oo (pu 33 [(zI (1 : Int)), (zI x0), (zI (21 : Int))]) none fun v => some (v, (hp 0 [])))) (call_eq h5) (eE)) ?_
        refine .ghs (fr 32 [(3, (zI z1)), (4, (zI z2)), (6, (zI x0)), (10, (Sl.v 1 s1)), (11, (zI z3)), (12, (zI (Int.ofNat k1))), (16, (zB (nt b0)))]) (hp 0 []) (.k0 [] [] [3, 4, 6, 10, 11, 12, 16]) ?_
        replace hm := bb_cases hm; rcases hm with ⟨h6, hm⟩ | ⟨h6, hm⟩
        · refine .ifT (nt b0) (by kernel_rfl) h6 ?_
          refine .then ?_
          refine .rK ?_
          refine .ghs (fr 32 [(2, (zI (1 : Int)))]) (hp 0 []) (.k0 [] [] [2]) ?_
          refine .ret ?_
          exact fin_ret (zI (1 : Int)) (by kernel_rfl) (by kernel_rfl) hm
        · refine .ifF (nt b0) (by kernel_rfl) h6 ?_
          refine .then ?_
          refine .rK ?_
          refine .ghs (fr 32 [(3, (zI z1)), (6, (zI x0)), (10, (Sl.v 1 s1)), (11, (zI z3)), (12, (zI (Int.ofNat k1))), (20, (zB (ilt z2 x0)))]) (hp 0 []) (.k0 [] [] [3, 6, 10, 11, 12, 20]) ?_
          replace hm := bb_cases hm; rcases hm with ⟨h7, hm⟩ | ⟨h7, hm⟩
          · refine .ifT (ilt z2 x0) (by kernel_rfl) h7 ?_
            refine .then ?_
            refine .rK ?_
            refine .ghs (fr 32 [(2, (zI (7 : Int)))]) (hp 0 []) (.k0 [] [] [2]) ?_
            refine .ret ?_
            exact fin_ret (zI (7 : Int)) (by kernel_rfl) (by kernel_rfl) hm
          · refine .ifF (ilt z2 x0) (by kernel_rfl) h7 ?_
            refine .skip ?_
            refine .ghs (fr 32 [(3, (zI z1)), (6, (zI x0)), (10, (Sl.v 1 s1)), (11, (zI z3)), (12, (zI (Int.ofNat k1)))]) (hp 0 []) (.k0 [] [] [3, 6, 10, 11, 12]) ?_
            refine .then ?_
            refine .rK ?_
            refine .ghs (fr 32 [(3, (zI z1)), (4, (zI x0)), (6, (zI x0)), (10, (Sl.v 1 s1)), (11, (zI z3)), (12, (zI (Int.ofNat k1)))]) (hp 0 []) (.k0 [] [] [3, 4, 6, 10, 11, 12]) ?_
            refine .rK ?_
            refine .ghs (fr 32 [(3, (zI (bb (ilt (22 : Int) (wrapF .i64 (Int.add z1 x0))) (22 : Int) (wrapF .i64 (Int.add z1 x0))))), (4, (zI x0)), (10, (Sl.v 1 s1)), (11, (zI z3)), (12, (zI (Int.ofNat k1)))]) (hp 0 []) (.k0 [] [] [3, 4, 10, 11, 12]) ?_
            refine .rK ?_
            exact ⟨((bb (ilt (22 : Int) (wrapF .i64 (Int.add z1 x0))) (22 : Int) (wrapF .i64 (Int.add z1 x0))), x0, s1, z3, (wrapF .i64 (Int.add (Int.ofNat k1) (1 : Int)))), hm, (.k0 [] [] [3, 4, 10, 11, 12])⟩
      · refine .ifF (ilt z4 z3) (by kernel_rfl) h1 ?_
        refine .exit ?_
        exact ⟨z1, hm, (.k0 [] [] [3])⟩
def m16_1 (pu : PureF) (n : Nat) (n0 : Nat) (c0 : Nat) (q0 : List Value) : Option Value :=
  (oo (mapO (toI .i64) q0) none fun z0 => (bb (wholeC 0 1 (len q0) n0) (bb (allL closed1 (mapL I64 (srtZ z0))) (bb (orr (Nat.ble 2 c0) (nilL (mapL I64 (srtZ z0)))) (bb (allL closed1 (mapL I64 (srtZ z0))) (oo (pu 10410 [(.slice (some ⟨0, 0, some 1⟩) n0 c0), (.agg ⟨(mapL I64 (srtZ z0))⟩)]) none fun v0 => (oo (vTup v0) none fun l0 => (ll l0 none fun v1 l0 => (ll l0 none fun v2 l0 => (ll l0 (bb (isNoV v1) (oo (vAgg v2) none fun q1 => (bb (allL closed1 q1) (bb (allL closed1 q1) (bb (an (Nat.ble (0 + n0 * 1) (len q1)) (allL closed1 (takeL (n0 * 1) (dropL 0 q1)))) (some (Sl.v 1 (Sl.mk n0 0 (takeL (n0 * 1) (dropL 0 q1))))) none) none) none)) none) fun _ _ => none))))) none) none) none) none))
def m16_0 (pu : PureF) (n : Nat) (n0 : Nat) (c0 : Nat) (q0 : List Value) : Option Value :=
  (bb (allL closed1 q0) (bb (ieq (Int.ofNat n0) (0 : Int)) (m16_1 pu n 1 3 ([(.int .i64 (1 : Int))] : List Value)) (m16_1 pu n n0 c0 q0)) none)
def b16_2 (pu : PureF) (n : Nat) (ih0 : Nat → Nat → Int → Sl → Int → Int → List Value → Option Value) (n0 : Nat) (c0 : Nat) (z0 : Int) (s0 : Sl) (z1 : Int) (z2 : Int) (q0 : List Value) : Option Value :=
  (bb (allL closed1 q0) (bb (ilt z2 z1) (oo (toN z2) none fun k1 => (bb (an (Nat.blt k1 (Sl.n s0)) true) (oo (nthL (Sl.cs s0) (k1 * 1)) none fun v0 => (oo (toI .u8 v0) none fun x0 => (bb (ieq z0 (0 : Int)) (m16_0 pu n n0 c0 q0) (bb (nt (ieq z0 (0 : Int))) (bb (growC 1 8 n0 c0 1 q0) (bb (allL closed1 (appL (dropL 0 q0) [(.int .i64 (wrapF .i64 (Int.add (1 : Int) (Int.tmod (wrapF .i64 x0) z0))))])) (ih0 (n0 + 1) (2 * (n0 + 1) + bb false 1 0) (wrapF .i64 (Int.sub z0 (wrapF .i64 (Int.add (1 : Int) (Int.tmod (wrapF .i64 x0) z0))))) s0 z1 (wrapF .i64 (Int.add (Int.ofNat k1) (1 : Int))) (appL (dropL 0 q0) [(.int .i64 (wrapF .i64 (Int.add (1 : Int) (Int.tmod (wrapF .i64 x0) z0))))])) none) none) none)))) none)) (m16_0 pu n n0 c0 q0)) none)
def l16_2 (pu : PureF) (n : Nat) (w : Nat) : Nat → Nat → Int → Sl → Int → Int → List Value → Option Value :=
  Nat.rec (motive := fun _ => Nat → Nat → Int → Sl → Int → Int → List Value → Option Value) (fun _ _ _ _ _ _ _ => none) (fun _ ih0 => b16_2 pu n ih0) w
def m16_ (pu : PureF) (n : Nat) (s0 : Sl) (x0 : Int) : Option Value :=
  (l16_2 pu n n 0 0 x0 s0 (Int.ofNat (Sl.n s0)) (0 : Int) ([] : List Value))
def m16 (pu : PureF) (n : Nat) (args : List Value) : Option Value :=
  (ll args none fun a0 args => (ll args none fun a1 args => (ll args (oo (toSl 1 a0) none fun s0 => (oo (toI .i64 a1) none fun x0 => (m16_ pu n s0 x0))) fun _ _ => none)))
theorem w16_1 (pu : PureF) (n : Nat) (n0 : Nat) (c0 : Nat) (q0 : List Value) {v : Value} (hm : m16_1 pu n n0 c0 q0 = some v) : Run tt (callP tabs isP pu (inl pu)) 0 c16_34 (fr 42 [(5, (sc 0 0 1 n0 c0))]) (hp 1 [(oC q0)]) (Fin tt 0 [.tmp 4] v) := by
  unfold m16_1 at hm
  refine .then ?_
  replace hm := oo_inv hm; obtain ⟨z0, h0, hm⟩ := hm
  replace hm := bb_inv hm; obtain ⟨h1, hm⟩ := hm
  refine .reg (eC 1 (sortF [(sc 0 0 1 n0 c0)] (hp 1 [(oC q0)])) (sortF_eq (x := (sc 0 0 1 n0 c0)) (H := (hp 1 [(oC q0)])) (id := 0) (ln := n0) (c2 := c0) (xs := q0) (anc := []) (by kernel_rfl) (by kernel_rfl) h0 h1) (eE)) ?_
  replace hm := bb_inv hm; obtain ⟨h2, hm⟩ := hm
  refine .ghs (fr 42 [(5, (sc 0 0 1 n0 c0))]) (hp 1 [(oC (mapL I64 (srtZ z0)))]) (.k [0] [] [.tmp 5 false] [5] ⟨trE (by kernel_rfl) h2, trivial⟩) ?_
  refine .then ?_
  replace hm := bb_inv hm; obtain ⟨h3, hm⟩ := hm
  replace hm := bb_inv hm; obtain ⟨h4, hm⟩ := hm
  replace hm := oo_inv hm; obtain ⟨v0, h5, hm⟩ := hm
  replace hm := inv_vTup hm; obtain ⟨l0, rfl, hm⟩ := hm
  replace hm := ll_uncons hm; obtain ⟨v1, l1203_0, rfl, hm⟩ := hm
  replace hm := ll_uncons hm; obtain ⟨v2, l1203_1, rfl, hm⟩ := hm
  replace hm := ll_end hm; obtain ⟨rfl, hm⟩ := hm
  replace hm := bb_inv hm; obtain ⟨h6, hm⟩ := hm
  obtain rfl := isNoV_ok h6
  replace hm := inv_vAgg hm; obtain ⟨q1, rfl, hm⟩ := hm
  replace hm := bb_inv hm; obtain ⟨h7, hm⟩ := hm
  refine .reg (eC 1 (objG tabs [[none]] 1 [.tmp 0 false] [false] (pu 10410) [(sc 0 0 1 n0 c0)] (hp 1 [(oC (mapL I64 (srtZ z0)))])) (objG_eq (as := [(sc 0 0 1 n0 c0)]) (H1 := (hp 1 [(oC (mapL I64 (srtZ z0)))])) (gvAL_c (gvA_1 gv_n) gvAL_n) (objF_eq (H2 := (hp 1 [(oC q1)])) (v := (.tuple ⟨[]⟩)) (v' := (.tuple ⟨[]⟩)) [some 0] [(false, some 0)] [(oC (mapL I64 (srtZ z0)))] [(sc 0 0 1 n0 c0)] [(.agg ⟨q1⟩)] [(oC q1)] [some 0] [(false, (oC q1))] [(oC q1)] (trE (by kernel_rfl) (rootL h3 rfl)) (mapO_c (nO_list (anc := []) h4) mapO_n) (Eq.trans (by kernel_rfl) h5) (mapO_c rfl mapO_n) (mapO_c (bO_list h7) mapO_n))) (eE)) ?_
  replace hm := bb_inv hm; obtain ⟨h8, hm⟩ := hm
  refine .ghs (fr 42 [(5, (sc 0 0 1 n0 c0))]) (hp 1 [(oC q1)]) (.k [0] [] [.tmp 5 false] [5] ⟨trE (by kernel_rfl) h8, trivial⟩) ?_
  refine .then ?_
  refine .rK ?_
  refine .ghs (fr 42 [(4, (sc 0 0 1 n0 c0))]) (hp 1 [(oC q1)]) (.k [0] [] [.tmp 4 false] [4] ⟨trE (by kernel_rfl) h8, trivial⟩) ?_
  replace hm := bb_inv hm; obtain ⟨h9, hm⟩ := hm
  refine .ghs (Fr.puts (fr 42 [(4, (sc 0 0 1 n0 c0))]) [(4, (Sl.v 1 (Sl.mk n0 0 (takeL (n0 * 1) (dropL 0 q1)))))]) (hp 1 [.dead]) (.freezeC 0 4 1 (an (Nat.ble (0 + n0 * 1) (len q1)) (allL closed1 (takeL (n0 * 1) (dropL 0 q1)))) (F1 := (Fr.puts (fr 42 [(4, (sc 0 0 1 n0 c0))]) [(4, (Sl.v 1 (Sl.mk n0 0 (takeL (n0 * 1) (dropL 0 q1)))))])) (H1 := (hp 1 [.dead])) (by kernel_rfl) (by kernel_rfl) h9 (GhS.id _ _)) ?_
  refine .ret ?_
  exact fin_ret (Sl.v 1 (Sl.mk n0 0 (takeL (n0 * 1) (dropL 0 q1)))) (by kernel_rfl) (by kernel_rfl) hm
theorem w16_0 (pu : PureF) (n : Nat) (n0 : Nat) (c0 : Nat) (q0 : List Value) {v : Value} (hm : m16_0 pu n n0 c0 q0 = some v) : Run tt (callP tabs isP pu (inl pu)) 0 c16_35 (fr 42 [(5, (sc 0 0 1 n0 c0))]) (hp 1 [(oC q0)]) (Fin tt 0 [.tmp 4] v) := by
  unfold m16_0 at hm
  refine .join (v := v) (fun y : Nat × Nat × List Value => ((fr 42 [(5, (sc 0 0 1 y.1 y.2.1))]), (hp 1 [(oC y.2.2)]))) (fun y => m16_1 pu n y.1 y.2.1 y.2.2) ?_ ?_
  · rintro ⟨n1, c1, q1⟩ hm
    exact w16_1 pu n n1 c1 q1 hm
  · refine .then ?_
    refine .rK ?_
    replace hm := bb_inv hm; obtain ⟨h0, hm⟩ := hm
    refine .ghs (fr 42 [(5, (sc 0 0 1 n0 c0)), (34, (zB (ieq (Int.ofNat n0) (0 : Int))))]) (hp 1 [(oC q0)]) (.k [0] [] [.tmp 5 false] [5, 34] ⟨trE (by kernel_rfl) h0, trivial⟩) ?_
    replace hm := bb_cases hm; rcases hm with ⟨h1, hm⟩ | ⟨h1, hm⟩
    · refine .ifT (ieq (Int.ofNat n0) (0 : Int)) (by kernel_rfl) h1 ?_
      refine .reg (eC 1 (identF [(sc 1 0 1 1 3)] (hp 2 [(oC q0), (oC [(zI (1 : Int))])])) rfl (eE)) ?_
      exact ⟨(1, 3, ([(zI (1 : Int))] : List Value)), hm, (.k0 [] [.tmp 5 false] [5])⟩
    · refine .ifF (ieq (Int.ofNat n0) (0 : Int)) (by kernel_rfl) h1 ?_
      refine .skip ?_
      exact ⟨(n0, c0, q0), hm, (.k [0] [] [.tmp 5 false] [5] ⟨trE (by kernel_rfl) h0, trivial⟩)⟩
theorem r16 {call : CallF} (pu : PureF) (n : Nat) (hcall : call = callP tabs isP pu (inl pu)) {args : List Value} {v : Value} (hm : m16 pu n args = some v) (_ : ∀ x ∈ args, closed2 x = true) : args.length ≤ 42 ∧ Run tt call 0 c16_39 (Fr.made 42 args) (pureHeap tabs) (Fin tt 0 [.tmp 4] v) := by
  subst hcall
  unfold m16 at hm
  replace hm := ll_uncons hm; obtain ⟨a0, args_0, rfl, hm⟩ := hm
  replace hm := ll_uncons hm; obtain ⟨a1, args_1, rfl, hm⟩ := hm
  replace hm := ll_end hm; obtain ⟨rfl, hm⟩ := hm
  replace hm := inv_toSl hm; obtain ⟨s0, rfl, hm⟩ := hm
  replace hm := inv_toI hm; obtain ⟨x0, rfl, hm⟩ := hm
  unfold m16_ at hm
  refine ⟨by simp, ?_⟩
  refine .same (F' := (fr 42 [(0, (Sl.v 1 s0)), (1, (zI x0))])) (H' := (hp 0 [])) (by kernel_rfl) (by kernel_rfl) ?_
  refine .then ?_
  refine .rK ?_
  refine .ghs (fr 42 [(0, (Sl.v 1 s0)), (1, (zI x0))]) (hp 0 []) (.k0 [] [] [0, 1]) ?_
  refine .then ?_
  refine .rK ?_
  refine .ghs (fr 42 [(0, (Sl.v 1 s0)), (1, (zI x0)), (5, (.slice none 0 0))]) (hp 0 []) (.k0 [] [] [0, 1, 5]) ?_
  refine .then ?_
  refine .rK ?_
  refine .ghs (fr 42 [(0, (Sl.v 1 s0)), (5, (.slice none 0 0)), (6, (zI x0))]) (hp 0 []) (.k0 [] [] [0, 5, 6]) ?_
  refine .join (v := v) (fun y : Nat × Nat × List Value => ((fr 42 [(5, (sc 0 0 1 y.1 y.2.1))]), (hp 1 [(oC y.2.2)]))) (fun y => m16_0 pu n y.1 y.2.1 y.2.2) ?_ ?_
  · rintro ⟨n0, c0, q0⟩ hm
    exact w16_0 pu n n0 c0 q0 hm
  · refine .then ?_
    refine .rK ?_
    refine .ghs (fr 42 [(5, (.slice none 0 0)), (6, (zI x0)), (11, (Sl.v 1 s0)), (12, (zI (Int.ofNat (Sl.n s0)))), (13, (zI (0 : Int)))]) (hp 0 []) (.k0 [] [] [5, 6, 11, 12, 13]) ?_
    refine .block ?_
    refine .loopM (v := v) (fun y : Nat × Nat × Int × Sl × Int × Int × List Value => ((fr 42 [(5, (sc 0 0 1 y.1 y.2.1)), (6, (zI y.2.2.1)), (11, (Sl.v 1 y.2.2.2.1)), (12, (zI y.2.2.2.2.1)), (13, (zI y.2.2.2.2.2.1))]), (hp 1 [(oC y.2.2.2.2.2.2)]))) (fun w y => l16_2 pu n w y.1 y.2.1 y.2.2.1 y.2.2.2.1 y.2.2.2.2.1 y.2.2.2.2.2.1 y.2.2.2.2.2.2) n ⟨(0, 0, x0, s0, (Int.ofNat (Sl.n s0)), (0 : Int), ([] : List Value)), hm, (.thaw 5 1 (by kernel_rfl) (.k0 [] [.tmp 5 false] [5, 6, 11, 12, 13]))⟩ (fun _ => rfl) ?_
    rintro w0 ⟨n1, c1, z0, s1, z1, z2, q1⟩ hm
    replace hm : b16_2 pu n (l16_2 pu n w0) n1 c1 z0 s1 z1 z2 q1 = some v := hm
    unfold b16_2 at hm
    refine .then ?_
    refine .rK ?_
    replace hm := bb_inv hm; obtain ⟨h0, hm⟩ := hm
    refine .ghs (fr 42 [(5, (sc 0 0 1 n1 c1)), (6, (zI z0)), (11, (Sl.v 1 s1)), (12, (zI z1)), (13, (zI z2)), (14, (zB (ilt z2 z1)))]) (hp 1 [(oC q1)]) (.k [0] [] [.tmp 5 false] [5, 6, 11, 12, 13, 14] ⟨trE (by kernel_rfl) h0, trivial⟩) ?_
    refine .then ?_
    replace hm := bb_cases hm; rcases hm with ⟨h1, hm⟩ | ⟨h1, hm⟩
    · refine .ifT (ilt z2 z1) (by kernel_rfl) h1 ?_
      refine .skip ?_
      refine .ghs (fr 42 [(5, (sc 0 0 1 n1 c1)), (6, (zI z0)), (11, (Sl.v 1 s1)), (12, (zI z1)), (13, (zI z2))]) (hp 1 [(oC q1)]) (.k [0] [] [.tmp 5 false] [5, 6, 11, 12, 13] ⟨trE (by kernel_rfl) h0, trivial⟩) ?_
      refine .then ?_
      refine .block ?_
      refine .then ?_
      replace hm := oo_inv hm; obtain ⟨k1, h2, hm⟩ := hm
      obtain rfl := toN_some h2
      replace hm := bb_inv hm; obtain ⟨h3, hm⟩ := hm
      replace hm := oo_inv hm; obtain ⟨v0, h4, hm⟩ := hm
      replace hm := inv_toI hm; obtain ⟨x1, rfl, hm⟩ := hm
      refine .reg (eD (keep (hp 1 [(oC q1)]) (bb (an (Nat.blt k1 (Sl.n s1)) true) (some (fpV (k1 * 1) (Sl.cs s1))) none)) (keep_bb h3) (eD (keep (hp 1 [(oC q1)]) (nthL (Sl.cs s1) (k1 * 1))) (keep_eq h4) (eE))) ?_
      refine .ghs (fr 42 [(5, (sc 0 0 1 n1 c1)), (6, (zI z0)), (8, (zY x1)), (11, (Sl.v 1 s1)), (12, (zI z1)), (13, (zI (Int.ofNat k1)))]) (hp 1 [(oC q1)]) (.k [0] [] [.tmp 5 false] [5, 6, 8, 11, 12, 13] ⟨trE (by kernel_rfl) h0, trivial⟩) ?_
      refine .then ?_
      refine .then ?_
      refine .rK ?_
      refine .ghs (fr 42 [(5, (sc 0 0 1 n1 c1)), (6, (zI z0)), (8, (zY x1)), (11, (Sl.v 1 s1)), (12, (zI z1)), (13, (zI (Int.ofNat k1))), (18, (zB (ieq z0 (0 : Int))))]) (hp 1 [(oC q1)]) (.k [0] [] [.tmp 5 false] [5, 6, 8, 11, 12, 13, 18] ⟨trE (by kernel_rfl) h0, trivial⟩) ?_
      replace hm := bb_cases hm; rcases hm with ⟨h5, hm⟩ | ⟨h5, hm⟩
      · refine .ifT (ieq z0 (0 : Int)) (by kernel_rfl) h5 ?_
        refine .exit ?_
        exact ⟨(n1, c1, q1), hm, (.k [0] [] [.tmp 5 false] [5] ⟨trE (by kernel_rfl) h0, trivial⟩)⟩
      · refine .ifF (ieq z0 (0 : Int)) (by kernel_rfl) h5 ?_
        refine .skip ?_
        refine .ghs (fr 42 [(5, (sc 0 0 1 n1 c1)), (6, (zI z0)), (8, (zY x1)), (11, (Sl.v 1 s1)), (12, (zI z1)), (13, (zI (Int.ofNat k1)))]) (hp 1 [(oC q1)]) (.k [0] [] [.tmp 5 false] [5, 6, 8, 11, 12, 13] ⟨trE (by kernel_rfl) h0, trivial⟩) ?_
        refine .then ?_
        replace hm := bb_inv hm; obtain ⟨h6, hm⟩ := hm
        refine .reg (eC 3 (keep (hp 1 [(oC q1)]) (bb (ieq z0 (0 : Int)) none (some (zI (Int.tmod (wrapF .i64 x1) z0))))) (keep_nb h6) (eE)) ?_
        refine .ghs (fr 42 [(5, (sc 0 0 1 n1 c1)), (6, (zI z0)), (9, (zI (wrapF .i64 (Int.add (1 : Int) (Int.tmod (wrapF .i64 x1) z0))))), (11, (Sl.v 1 s1)), (12, (zI z1)), (13, (zI (Int.ofNat k1)))]) (hp 1 [(oC q1)]) (.k [0] [] [.tmp 5 false] [5, 6, 9, 11, 12, 13] ⟨trE (by kernel_rfl) h0, trivial⟩) ?_
        refine .then ?_
        replace hm := bb_inv hm; obtain ⟨h7, hm⟩ := hm
        refine .reg (eC 3 (growD 1 8 n1 c1 1 0 q1 [(zI (wrapF .i64 (Int.add (1 : Int) (Int.tmod (wrapF .i64 x1) z0))))] [] (hp 2 [(oC q1), (oC [(zI (wrapF .i64 (Int.add (1 : Int) (Int.tmod (wrapF .i64 x1) z0))))])])) (growD_eq h7) (eE)) ?_
        replace hm := bb_inv hm; obtain ⟨h8, hm⟩ := hm
        refine .ghs (fr 42 [(5, (sc 0 0 1 (n1 + 1) (d2 (n1 + 1)))), (6, (zI z0)), (9, (zI (wrapF .i64 (Int.add (1 : Int) (Int.tmod (wrapF .i64 x1) z0))))), (11, (Sl.v 1 s1)), (12, (zI z1)), (13, (zI (Int.ofNat k1)))]) (hp 1 [(oC (appL (dropL 0 q1) [(zI (wrapF .i64 (Int.add (1 : Int) (Int.tmod (wrapF .i64 x1) z0))))]))]) (.k [2] [] [.tmp 5 false] [5, 6, 9, 11, 12, 13] ⟨trE (by kernel_rfl) h8, trivial⟩) ?_
        refine .rK ?_
        refine .ghs (fr 42 [(5, (sc 0 0 1 (n1 + 1) (d2 (n1 + 1)))), (6, (zI (wrapF .i64 (Int.sub z0 (wrapF .i64 (Int.add (1 : Int) (Int.tmod (wrapF .i64 x1) z0))))))), (11, (Sl.v 1 s1)), (12, (zI z1)), (13, (zI (Int.ofNat k1)))]) (hp 1 [(oC (appL (dropL 0 q1) [(zI (wrapF .i64 (Int.add (1 : Int) (Int.tmod (wrapF .i64 x1) z0))))]))]) (.k [0] [] [.tmp 5 false] [5, 6, 11, 12, 13] ⟨trE (by kernel_rfl) h8, trivial⟩) ?_
        refine .rK ?_
        exact ⟨((n1 + 1), (d2 (n1 + 1)), (wrapF .i64 (Int.sub z0 (wrapF .i64 (Int.add (1 : Int) (Int.tmod (wrapF .i64 x1) z0))))), s1, z1, (wrapF .i64 (Int.add (Int.ofNat k1) (1 : Int))), (appL (dropL 0 q1) [(zI (wrapF .i64 (Int.add (1 : Int) (Int.tmod (wrapF .i64 x1) z0))))])), hm, (.k [0] [] [.tmp 5 false] [5, 6, 11, 12, 13] ⟨trE (by kernel_rfl) h8, trivial⟩)⟩
    · refine .ifF (ilt z2 z1) (by kernel_rfl) h1 ?_
      refine .exit ?_
      exact ⟨(n1, c1, q1), hm, (.k [0] [] [.tmp 5 false] [5] ⟨trE (by kernel_rfl) h0, trivial⟩)⟩
end
end Go.HpTM
