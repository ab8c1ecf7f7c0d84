/- slices.Clone, taken as it stands where it is called: a new row with the same cells. -/
import Derived.Test.YtgplhblofefkjaaDoorSpLawx
import Derived.Test.YtgplhblofefkjaaDoorMendNCode
import Derived.KernelRfl

set_option maxRecDepth 100000
namespace Go.MendNM
open Go.Sp Go.MendN
noncomputable section
def cloneF (sz by' : Nat) (args : List Value) (H : AHeap) : Option (Value × AHeap) :=
  ll args none fun x r => ll r (oo (toSl sz x) none fun s => AHeap.rec (motive := fun _ => Option (Value × AHeap)) (fun k T z => bb z (bb (roomy (0 + s.n) by')
    (some (.slice (some ⟨Nat.succ k, 0, some sz⟩) s.n (2 * s.n + bb false 1 0), ((⟨k, T, true⟩ : AHeap).push (.cells [] false false [])).push (.cells (takeL (s.n * sz) s.cs) false false []))) none) none) H) fun _ _ => none
def o74 : List ROp := [
   ⟨(some 5), .buildSlice 22 0 #[], 22, none, []⟩,
   ⟨(some 6), .move (.tmp 0), 22, none, []⟩,
   ⟨(some 7), .call ⟨.builtin .append, #[(.tmp 5), (.tmp 6)], #[22, 22]⟩, 22, none, []⟩,
   ⟨(some 2), .assign (.tmp 7), 22, none, []⟩]
def H1 (k : Nat) (T : Tr AObj) : AHeap := (⟨k, T, true⟩ : AHeap).push (.cells [] false false [])
def F1 (a : Value) : Fr := Fr.puts (Fr.made 8 [a]) [(2, .slice none 0 0), (3, a), (4, .bool false)]
def F2 (a : Value) (k : Nat) : Fr := Fr.puts (F1 a) [(5, .slice (some ⟨k, 0, some 1⟩) 0 1)]
def F3 (a : Value) (k : Nat) : Fr := Fr.puts (F2 a k) [(6, a)]
def F4 (a : Value) (k : Nat) (v : Value) : Fr := Fr.puts (F3 a k) [(7, v)]
def F5 (a : Value) (k : Nat) (v : Value) : Fr := Fr.puts (F4 a k v) [(2, v)]
theorem H1_get (k : Nat) (T : Tr AObj) : oCells ((H1 k T).get k) = some ⟨[], false, false, []⟩ := by
  unfold H1
  rw [AHeap.get_push, if_pos rfl]; rfl
theorem H1_next (k : Nat) (T : Tr AObj) : (H1 k T).next = k + 1 := by
  unfold H1; rw [AHeap.next_push]
theorem cloneA (k : Nat) (T : Tr AObj) : evFn tt fns 2 74 [fsV 1 0 2 []] ⟨k, T, true⟩ = some (.slice none 0 0, ⟨k, T, true⟩) := by kernel_rfl
theorem ops (call : CallF) (k : Nat) (T : Tr AObj) (a : Value) (v : Value) (H2 : AHeap) (s : Sl) (ha : a = s.v 1) (hD : appFs (H1 k T) 1 8 (.slice (some ⟨k, 0, some 1⟩) 0 1) s = some (v, H2)) :
    evOps tt call o74 (F1 a) ⟨k, T, true⟩ = some (F5 a k v, H2) := by
  subst ha
  refine evOps_data (some (.slice (some ⟨k, 0, some 1⟩) 0 1, H1 k T)) (by kernel_rfl) rfl (by kernel_rfl) ?_
  refine evOps_data (some (s.v 1, H1 k T)) (by kernel_rfl) rfl (by kernel_rfl) ?_
  refine evOps_data (appFs (H1 k T) 1 8 (.slice (some ⟨k, 0, some 1⟩) 0 1) s) (by kernel_rfl) hD (by kernel_rfl) ?_
  refine evOps_data (some (v, H2)) (by kernel_rfl) rfl (by kernel_rfl) ?_
  rfl
theorem ev (k : Nat) (T : Tr AObj) (a : Value) (v : Value) (H2 : AHeap) (h1 : evC tt (evFn tt fns 1) 1 c74 (Fr.made 8 [a]) ⟨k, T, true⟩ = evC tt (evFn tt fns 1) 1 (.seq (.reg [] o74) .ret) (F1 a) ⟨k, T, true⟩)
    (h : evOps tt (evFn tt fns 1) o74 (F1 a) ⟨k, T, true⟩ = some (F5 a k v, H2)) : evFn tt fns 2 74 [a] ⟨k, T, true⟩ = some (v, H2) := by
  show endFn tt [.tmp 2] (evC tt (evFn tt fns 1) 1 c74 (Fr.made 8 [a]) ⟨k, T, true⟩) = _
  rw [h1]
  show endFn tt [.tmp 2] (onNormal (regR (evOps tt (evFn tt fns 1) o74 (F1 a) ⟨k, T, true⟩)) _) = _
  rw [h]
  kernel_rfl
theorem cloneB (k : Nat) (T : Tr AObj) : evFn tt fns 2 74 [fsV 1 0 3 []] ⟨k, T, true⟩ = some (.slice (some ⟨k, 0, some 1⟩) 0 1, H1 k T) :=
  ev k T _ _ _ (by kernel_rfl) (ops _ k T _ _ _ ⟨0, 3, []⟩ rfl (appFs_sl0 rfl))
theorem cloneC (k : Nat) (T : Tr AObj) (n : Nat) (cs : List Value) (hr : roomy (0 + (n + 1)) 8 = true) :
    evFn tt fns 2 74 [fsV 1 (n + 1) 0 cs] ⟨k, T, true⟩ = some (sliceAt (k + 1) 0 1 (0 + (n + 1)) (0 + (n + 1)) false, (H1 k T).push (.cells (takeL ((n + 1) * 1) cs) false false [])) :=
  ev k T _ _ _ (by kernel_rfl) (ops _ k T _ _ _ ⟨n + 1, 0, cs⟩ rfl (by rw [appFs_new rfl hr (H1_get k T), H1_next]))

theorem clone_ok {P : Program} (hT : TOk P tt) (hf : ∀ f r, fns f = some r → FnOk P [0] f r) (hm : P.follows .mixedOrders = true) {args : List Value} {H H' : AHeap} {v : Value} (h : cloneF 1 8 args H = some (v, H')) :
    (∀ (as : Array Value) (w : World), (callFunc 74 as).run P w = .ok (.enter 74 as) w) ∧
    ∀ R w args', Sim H R w → GlR [0] R → VRL R args args' → Calls P 74 ⟨args'⟩ w fun e w' => ∃ u R', e = .returned u ∧ VR R' v u ∧ Post H R w H' R' w' := by
  refine ⟨((evFn_ok hT hf hm 2) 74 _ _ _ _ (cloneA 0 .nil)).1, fun R w args' hs hgl ha => ?_⟩
  obtain ⟨x, r, rfl, h⟩ := ll_uncons h
  obtain ⟨rfl, h⟩ := ll_end h
  obtain ⟨s, hsl, h⟩ := oo_inv h
  obtain rfl := toSl_some hsl
  obtain ⟨k, T, z⟩ := H
  obtain ⟨hz, h⟩ := bb_inv (show bb z _ none = some _ from h)
  subst hz
  obtain ⟨hr, h⟩ := bb_inv h
  injection h with h; injection h with e1 e2; subst e1; subst e2
  obtain ⟨u, us, rfl, hu, hnil⟩ := ha.uncons
  obtain rfl := hnil.unnil
  obtain ⟨n, fl, cs⟩ := s
  have run : ∀ (a v1 : Value) (H2 : AHeap), evFn tt fns 2 74 [a] ⟨k, T, true⟩ = some (v1, H2) → VR R a u → Calls P 74 ⟨[u]⟩ w fun e w' => ∃ u' R', e = .returned u' ∧ VR R' v1 u' ∧ Post ⟨k, T, true⟩ R w H2 R' w' := fun a v1 H2 he hau =>
    ((evFn_ok hT hf hm 2) 74 _ _ _ _ he).2 R w [u] hs hgl (.one hau)
  have empty : ∀ (a : Value), VR R a u → (a = fsV 1 0 2 [] ∨ a = fsV 1 0 3 []) → ∀ o, o = AObj.cells (takeL (0 * 1) cs) false false [] → Calls P 74 ⟨[u]⟩ w fun e w' => ∃ u' R', e = .returned u' ∧ VR R' (.slice (some ⟨Nat.succ k, 0, some 1⟩) 0 (2 * 0 + bb false 1 0)) u' ∧
      Post ⟨k, T, true⟩ R w ((H1 k T).push o) R' w' := fun a hau hcase o ho => by
    rcases hcase with rfl | rfl
    · refine (run _ _ _ (cloneA k T) hau).mono fun e w' ⟨u', R', h1, h2, h3⟩ => ⟨u', R', h1, ?_, (h3.absPush (obj := .cells [] false false []) rfl).absPush (by rw [ho]; rfl)⟩
      rw [h2.slNil_l]; exact .slN rfl
    · refine (run _ _ _ (cloneB k T) hau).mono fun e w' ⟨u', R', h1, h2, h3⟩ => ⟨u', R', h1, ?_, h3.absPush (by rw [ho]; rfl)⟩
      cases h2 with
      | sl _ _ _ h3 _ => have := h3 rfl; subst this; exact .slE rfl
      | slE => exact .slE rfl
      | slN => exact .slN rfl
  rcases hu.fs_l (f := ⟨1, n, fl, cs⟩) rfl with ⟨h1, h2, rfl⟩ | ⟨_, h1, h2, c, o, sp, rfl⟩ | ⟨c, o, cap, C, hro, rfl, hn, k1, k2, k3, hfit, hcr, hcl⟩
  · have h1 : n = 0 := h1
    subst h1
    exact empty _ (.fsN 1 2 (by decide)) (.inl rfl) _ rfl
  · have h1 : n = 0 := h1
    subst h1
    exact empty _ (.fsE (by decide)) (.inr rfl) _ rfl
  · cases n with
    | zero =>
      have hc0 : cs = [] := by simpa using hn
      subst hc0
      exact empty (fsV 1 0 3 []) (.mkFs hro rfl (Nat.zero_le _) (fun h => by cases h) (by decide) hfit hcr hcl) (.inr rfl) _ rfl
    | succ n =>
      refine (run _ _ _ (cloneC k T n cs hr) (.mkFs hro hn k1 (fun h => by cases h) (by decide) hfit hcr hcl)).mono fun e w' ⟨u', R', g1, g2, g3⟩ => ⟨u', R', g1, ?_, g3⟩
      rwa [Nat.zero_add] at g2
end
end Go.MendNM
/- Models of the program's functions, and the proofs that runs give them: MADE BY PROGRAM (wip/tools/dec.py). -/
set_option maxRecDepth 100000
set_option linter.unusedVariables false
namespace Go.MendNM
open Go.Sp Go.MendN
noncomputable section
def tab0 : List Value := [.int .u8 0, .int .u8 1, .int .u8 28, .int .u8 2, .int .u8 29, .int .u8 14, .int .u8 24, .int .u8 3, .int .u8 30, .int .u8 22, .int .u8 20, .int .u8 15, .int .u8 25, .int .u8 17, .int .u8 4, .int .u8 8, .int .u8 31, .int .u8 27, .int .u8 13, .int .u8 23, .int .u8 21, .int .u8 19, .int .u8 16, .int .u8 7, .int .u8 26, .int .u8 12, .int .u8 18, .int .u8 6, .int .u8 11, .int .u8 5, .int .u8 10, .int .u8 9]
def tabs := [tab0]
def plist : List Nat := [6, 14, 15, 20, 21, 22, 31, 32, 33, 34, 35, 36, 60, 61, 62, 69, 70]
def isP : FuncId → Bool := fun g => memN g plist
def inl : CallF := fun g args H => bb (Nat.beq g 74) (cloneF 1 8 args H) none
end
end Go.MendNM
/- Models of the program's functions, and the proofs that runs give them: MADE BY PROGRAM (wip/tools/dec.py). -/
set_option maxRecDepth 100000
set_option linter.unusedVariables false
namespace Go.MendNM
open Go.Sp Go.MendN
noncomputable section
/-- spadille/spadillelaw09.MendNear -/
def o6_0 : List ROp := [
  ⟨(some 3), .box 24 (.tmp 0), 0, none, []⟩,
  ⟨(some 6), .assign (.const (.bool false)), 4, none, []⟩]
def c6_0 : RC := .reg [] o6_0
def o6_1 : List ROp := [
  ⟨(some 20), .load 24 (.tmp 3), 24, none, []⟩,
  ⟨(some 21), .call ⟨.value (.func 14), #[(.tmp 20)], #[24]⟩, 4, none, []⟩]
def c6_1 : RC := .reg [] o6_1
def o6_2 : List ROp := [
  ⟨(some 22), .call ⟨.value (.func 15), #[], #[]⟩, 4, none, []⟩,
  ⟨(some 6), .assign (.tmp 22), 4, none, []⟩]
def c6_2 : RC := .reg [] o6_2
def c6_3 : RC := .seq c6_2 .ret
def c6_4 : RC := .cond (.tmp 21) c6_3 .skip
def c6_5 : RC := .seq c6_1 c6_4
def o6_6 : List ROp := [
  ⟨(some 23), .load 24 (.tmp 3), 24, none, []⟩,
  ⟨(some 7), .alloc 27, 0, none, []⟩,
  ⟨none, .store 27 (.tmp 7) (.tmp 23), 0, none, []⟩]
def c6_6 : RC := .reg [] o6_6
def o6_7 : List ROp := [
  ⟨(some 25), .move (.tmp 1), 3, none, []⟩,
  ⟨(some 26), .move (.tmp 2), 3, none, []⟩,
  ⟨(some 27), .call ⟨.value (.func 31), #[(.tmp 25), (.tmp 26)], #[3, 3]⟩, 49, none, []⟩,
  ⟨(some 24), .move (.tmp 27), 49, none, []⟩,
  ⟨(some 28), .extract (.tmp 24) 0, 3, none, []⟩,
  ⟨(some 29), .extract (.tmp 24) 1, 28, none, []⟩,
  ⟨(some 8), .assign (.tmp 28), 3, none, []⟩,
  ⟨(some 9), .assign (.tmp 29), 28, none, []⟩]
def c6_7 : RC := .reg [] o6_7
def o6_8 : List ROp := [
  ⟨(some 31), .move (.tmp 1), 3, none, []⟩,
  ⟨(some 32), .move (.tmp 2), 3, none, []⟩,
  ⟨(some 33), .call ⟨.value (.func 32), #[(.tmp 31), (.tmp 32)], #[3, 3]⟩, 49, none, []⟩,
  ⟨(some 30), .move (.tmp 33), 49, none, []⟩,
  ⟨(some 34), .extract (.tmp 30) 0, 3, none, []⟩,
  ⟨(some 35), .extract (.tmp 30) 1, 28, none, []⟩,
  ⟨(some 10), .assign (.tmp 34), 3, none, []⟩,
  ⟨(some 11), .assign (.tmp 35), 28, none, []⟩]
def c6_8 : RC := .reg [] o6_8
def o6_9 : List ROp := [
  ⟨(some 37), .load 24 (.tmp 3), 24, none, []⟩,
  ⟨(some 38), .call ⟨.value (.func 33), #[(.tmp 37)], #[24]⟩, 29, none, []⟩,
  ⟨(some 36), .move (.tmp 38), 29, none, []⟩,
  ⟨(some 39), .extract (.tmp 36) 0, 22, none, []⟩,
  ⟨(some 40), .extract (.tmp 36) 1, 28, none, []⟩,
  ⟨(some 12), .assign (.tmp 39), 22, none, []⟩,
  ⟨(some 13), .assign (.tmp 40), 28, none, []⟩]
def c6_9 : RC := .reg [] o6_9
def o6_10 : List ROp := [
  ⟨(some 42), .load 27 (.tmp 7), 27, none, []⟩,
  ⟨(some 43), .call ⟨.value (.func 34), #[(.tmp 42)], #[27]⟩, 29, none, []⟩,
  ⟨(some 41), .move (.tmp 43), 29, none, []⟩,
  ⟨(some 44), .extract (.tmp 41) 0, 22, none, []⟩,
  ⟨(some 45), .extract (.tmp 41) 1, 28, none, []⟩,
  ⟨(some 14), .assign (.tmp 44), 22, none, []⟩,
  ⟨(some 15), .assign (.tmp 45), 28, none, []⟩]
def c6_10 : RC := .reg [] o6_10
def o6_11 : List ROp := [
  ⟨(some 47), .load 24 (.tmp 3), 24, none, []⟩,
  ⟨(some 48), .call ⟨.value (.func 35), #[(.tmp 47)], #[24]⟩, 49, none, []⟩,
  ⟨(some 46), .move (.tmp 48), 49, none, []⟩,
  ⟨(some 49), .extract (.tmp 46) 0, 3, none, []⟩,
  ⟨(some 50), .extract (.tmp 46) 1, 28, none, []⟩,
  ⟨(some 16), .assign (.tmp 49), 3, none, []⟩,
  ⟨(some 17), .assign (.tmp 50), 28, none, []⟩]
def c6_11 : RC := .reg [] o6_11
def o6_12 : List ROp := [
  ⟨(some 52), .load 27 (.tmp 7), 27, none, []⟩,
  ⟨(some 53), .call ⟨.value (.func 36), #[(.tmp 52)], #[27]⟩, 49, none, []⟩,
  ⟨(some 51), .move (.tmp 53), 49, none, []⟩,
  ⟨(some 54), .extract (.tmp 51) 0, 3, none, []⟩,
  ⟨(some 55), .extract (.tmp 51) 1, 28, none, []⟩,
  ⟨(some 18), .assign (.tmp 54), 3, none, []⟩,
  ⟨(some 19), .assign (.tmp 55), 28, none, []⟩]
def c6_12 : RC := .reg [] o6_12
def o6_13 : List ROp := [
  ⟨(some 56), .move (.tmp 8), 3, none, []⟩,
  ⟨(some 57), .move (.tmp 10), 3, none, []⟩,
  ⟨(some 58), .binOp .eql 3 (.tmp 56) (.tmp 57) 3, 4, none, []⟩,
  ⟨(some 59), .move (.tmp 58), 4, none, []⟩,
  ⟨(some 60), .move (.tmp 9), 28, (some ((some 59), true)), []⟩,
  ⟨(some 61), .move (.tmp 11), 28, (some ((some 59), true)), []⟩,
  ⟨(some 62), .binOp .eql 28 (.tmp 60) (.tmp 61) 28, 4, (some ((some 59), true)), []⟩,
  ⟨(some 63), .pick (.tmp 59) (.tmp 62) (.const (.bool false)), 4, none, []⟩,
  ⟨(some 64), .move (.tmp 63), 4, none, []⟩,
  ⟨(some 65), .move (.tmp 12), 22, (some ((some 64), true)), []⟩,
  ⟨(some 66), .move (.tmp 14), 22, (some ((some 64), true)), []⟩,
  ⟨(some 67), .call ⟨.value (.func 20), #[(.tmp 65), (.tmp 66)], #[22, 22]⟩, 4, (some ((some 64), true)), []⟩,
  ⟨(some 68), .pick (.tmp 64) (.tmp 67) (.const (.bool false)), 4, none, []⟩,
  ⟨(some 69), .move (.tmp 68), 4, none, []⟩,
  ⟨(some 70), .move (.tmp 13), 28, (some ((some 69), true)), []⟩,
  ⟨(some 71), .move (.tmp 15), 28, (some ((some 69), true)), []⟩,
  ⟨(some 72), .binOp .eql 28 (.tmp 70) (.tmp 71) 28, 4, (some ((some 69), true)), []⟩,
  ⟨(some 73), .pick (.tmp 69) (.tmp 72) (.const (.bool false)), 4, none, []⟩,
  ⟨(some 74), .move (.tmp 73), 4, none, []⟩,
  ⟨(some 75), .move (.tmp 16), 3, (some ((some 74), true)), []⟩,
  ⟨(some 76), .move (.tmp 18), 3, (some ((some 74), true)), []⟩,
  ⟨(some 77), .binOp .eql 3 (.tmp 75) (.tmp 76) 3, 4, (some ((some 74), true)), []⟩,
  ⟨(some 78), .pick (.tmp 74) (.tmp 77) (.const (.bool false)), 4, none, []⟩,
  ⟨(some 79), .move (.tmp 78), 4, none, []⟩,
  ⟨(some 80), .move (.tmp 17), 28, (some ((some 79), true)), []⟩,
  ⟨(some 81), .move (.tmp 19), 28, (some ((some 79), true)), []⟩,
  ⟨(some 82), .binOp .eql 28 (.tmp 80) (.tmp 81) 28, 4, (some ((some 79), true)), []⟩,
  ⟨(some 83), .pick (.tmp 79) (.tmp 82) (.const (.bool false)), 4, none, []⟩,
  ⟨(some 84), .move (.tmp 83), 4, none, []⟩,
  ⟨(some 85), .call ⟨.value (.func 15), #[], #[]⟩, 4, (some ((some 84), true)), []⟩,
  ⟨(some 86), .pick (.tmp 84) (.tmp 85) (.const (.bool false)), 4, none, []⟩,
  ⟨(some 6), .assign (.tmp 86), 4, none, []⟩]
def c6_13 : RC := .reg [] o6_13
def c6_14 : RC := .seq c6_13 .ret
def c6_15 : RC := .seq c6_12 c6_14
def c6_16 : RC := .seq c6_11 c6_15
def c6_17 : RC := .seq c6_10 c6_16
def c6_18 : RC := .seq c6_9 c6_17
def c6_19 : RC := .seq c6_8 c6_18
def c6_20 : RC := .seq c6_7 c6_19
def c6_21 : RC := .seq c6_6 c6_20
def c6_22 : RC := .seq c6_5 c6_21
def c6_23 : RC := .seq c6_0 c6_22
def m6_0 (pu : PureF) (n : Nat) (b99 : Bool) : Option Value :=
  (some (.bool b99))
def m6_ (pu : PureF) (n : Nat) (x6 : Int) (s8 : Sl) (s10 : Sl) (x12 : Int) (x14 : Int) : Option Value :=
  (oo (pu 14 [(.agg ⟨[(.int .i64 x6), (Sl.v 1 s8), (Sl.v 1 s10)]⟩)]) none fun v16 => (oo (vBool v16) none fun b18 => (bb b18 (oo (pu 15 []) none fun v21 => (oo (vBool v21) none fun b23 => (some (.bool b23)))) (oo (pu 31 [(.int .i64 x12), (.int .i64 x14)]) none fun v25 => (oo (vTup v25) none fun l27 => (ll l27 none fun v29 l27 => (ll l27 none fun v30 l27 => (ll l27 (oo (toI .i64 v29) none fun x31 => (oo (toI .i64 v30) none fun x33 => (oo (pu 32 [(.int .i64 x12), (.int .i64 x14)]) none fun v35 => (oo (vTup v35) none fun l37 => (ll l37 none fun v39 l37 => (ll l37 none fun v40 l37 => (ll l37 (oo (toI .i64 v39) none fun x41 => (oo (toI .i64 v40) none fun x43 => (oo (pu 33 [(.agg ⟨[(.int .i64 x6), (Sl.v 1 s8), (Sl.v 1 s10)]⟩)]) none fun v45 => (oo (vTup v45) none fun l47 => (ll l47 none fun v49 l47 => (ll l47 none fun v50 l47 => (ll l47 (oo (toSl 1 v49) none fun s51 => (oo (toI .i64 v50) none fun x53 => (oo (pu 34 [(.agg ⟨[(.int .i64 x6), (Sl.v 1 s8), (Sl.v 1 s10)]⟩)]) none fun v55 => (oo (vTup v55) none fun l57 => (ll l57 none fun v59 l57 => (ll l57 none fun v60 l57 => (ll l57 (oo (toSl 1 v59) none fun s61 => (oo (toI .i64 v60) none fun x63 => (oo (pu 35 [(.agg ⟨[(.int .i64 x6), (Sl.v 1 s8), (Sl.v 1 s10)]⟩)]) none fun v65 => (oo (vTup v65) none fun l67 => (ll l67 none fun v69 l67 => (ll l67 none fun v70 l67 => (ll l67 (oo (toI .i64 v69) none fun x71 => (oo (toI .i64 v70) none fun x73 => (oo (pu 36 [(.agg ⟨[(.int .i64 x6), (Sl.v 1 s8), (Sl.v 1 s10)]⟩)]) none fun v75 => (oo (vTup v75) none fun l77 => (ll l77 none fun v79 l77 => (ll l77 none fun v80 l77 => (ll l77 (oo (toI .i64 v79) none fun x81 => (oo (toI .i64 v80) none fun x83 => (bb (ieq x31 x41) (bb (ieq x33 x43) (oo (pu 20 [(Sl.v 1 s51), (Sl.v 1 s61)]) none fun v102 => (oo (vBool v102) none fun b104 => (bb b104 (bb (ieq x53 x63) (bb (ieq x71 x81) (bb (ieq x73 x83) (oo (pu 15 []) none fun v110 => (oo (vBool v110) none fun b112 => (m6_0 pu n b112))) (m6_0 pu n false)) (m6_0 pu n false)) (m6_0 pu n false)) (m6_0 pu n false)))) (m6_0 pu n false)) (m6_0 pu n false)))) fun _ _ => none))))))) fun _ _ => none))))))) fun _ _ => none))))))) fun _ _ => none))))))) fun _ _ => none))))))) fun _ _ => none))))))))
def m6 (pu : PureF) (n : Nat) (args : List Value) : Option Value :=
  (ll args none fun a0 args => (ll args none fun a1 args => (ll args none fun a2 args => (ll args (oo (vAgg a0) none fun l1 => (ll l1 none fun v3 l1 => (ll l1 none fun v4 l1 => (ll l1 none fun v5 l1 => (ll l1 (oo (toI .i64 v3) none fun x6 => (oo (toSl 1 v4) none fun s8 => (oo (toSl 1 v5) none fun s10 => (oo (toI .i64 a1) none fun x12 => (oo (toI .i64 a2) none fun x14 => (m6_ pu n x6 s8 s10 x12 x14)))))) fun _ _ => none))))) fun _ _ => none))))
theorem r6 {call : CallF} (pu : PureF) (n : Nat) (hcall : call = callP tabs isP pu inl) {args : List Value} {v : Value} (hm : m6 pu n args = some v) (_ : ∀ x ∈ args, closed2 x = true) : args.length ≤ 87 ∧ Run tt call 1 c6_23 (Fr.made 87 args) (pureHeap tabs) (Fin tt 1 [.tmp 6] v) := by
  subst hcall
  unfold m6 at hm
  have hq := ll_uncons hm; clear hm; obtain ⟨a0, args_0, rfl, hm⟩ := hq
  have hq := ll_uncons hm; clear hm; obtain ⟨a1, args_1, rfl, hm⟩ := hq
  have hq := ll_uncons hm; clear hm; obtain ⟨a2, args_2, rfl, hm⟩ := hq
  have hq := ll_end hm; clear hm; obtain ⟨rfl, hm⟩ := hq
  have hq := oo_inv hm; clear hm; obtain ⟨l1, h2, hm⟩ := hq
  obtain rfl := vAgg_some h2
  have hq := ll_uncons hm; clear hm; obtain ⟨v3, l1_0, rfl, hm⟩ := hq
  have hq := ll_uncons hm; clear hm; obtain ⟨v4, l1_1, rfl, hm⟩ := hq
  have hq := ll_uncons hm; clear hm; obtain ⟨v5, l1_2, rfl, hm⟩ := hq
  have hq := ll_end hm; clear hm; obtain ⟨rfl, hm⟩ := hq
  have hq := oo_inv hm; clear hm; obtain ⟨x6, h7, hm⟩ := hq
  obtain rfl := toI_some h7
  have hq := oo_inv hm; clear hm; obtain ⟨s8, h9, hm⟩ := hq
  obtain rfl := toSl_some h9
  have hq := oo_inv hm; clear hm; obtain ⟨s10, h11, hm⟩ := hq
  obtain rfl := toSl_some h11
  have hq := oo_inv hm; clear hm; obtain ⟨x12, h13, hm⟩ := hq
  obtain rfl := toI_some h13
  have hq := oo_inv hm; clear hm; obtain ⟨x14, h15, hm⟩ := hq
  obtain rfl := toI_some h15
  unfold m6_ at hm
  refine ⟨by simp, ?_⟩
  refine .same (F' := (⟨87, frTr [(0, (.agg ⟨[(.int .i64 x6), (Sl.v 1 s8), (Sl.v 1 s10)]⟩)), (1, (.int .i64 x12)), (2, (.int .i64 x14))] .nil⟩ : Fr)) (H' := (⟨1, objTr [(.cells tab0 true false [])] 0 .nil, true⟩ : AHeap)) (by kernel_rfl) (by kernel_rfl) ?_
  refine .then ?_
  refine .reg (F' := (Fr.puts (⟨87, frTr [(0, (.agg ⟨[(.int .i64 x6), (Sl.v 1 s8), (Sl.v 1 s10)]⟩)), (1, (.int .i64 x12)), (2, (.int .i64 x14))] .nil⟩ : Fr) [(3, (.pointer (some ⟨1, 0, none⟩))), (6, (.bool false))])) (H' := (⟨2, objTr [(.cells tab0 true false []), (.cells [(.int .i64 x6), (Sl.v 1 s8), (Sl.v 1 s10)] false false [])] 0 .nil, true⟩ : AHeap)) (by kernel_rfl) ?_
  refine .ghs (⟨87, frTr [(1, (.int .i64 x12)), (2, (.int .i64 x14)), (3, (.pointer (some ⟨1, 0, none⟩)))] .nil⟩ : Fr) (⟨2, objTr [(.cells tab0 true false []), (.cells [(.int .i64 x6), (Sl.v 1 s8), (Sl.v 1 s10)] false false [])] 0 .nil, true⟩ : AHeap) (.gc [] [false] [.tmp 3 false] [1, 2, 3] (by kernel_rfl) trivial (by kernel_rfl)) ?_
  refine .then ?_
  refine .then ?_
  have hq := oo_inv hm; clear hm; obtain ⟨v16, h17, hm⟩ := hq
  have hq := oo_inv hm; clear hm; obtain ⟨b18, h19, hm⟩ := hq
  obtain rfl := vBool_some h19
  refine .reg (F' := (Fr.puts (⟨87, frTr [(1, (.int .i64 x12)), (2, (.int .i64 x14)), (3, (.pointer (some ⟨1, 0, none⟩)))] .nil⟩ : Fr) [(20, (.agg ⟨[(.int .i64 x6), (Sl.v 1 s8), (Sl.v 1 s10)]⟩)), (21, (.bool b18))])) (H' := (⟨2, objTr [(.cells tab0 true false []), (.cells [(.int .i64 x6), (Sl.v 1 s8), (Sl.v 1 s10)] false false [])] 0 .nil, true⟩ : AHeap)) (evOps_cut 1 (by kernel_rfl) (evOps_data ((oo (pu 14 [(.agg ⟨[(.int .i64 x6), (Sl.v 1 s8), (Sl.v 1 s10)]⟩)]) none fun v => some (v, (⟨2, objTr [(.cells tab0 true false []), (.cells [(.int .i64 x6), (Sl.v 1 s8), (Sl.v 1 s10)] false false [])] 0 .nil, true⟩ : AHeap)))) (by kernel_rfl) (call_eq h17) (okAt_of (by kernel_rfl) (by kernel_rfl)) (by kernel_rfl))) ?_
  refine .ghs (⟨87, frTr [(1, (.int .i64 x12)), (2, (.int .i64 x14)), (3, (.pointer (some ⟨1, 0, none⟩))), (21, (.bool b18))] .nil⟩ : Fr) (⟨2, objTr [(.cells tab0 true false []), (.cells [(.int .i64 x6), (Sl.v 1 s8), (Sl.v 1 s10)] false false [])] 0 .nil, true⟩ : AHeap) (.gc [] [false] [.tmp 3 false] [1, 2, 3, 21] (by kernel_rfl) trivial (by kernel_rfl)) ?_
  have hq := bb_cases hm; clear hm; rcases hq with ⟨h20, hm⟩ | ⟨h20, hm⟩
  · refine .ifT b18 (by kernel_rfl) h20 ?_
    refine .then ?_
    have hq := oo_inv hm; clear hm; obtain ⟨v21, h22, hm⟩ := hq
    have hq := oo_inv hm; clear hm; obtain ⟨b23, h24, hm⟩ := hq
    obtain rfl := vBool_some h24
    refine .reg (F' := (Fr.puts (⟨87, frTr [(1, (.int .i64 x12)), (2, (.int .i64 x14)), (3, (.pointer (some ⟨1, 0, none⟩))), (21, (.bool b18))] .nil⟩ : Fr) [(22, (.bool b23)), (6, (.bool b23))])) (H' := (⟨2, objTr [(.cells tab0 true false []), (.cells [(.int .i64 x6), (Sl.v 1 s8), (Sl.v 1 s10)] false false [])] 0 .nil, true⟩ : AHeap)) (evOps_data ((oo (pu 15 []) none fun v => some (v, (⟨2, objTr [(.cells tab0 true false []), (.cells [(.int .i64 x6), (Sl.v 1 s8), (Sl.v 1 s10)] false false [])] 0 .nil, true⟩ : AHeap)))) (by kernel_rfl) (call_eq h22) (okAt_of (by kernel_rfl) (by kernel_rfl)) (by kernel_rfl)) ?_
    refine .ghs (⟨87, frTr [(6, (.bool b23))] .nil⟩ : Fr) (⟨1, objTr [(.cells tab0 true false [])] 0 .nil, true⟩ : AHeap) (.gc [] [false] [] [6] (by kernel_rfl) trivial (by kernel_rfl)) ?_
    refine .ret ?_
    exact fin_ret (.bool b23) (by kernel_rfl) (by kernel_rfl) hm
  · refine .ifF b18 (by kernel_rfl) h20 ?_
    refine .skip ?_
    refine .ghs (⟨87, frTr [(1, (.int .i64 x12)), (2, (.int .i64 x14)), (3, (.pointer (some ⟨1, 0, none⟩)))] .nil⟩ : Fr) (⟨2, objTr [(.cells tab0 true false []), (.cells [(.int .i64 x6), (Sl.v 1 s8), (Sl.v 1 s10)] false false [])] 0 .nil, true⟩ : AHeap) (.gc [] [false] [.tmp 3 false] [1, 2, 3] (by kernel_rfl) trivial (by kernel_rfl)) ?_
    refine .then ?_
    refine .reg (F' := (Fr.puts (⟨87, frTr [(1, (.int .i64 x12)), (2, (.int .i64 x14)), (3, (.pointer (some ⟨1, 0, none⟩)))] .nil⟩ : Fr) [(23, (.agg ⟨[(.int .i64 x6), (Sl.v 1 s8), (Sl.v 1 s10)]⟩)), (7, (.pointer (some ⟨2, 0, none⟩)))])) (H' := (⟨3, objTr [(.cells tab0 true false []), (.cells [(.int .i64 x6), (Sl.v 1 s8), (Sl.v 1 s10)] false false []), (.cells [(.int .i64 x6), (Sl.v 1 s8), (Sl.v 1 s10)] false false [])] 0 .nil, true⟩ : AHeap)) (by kernel_rfl) ?_
    refine .ghs (⟨87, frTr [(1, (.int .i64 x12)), (2, (.int .i64 x14)), (3, (.pointer (some ⟨1, 0, none⟩))), (7, (.pointer (some ⟨2, 0, none⟩)))] .nil⟩ : Fr) (⟨3, objTr [(.cells tab0 true false []), (.cells [(.int .i64 x6), (Sl.v 1 s8), (Sl.v 1 s10)] false false []), (.cells [(.int .i64 x6), (Sl.v 1 s8), (Sl.v 1 s10)] false false [])] 0 .nil, true⟩ : AHeap) (.gc [] [false] [.tmp 3 false, .tmp 7 false] [1, 2, 3, 7] (by kernel_rfl) trivial (by kernel_rfl)) ?_
    refine .then ?_
    have hq := oo_inv hm; clear hm; obtain ⟨v25, h26, hm⟩ := hq
    have hq := oo_inv hm; clear hm; obtain ⟨l27, h28, hm⟩ := hq
    obtain rfl := vTup_some h28
    have hq := ll_uncons hm; clear hm; obtain ⟨v29, l27_0, rfl, hm⟩ := hq
    have hq := ll_uncons hm; clear hm; obtain ⟨v30, l27_1, rfl, hm⟩ := hq
    have hq := ll_end hm; clear hm; obtain ⟨rfl, hm⟩ := hq
    have hq := oo_inv hm; clear hm; obtain ⟨x31, h32, hm⟩ := hq
    obtain rfl := toI_some h32
    have hq := oo_inv hm; clear hm; obtain ⟨x33, h34, hm⟩ := hq
    obtain rfl := toI_some h34
    refine .reg (F' := (Fr.puts (⟨87, frTr [(1, (.int .i64 x12)), (2, (.int .i64 x14)), (3, (.pointer (some ⟨1, 0, none⟩))), (7, (.pointer (some ⟨2, 0, none⟩)))] .nil⟩ : Fr) [(25, (.int .i64 x12)), (26, (.int .i64 x14)), (27, (.tuple ⟨[(.int .i64 x31), (.int .i64 x33)]⟩)), (24, (.tuple ⟨[(.int .i64 x31), (.int .i64 x33)]⟩)), (28, (.int .i64 x31)), (29, (.int .i64 x33)), (8, (.int .i64 x31)), (9, (.int .i64 x33))])) (H' := (⟨3, objTr [(.cells tab0 true false []), (.cells [(.int .i64 x6), (Sl.v 1 s8), (Sl.v 1 s10)] false false []), (.cells [(.int .i64 x6), (Sl.v 1 s8), (Sl.v 1 s10)] false false [])] 0 .nil, true⟩ : AHeap)) (evOps_cut 2 (by kernel_rfl) (evOps_data ((oo (pu 31 [(.int .i64 x12), (.int .i64 x14)]) none fun v => some (v, (⟨3, objTr [(.cells tab0 true false []), (.cells [(.int .i64 x6), (Sl.v 1 s8), (Sl.v 1 s10)] false false []), (.cells [(.int .i64 x6), (Sl.v 1 s8), (Sl.v 1 s10)] false false [])] 0 .nil, true⟩ : AHeap)))) (by kernel_rfl) (call_eq h26) (okAt_of (by kernel_rfl) (by kernel_rfl)) (by kernel_rfl))) ?_
    refine .ghs (⟨87, frTr [(1, (.int .i64 x12)), (2, (.int .i64 x14)), (3, (.pointer (some ⟨1, 0, none⟩))), (7, (.pointer (some ⟨2, 0, none⟩))), (8, (.int .i64 x31)), (9, (.int .i64 x33))] .nil⟩ : Fr) (⟨3, objTr [(.cells tab0 true false []), (.cells [(.int .i64 x6), (Sl.v 1 s8), (Sl.v 1 s10)] false false []), (.cells [(.int .i64 x6), (Sl.v 1 s8), (Sl.v 1 s10)] false false [])] 0 .nil, true⟩ : AHeap) (.gc [] [false] [.tmp 3 false, .tmp 7 false] [1, 2, 3, 7, 8, 9] (by kernel_rfl) trivial (by kernel_rfl)) ?_
    refine .then ?_
    have hq := oo_inv hm; clear hm; obtain ⟨v35, h36, hm⟩ := hq
    have hq := oo_inv hm; clear hm; obtain ⟨l37, h38, hm⟩ := hq
    obtain rfl := vTup_some h38
    have hq := ll_uncons hm; clear hm; obtain ⟨v39, l37_0, rfl, hm⟩ := hq
    have hq := ll_uncons hm; clear hm; obtain ⟨v40, l37_1, rfl, hm⟩ := hq
    have hq := ll_end hm; clear hm; obtain ⟨rfl, hm⟩ := hq
    have hq := oo_inv hm; clear hm; obtain ⟨x41, h42, hm⟩ := hq
    obtain rfl := toI_some h42
    have hq := oo_inv hm; clear hm; obtain ⟨x43, h44, hm⟩ := hq
    obtain rfl := toI_some h44
    refine .reg (F' := (Fr.puts (⟨87, frTr [(1, (.int .i64 x12)), (2, (.int .i64 x14)), (3, (.pointer (some ⟨1, 0, none⟩))), (7, (.pointer (some ⟨2, 0, none⟩))), (8, (.int .i64 x31)), (9, (.int .i64 x33))] .nil⟩ : Fr) [(31, (.int .i64 x12)), (32, (.int .i64 x14)), (33, (.tuple ⟨[(.int .i64 x41), (.int .i64 x43)]⟩)), (30, (.tuple ⟨[(.int .i64 x41), (.int .i64 x43)]⟩)), (34, (.int .i64 x41)), (35, (.int .i64 x43)), (10, (.int .i64 x41)), (11, (.int .i64 x43))])) (H' := (⟨3, objTr [(.cells tab0 true false []), (.cells [(.int .i64 x6), (Sl.v 1 s8), (Sl.v 1 s10)] false false []), (.cells [(.int .i64 x6), (Sl.v 1 s8), (Sl.v 1 s10)] false false [])] 0 .nil, true⟩ : AHeap)) (evOps_cut 2 (by kernel_rfl) (evOps_data ((oo (pu 32 [(.int .i64 x12), (.int .i64 x14)]) none fun v => some (v, (⟨3, objTr [(.cells tab0 true false []), (.cells [(.int .i64 x6), (Sl.v 1 s8), (Sl.v 1 s10)] false false []), (.cells [(.int .i64 x6), (Sl.v 1 s8), (Sl.v 1 s10)] false false [])] 0 .nil, true⟩ : AHeap)))) (by kernel_rfl) (call_eq h36) (okAt_of (by kernel_rfl) (by kernel_rfl)) (by kernel_rfl))) ?_
    refine .ghs (⟨87, frTr [(3, (.pointer (some ⟨1, 0, none⟩))), (7, (.pointer (some ⟨2, 0, none⟩))), (8, (.int .i64 x31)), (9, (.int .i64 x33)), (10, (.int .i64 x41)), (11, (.int .i64 x43))] .nil⟩ : Fr) (⟨3, objTr [(.cells tab0 true false []), (.cells [(.int .i64 x6), (Sl.v 1 s8), (Sl.v 1 s10)] false false []), (.cells [(.int .i64 x6), (Sl.v 1 s8), (Sl.v 1 s10)] false false [])] 0 .nil, true⟩ : AHeap) (.gc [] [false] [.tmp 3 false, .tmp 7 false] [3, 7, 8, 9, 10, 11] (by kernel_rfl) trivial (by kernel_rfl)) ?_
    refine .then ?_
    have hq := oo_inv hm; clear hm; obtain ⟨v45, h46, hm⟩ := hq
    have hq := oo_inv hm; clear hm; obtain ⟨l47, h48, hm⟩ := hq
    obtain rfl := vTup_some h48
    have hq := ll_uncons hm; clear hm; obtain ⟨v49, l47_0, rfl, hm⟩ := hq
    have hq := ll_uncons hm; clear hm; obtain ⟨v50, l47_1, rfl, hm⟩ := hq
    have hq := ll_end hm; clear hm; obtain ⟨rfl, hm⟩ := hq
    have hq := oo_inv hm; clear hm; obtain ⟨s51, h52, hm⟩ := hq
    obtain rfl := toSl_some h52
    have hq := oo_inv hm; clear hm; obtain ⟨x53, h54, hm⟩ := hq
    obtain rfl := toI_some h54
    refine .reg (F' := (Fr.puts (⟨87, frTr [(3, (.pointer (some ⟨1, 0, none⟩))), (7, (.pointer (some ⟨2, 0, none⟩))), (8, (.int .i64 x31)), (9, (.int .i64 x33)), (10, (.int .i64 x41)), (11, (.int .i64 x43))] .nil⟩ : Fr) [(37, (.agg ⟨[(.int .i64 x6), (Sl.v 1 s8), (Sl.v 1 s10)]⟩)), (38, (.tuple ⟨[(Sl.v 1 s51), (.int .i64 x53)]⟩)), (36, (.tuple ⟨[(Sl.v 1 s51), (.int .i64 x53)]⟩)), (39, (Sl.v 1 s51)), (40, (.int .i64 x53)), (12, (Sl.v 1 s51)), (13, (.int .i64 x53))])) (H' := (⟨3, objTr [(.cells tab0 true false []), (.cells [(.int .i64 x6), (Sl.v 1 s8), (Sl.v 1 s10)] false false []), (.cells [(.int .i64 x6), (Sl.v 1 s8), (Sl.v 1 s10)] false false [])] 0 .nil, true⟩ : AHeap)) (evOps_cut 1 (by kernel_rfl) (evOps_data ((oo (pu 33 [(.agg ⟨[(.int .i64 x6), (Sl.v 1 s8), (Sl.v 1 s10)]⟩)]) none fun v => some (v, (⟨3, objTr [(.cells tab0 true false []), (.cells [(.int .i64 x6), (Sl.v 1 s8), (Sl.v 1 s10)] false false []), (.cells [(.int .i64 x6), (Sl.v 1 s8), (Sl.v 1 s10)] false false [])] 0 .nil, true⟩ : AHeap)))) (by kernel_rfl) (call_eq h46) (okAt_of (by kernel_rfl) (by kernel_rfl)) (by kernel_rfl))) ?_
    refine .ghs (⟨87, frTr [(3, (.pointer (some ⟨1, 0, none⟩))), (7, (.pointer (some ⟨2, 0, none⟩))), (8, (.int .i64 x31)), (9, (.int .i64 x33)), (10, (.int .i64 x41)), (11, (.int .i64 x43)), (12, (Sl.v 1 s51)), (13, (.int .i64 x53))] .nil⟩ : Fr) (⟨3, objTr [(.cells tab0 true false []), (.cells [(.int .i64 x6), (Sl.v 1 s8), (Sl.v 1 s10)] false false []), (.cells [(.int .i64 x6), (Sl.v 1 s8), (Sl.v 1 s10)] false false [])] 0 .nil, true⟩ : AHeap) (.gc [] [false] [.tmp 3 false, .tmp 7 false] [3, 7, 8, 9, 10, 11, 12, 13] (by kernel_rfl) trivial (by kernel_rfl)) ?_
    refine .then ?_
    have hq := oo_inv hm; clear hm; obtain ⟨v55, h56, hm⟩ := hq
    have hq := oo_inv hm; clear hm; obtain ⟨l57, h58, hm⟩ := hq
    obtain rfl := vTup_some h58
    have hq := ll_uncons hm; clear hm; obtain ⟨v59, l57_0, rfl, hm⟩ := hq
    have hq := ll_uncons hm; clear hm; obtain ⟨v60, l57_1, rfl, hm⟩ := hq
    have hq := ll_end hm; clear hm; obtain ⟨rfl, hm⟩ := hq
    have hq := oo_inv hm; clear hm; obtain ⟨s61, h62, hm⟩ := hq
    obtain rfl := toSl_some h62
    have hq := oo_inv hm; clear hm; obtain ⟨x63, h64, hm⟩ := hq
    obtain rfl := toI_some h64
    refine .reg (F' := (Fr.puts (⟨87, frTr [(3, (.pointer (some ⟨1, 0, none⟩))), (7, (.pointer (some ⟨2, 0, none⟩))), (8, (.int .i64 x31)), (9, (.int .i64 x33)), (10, (.int .i64 x41)), (11, (.int .i64 x43)), (12, (Sl.v 1 s51)), (13, (.int .i64 x53))] .nil⟩ : Fr) [(42, (.agg ⟨[(.int .i64 x6), (Sl.v 1 s8), (Sl.v 1 s10)]⟩)), (43, (.tuple ⟨[(Sl.v 1 s61), (.int .i64 x63)]⟩)), (41, (.tuple ⟨[(Sl.v 1 s61), (.int .i64 x63)]⟩)), (44, (Sl.v 1 s61)), (45, (.int .i64 x63)), (14, (Sl.v 1 s61)), (15, (.int .i64 x63))])) (H' := (⟨3, objTr [(.cells tab0 true false []), (.cells [(.int .i64 x6), (Sl.v 1 s8), (Sl.v 1 s10)] false false []), (.cells [(.int .i64 x6), (Sl.v 1 s8), (Sl.v 1 s10)] false false [])] 0 .nil, true⟩ : AHeap)) (evOps_cut 1 (by kernel_rfl) (evOps_data ((oo (pu 34 [(.agg ⟨[(.int .i64 x6), (Sl.v 1 s8), (Sl.v 1 s10)]⟩)]) none fun v => some (v, (⟨3, objTr [(.cells tab0 true false []), (.cells [(.int .i64 x6), (Sl.v 1 s8), (Sl.v 1 s10)] false false []), (.cells [(.int .i64 x6), (Sl.v 1 s8), (Sl.v 1 s10)] false false [])] 0 .nil, true⟩ : AHeap)))) (by kernel_rfl) (call_eq h56) (okAt_of (by kernel_rfl) (by kernel_rfl)) (by kernel_rfl))) ?_
    refine .ghs (⟨87, frTr [(3, (.pointer (some ⟨1, 0, none⟩))), (7, (.pointer (some ⟨2, 0, none⟩))), (8, (.int .i64 x31)), (9, (.int .i64 x33)), (10, (.int .i64 x41)), (11, (.int .i64 x43)), (12, (Sl.v 1 s51)), (13, (.int .i64 x53)), (14, (Sl.v 1 s61)), (15, (.int .i64 x63))] .nil⟩ : Fr) (⟨3, objTr [(.cells tab0 true false []), (.cells [(.int .i64 x6), (Sl.v 1 s8), (Sl.v 1 s10)] false false []), (.cells [(.int .i64 x6), (Sl.v 1 s8), (Sl.v 1 s10)] false false [])] 0 .nil, true⟩ : AHeap) (.gc [] [false] [.tmp 3 false, .tmp 7 false] [3, 7, 8, 9, 10, 11, 12, 13, 14, 15] (by kernel_rfl) trivial (by kernel_rfl)) ?_
    refine .then ?_
    have hq := oo_inv hm; clear hm; obtain ⟨v65, h66, hm⟩ := hq
    have hq := oo_inv hm; clear hm; obtain ⟨l67, h68, hm⟩ := hq
    obtain rfl := vTup_some h68
    have hq := ll_uncons hm; clear hm; obtain ⟨v69, l67_0, rfl, hm⟩ := hq
    have hq := ll_uncons hm; clear hm; obtain ⟨v70, l67_1, rfl, hm⟩ := hq
    have hq := ll_end hm; clear hm; obtain ⟨rfl, hm⟩ := hq
    have hq := oo_inv hm; clear hm; obtain ⟨x71, h72, hm⟩ := hq
    obtain rfl := toI_some h72
    have hq := oo_inv hm; clear hm; obtain ⟨x73, h74, hm⟩ := hq
    obtain rfl := toI_some h74
    refine .reg (F' := (Fr.puts (⟨87, frTr [(3, (.pointer (some ⟨1, 0, none⟩))), (7, (.pointer (some ⟨2, 0, none⟩))), (8, (.int .i64 x31)), (9, (.int .i64 x33)), (10, (.int .i64 x41)), (11, (.int .i64 x43)), (12, (Sl.v 1 s51)), (13, (.int .i64 x53)), (14, (Sl.v 1 s61)), (15, (.int .i64 x63))] .nil⟩ : Fr) [(47, (.agg ⟨[(.int .i64 x6), (Sl.v 1 s8), (Sl.v 1 s10)]⟩)), (48, (.tuple ⟨[(.int .i64 x71), (.int .i64 x73)]⟩)), (46, (.tuple ⟨[(.int .i64 x71), (.int .i64 x73)]⟩)), (49, (.int .i64 x71)), (50, (.int .i64 x73)), (16, (.int .i64 x71)), (17, (.int .i64 x73))])) (H' := (⟨3, objTr [(.cells tab0 true false []), (.cells [(.int .i64 x6), (Sl.v 1 s8), (Sl.v 1 s10)] false false []), (.cells [(.int .i64 x6), (Sl.v 1 s8), (Sl.v 1 s10)] false false [])] 0 .nil, true⟩ : AHeap)) (evOps_cut 1 (by kernel_rfl) (evOps_data ((oo (pu 35 [(.agg ⟨[(.int .i64 x6), (Sl.v 1 s8), (Sl.v 1 s10)]⟩)]) none fun v => some (v, (⟨3, objTr [(.cells tab0 true false []), (.cells [(.int .i64 x6), (Sl.v 1 s8), (Sl.v 1 s10)] false false []), (.cells [(.int .i64 x6), (Sl.v 1 s8), (Sl.v 1 s10)] false false [])] 0 .nil, true⟩ : AHeap)))) (by kernel_rfl) (call_eq h66) (okAt_of (by kernel_rfl) (by kernel_rfl)) (by kernel_rfl))) ?_
    refine .ghs (⟨87, frTr [(7, (.pointer (some ⟨1, 0, none⟩))), (8, (.int .i64 x31)), (9, (.int .i64 x33)), (10, (.int .i64 x41)), (11, (.int .i64 x43)), (12, (Sl.v 1 s51)), (13, (.int .i64 x53)), (14, (Sl.v 1 s61)), (15, (.int .i64 x63)), (16, (.int .i64 x71)), (17, (.int .i64 x73))] .nil⟩ : Fr) (⟨2, objTr [(.cells tab0 true false []), (.cells [(.int .i64 x6), (Sl.v 1 s8), (Sl.v 1 s10)] false false [])] 0 .nil, true⟩ : AHeap) (.gc [] [false] [.tmp 7 false] [7, 8, 9, 10, 11, 12, 13, 14, 15, 16, 17] (by kernel_rfl) trivial (by kernel_rfl)) ?_
    refine .then ?_
    have hq := oo_inv hm; clear hm; obtain ⟨v75, h76, hm⟩ := hq
    have hq := oo_inv hm; clear hm; obtain ⟨l77, h78, hm⟩ := hq
    obtain rfl := vTup_some h78
    have hq := ll_uncons hm; clear hm; obtain ⟨v79, l77_0, rfl, hm⟩ := hq
    have hq := ll_uncons hm; clear hm; obtain ⟨v80, l77_1, rfl, hm⟩ := hq
    have hq := ll_end hm; clear hm; obtain ⟨rfl, hm⟩ := hq
    have hq := oo_inv hm; clear hm; obtain ⟨x81, h82, hm⟩ := hq
    obtain rfl := toI_some h82
    have hq := oo_inv hm; clear hm; obtain ⟨x83, h84, hm⟩ := hq
    obtain rfl := toI_some h84
    refine .reg (F' := (Fr.puts (⟨87, frTr [(7, (.pointer (some ⟨1, 0, none⟩))), (8, (.int .i64 x31)), (9, (.int .i64 x33)), (10, (.int .i64 x41)), (11, (.int .i64 x43)), (12, (Sl.v 1 s51)), (13, (.int .i64 x53)), (14, (Sl.v 1 s61)), (15, (.int .i64 x63)), (16, (.int .i64 x71)), (17, (.int .i64 x73))] .nil⟩ : Fr) [(52, (.agg ⟨[(.int .i64 x6), (Sl.v 1 s8), (Sl.v 1 s10)]⟩)), (53, (.tuple ⟨[(.int .i64 x81), (.int .i64 x83)]⟩)), (51, (.tuple ⟨[(.int .i64 x81), (.int .i64 x83)]⟩)), (54, (.int .i64 x81)), (55, (.int .i64 x83)), (18, (.int .i64 x81)), (19, (.int .i64 x83))])) (H' := (⟨2, objTr [(.cells tab0 true false []), (.cells [(.int .i64 x6), (Sl.v 1 s8), (Sl.v 1 s10)] false false [])] 0 .nil, true⟩ : AHeap)) (evOps_cut 1 (by kernel_rfl) (evOps_data ((oo (pu 36 [(.agg ⟨[(.int .i64 x6), (Sl.v 1 s8), (Sl.v 1 s10)]⟩)]) none fun v => some (v, (⟨2, objTr [(.cells tab0 true false []), (.cells [(.int .i64 x6), (Sl.v 1 s8), (Sl.v 1 s10)] false false [])] 0 .nil, true⟩ : AHeap)))) (by kernel_rfl) (call_eq h76) (okAt_of (by kernel_rfl) (by kernel_rfl)) (by kernel_rfl))) ?_
    refine .ghs (⟨87, frTr [(8, (.int .i64 x31)), (9, (.int .i64 x33)), (10, (.int .i64 x41)), (11, (.int .i64 x43)), (12, (Sl.v 1 s51)), (13, (.int .i64 x53)), (14, (Sl.v 1 s61)), (15, (.int .i64 x63)), (16, (.int .i64 x71)), (17, (.int .i64 x73)), (18, (.int .i64 x81)), (19, (.int .i64 x83))] .nil⟩ : Fr) (⟨1, objTr [(.cells tab0 true false [])] 0 .nil, true⟩ : AHeap) (.gc [] [false] [] [8, 9, 10, 11, 12, 13, 14, 15, 16, 17, 18, 19] (by kernel_rfl) trivial (by kernel_rfl)) ?_
    refine .join (v := v) (fun y : Bool => ((⟨87, frTr [(6, (.bool y))] .nil⟩ : Fr), (⟨1, objTr [(.cells tab0 true false [])] 0 .nil, true⟩ : AHeap))) (fun y => m6_0 pu n y) ?_ ?_
    · rintro b99 hm
      unfold m6_0 at hm
      refine .ret ?_
      exact fin_ret (.bool b99) (by kernel_rfl) (by kernel_rfl) hm
    · skip
      have hq := bb_cases hm; clear hm; rcases hq with ⟨h100, hm⟩ | ⟨h100, hm⟩
      · skip
        have hq := bb_cases hm; clear hm; rcases hq with ⟨h101, hm⟩ | ⟨h101, hm⟩
        · skip
          have hq := oo_inv hm; clear hm; obtain ⟨v102, h103, hm⟩ := hq
          have hq := oo_inv hm; clear hm; obtain ⟨b104, h105, hm⟩ := hq
          obtain rfl := vBool_some h105
          have hq := bb_cases hm; clear hm; rcases hq with ⟨h106, hm⟩ | ⟨h106, hm⟩
          · skip
            have hq := bb_cases hm; clear hm; rcases hq with ⟨h107, hm⟩ | ⟨h107, hm⟩
            · skip
              have hq := bb_cases hm; clear hm; rcases hq with ⟨h108, hm⟩ | ⟨h108, hm⟩
              · skip
                have hq := bb_cases hm; clear hm; rcases hq with ⟨h109, hm⟩ | ⟨h109, hm⟩
                · skip
                  have hq := oo_inv hm; clear hm; obtain ⟨v110, h111, hm⟩ := hq
                  have hq := oo_inv hm; clear hm; obtain ⟨b112, h113, hm⟩ := hq
                  obtain rfl := vBool_some h113
                  refine .reg (F' := (Fr.puts (⟨87, frTr [(8, (.int .i64 x31)), (9, (.int .i64 x33)), (10, (.int .i64 x41)), (11, (.int .i64 x43)), (12, (Sl.v 1 s51)), (13, (.int .i64 x53)), (14, (Sl.v 1 s61)), (15, (.int .i64 x63)), (16, (.int .i64 x71)), (17, (.int .i64 x73)), (18, (.int .i64 x81)), (19, (.int .i64 x83))] .nil⟩ : Fr) [(56, (.int .i64 x31)), (57, (.int .i64 x41)), (58, (.bool true)), (59, (.bool true)), (60, (.int .i64 x33)), (61, (.int .i64 x43)), (62, (.bool true)), (63, (.bool true)), (64, (.bool true)), (65, (Sl.v 1 s51)), (66, (Sl.v 1 s61)), (67, (.bool true)), (68, (.bool true)), (69, (.bool true)), (70, (.int .i64 x53)), (71, (.int .i64 x63)), (72, (.bool true)), (73, (.bool true)), (74, (.bool true)), (75, (.int .i64 x71)), (76, (.int .i64 x81)), (77, (.bool true)), (78, (.bool true)), (79, (.bool true)), (80, (.int .i64 x73)), (81, (.int .i64 x83)), (82, (.bool true)), (83, (.bool true)), (84, (.bool true)), (85, (.bool b112)), (86, (.bool b112)), (6, (.bool b112))])) (H' := (⟨1, objTr [(.cells tab0 true false [])] 0 .nil, true⟩ : AHeap)) (evOps_cut 2 (by kernel_rfl) (evOps_data (some ((.bool (ieq x31 x41)), (⟨1, objTr [(.cells tab0 true false [])] 0 .nil, true⟩ : AHeap))) (by kernel_rfl) (show _ = some ((.bool true), _) from (by rw [h100])) (okAt_of (by kernel_rfl) (by kernel_rfl)) (evOps_cut 3 (by kernel_rfl) (evOps_data (some ((.bool (ieq x33 x43)), (⟨1, objTr [(.cells tab0 true false [])] 0 .nil, true⟩ : AHeap))) (by kernel_rfl) (show _ = some ((.bool true), _) from (by rw [h101])) (okAt_of (by kernel_rfl) (by kernel_rfl)) (evOps_cut 4 (by kernel_rfl) (evOps_data ((oo (pu 20 [(Sl.v 1 s51), (Sl.v 1 s61)]) none fun v => some (v, (⟨1, objTr [(.cells tab0 true false [])] 0 .nil, true⟩ : AHeap)))) (by kernel_rfl) (show _ = some ((.bool true), _) from (by have hz : (oo (pu 20 [(Sl.v 1 s51), (Sl.v 1 s61)]) none fun v => some (v, (⟨1, objTr [(.cells tab0 true false [])] 0 .nil, true⟩ : AHeap))) = some ((.bool b104), (⟨1, objTr [(.cells tab0 true false [])] 0 .nil, true⟩ : AHeap)) := (call_eq h103); rw [h106] at hz; exact hz)) (okAt_of (by kernel_rfl) (by kernel_rfl)) (evOps_cut 4 (by kernel_rfl) (evOps_data (some ((.bool (ieq x53 x63)), (⟨1, objTr [(.cells tab0 true false [])] 0 .nil, true⟩ : AHeap))) (by kernel_rfl) (show _ = some ((.bool true), _) from (by rw [h107])) (okAt_of (by kernel_rfl) (by kernel_rfl)) (evOps_cut 4 (by kernel_rfl) (evOps_data (some ((.bool (ieq x71 x81)), (⟨1, objTr [(.cells tab0 true false [])] 0 .nil, true⟩ : AHeap))) (by kernel_rfl) (show _ = some ((.bool true), _) from (by rw [h108])) (okAt_of (by kernel_rfl) (by kernel_rfl)) (evOps_cut 4 (by kernel_rfl) (evOps_data (some ((.bool (ieq x73 x83)), (⟨1, objTr [(.cells tab0 true false [])] 0 .nil, true⟩ : AHeap))) (by kernel_rfl) (show _ = some ((.bool true), _) from (by rw [h109])) (okAt_of (by kernel_rfl) (by kernel_rfl)) (evOps_cut 2 (by kernel_rfl) (evOps_data ((oo (pu 15 []) none fun v => some (v, (⟨1, objTr [(.cells tab0 true false [])] 0 .nil, true⟩ : AHeap)))) (by kernel_rfl) (call_eq h111) (okAt_of (by kernel_rfl) (by kernel_rfl)) (by kernel_rfl))))))))))))))) ?_
                  exact ⟨b112, hm, (.gc [] [false] [] [6] (by kernel_rfl) trivial (by kernel_rfl))⟩
                · skip
                  refine .reg (F' := (Fr.puts (⟨87, frTr [(8, (.int .i64 x31)), (9, (.int .i64 x33)), (10, (.int .i64 x41)), (11, (.int .i64 x43)), (12, (Sl.v 1 s51)), (13, (.int .i64 x53)), (14, (Sl.v 1 s61)), (15, (.int .i64 x63)), (16, (.int .i64 x71)), (17, (.int .i64 x73)), (18, (.int .i64 x81)), (19, (.int .i64 x83))] .nil⟩ : Fr) [(56, (.int .i64 x31)), (57, (.int .i64 x41)), (58, (.bool true)), (59, (.bool true)), (60, (.int .i64 x33)), (61, (.int .i64 x43)), (62, (.bool true)), (63, (.bool true)), (64, (.bool true)), (65, (Sl.v 1 s51)), (66, (Sl.v 1 s61)), (67, (.bool true)), (68, (.bool true)), (69, (.bool true)), (70, (.int .i64 x53)), (71, (.int .i64 x63)), (72, (.bool true)), (73, (.bool true)), (74, (.bool true)), (75, (.int .i64 x71)), (76, (.int .i64 x81)), (77, (.bool true)), (78, (.bool true)), (79, (.bool true)), (80, (.int .i64 x73)), (81, (.int .i64 x83)), (82, (.bool false)), (83, (.bool false)), (84, (.bool false)), (85, (.tuple ⟨[]⟩)), (86, (.bool false)), (6, (.bool false))])) (H' := (⟨1, objTr [(.cells tab0 true false [])] 0 .nil, true⟩ : AHeap)) (evOps_cut 2 (by kernel_rfl) (evOps_data (some ((.bool (ieq x31 x41)), (⟨1, objTr [(.cells tab0 true false [])] 0 .nil, true⟩ : AHeap))) (by kernel_rfl) (show _ = some ((.bool true), _) from (by rw [h100])) (okAt_of (by kernel_rfl) (by kernel_rfl)) (evOps_cut 3 (by kernel_rfl) (evOps_data (some ((.bool (ieq x33 x43)), (⟨1, objTr [(.cells tab0 true false [])] 0 .nil, true⟩ : AHeap))) (by kernel_rfl) (show _ = some ((.bool true), _) from (by rw [h101])) (okAt_of (by kernel_rfl) (by kernel_rfl)) (evOps_cut 4 (by kernel_rfl) (evOps_data ((oo (pu 20 [(Sl.v 1 s51), (Sl.v 1 s61)]) none fun v => some (v, (⟨1, objTr [(.cells tab0 true false [])] 0 .nil, true⟩ : AHeap)))) (by kernel_rfl) (show _ = some ((.bool true), _) from (by have hz : (oo (pu 20 [(Sl.v 1 s51), (Sl.v 1 s61)]) none fun v => some (v, (⟨1, objTr [(.cells tab0 true false [])] 0 .nil, true⟩ : AHeap))) = some ((.bool b104), (⟨1, objTr [(.cells tab0 true false [])] 0 .nil, true⟩ : AHeap)) := (call_eq h103); rw [h106] at hz; exact hz)) (okAt_of (by kernel_rfl) (by kernel_rfl)) (evOps_cut 4 (by kernel_rfl) (evOps_data (some ((.bool (ieq x53 x63)), (⟨1, objTr [(.cells tab0 true false [])] 0 .nil, true⟩ : AHeap))) (by kernel_rfl) (show _ = some ((.bool true), _) from (by rw [h107])) (okAt_of (by kernel_rfl) (by kernel_rfl)) (evOps_cut 4 (by kernel_rfl) (evOps_data (some ((.bool (ieq x71 x81)), (⟨1, objTr [(.cells tab0 true false [])] 0 .nil, true⟩ : AHeap))) (by kernel_rfl) (show _ = some ((.bool true), _) from (by rw [h108])) (okAt_of (by kernel_rfl) (by kernel_rfl)) (evOps_cut 4 (by kernel_rfl) (evOps_data (some ((.bool (ieq x73 x83)), (⟨1, objTr [(.cells tab0 true false [])] 0 .nil, true⟩ : AHeap))) (by kernel_rfl) (show _ = some ((.bool false), _) from (by rw [h109])) (okAt_of (by kernel_rfl) (by kernel_rfl)) (by kernel_rfl))))))))))))) ?_
                  exact ⟨false, hm, (.gc [] [false] [] [6] (by kernel_rfl) trivial (by kernel_rfl))⟩
              · skip
                refine .reg (F' := (Fr.puts (⟨87, frTr [(8, (.int .i64 x31)), (9, (.int .i64 x33)), (10, (.int .i64 x41)), (11, (.int .i64 x43)), (12, (Sl.v 1 s51)), (13, (.int .i64 x53)), (14, (Sl.v 1 s61)), (15, (.int .i64 x63)), (16, (.int .i64 x71)), (17, (.int .i64 x73)), (18, (.int .i64 x81)), (19, (.int .i64 x83))] .nil⟩ : Fr) [(56, (.int .i64 x31)), (57, (.int .i64 x41)), (58, (.bool true)), (59, (.bool true)), (60, (.int .i64 x33)), (61, (.int .i64 x43)), (62, (.bool true)), (63, (.bool true)), (64, (.bool true)), (65, (Sl.v 1 s51)), (66, (Sl.v 1 s61)), (67, (.bool true)), (68, (.bool true)), (69, (.bool true)), (70, (.int .i64 x53)), (71, (.int .i64 x63)), (72, (.bool true)), (73, (.bool true)), (74, (.bool true)), (75, (.int .i64 x71)), (76, (.int .i64 x81)), (77, (.bool false)), (78, (.bool false)), (79, (.bool false)), (80, (.tuple ⟨[]⟩)), (81, (.tuple ⟨[]⟩)), (82, (.tuple ⟨[]⟩)), (83, (.bool false)), (84, (.bool false)), (85, (.tuple ⟨[]⟩)), (86, (.bool false)), (6, (.bool false))])) (H' := (⟨1, objTr [(.cells tab0 true false [])] 0 .nil, true⟩ : AHeap)) (evOps_cut 2 (by kernel_rfl) (evOps_data (some ((.bool (ieq x31 x41)), (⟨1, objTr [(.cells tab0 true false [])] 0 .nil, true⟩ : AHeap))) (by kernel_rfl) (show _ = some ((.bool true), _) from (by rw [h100])) (okAt_of (by kernel_rfl) (by kernel_rfl)) (evOps_cut 3 (by kernel_rfl) (evOps_data (some ((.bool (ieq x33 x43)), (⟨1, objTr [(.cells tab0 true false [])] 0 .nil, true⟩ : AHeap))) (by kernel_rfl) (show _ = some ((.bool true), _) from (by rw [h101])) (okAt_of (by kernel_rfl) (by kernel_rfl)) (evOps_cut 4 (by kernel_rfl) (evOps_data ((oo (pu 20 [(Sl.v 1 s51), (Sl.v 1 s61)]) none fun v => some (v, (⟨1, objTr [(.cells tab0 true false [])] 0 .nil, true⟩ : AHeap)))) (by kernel_rfl) (show _ = some ((.bool true), _) from (by have hz : (oo (pu 20 [(Sl.v 1 s51), (Sl.v 1 s61)]) none fun v => some (v, (⟨1, objTr [(.cells tab0 true false [])] 0 .nil, true⟩ : AHeap))) = some ((.bool b104), (⟨1, objTr [(.cells tab0 true false [])] 0 .nil, true⟩ : AHeap)) := (call_eq h103); rw [h106] at hz; exact hz)) (okAt_of (by kernel_rfl) (by kernel_rfl)) (evOps_cut 4 (by kernel_rfl) (evOps_data (some ((.bool (ieq x53 x63)), (⟨1, objTr [(.cells tab0 true false [])] 0 .nil, true⟩ : AHeap))) (by kernel_rfl) (show _ = some ((.bool true), _) from (by rw [h107])) (okAt_of (by kernel_rfl) (by kernel_rfl)) (evOps_cut 4 (by kernel_rfl) (evOps_data (some ((.bool (ieq x71 x81)), (⟨1, objTr [(.cells tab0 true false [])] 0 .nil, true⟩ : AHeap))) (by kernel_rfl) (show _ = some ((.bool false), _) from (by rw [h108])) (okAt_of (by kernel_rfl) (by kernel_rfl)) (by kernel_rfl))))))))))) ?_
                exact ⟨false, hm, (.gc [] [false] [] [6] (by kernel_rfl) trivial (by kernel_rfl))⟩
            · skip
              refine .reg (F' := (Fr.puts (⟨87, frTr [(8, (.int .i64 x31)), (9, (.int .i64 x33)), (10, (.int .i64 x41)), (11, (.int .i64 x43)), (12, (Sl.v 1 s51)), (13, (.int .i64 x53)), (14, (Sl.v 1 s61)), (15, (.int .i64 x63)), (16, (.int .i64 x71)), (17, (.int .i64 x73)), (18, (.int .i64 x81)), (19, (.int .i64 x83))] .nil⟩ : Fr) [(56, (.int .i64 x31)), (57, (.int .i64 x41)), (58, (.bool true)), (59, (.bool true)), (60, (.int .i64 x33)), (61, (.int .i64 x43)), (62, (.bool true)), (63, (.bool true)), (64, (.bool true)), (65, (Sl.v 1 s51)), (66, (Sl.v 1 s61)), (67, (.bool true)), (68, (.bool true)), (69, (.bool true)), (70, (.int .i64 x53)), (71, (.int .i64 x63)), (72, (.bool false)), (73, (.bool false)), (74, (.bool false)), (75, (.tuple ⟨[]⟩)), (76, (.tuple ⟨[]⟩)), (77, (.tuple ⟨[]⟩)), (78, (.bool false)), (79, (.bool false)), (80, (.tuple ⟨[]⟩)), (81, (.tuple ⟨[]⟩)), (82, (.tuple ⟨[]⟩)), (83, (.bool false)), (84, (.bool false)), (85, (.tuple ⟨[]⟩)), (86, (.bool false)), (6, (.bool false))])) (H' := (⟨1, objTr [(.cells tab0 true false [])] 0 .nil, true⟩ : AHeap)) (evOps_cut 2 (by kernel_rfl) (evOps_data (some ((.bool (ieq x31 x41)), (⟨1, objTr [(.cells tab0 true false [])] 0 .nil, true⟩ : AHeap))) (by kernel_rfl) (show _ = some ((.bool true), _) from (by rw [h100])) (okAt_of (by kernel_rfl) (by kernel_rfl)) (evOps_cut 3 (by kernel_rfl) (evOps_data (some ((.bool (ieq x33 x43)), (⟨1, objTr [(.cells tab0 true false [])] 0 .nil, true⟩ : AHeap))) (by kernel_rfl) (show _ = some ((.bool true), _) from (by rw [h101])) (okAt_of (by kernel_rfl) (by kernel_rfl)) (evOps_cut 4 (by kernel_rfl) (evOps_data ((oo (pu 20 [(Sl.v 1 s51), (Sl.v 1 s61)]) none fun v => some (v, (⟨1, objTr [(.cells tab0 true false [])] 0 .nil, true⟩ : AHeap)))) (by kernel_rfl) (show _ = some ((.bool true), _) from (by have hz : (oo (pu 20 [(Sl.v 1 s51), (Sl.v 1 s61)]) none fun v => some (v, (⟨1, objTr [(.cells tab0 true false [])] 0 .nil, true⟩ : AHeap))) = some ((.bool b104), (⟨1, objTr [(.cells tab0 true false [])] 0 .nil, true⟩ : AHeap)) := (call_eq h103); rw [h106] at hz; exact hz)) (okAt_of (by kernel_rfl) (by kernel_rfl)) (evOps_cut 4 (by kernel_rfl) (evOps_data (some ((.bool (ieq x53 x63)), (⟨1, objTr [(.cells tab0 true false [])] 0 .nil, true⟩ : AHeap))) (by kernel_rfl) (show _ = some ((.bool false), _) from (by rw [h107])) (okAt_of (by kernel_rfl) (by kernel_rfl)) (by kernel_rfl))))))))) ?_
              exact ⟨false, hm, (.gc [] [false] [] [6] (by kernel_rfl) trivial (by kernel_rfl))⟩
          · skip
            refine .reg (F' := (Fr.puts (⟨87, frTr [(8, (.int .i64 x31)), (9, (.int .i64 x33)), (10, (.int .i64 x41)), (11, (.int .i64 x43)), (12, (Sl.v 1 s51)), (13, (.int .i64 x53)), (14, (Sl.v 1 s61)), (15, (.int .i64 x63)), (16, (.int .i64 x71)), (17, (.int .i64 x73)), (18, (.int .i64 x81)), (19, (.int .i64 x83))] .nil⟩ : Fr) [(56, (.int .i64 x31)), (57, (.int .i64 x41)), (58, (.bool true)), (59, (.bool true)), (60, (.int .i64 x33)), (61, (.int .i64 x43)), (62, (.bool true)), (63, (.bool true)), (64, (.bool true)), (65, (Sl.v 1 s51)), (66, (Sl.v 1 s61)), (67, (.bool false)), (68, (.bool false)), (69, (.bool false)), (70, (.tuple ⟨[]⟩)), (71, (.tuple ⟨[]⟩)), (72, (.tuple ⟨[]⟩)), (73, (.bool false)), (74, (.bool false)), (75, (.tuple ⟨[]⟩)), (76, (.tuple ⟨[]⟩)), (77, (.tuple ⟨[]⟩)), (78, (.bool false)), (79, (.bool false)), (80, (.tuple ⟨[]⟩)), (81, (.tuple ⟨[]⟩)), (82, (.tuple ⟨[]⟩)), (83, (.bool false)), (84, (.bool false)), (85, (.tuple ⟨[]⟩)), (86, (.bool false)), (6, (.bool false))])) (H' := (⟨1, objTr [(.cells tab0 true false [])] 0 .nil, true⟩ : AHeap)) (evOps_cut 2 (by kernel_rfl) (evOps_data (some ((.bool (ieq x31 x41)), (⟨1, objTr [(.cells tab0 true false [])] 0 .nil, true⟩ : AHeap))) (by kernel_rfl) (show _ = some ((.bool true), _) from (by rw [h100])) (okAt_of (by kernel_rfl) (by kernel_rfl)) (evOps_cut 3 (by kernel_rfl) (evOps_data (some ((.bool (ieq x33 x43)), (⟨1, objTr [(.cells tab0 true false [])] 0 .nil, true⟩ : AHeap))) (by kernel_rfl) (show _ = some ((.bool true), _) from (by rw [h101])) (okAt_of (by kernel_rfl) (by kernel_rfl)) (evOps_cut 4 (by kernel_rfl) (evOps_data ((oo (pu 20 [(Sl.v 1 s51), (Sl.v 1 s61)]) none fun v => some (v, (⟨1, objTr [(.cells tab0 true false [])] 0 .nil, true⟩ : AHeap)))) (by kernel_rfl) (show _ = some ((.bool false), _) from (by have hz : (oo (pu 20 [(Sl.v 1 s51), (Sl.v 1 s61)]) none fun v => some (v, (⟨1, objTr [(.cells tab0 true false [])] 0 .nil, true⟩ : AHeap))) = some ((.bool b104), (⟨1, objTr [(.cells tab0 true false [])] 0 .nil, true⟩ : AHeap)) := (call_eq h103); rw [h106] at hz; exact hz)) (okAt_of (by kernel_rfl) (by kernel_rfl)) (by kernel_rfl))))))) ?_
            exact ⟨false, hm, (.gc [] [false] [] [6] (by kernel_rfl) trivial (by kernel_rfl))⟩
        · skip
          refine .reg (F' := (Fr.puts (⟨87, frTr [(8, (.int .i64 x31)), (9, (.int .i64 x33)), (10, (.int .i64 x41)), (11, (.int .i64 x43)), (12, (Sl.v 1 s51)), (13, (.int .i64 x53)), (14, (Sl.v 1 s61)), (15, (.int .i64 x63)), (16, (.int .i64 x71)), (17, (.int .i64 x73)), (18, (.int .i64 x81)), (19, (.int .i64 x83))] .nil⟩ : Fr) [(56, (.int .i64 x31)), (57, (.int .i64 x41)), (58, (.bool true)), (59, (.bool true)), (60, (.int .i64 x33)), (61, (.int .i64 x43)), (62, (.bool false)), (63, (.bool false)), (64, (.bool false)), (65, (.tuple ⟨[]⟩)), (66, (.tuple ⟨[]⟩)), (67, (.tuple ⟨[]⟩)), (68, (.bool false)), (69, (.bool false)), (70, (.tuple ⟨[]⟩)), (71, (.tuple ⟨[]⟩)), (72, (.tuple ⟨[]⟩)), (73, (.bool false)), (74, (.bool false)), (75, (.tuple ⟨[]⟩)), (76, (.tuple ⟨[]⟩)), (77, (.tuple ⟨[]⟩)), (78, (.bool false)), (79, (.bool false)), (80, (.tuple ⟨[]⟩)), (81, (.tuple ⟨[]⟩)), (82, (.tuple ⟨[]⟩)), (83, (.bool false)), (84, (.bool false)), (85, (.tuple ⟨[]⟩)), (86, (.bool false)), (6, (.bool false))])) (H' := (⟨1, objTr [(.cells tab0 true false [])] 0 .nil, true⟩ : AHeap)) (evOps_cut 2 (by kernel_rfl) (evOps_data (some ((.bool (ieq x31 x41)), (⟨1, objTr [(.cells tab0 true false [])] 0 .nil, true⟩ : AHeap))) (by kernel_rfl) (show _ = some ((.bool true), _) from (by rw [h100])) (okAt_of (by kernel_rfl) (by kernel_rfl)) (evOps_cut 3 (by kernel_rfl) (evOps_data (some ((.bool (ieq x33 x43)), (⟨1, objTr [(.cells tab0 true false [])] 0 .nil, true⟩ : AHeap))) (by kernel_rfl) (show _ = some ((.bool false), _) from (by rw [h101])) (okAt_of (by kernel_rfl) (by kernel_rfl)) (by kernel_rfl))))) ?_
          exact ⟨false, hm, (.gc [] [false] [] [6] (by kernel_rfl) trivial (by kernel_rfl))⟩
      · skip
        refine .reg (F' := (Fr.puts (⟨87, frTr [(8, (.int .i64 x31)), (9, (.int .i64 x33)), (10, (.int .i64 x41)), (11, (.int .i64 x43)), (12, (Sl.v 1 s51)), (13, (.int .i64 x53)), (14, (Sl.v 1 s61)), (15, (.int .i64 x63)), (16, (.int .i64 x71)), (17, (.int .i64 x73)), (18, (.int .i64 x81)), (19, (.int .i64 x83))] .nil⟩ : Fr) [(56, (.int .i64 x31)), (57, (.int .i64 x41)), (58, (.bool false)), (59, (.bool false)), (60, (.tuple ⟨[]⟩)), (61, (.tuple ⟨[]⟩)), (62, (.tuple ⟨[]⟩)), (63, (.bool false)), (64, (.bool false)), (65, (.tuple ⟨[]⟩)), (66, (.tuple ⟨[]⟩)), (67, (.tuple ⟨[]⟩)), (68, (.bool false)), (69, (.bool false)), (70, (.tuple ⟨[]⟩)), (71, (.tuple ⟨[]⟩)), (72, (.tuple ⟨[]⟩)), (73, (.bool false)), (74, (.bool false)), (75, (.tuple ⟨[]⟩)), (76, (.tuple ⟨[]⟩)), (77, (.tuple ⟨[]⟩)), (78, (.bool false)), (79, (.bool false)), (80, (.tuple ⟨[]⟩)), (81, (.tuple ⟨[]⟩)), (82, (.tuple ⟨[]⟩)), (83, (.bool false)), (84, (.bool false)), (85, (.tuple ⟨[]⟩)), (86, (.bool false)), (6, (.bool false))])) (H' := (⟨1, objTr [(.cells tab0 true false [])] 0 .nil, true⟩ : AHeap)) (evOps_cut 2 (by kernel_rfl) (evOps_data (some ((.bool (ieq x31 x41)), (⟨1, objTr [(.cells tab0 true false [])] 0 .nil, true⟩ : AHeap))) (by kernel_rfl) (show _ = some ((.bool false), _) from (by rw [h100])) (okAt_of (by kernel_rfl) (by kernel_rfl)) (by kernel_rfl))) ?_
        exact ⟨false, hm, (.gc [] [false] [] [6] (by kernel_rfl) trivial (by kernel_rfl))⟩
/-- spadille/spadillelaw09.large -/
def o14_0 : List ROp := [
  ⟨(some 1), .box 24 (.tmp 0), 0, none, []⟩,
  ⟨(some 2), .assign (.const (.bool false)), 4, none, []⟩]
def c14_0 : RC := .reg [] o14_0
def o14_1 : List ROp := [
  ⟨(some 3), .fieldAddr 24 (.tmp 1) 1, 0, none, []⟩,
  ⟨(some 4), .load 22 (.tmp 3), 22, none, []⟩,
  ⟨(some 5), .call ⟨.builtin .len, #[(.tmp 4)], #[22]⟩, 3, none, []⟩,
  ⟨(some 6), .binOp .gtr 3 (.tmp 5) (.const (.int .i64 40)) 3, 4, none, []⟩,
  ⟨(some 7), .move (.tmp 6), 4, none, []⟩,
  ⟨(some 8), .fieldAddr 24 (.tmp 1) 2, 0, (some ((some 7), false)), []⟩,
  ⟨(some 9), .load 22 (.tmp 8), 22, (some ((some 7), false)), []⟩,
  ⟨(some 10), .call ⟨.builtin .len, #[(.tmp 9)], #[22]⟩, 3, (some ((some 7), false)), []⟩,
  ⟨(some 11), .binOp .gtr 3 (.tmp 10) (.const (.int .i64 40)) 3, 4, (some ((some 7), false)), []⟩,
  ⟨(some 12), .pick (.tmp 7) (.const (.bool true)) (.tmp 11), 4, none, []⟩,
  ⟨(some 2), .assign (.tmp 12), 4, none, []⟩]
def c14_1 : RC := .reg [] o14_1
def c14_2 : RC := .seq c14_1 .ret
def c14_3 : RC := .seq c14_0 c14_2
def m14_0 (pu : PureF) (n : Nat) (b126 : Bool) : Option Value :=
  (some (.bool b126))
def m14_ (pu : PureF) (n : Nat) (x119 : Int) (s121 : Sl) (s123 : Sl) : Option Value :=
  (bb (ilt (40 : Int) (Int.ofNat (Sl.n s121))) (m14_0 pu n true) (m14_0 pu n (ilt (40 : Int) (Int.ofNat (Sl.n s123)))))
def m14 (pu : PureF) (n : Nat) (args : List Value) : Option Value :=
  (ll args none fun a0 args => (ll args (oo (vAgg a0) none fun l114 => (ll l114 none fun v116 l114 => (ll l114 none fun v117 l114 => (ll l114 none fun v118 l114 => (ll l114 (oo (toI .i64 v116) none fun x119 => (oo (toSl 1 v117) none fun s121 => (oo (toSl 1 v118) none fun s123 => (m14_ pu n x119 s121 s123)))) fun _ _ => none))))) fun _ _ => none))
theorem r14 {call : CallF} (pu : PureF) (n : Nat) (hcall : call = callP tabs isP pu inl) {args : List Value} {v : Value} (hm : m14 pu n args = some v) (_ : ∀ x ∈ args, closed2 x = true) : args.length ≤ 13 ∧ Run tt call 1 c14_3 (Fr.made 13 args) (pureHeap tabs) (Fin tt 1 [.tmp 2] v) := by
  subst hcall
  unfold m14 at hm
  have hq := ll_uncons hm; clear hm; obtain ⟨a0, args_0, rfl, hm⟩ := hq
  have hq := ll_end hm; clear hm; obtain ⟨rfl, hm⟩ := hq
  have hq := oo_inv hm; clear hm; obtain ⟨l114, h115, hm⟩ := hq
  obtain rfl := vAgg_some h115
  have hq := ll_uncons hm; clear hm; obtain ⟨v116, l114_0, rfl, hm⟩ := hq
  have hq := ll_uncons hm; clear hm; obtain ⟨v117, l114_1, rfl, hm⟩ := hq
  have hq := ll_uncons hm; clear hm; obtain ⟨v118, l114_2, rfl, hm⟩ := hq
  have hq := ll_end hm; clear hm; obtain ⟨rfl, hm⟩ := hq
  have hq := oo_inv hm; clear hm; obtain ⟨x119, h120, hm⟩ := hq
  obtain rfl := toI_some h120
  have hq := oo_inv hm; clear hm; obtain ⟨s121, h122, hm⟩ := hq
  obtain rfl := toSl_some h122
  have hq := oo_inv hm; clear hm; obtain ⟨s123, h124, hm⟩ := hq
  obtain rfl := toSl_some h124
  unfold m14_ at hm
  refine ⟨by simp, ?_⟩
  refine .same (F' := (⟨13, frTr [(0, (.agg ⟨[(.int .i64 x119), (Sl.v 1 s121), (Sl.v 1 s123)]⟩))] .nil⟩ : Fr)) (H' := (⟨1, objTr [(.cells tab0 true false [])] 0 .nil, true⟩ : AHeap)) (by kernel_rfl) (by kernel_rfl) ?_
  refine .then ?_
  refine .reg (F' := (Fr.puts (⟨13, frTr [(0, (.agg ⟨[(.int .i64 x119), (Sl.v 1 s121), (Sl.v 1 s123)]⟩))] .nil⟩ : Fr) [(1, (.pointer (some ⟨1, 0, none⟩))), (2, (.bool false))])) (H' := (⟨2, objTr [(.cells tab0 true false []), (.cells [(.int .i64 x119), (Sl.v 1 s121), (Sl.v 1 s123)] false false [])] 0 .nil, true⟩ : AHeap)) (by kernel_rfl) ?_
  refine .ghs (⟨13, frTr [(1, (.pointer (some ⟨1, 0, none⟩)))] .nil⟩ : Fr) (⟨2, objTr [(.cells tab0 true false []), (.cells [(.int .i64 x119), (Sl.v 1 s121), (Sl.v 1 s123)] false false [])] 0 .nil, true⟩ : AHeap) (.gc [] [false] [.tmp 1 false] [1] (by kernel_rfl) trivial (by kernel_rfl)) ?_
  refine .join (v := v) (fun y : Bool => ((⟨13, frTr [(2, (.bool y))] .nil⟩ : Fr), (⟨1, objTr [(.cells tab0 true false [])] 0 .nil, true⟩ : AHeap))) (fun y => m14_0 pu n y) ?_ ?_
  · rintro b126 hm
    unfold m14_0 at hm
    refine .ret ?_
    exact fin_ret (.bool b126) (by kernel_rfl) (by kernel_rfl) hm
  · skip
    have hq := bb_cases hm; clear hm; rcases hq with ⟨h127, hm⟩ | ⟨h127, hm⟩
    · skip
      refine .reg (F' := (Fr.puts (⟨13, frTr [(1, (.pointer (some ⟨1, 0, none⟩)))] .nil⟩ : Fr) [(3, (.pointer (some ⟨1, 1, none⟩))), (4, (Sl.v 1 s121)), (5, (.int .i64 (Int.ofNat (Sl.n s121)))), (6, (.bool true)), (7, (.bool true)), (8, (.tuple ⟨[]⟩)), (9, (.tuple ⟨[]⟩)), (10, (.tuple ⟨[]⟩)), (11, (.tuple ⟨[]⟩)), (12, (.bool true)), (2, (.bool true))])) (H' := (⟨2, objTr [(.cells tab0 true false []), (.cells [(.int .i64 x119), (Sl.v 1 s121), (Sl.v 1 s123)] false false [])] 0 .nil, true⟩ : AHeap)) (evOps_cut 3 (by kernel_rfl) (evOps_data (some ((.bool (ilt (40 : Int) (Int.ofNat (Sl.n s121)))), (⟨2, objTr [(.cells tab0 true false []), (.cells [(.int .i64 x119), (Sl.v 1 s121), (Sl.v 1 s123)] false false [])] 0 .nil, true⟩ : AHeap))) (by kernel_rfl) (show _ = some ((.bool true), _) from (by rw [h127])) (okAt_of (by kernel_rfl) (by kernel_rfl)) (by kernel_rfl))) ?_
      exact ⟨true, hm, (.gc [] [false] [] [2] (by kernel_rfl) trivial (by kernel_rfl))⟩
    · skip
      refine .reg (F' := (Fr.puts (⟨13, frTr [(1, (.pointer (some ⟨1, 0, none⟩)))] .nil⟩ : Fr) [(3, (.pointer (some ⟨1, 1, none⟩))), (4, (Sl.v 1 s121)), (5, (.int .i64 (Int.ofNat (Sl.n s121)))), (6, (.bool false)), (7, (.bool false)), (8, (.pointer (some ⟨1, 2, none⟩))), (9, (Sl.v 1 s123)), (10, (.int .i64 (Int.ofNat (Sl.n s123)))), (11, (.bool (ilt (40 : Int) (Int.ofNat (Sl.n s123))))), (12, (.bool (ilt (40 : Int) (Int.ofNat (Sl.n s123))))), (2, (.bool (ilt (40 : Int) (Int.ofNat (Sl.n s123)))))])) (H' := (⟨2, objTr [(.cells tab0 true false []), (.cells [(.int .i64 x119), (Sl.v 1 s121), (Sl.v 1 s123)] false false [])] 0 .nil, true⟩ : AHeap)) (evOps_cut 3 (by kernel_rfl) (evOps_data (some ((.bool (ilt (40 : Int) (Int.ofNat (Sl.n s121)))), (⟨2, objTr [(.cells tab0 true false []), (.cells [(.int .i64 x119), (Sl.v 1 s121), (Sl.v 1 s123)] false false [])] 0 .nil, true⟩ : AHeap))) (by kernel_rfl) (show _ = some ((.bool false), _) from (by rw [h127])) (okAt_of (by kernel_rfl) (by kernel_rfl)) (by kernel_rfl))) ?_
      exact ⟨(ilt (40 : Int) (Int.ofNat (Sl.n s123))), hm, (.gc [] [false] [] [2] (by kernel_rfl) trivial (by kernel_rfl))⟩
/-- spadille/spadillelaw09.same -/
def o20_0 : List ROp := [
  ⟨(some 4), .assign (.const (.bool false)), 4, none, []⟩]
def c20_0 : RC := .reg [] o20_0
def o20_1 : List ROp := [
  ⟨(some 6), .move (.tmp 0), 22, none, []⟩,
  ⟨(some 7), .call ⟨.builtin .len, #[(.tmp 6)], #[22]⟩, 3, none, []⟩,
  ⟨(some 8), .move (.tmp 1), 22, none, []⟩,
  ⟨(some 9), .call ⟨.builtin .len, #[(.tmp 8)], #[22]⟩, 3, none, []⟩,
  ⟨(some 10), .binOp .neq 3 (.tmp 7) (.tmp 9) 3, 4, none, []⟩]
def c20_1 : RC := .reg [] o20_1
def o20_2 : List ROp := [
  ⟨(some 4), .assign (.const (.bool false)), 4, none, []⟩]
def c20_2 : RC := .reg [] o20_2
def c20_3 : RC := .seq c20_2 .ret
def c20_4 : RC := .cond (.tmp 10) c20_3 .skip
def c20_5 : RC := .seq c20_1 c20_4
def o20_6 : List ROp := [
  ⟨(some 5), .assign (.const (.int .i64 0)), 3, none, []⟩]
def c20_6 : RC := .reg [] o20_6
def o20_7 : List ROp := [
  ⟨(some 11), .move (.tmp 5), 3, none, []⟩,
  ⟨(some 12), .move (.tmp 0), 22, none, []⟩,
  ⟨(some 13), .call ⟨.builtin .len, #[(.tmp 12)], #[22]⟩, 3, none, []⟩,
  ⟨(some 14), .binOp .lss 3 (.tmp 11) (.tmp 13) 3, 4, none, []⟩]
def c20_7 : RC := .reg [] o20_7
def c20_8 : RC := .cond (.tmp 14) .skip (.exit 0)
def c20_9 : RC := .seq c20_7 c20_8
def o20_10 : List ROp := [
  ⟨(some 17), .move (.tmp 0), 22, none, []⟩,
  ⟨(some 18), .move (.tmp 5), 3, none, []⟩,
  ⟨(some 19), .indexAddr 22 (.tmp 17) (.tmp 18), 0, none, []⟩,
  ⟨(some 20), .load 3 (.tmp 19), 3, none, []⟩,
  ⟨(some 21), .move (.tmp 1), 22, none, []⟩,
  ⟨(some 22), .move (.tmp 5), 3, none, []⟩,
  ⟨(some 23), .indexAddr 22 (.tmp 21) (.tmp 22), 0, none, []⟩,
  ⟨(some 24), .load 3 (.tmp 23), 3, none, []⟩,
  ⟨(some 25), .binOp .neq 3 (.tmp 20) (.tmp 24) 3, 4, none, []⟩]
def c20_10 : RC := .reg [0, 1, 2, 3, 4, 5, 6, 7, 8] o20_10
def o20_11 : List ROp := [
  ⟨(some 4), .assign (.const (.bool false)), 4, none, []⟩]
def c20_11 : RC := .reg [] o20_11
def c20_12 : RC := .seq c20_11 .ret
def c20_13 : RC := .cond (.tmp 25) c20_12 .skip
def c20_14 : RC := .seq c20_10 c20_13
def c20_15 : RC := .block 1 c20_14
def o20_16 : List ROp := [
  ⟨(some 15), .move (.tmp 5), 3, none, []⟩,
  ⟨(some 16), .binOp .add 3 (.tmp 15) (.const (.int .i64 1)) 3, 3, none, []⟩,
  ⟨(some 5), .assign (.tmp 16), 3, none, []⟩]
def c20_16 : RC := .reg [] o20_16
def c20_17 : RC := .seq c20_15 c20_16
def c20_18 : RC := .seq c20_9 c20_17
def c20_19 : RC := .loop c20_18
def c20_20 : RC := .block 0 c20_19
def c20_21 : RC := .seq c20_6 c20_20
def o20_22 : List ROp := [
  ⟨(some 4), .assign (.const (.bool true)), 4, none, []⟩]
def c20_22 : RC := .reg [] o20_22
def c20_23 : RC := .seq c20_22 .ret
def c20_24 : RC := .seq c20_21 c20_23
def c20_25 : RC := .seq c20_5 c20_24
def c20_26 : RC := .seq c20_0 c20_25
def m20_0 (pu : PureF) (n : Nat) : Option Value :=
  (some (.bool true))
def b20_1 (pu : PureF) (n : Nat) (ih0 : Sl → Sl → Int → Option Value) (s150 : Sl) (s151 : Sl) (z152 : Int) : Option Value :=
  (bb (ilt z152 (Int.ofNat (Sl.n s150))) (oo (toN z152) none fun k154 => (bb (an (Nat.blt k154 (Sl.n s150)) true) (oo (nthL (Sl.cs s150) (k154 * 1)) none fun v157 => (oo (toI .i64 v157) none fun x159 => (bb (an (Nat.blt k154 (Sl.n s151)) true) (oo (nthL (Sl.cs s151) (k154 * 1)) none fun v162 => (oo (toI .i64 v162) none fun x164 => (bb (nt (ieq x159 x164)) (some (.bool false)) (ih0 s150 s151 (wrapF .i64 (Int.add (Int.ofNat k154) (1 : Int))))))) none))) none)) (m20_0 pu n))
def l20_1 (pu : PureF) (n : Nat) (w : Nat) : Sl → Sl → Int → Option Value :=
  Nat.rec (motive := fun _ => Sl → Sl → Int → Option Value) (fun _ _ _ => none) (fun _ ih0 => b20_1 pu n ih0) w
def m20_ (pu : PureF) (n : Nat) (s128 : Sl) (s130 : Sl) : Option Value :=
  (bb (nt (ieq (Int.ofNat (Sl.n s128)) (Int.ofNat (Sl.n s130)))) (some (.bool false)) (l20_1 pu n n s128 s130 (0 : Int)))
def m20 (pu : PureF) (n : Nat) (args : List Value) : Option Value :=
  (ll args none fun a0 args => (ll args none fun a1 args => (ll args (oo (toSl 1 a0) none fun s128 => (oo (toSl 1 a1) none fun s130 => (m20_ pu n s128 s130))) fun _ _ => none)))
theorem r20 {call : CallF} (pu : PureF) (n : Nat) (hcall : call = callP tabs isP pu inl) {args : List Value} {v : Value} (hm : m20 pu n args = some v) (_ : ∀ x ∈ args, closed2 x = true) : args.length ≤ 26 ∧ Run tt call 1 c20_26 (Fr.made 26 args) (pureHeap tabs) (Fin tt 1 [.tmp 4] v) := by
  subst hcall
  unfold m20 at hm
  have hq := ll_uncons hm; clear hm; obtain ⟨a0, args_0, rfl, hm⟩ := hq
  have hq := ll_uncons hm; clear hm; obtain ⟨a1, args_1, rfl, hm⟩ := hq
  have hq := ll_end hm; clear hm; obtain ⟨rfl, hm⟩ := hq
  have hq := oo_inv hm; clear hm; obtain ⟨s128, h129, hm⟩ := hq
  obtain rfl := toSl_some h129
  have hq := oo_inv hm; clear hm; obtain ⟨s130, h131, hm⟩ := hq
  obtain rfl := toSl_some h131
  unfold m20_ at hm
  refine ⟨by simp, ?_⟩
  refine .same (F' := (⟨26, frTr [(0, (Sl.v 1 s128)), (1, (Sl.v 1 s130))] .nil⟩ : Fr)) (H' := (⟨1, objTr [(.cells tab0 true false [])] 0 .nil, true⟩ : AHeap)) (by kernel_rfl) (by kernel_rfl) ?_
  refine .then ?_
  refine .reg (F' := (Fr.puts (⟨26, frTr [(0, (Sl.v 1 s128)), (1, (Sl.v 1 s130))] .nil⟩ : Fr) [(4, (.bool false))])) (H' := (⟨1, objTr [(.cells tab0 true false [])] 0 .nil, true⟩ : AHeap)) (by kernel_rfl) ?_
  refine .ghs (⟨26, frTr [(0, (Sl.v 1 s128)), (1, (Sl.v 1 s130))] .nil⟩ : Fr) (⟨1, objTr [(.cells tab0 true false [])] 0 .nil, true⟩ : AHeap) (.gc [] [false] [] [0, 1] (by kernel_rfl) trivial (by kernel_rfl)) ?_
  refine .then ?_
  refine .then ?_
  refine .reg (F' := (Fr.puts (⟨26, frTr [(0, (Sl.v 1 s128)), (1, (Sl.v 1 s130))] .nil⟩ : Fr) [(6, (Sl.v 1 s128)), (7, (.int .i64 (Int.ofNat (Sl.n s128)))), (8, (Sl.v 1 s130)), (9, (.int .i64 (Int.ofNat (Sl.n s130)))), (10, (.bool (nt (ieq (Int.ofNat (Sl.n s128)) (Int.ofNat (Sl.n s130))))))])) (H' := (⟨1, objTr [(.cells tab0 true false [])] 0 .nil, true⟩ : AHeap)) (by kernel_rfl) ?_
  refine .ghs (⟨26, frTr [(0, (Sl.v 1 s128)), (1, (Sl.v 1 s130)), (10, (.bool (nt (ieq (Int.ofNat (Sl.n s128)) (Int.ofNat (Sl.n s130))))))] .nil⟩ : Fr) (⟨1, objTr [(.cells tab0 true false [])] 0 .nil, true⟩ : AHeap) (.gc [] [false] [] [0, 1, 10] (by kernel_rfl) trivial (by kernel_rfl)) ?_
  have hq := bb_cases hm; clear hm; rcases hq with ⟨h132, hm⟩ | ⟨h132, hm⟩
  · refine .ifT (nt (ieq (Int.ofNat (Sl.n s128)) (Int.ofNat (Sl.n s130)))) (by kernel_rfl) h132 ?_
    refine .then ?_
    refine .reg (F' := (Fr.puts (⟨26, frTr [(0, (Sl.v 1 s128)), (1, (Sl.v 1 s130)), (10, (.bool (nt (ieq (Int.ofNat (Sl.n s128)) (Int.ofNat (Sl.n s130))))))] .nil⟩ : Fr) [(4, (.bool false))])) (H' := (⟨1, objTr [(.cells tab0 true false [])] 0 .nil, true⟩ : AHeap)) (by kernel_rfl) ?_
    refine .ghs (⟨26, frTr [(4, (.bool false))] .nil⟩ : Fr) (⟨1, objTr [(.cells tab0 true false [])] 0 .nil, true⟩ : AHeap) (.gc [] [false] [] [4] (by kernel_rfl) trivial (by kernel_rfl)) ?_
    refine .ret ?_
    exact fin_ret (.bool false) (by kernel_rfl) (by kernel_rfl) hm
  · refine .ifF (nt (ieq (Int.ofNat (Sl.n s128)) (Int.ofNat (Sl.n s130)))) (by kernel_rfl) h132 ?_
    refine .skip ?_
    refine .ghs (⟨26, frTr [(0, (Sl.v 1 s128)), (1, (Sl.v 1 s130))] .nil⟩ : Fr) (⟨1, objTr [(.cells tab0 true false [])] 0 .nil, true⟩ : AHeap) (.gc [] [false] [] [0, 1] (by kernel_rfl) trivial (by kernel_rfl)) ?_
    refine .join (v := v) (fun y : Unit => ((⟨26, frTr [] .nil⟩ : Fr), (⟨1, objTr [(.cells tab0 true false [])] 0 .nil, true⟩ : AHeap))) (fun y => m20_0 pu n) ?_ ?_
    · rintro _ hm
      unfold m20_0 at hm
      refine .then ?_
      refine .reg (F' := (Fr.puts (⟨26, frTr [] .nil⟩ : Fr) [(4, (.bool true))])) (H' := (⟨1, objTr [(.cells tab0 true false [])] 0 .nil, true⟩ : AHeap)) (by kernel_rfl) ?_
      refine .ghs (⟨26, frTr [(4, (.bool true))] .nil⟩ : Fr) (⟨1, objTr [(.cells tab0 true false [])] 0 .nil, true⟩ : AHeap) (.gc [] [false] [] [4] (by kernel_rfl) trivial (by kernel_rfl)) ?_
      refine .ret ?_
      exact fin_ret (.bool true) (by kernel_rfl) (by kernel_rfl) hm
    · skip
      refine .then ?_
      refine .reg (F' := (Fr.puts (⟨26, frTr [(0, (Sl.v 1 s128)), (1, (Sl.v 1 s130))] .nil⟩ : Fr) [(5, (.int .i64 (0 : Int)))])) (H' := (⟨1, objTr [(.cells tab0 true false [])] 0 .nil, true⟩ : AHeap)) (by kernel_rfl) ?_
      refine .ghs (⟨26, frTr [(0, (Sl.v 1 s128)), (1, (Sl.v 1 s130)), (5, (.int .i64 (0 : Int)))] .nil⟩ : Fr) (⟨1, objTr [(.cells tab0 true false [])] 0 .nil, true⟩ : AHeap) (.gc [] [false] [] [0, 1, 5] (by kernel_rfl) trivial (by kernel_rfl)) ?_
      refine .block ?_
      refine .loopM (v := v) (fun y : Sl × Sl × Int => ((⟨26, frTr [(0, (Sl.v 1 y.1)), (1, (Sl.v 1 y.2.1)), (5, (.int .i64 y.2.2))] .nil⟩ : Fr), (⟨1, objTr [(.cells tab0 true false [])] 0 .nil, true⟩ : AHeap))) (fun w y => l20_1 pu n w y.1 y.2.1 y.2.2) n ⟨(s128, s130, (0 : Int)), hm, (.gc [] [false] [] [0, 1, 5] (by kernel_rfl) trivial (by kernel_rfl))⟩ (fun _ => rfl) ?_
      rintro w0 ⟨s150, s151, z152⟩ hm
      refine .then ?_
      refine .then ?_
      refine .reg (F' := (Fr.puts (⟨26, frTr [(0, (Sl.v 1 s150)), (1, (Sl.v 1 s151)), (5, (.int .i64 z152))] .nil⟩ : Fr) [(11, (.int .i64 z152)), (12, (Sl.v 1 s150)), (13, (.int .i64 (Int.ofNat (Sl.n s150)))), (14, (.bool (ilt z152 (Int.ofNat (Sl.n s150)))))])) (H' := (⟨1, objTr [(.cells tab0 true false [])] 0 .nil, true⟩ : AHeap)) (by kernel_rfl) ?_
      refine .ghs (⟨26, frTr [(0, (Sl.v 1 s150)), (1, (Sl.v 1 s151)), (5, (.int .i64 z152)), (14, (.bool (ilt z152 (Int.ofNat (Sl.n s150)))))] .nil⟩ : Fr) (⟨1, objTr [(.cells tab0 true false [])] 0 .nil, true⟩ : AHeap) (.gc [] [false] [] [0, 1, 5, 14] (by kernel_rfl) trivial (by kernel_rfl)) ?_
      have hq := bb_cases hm; clear hm; rcases hq with ⟨h153, hm⟩ | ⟨h153, hm⟩
      · refine .ifT (ilt z152 (Int.ofNat (Sl.n s150))) (by kernel_rfl) h153 ?_
        refine .skip ?_
        refine .ghs (⟨26, frTr [(0, (Sl.v 1 s150)), (1, (Sl.v 1 s151)), (5, (.int .i64 z152))] .nil⟩ : Fr) (⟨1, objTr [(.cells tab0 true false [])] 0 .nil, true⟩ : AHeap) (.gc [] [false] [] [0, 1, 5] (by kernel_rfl) trivial (by kernel_rfl)) ?_
        refine .then ?_
        refine .block ?_
        refine .then ?_
        have hq := oo_inv hm; clear hm; obtain ⟨k154, h155, hm⟩ := hq
        obtain rfl := toN_some h155
        have hq := bb_inv hm; clear hm; obtain ⟨h156, hm⟩ := hq
        have hq := oo_inv hm; clear hm; obtain ⟨v157, h158, hm⟩ := hq
        have hq := oo_inv hm; clear hm; obtain ⟨x159, h160, hm⟩ := hq
        obtain rfl := toI_some h160
        have hq := bb_inv hm; clear hm; obtain ⟨h161, hm⟩ := hq
        have hq := oo_inv hm; clear hm; obtain ⟨v162, h163, hm⟩ := hq
        have hq := oo_inv hm; clear hm; obtain ⟨x164, h165, hm⟩ := hq
        obtain rfl := toI_some h165
        refine .reg (F' := (Fr.puts (⟨26, frTr [(0, (Sl.v 1 s150)), (1, (Sl.v 1 s151)), (5, (.int .i64 (Int.ofNat k154)))] .nil⟩ : Fr) [(17, (Sl.v 1 s150)), (18, (.int .i64 (Int.ofNat k154))), (19, (fpV (k154 * 1) (Sl.cs s150))), (20, (.int .i64 x159)), (21, (Sl.v 1 s151)), (22, (.int .i64 (Int.ofNat k154))), (23, (fpV (k154 * 1) (Sl.cs s151))), (24, (.int .i64 x164)), (25, (.bool (nt (ieq x159 x164))))])) (H' := (⟨1, objTr [(.cells tab0 true false [])] 0 .nil, true⟩ : AHeap)) (evOps_cut 2 (by kernel_rfl) (evOps_data (keep (⟨1, objTr [(.cells tab0 true false [])] 0 .nil, true⟩ : AHeap) (bb (an (Nat.blt k154 (Sl.n s150)) true) (some (fpV (k154 * 1) (Sl.cs s150))) none)) (by kernel_rfl) (keep_bb h156) (okAt_of (by kernel_rfl) (by kernel_rfl)) (evOps_data (keep (⟨1, objTr [(.cells tab0 true false [])] 0 .nil, true⟩ : AHeap) (nthL (Sl.cs s150) (k154 * 1))) (by kernel_rfl) (keep_eq h158) (okAt_of (by kernel_rfl) (by kernel_rfl)) (evOps_cut 2 (by kernel_rfl) (evOps_data (keep (⟨1, objTr [(.cells tab0 true false [])] 0 .nil, true⟩ : AHeap) (bb (an (Nat.blt k154 (Sl.n s151)) true) (some (fpV (k154 * 1) (Sl.cs s151))) none)) (by kernel_rfl) (keep_bb h161) (okAt_of (by kernel_rfl) (by kernel_rfl)) (evOps_data (keep (⟨1, objTr [(.cells tab0 true false [])] 0 .nil, true⟩ : AHeap) (nthL (Sl.cs s151) (k154 * 1))) (by kernel_rfl) (keep_eq h163) (okAt_of (by kernel_rfl) (by kernel_rfl)) (by kernel_rfl))))))) ?_
        refine .ghs (⟨26, frTr [(0, (Sl.v 1 s150)), (1, (Sl.v 1 s151)), (5, (.int .i64 (Int.ofNat k154))), (25, (.bool (nt (ieq x159 x164))))] .nil⟩ : Fr) (⟨1, objTr [(.cells tab0 true false [])] 0 .nil, true⟩ : AHeap) (.gc [] [false] [] [0, 1, 5, 25] (by kernel_rfl) trivial (by kernel_rfl)) ?_
        have hq := bb_cases hm; clear hm; rcases hq with ⟨h166, hm⟩ | ⟨h166, hm⟩
        · refine .ifT (nt (ieq x159 x164)) (by kernel_rfl) h166 ?_
          refine .then ?_
          refine .reg (F' := (Fr.puts (⟨26, frTr [(0, (Sl.v 1 s150)), (1, (Sl.v 1 s151)), (5, (.int .i64 (Int.ofNat k154))), (25, (.bool (nt (ieq x159 x164))))] .nil⟩ : Fr) [(4, (.bool false))])) (H' := (⟨1, objTr [(.cells tab0 true false [])] 0 .nil, true⟩ : AHeap)) (by kernel_rfl) ?_
          refine .ghs (⟨26, frTr [(4, (.bool false))] .nil⟩ : Fr) (⟨1, objTr [(.cells tab0 true false [])] 0 .nil, true⟩ : AHeap) (.gc [] [false] [] [4] (by kernel_rfl) trivial (by kernel_rfl)) ?_
          refine .ret ?_
          exact fin_ret (.bool false) (by kernel_rfl) (by kernel_rfl) hm
        · refine .ifF (nt (ieq x159 x164)) (by kernel_rfl) h166 ?_
          refine .skip ?_
          refine .ghs (⟨26, frTr [(0, (Sl.v 1 s150)), (1, (Sl.v 1 s151)), (5, (.int .i64 (Int.ofNat k154)))] .nil⟩ : Fr) (⟨1, objTr [(.cells tab0 true false [])] 0 .nil, true⟩ : AHeap) (.gc [] [false] [] [0, 1, 5] (by kernel_rfl) trivial (by kernel_rfl)) ?_
          refine .reg (F' := (Fr.puts (⟨26, frTr [(0, (Sl.v 1 s150)), (1, (Sl.v 1 s151)), (5, (.int .i64 (Int.ofNat k154)))] .nil⟩ : Fr) [(15, (.int .i64 (Int.ofNat k154))), (16, (.int .i64 (wrapF .i64 (Int.add (Int.ofNat k154) (1 : Int))))), (5, (.int .i64 (wrapF .i64 (Int.add (Int.ofNat k154) (1 : Int)))))])) (H' := (⟨1, objTr [(.cells tab0 true false [])] 0 .nil, true⟩ : AHeap)) (by kernel_rfl) ?_
          exact ⟨(s150, s151, (wrapF .i64 (Int.add (Int.ofNat k154) (1 : Int)))), hm, (.gc [] [false] [] [0, 1, 5] (by kernel_rfl) trivial (by kernel_rfl))⟩
      · refine .ifF (ilt z152 (Int.ofNat (Sl.n s150))) (by kernel_rfl) h153 ?_
        refine .exit ?_
        exact ⟨(), hm, (.gc [] [false] [] [] (by kernel_rfl) trivial (by kernel_rfl))⟩
end
end Go.MendNM
