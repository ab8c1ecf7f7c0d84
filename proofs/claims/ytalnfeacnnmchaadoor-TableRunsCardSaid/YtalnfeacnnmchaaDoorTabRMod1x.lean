/- slices.Clone, taken as it stands where it is called: a new row with the same cells. -/
import Derived.Test.YtalnfeacnnmchaaDoorSpPlainx
import Derived.Test.YtalnfeacnnmchaaDoorTabRCode
import Derived.KernelRfl

set_option maxRecDepth 100000
namespace Go.TabRM
open Go.Sp Go.TabR
noncomputable section
def cloneF (sz by' : Nat) (args : List Value) (H : AHeap) : Option (Value × AHeap) :=
  ll args none fun x r => ll r (oo (toSl sz x) none fun s => AHeap.rec (motive := fun _ => Option (Value × AHeap)) (fun k T z => bb z (bb (roomy (0 + s.n) by')
    (some (.slice (some ⟨Nat.succ k, 0, some sz⟩) s.n (2 * s.n + bb false 1 0), ((⟨k, T, true⟩ : AHeap).push (.cells [] false false [])).push (.cells (takeL (s.n * sz) s.cs) false false []))) none) none) H) fun _ _ => none
def o29 : List ROp := [
   ⟨(some 5), .buildSlice 25 0 #[], 25, none, []⟩,
   ⟨(some 6), .move (.tmp 0), 25, none, []⟩,
   ⟨(some 7), .call ⟨.builtin .append, #[(.tmp 5), (.tmp 6)], #[25, 25]⟩, 25, none, []⟩,
   ⟨(some 2), .assign (.tmp 7), 25, none, []⟩]
def H1 (k : Nat) (T : Tr AObj) : AHeap := (⟨k, T, true⟩ : AHeap).push (.cells [] false false [])
def F1 (a : Value) : Fr := Fr.puts (Fr.made 8 [a]) [(2, .slice none 0 0), (3, a), (4, .bool false)]
def F2 (a : Value) (k : Nat) : Fr := Fr.puts (F1 a) [(5, .slice (some ⟨k, 0, some 1⟩) 0 1)]
def F3 (a : Value) (k : Nat) : Fr := Fr.puts (F2 a k) [(6, a)]
def F4 (a : Value) (k : Nat) (v : Value) : Fr := Fr.puts (F3 a k) [(7, v)]
def F5 (a : Value) (k : Nat) (v : Value) : Fr := Fr.puts (F4 a k v) [(2, v)]
theorem H1_get (k : Nat) (T : Tr AObj) : oCells ((H1 k T).get k) = some ⟨[], false, false, []⟩ := by
  unfold H1
  rw [AHeap.get_push, if_pos rfl]; rfl
theorem H1_next (k : Nat) (T : Tr AObj) : (H1 k T).next = k + 1 := by
  unfold H1; rw [AHeap.next_push]
theorem cloneA (k : Nat) (T : Tr AObj) : evFn tt fns 2 29 [fsV 1 0 2 []] ⟨k, T, true⟩ = some (.slice none 0 0, ⟨k, T, true⟩) := by kernel_rfl
theorem ops (call : CallF) (k : Nat) (T : Tr AObj) (a : Value) (v : Value) (H2 : AHeap) (s : Sl) (ha : a = s.v 1) (hD : appFs (H1 k T) 1 8 (.slice (some ⟨k, 0, some 1⟩) 0 1) s = some (v, H2)) :
    evOps tt call o29 (F1 a) ⟨k, T, true⟩ = some (F5 a k v, H2) := by
  subst ha
  refine evOps_data (some (.slice (some ⟨k, 0, some 1⟩) 0 1, H1 k T)) (by kernel_rfl) rfl (by kernel_rfl) ?_
  refine evOps_data (some (s.v 1, H1 k T)) (by kernel_rfl) rfl (by kernel_rfl) ?_
  refine evOps_data (appFs (H1 k T) 1 8 (.slice (some ⟨k, 0, some 1⟩) 0 1) s) (by kernel_rfl) hD (by kernel_rfl) ?_
  refine evOps_data (some (v, H2)) (by kernel_rfl) rfl (by kernel_rfl) ?_
  rfl
theorem ev (k : Nat) (T : Tr AObj) (a : Value) (v : Value) (H2 : AHeap) (h1 : evC tt (evFn tt fns 1) 1 c29 (Fr.made 8 [a]) ⟨k, T, true⟩ = evC tt (evFn tt fns 1) 1 (.seq (.reg [] o29) .ret) (F1 a) ⟨k, T, true⟩)
    (h : evOps tt (evFn tt fns 1) o29 (F1 a) ⟨k, T, true⟩ = some (F5 a k v, H2)) : evFn tt fns 2 29 [a] ⟨k, T, true⟩ = some (v, H2) := by
  show endFn tt [.tmp 2] (evC tt (evFn tt fns 1) 1 c29 (Fr.made 8 [a]) ⟨k, T, true⟩) = _
  rw [h1]
  show endFn tt [.tmp 2] (onNormal (regR (evOps tt (evFn tt fns 1) o29 (F1 a) ⟨k, T, true⟩)) _) = _
  rw [h]
  kernel_rfl
theorem cloneB (k : Nat) (T : Tr AObj) : evFn tt fns 2 29 [fsV 1 0 3 []] ⟨k, T, true⟩ = some (.slice (some ⟨k, 0, some 1⟩) 0 1, H1 k T) :=
  ev k T _ _ _ (by kernel_rfl) (ops _ k T _ _ _ ⟨0, 3, []⟩ rfl (appFs_sl0 rfl))
theorem cloneC (k : Nat) (T : Tr AObj) (n : Nat) (cs : List Value) (hr : roomy (0 + (n + 1)) 8 = true) :
    evFn tt fns 2 29 [fsV 1 (n + 1) 0 cs] ⟨k, T, true⟩ = some (sliceAt (k + 1) 0 1 (0 + (n + 1)) (0 + (n + 1)) false, (H1 k T).push (.cells (takeL ((n + 1) * 1) cs) false false [])) :=
  ev k T _ _ _ (by kernel_rfl) (ops _ k T _ _ _ ⟨n + 1, 0, cs⟩ rfl (by rw [appFs_new rfl hr (H1_get k T), H1_next]))

theorem clone_ok {P : Program} (hT : TOk P tt) (hf : ∀ f r, fns f = some r → FnOk P [0] f r) (hm : P.follows .mixedOrders = true) {args : List Value} {H H' : AHeap} {v : Value} (h : cloneF 1 8 args H = some (v, H')) :
    (∀ (as : Array Value) (w : World), (callFunc 29 as).run P w = .ok (.enter 29 as) w) ∧
    ∀ R w args', Sim H R w → GlR [0] R → VRL R args args' → Calls P 29 ⟨args'⟩ w fun e w' => ∃ u R', e = .returned u ∧ VR R' v u ∧ Post H R w H' R' w' := by
  refine ⟨((evFn_ok hT hf hm 2) 29 _ _ _ _ (cloneA 0 .nil)).1, fun R w args' hs hgl ha => ?_⟩
  obtain ⟨x, r, rfl, h⟩ := ll_uncons h
  obtain ⟨rfl, h⟩ := ll_end h
  obtain ⟨s, hsl, h⟩ := oo_inv h
  obtain rfl := toSl_some hsl
  obtain ⟨k, T, z⟩ := H
  obtain ⟨hz, h⟩ := bb_inv (show bb z _ none = some _ from h)
  subst hz
  obtain ⟨hr, h⟩ := bb_inv h
  injection h with h; injection h with e1 e2; subst e1; subst e2
  obtain ⟨u, us, rfl, hu, hnil⟩ := ha.uncons
  obtain rfl := hnil.unnil
  obtain ⟨n, fl, cs⟩ := s
  have run : ∀ (a v1 : Value) (H2 : AHeap), evFn tt fns 2 29 [a] ⟨k, T, true⟩ = some (v1, H2) → VR R a u → Calls P 29 ⟨[u]⟩ w fun e w' => ∃ u' R', e = .returned u' ∧ VR R' v1 u' ∧ Post ⟨k, T, true⟩ R w H2 R' w' := fun a v1 H2 he hau =>
    ((evFn_ok hT hf hm 2) 29 _ _ _ _ he).2 R w [u] hs hgl (.one hau)
  have empty : ∀ (a : Value), VR R a u → (a = fsV 1 0 2 [] ∨ a = fsV 1 0 3 []) → ∀ o, o = AObj.cells (takeL (0 * 1) cs) false false [] → Calls P 29 ⟨[u]⟩ w fun e w' => ∃ u' R', e = .returned u' ∧ VR R' (.slice (some ⟨Nat.succ k, 0, some 1⟩) 0 (2 * 0 + bb false 1 0)) u' ∧
      Post ⟨k, T, true⟩ R w ((H1 k T).push o) R' w' := fun a hau hcase o ho => by
    rcases hcase with rfl | rfl
    · refine (run _ _ _ (cloneA k T) hau).mono fun e w' ⟨u', R', h1, h2, h3⟩ => ⟨u', R', h1, ?_, (h3.absPush (obj := .cells [] false false []) rfl).absPush (by rw [ho]; rfl)⟩
      rw [h2.slNil_l]; exact .slN rfl
    · refine (run _ _ _ (cloneB k T) hau).mono fun e w' ⟨u', R', h1, h2, h3⟩ => ⟨u', R', h1, ?_, h3.absPush (by rw [ho]; rfl)⟩
      cases h2 with
      | sl _ _ _ h3 _ => have := h3 rfl; subst this; exact .slE rfl
      | slE => exact .slE rfl
      | slN => exact .slN rfl
  rcases hu.fs_l (f := ⟨1, n, fl, cs⟩) rfl with ⟨h1, h2, rfl⟩ | ⟨_, h1, h2, c, o, sp, rfl⟩ | ⟨c, o, cap, C, hro, rfl, hn, k1, k2, k3, hfit, hcr, hcl⟩
  · have h1 : n = 0 := h1
    subst h1
    exact empty _ (.fsN 1 2 (by decide)) (.inl rfl) _ rfl
  · have h1 : n = 0 := h1
    subst h1
    exact empty _ (.fsE (by decide)) (.inr rfl) _ rfl
  · cases n with
    | zero =>
      have hc0 : cs = [] := by simpa using hn
      subst hc0
      exact empty (fsV 1 0 3 []) (.mkFs hro rfl (Nat.zero_le _) (fun h => by cases h) (by decide) hfit hcr hcl) (.inr rfl) _ rfl
    | succ n =>
      refine (run _ _ _ (cloneC k T n cs hr) (.mkFs hro hn k1 (fun h => by cases h) (by decide) hfit hcr hcl)).mono fun e w' ⟨u', R', g1, g2, g3⟩ => ⟨u', R', g1, ?_, g3⟩
      rwa [Nat.zero_add] at g2
end
end Go.TabRM
/- Models of the program's functions, and the proofs that runs give them: MADE BY PROGRAM (wip/tools/dec.py). -/
set_option maxRecDepth 100000
set_option linter.unusedVariables false
namespace Go.TabRM
open Go.Sp Go.TabR
noncomputable section
def tab0 : List Value := [.int .u8 0, .int .u8 1, .int .u8 56, .int .u8 2, .int .u8 57, .int .u8 49, .int .u8 28, .int .u8 3, .int .u8 61, .int .u8 58, .int .u8 42, .int .u8 50, .int .u8 38, .int .u8 29, .int .u8 17, .int .u8 4, .int .u8 62, .int .u8 47, .int .u8 59, .int .u8 36, .int .u8 45, .int .u8 43, .int .u8 51, .int .u8 22, .int .u8 53, .int .u8 39, .int .u8 33, .int .u8 30, .int .u8 24, .int .u8 18, .int .u8 12, .int .u8 5, .int .u8 63, .int .u8 55, .int .u8 48, .int .u8 27, .int .u8 60, .int .u8 41, .int .u8 37, .int .u8 16, .int .u8 46, .int .u8 35, .int .u8 44, .int .u8 21, .int .u8 52, .int .u8 32, .int .u8 23, .int .u8 11, .int .u8 54, .int .u8 26, .int .u8 40, .int .u8 15, .int .u8 34, .int .u8 20, .int .u8 31, .int .u8 10, .int .u8 25, .int .u8 14, .int .u8 19, .int .u8 9, .int .u8 13, .int .u8 8, .int .u8 7, .int .u8 6]
def tabs := [tab0]
def plist : List Nat := [3, 4, 5, 6, 7, 8, 9, 10, 11, 12, 30, 31, 32, 33, 34, 46, 52]
def isP : FuncId → Bool := fun g => memN g plist
def inl : CallF := fun g args H => bb (Nat.beq g 29) (cloneF 1 8 args H) none
end
end Go.TabRM
/- Models of the program's functions, and the proofs that runs give them: MADE BY PROGRAM (wip/tools/dec.py). -/
set_option maxRecDepth 100000
set_option linter.unusedVariables false
namespace Go.TabRM
open Go.Sp Go.TabR
noncomputable section
/-- spadille/spadillelaw07.TableRuns -/
def o3_0 : List ROp := [
  ⟨(some 2), .box 24 (.tmp 0), 0, none, []⟩,
  ⟨(some 4), .assign (.const (.bool false)), 4, none, []⟩]
def c3_0 : RC := .reg [] o3_0
def o3_1 : List ROp := [
  ⟨(some 10), .load 24 (.tmp 2), 24, none, []⟩,
  ⟨(some 11), .move (.tmp 1), 25, none, []⟩,
  ⟨(some 12), .call ⟨.value (.func 4), #[(.tmp 10), (.tmp 11)], #[24, 25]⟩, 4, none, []⟩]
def c3_1 : RC := .reg [] o3_1
def o3_2 : List ROp := [
  ⟨(some 13), .call ⟨.value (.func 5), #[], #[]⟩, 4, none, []⟩,
  ⟨(some 4), .assign (.tmp 13), 4, none, []⟩]
def c3_2 : RC := .reg [] o3_2
def c3_3 : RC := .seq c3_2 .ret
def c3_4 : RC := .cond (.tmp 12) c3_3 .skip
def c3_5 : RC := .seq c3_1 c3_4
def o3_6 : List ROp := [
  ⟨(some 14), .load 24 (.tmp 2), 24, none, []⟩,
  ⟨(some 5), .alloc 28, 0, none, []⟩,
  ⟨none, .store 28 (.tmp 5) (.tmp 14), 0, none, []⟩]
def c3_6 : RC := .reg [] o3_6
def o3_7 : List ROp := [
  ⟨(some 16), .load 24 (.tmp 2), 24, none, []⟩,
  ⟨(some 17), .move (.tmp 1), 25, none, []⟩,
  ⟨(some 18), .call ⟨.value (.func 6), #[(.tmp 16), (.tmp 17)], #[24, 25]⟩, 30, none, []⟩,
  ⟨(some 15), .move (.tmp 18), 30, none, []⟩,
  ⟨(some 19), .extract (.tmp 15) 0, 25, none, []⟩,
  ⟨(some 20), .extract (.tmp 15) 1, 29, none, []⟩,
  ⟨(some 6), .assign (.tmp 19), 25, none, []⟩,
  ⟨(some 7), .assign (.tmp 20), 29, none, []⟩]
def c3_7 : RC := .reg [] o3_7
def o3_8 : List ROp := [
  ⟨(some 22), .load 28 (.tmp 5), 28, none, []⟩,
  ⟨(some 23), .move (.tmp 1), 25, none, []⟩,
  ⟨(some 24), .call ⟨.value (.func 7), #[(.tmp 22), (.tmp 23)], #[28, 25]⟩, 30, none, []⟩,
  ⟨(some 21), .move (.tmp 24), 30, none, []⟩,
  ⟨(some 25), .extract (.tmp 21) 0, 25, none, []⟩,
  ⟨(some 26), .extract (.tmp 21) 1, 29, none, []⟩,
  ⟨(some 8), .assign (.tmp 25), 25, none, []⟩,
  ⟨(some 9), .assign (.tmp 26), 29, none, []⟩]
def c3_8 : RC := .reg [] o3_8
def o3_9 : List ROp := [
  ⟨(some 27), .move (.tmp 6), 25, none, []⟩,
  ⟨(some 28), .move (.tmp 8), 25, none, []⟩,
  ⟨(some 29), .call ⟨.value (.func 8), #[(.tmp 27), (.tmp 28)], #[25, 25]⟩, 4, none, []⟩,
  ⟨(some 30), .move (.tmp 29), 4, none, []⟩,
  ⟨(some 31), .move (.tmp 7), 29, (some ((some 30), true)), []⟩,
  ⟨(some 32), .move (.tmp 9), 29, (some ((some 30), true)), []⟩,
  ⟨(some 33), .binOp .eql 29 (.tmp 31) (.tmp 32) 29, 4, (some ((some 30), true)), []⟩,
  ⟨(some 34), .pick (.tmp 30) (.tmp 33) (.const (.bool false)), 4, none, []⟩,
  ⟨(some 35), .move (.tmp 34), 4, none, []⟩,
  ⟨(some 36), .load 24 (.tmp 2), 24, (some ((some 35), true)), []⟩,
  ⟨(some 38), .load 28 (.tmp 5), 28, (some ((some 35), true)), []⟩,
  ⟨(some 37), .call ⟨.value (.func 9), #[(.tmp 36)], #[24]⟩, 29, (some ((some 35), true)), [(.tmp 5)]⟩,
  ⟨(some 39), .call ⟨.value (.func 10), #[(.tmp 38)], #[28]⟩, 29, (some ((some 35), true)), []⟩,
  ⟨(some 40), .binOp .eql 29 (.tmp 37) (.tmp 39) 29, 4, (some ((some 35), true)), []⟩,
  ⟨(some 41), .pick (.tmp 35) (.tmp 40) (.const (.bool false)), 4, none, []⟩,
  ⟨(some 42), .move (.tmp 41), 4, none, []⟩,
  ⟨(some 43), .load 24 (.tmp 2), 24, (some ((some 42), true)), []⟩,
  ⟨(some 44), .move (.tmp 1), 25, (some ((some 42), true)), []⟩,
  ⟨(some 46), .load 28 (.tmp 5), 28, (some ((some 42), true)), []⟩,
  ⟨(some 47), .move (.tmp 1), 25, (some ((some 42), true)), []⟩,
  ⟨(some 45), .call ⟨.value (.func 11), #[(.tmp 43), (.tmp 44)], #[24, 25]⟩, 29, (some ((some 42), true)), [(.tmp 5)]⟩,
  ⟨(some 48), .call ⟨.value (.func 12), #[(.tmp 46), (.tmp 47)], #[28, 25]⟩, 29, (some ((some 42), true)), []⟩,
  ⟨(some 49), .binOp .eql 29 (.tmp 45) (.tmp 48) 29, 4, (some ((some 42), true)), []⟩,
  ⟨(some 50), .pick (.tmp 42) (.tmp 49) (.const (.bool false)), 4, none, []⟩,
  ⟨(some 51), .move (.tmp 50), 4, none, []⟩,
  ⟨(some 52), .call ⟨.value (.func 5), #[], #[]⟩, 4, (some ((some 51), true)), []⟩,
  ⟨(some 53), .pick (.tmp 51) (.tmp 52) (.const (.bool false)), 4, none, []⟩,
  ⟨(some 4), .assign (.tmp 53), 4, none, []⟩]
def c3_9 : RC := .reg [0, 1, 2, 3, 4, 5, 6, 7, 8, 9, 11, 10, 12, 13, 14, 15, 16, 17, 19, 20, 18, 21, 22, 23, 24, 25, 26, 27] o3_9
def c3_10 : RC := .seq c3_9 .ret
def c3_11 : RC := .seq c3_8 c3_10
def c3_12 : RC := .seq c3_7 c3_11
def c3_13 : RC := .seq c3_6 c3_12
def c3_14 : RC := .seq c3_5 c3_13
def c3_15 : RC := .seq c3_0 c3_14
def m3_0 (pu : PureF) (n : Nat) (b68 : Bool) : Option Value :=
  (some (.bool b68))
def m3_ (pu : PureF) (n : Nat) (x5 : Int) (s7 : Sl) (s9 : Sl) : Option Value :=
  (oo (pu 4 [(.agg ⟨[(.int .i64 x5), (Sl.v 2 s7)]⟩), (Sl.v 1 s9)]) none fun v11 => (oo (vBool v11) none fun b13 => (bb b13 (oo (pu 5 []) none fun v16 => (oo (vBool v16) none fun b18 => (some (.bool b18)))) (oo (pu 6 [(.agg ⟨[(.int .i64 x5), (Sl.v 2 s7)]⟩), (Sl.v 1 s9)]) none fun v20 => (oo (vTup v20) none fun l22 => (ll l22 none fun v24 l22 => (ll l22 none fun v25 l22 => (ll l22 (oo (toSl 1 v24) none fun s26 => (oo (toI .i64 v25) none fun x28 => (oo (pu 7 [(.agg ⟨[(.int .i64 x5), (Sl.v 2 s7)]⟩), (Sl.v 1 s9)]) none fun v30 => (oo (vTup v30) none fun l32 => (ll l32 none fun v34 l32 => (ll l32 none fun v35 l32 => (ll l32 (oo (toSl 1 v34) none fun s36 => (oo (toI .i64 v35) none fun x38 => (oo (pu 8 [(Sl.v 1 s26), (Sl.v 1 s36)]) none fun v69 => (oo (vBool v69) none fun b71 => (bb b71 (bb (ieq x28 x38) (oo (pu 9 [(.agg ⟨[(.int .i64 x5), (Sl.v 2 s7)]⟩)]) none fun v75 => (oo (toI .i64 v75) none fun x77 => (oo (pu 10 [(.agg ⟨[(.int .i64 x5), (Sl.v 2 s7)]⟩)]) none fun v79 => (oo (toI .i64 v79) none fun x81 => (bb (ieq x77 x81) (oo (pu 11 [(.agg ⟨[(.int .i64 x5), (Sl.v 2 s7)]⟩), (Sl.v 1 s9)]) none fun v84 => (oo (toI .i64 v84) none fun x86 => (oo (pu 12 [(.agg ⟨[(.int .i64 x5), (Sl.v 2 s7)]⟩), (Sl.v 1 s9)]) none fun v88 => (oo (toI .i64 v88) none fun x90 => (bb (ieq x86 x90) (oo (pu 5 []) none fun v93 => (oo (vBool v93) none fun b95 => (m3_0 pu n b95))) (m3_0 pu n false)))))) (m3_0 pu n false)))))) (m3_0 pu n false)) (m3_0 pu n false)))))) fun _ _ => none))))))) fun _ _ => none))))))))
def m3 (pu : PureF) (n : Nat) (args : List Value) : Option Value :=
  (ll args none fun a0 args => (ll args none fun a1 args => (ll args (oo (vAgg a0) none fun l1 => (ll l1 none fun v3 l1 => (ll l1 none fun v4 l1 => (ll l1 (oo (toI .i64 v3) none fun x5 => (oo (toSl 2 v4) none fun s7 => (oo (toSl 1 a1) none fun s9 => (m3_ pu n x5 s7 s9)))) fun _ _ => none)))) fun _ _ => none)))
theorem r3 {call : CallF} (pu : PureF) (n : Nat) (hcall : call = callP tabs isP pu inl) {args : List Value} {v : Value} (hm : m3 pu n args = some v) (_ : ∀ x ∈ args, closed2 x = true) : args.length ≤ 54 ∧ Run tt call 1 c3_15 (Fr.made 54 args) (pureHeap tabs) (Fin tt 1 [.tmp 4] v) := by
  subst hcall
  unfold m3 at hm
  have hq := ll_uncons hm; clear hm; obtain ⟨a0, args_0, rfl, hm⟩ := hq
  have hq := ll_uncons hm; clear hm; obtain ⟨a1, args_1, rfl, hm⟩ := hq
  have hq := ll_end hm; clear hm; obtain ⟨rfl, hm⟩ := hq
  have hq := oo_inv hm; clear hm; obtain ⟨l1, h2, hm⟩ := hq
  obtain rfl := vAgg_some h2
  have hq := ll_uncons hm; clear hm; obtain ⟨v3, l1_0, rfl, hm⟩ := hq
  have hq := ll_uncons hm; clear hm; obtain ⟨v4, l1_1, rfl, hm⟩ := hq
  have hq := ll_end hm; clear hm; obtain ⟨rfl, hm⟩ := hq
  have hq := oo_inv hm; clear hm; obtain ⟨x5, h6, hm⟩ := hq
  obtain rfl := toI_some h6
  have hq := oo_inv hm; clear hm; obtain ⟨s7, h8, hm⟩ := hq
  obtain rfl := toSl_some h8
  have hq := oo_inv hm; clear hm; obtain ⟨s9, h10, hm⟩ := hq
  obtain rfl := toSl_some h10
  unfold m3_ at hm
  refine ⟨by simp, ?_⟩
  refine .same (F' := (⟨54, frTr [(0, (.agg ⟨[(.int .i64 x5), (Sl.v 2 s7)]⟩)), (1, (Sl.v 1 s9))] .nil⟩ : Fr)) (H' := (⟨1, objTr [(.cells tab0 true false [])] 0 .nil, true⟩ : AHeap)) (by kernel_rfl) (by kernel_rfl) ?_
  refine .then ?_
  refine .reg (F' := (Fr.puts (⟨54, frTr [(0, (.agg ⟨[(.int .i64 x5), (Sl.v 2 s7)]⟩)), (1, (Sl.v 1 s9))] .nil⟩ : Fr) [(2, (.pointer (some ⟨1, 0, none⟩))), (4, (.bool false))])) (H' := (⟨2, objTr [(.cells tab0 true false []), (.cells [(.int .i64 x5), (Sl.v 2 s7)] false false [])] 0 .nil, true⟩ : AHeap)) (by kernel_rfl) ?_
  refine .ghs (⟨54, frTr [(1, (Sl.v 1 s9)), (2, (.pointer (some ⟨1, 0, none⟩)))] .nil⟩ : Fr) (⟨2, objTr [(.cells tab0 true false []), (.cells [(.int .i64 x5), (Sl.v 2 s7)] false false [])] 0 .nil, true⟩ : AHeap) (.gc [] [false] [.tmp 2 false] [1, 2] (by kernel_rfl) trivial (by kernel_rfl)) ?_
  refine .then ?_
  refine .then ?_
  have hq := oo_inv hm; clear hm; obtain ⟨v11, h12, hm⟩ := hq
  have hq := oo_inv hm; clear hm; obtain ⟨b13, h14, hm⟩ := hq
  obtain rfl := vBool_some h14
  refine .reg (F' := (Fr.puts (⟨54, frTr [(1, (Sl.v 1 s9)), (2, (.pointer (some ⟨1, 0, none⟩)))] .nil⟩ : Fr) [(10, (.agg ⟨[(.int .i64 x5), (Sl.v 2 s7)]⟩)), (11, (Sl.v 1 s9)), (12, (.bool b13))])) (H' := (⟨2, objTr [(.cells tab0 true false []), (.cells [(.int .i64 x5), (Sl.v 2 s7)] false false [])] 0 .nil, true⟩ : AHeap)) (evOps_cut 2 (by kernel_rfl) (evOps_data ((oo (pu 4 [(.agg ⟨[(.int .i64 x5), (Sl.v 2 s7)]⟩), (Sl.v 1 s9)]) none fun v => some (v, (⟨2, objTr [(.cells tab0 true false []), (.cells [(.int .i64 x5), (Sl.v 2 s7)] false false [])] 0 .nil, true⟩ : AHeap)))) (by kernel_rfl) (call_eq h12) (okAt_of (by kernel_rfl) (by kernel_rfl)) (by kernel_rfl))) ?_
  refine .ghs (⟨54, frTr [(1, (Sl.v 1 s9)), (2, (.pointer (some ⟨1, 0, none⟩))), (12, (.bool b13))] .nil⟩ : Fr) (⟨2, objTr [(.cells tab0 true false []), (.cells [(.int .i64 x5), (Sl.v 2 s7)] false false [])] 0 .nil, true⟩ : AHeap) (.gc [] [false] [.tmp 2 false] [1, 2, 12] (by kernel_rfl) trivial (by kernel_rfl)) ?_
  have hq := bb_cases hm; clear hm; rcases hq with ⟨h15, hm⟩ | ⟨h15, hm⟩
  · refine .ifT b13 (by kernel_rfl) h15 ?_
    refine .then ?_
    have hq := oo_inv hm; clear hm; obtain ⟨v16, h17, hm⟩ := hq
    have hq := oo_inv hm; clear hm; obtain ⟨b18, h19, hm⟩ := hq
    obtain rfl := vBool_some h19
    refine .reg (F' := (Fr.puts (⟨54, frTr [(1, (Sl.v 1 s9)), (2, (.pointer (some ⟨1, 0, none⟩))), (12, (.bool b13))] .nil⟩ : Fr) [(13, (.bool b18)), (4, (.bool b18))])) (H' := (⟨2, objTr [(.cells tab0 true false []), (.cells [(.int .i64 x5), (Sl.v 2 s7)] false false [])] 0 .nil, true⟩ : AHeap)) (evOps_data ((oo (pu 5 []) none fun v => some (v, (⟨2, objTr [(.cells tab0 true false []), (.cells [(.int .i64 x5), (Sl.v 2 s7)] false false [])] 0 .nil, true⟩ : AHeap)))) (by kernel_rfl) (call_eq h17) (okAt_of (by kernel_rfl) (by kernel_rfl)) (by kernel_rfl)) ?_
    refine .ghs (⟨54, frTr [(4, (.bool b18))] .nil⟩ : Fr) (⟨1, objTr [(.cells tab0 true false [])] 0 .nil, true⟩ : AHeap) (.gc [] [false] [] [4] (by kernel_rfl) trivial (by kernel_rfl)) ?_
    refine .ret ?_
    exact fin_ret (.bool b18) (by kernel_rfl) (by kernel_rfl) hm
  · refine .ifF b13 (by kernel_rfl) h15 ?_
    refine .skip ?_
    refine .ghs (⟨54, frTr [(1, (Sl.v 1 s9)), (2, (.pointer (some ⟨1, 0, none⟩)))] .nil⟩ : Fr) (⟨2, objTr [(.cells tab0 true false []), (.cells [(.int .i64 x5), (Sl.v 2 s7)] false false [])] 0 .nil, true⟩ : AHeap) (.gc [] [false] [.tmp 2 false] [1, 2] (by kernel_rfl) trivial (by kernel_rfl)) ?_
    refine .then ?_
    refine .reg (F' := (Fr.puts (⟨54, frTr [(1, (Sl.v 1 s9)), (2, (.pointer (some ⟨1, 0, none⟩)))] .nil⟩ : Fr) [(14, (.agg ⟨[(.int .i64 x5), (Sl.v 2 s7)]⟩)), (5, (.pointer (some ⟨2, 0, none⟩)))])) (H' := (⟨3, objTr [(.cells tab0 true false []), (.cells [(.int .i64 x5), (Sl.v 2 s7)] false false []), (.cells [(.int .i64 x5), (Sl.v 2 s7)] false false [])] 0 .nil, true⟩ : AHeap)) (by kernel_rfl) ?_
    refine .ghs (⟨54, frTr [(1, (Sl.v 1 s9)), (2, (.pointer (some ⟨1, 0, none⟩))), (5, (.pointer (some ⟨2, 0, none⟩)))] .nil⟩ : Fr) (⟨3, objTr [(.cells tab0 true false []), (.cells [(.int .i64 x5), (Sl.v 2 s7)] false false []), (.cells [(.int .i64 x5), (Sl.v 2 s7)] false false [])] 0 .nil, true⟩ : AHeap) (.gc [] [false] [.tmp 2 false, .tmp 5 false] [1, 2, 5] (by kernel_rfl) trivial (by kernel_rfl)) ?_
    refine .then ?_
    have hq := oo_inv hm; clear hm; obtain ⟨v20, h21, hm⟩ := hq
    have hq := oo_inv hm; clear hm; obtain ⟨l22, h23, hm⟩ := hq
    obtain rfl := vTup_some h23
    have hq := ll_uncons hm; clear hm; obtain ⟨v24, l22_0, rfl, hm⟩ := hq
    have hq := ll_uncons hm; clear hm; obtain ⟨v25, l22_1, rfl, hm⟩ := hq
    have hq := ll_end hm; clear hm; obtain ⟨rfl, hm⟩ := hq
    have hq := oo_inv hm; clear hm; obtain ⟨s26, h27, hm⟩ := hq
    obtain rfl := toSl_some h27
    have hq := oo_inv hm; clear hm; obtain ⟨x28, h29, hm⟩ := hq
    obtain rfl := toI_some h29
    refine .reg (F' := (Fr.puts (⟨54, frTr [(1, (Sl.v 1 s9)), (2, (.pointer (some ⟨1, 0, none⟩))), (5, (.pointer (some ⟨2, 0, none⟩)))] .nil⟩ : Fr) [(16, (.agg ⟨[(.int .i64 x5), (Sl.v 2 s7)]⟩)), (17, (Sl.v 1 s9)), (18, (.tuple ⟨[(Sl.v 1 s26), (.int .i64 x28)]⟩)), (15, (.tuple ⟨[(Sl.v 1 s26), (.int .i64 x28)]⟩)), (19, (Sl.v 1 s26)), (20, (.int .i64 x28)), (6, (Sl.v 1 s26)), (7, (.int .i64 x28))])) (H' := (⟨3, objTr [(.cells tab0 true false []), (.cells [(.int .i64 x5), (Sl.v 2 s7)] false false []), (.cells [(.int .i64 x5), (Sl.v 2 s7)] false false [])] 0 .nil, true⟩ : AHeap)) (evOps_cut 2 (by kernel_rfl) (evOps_data ((oo (pu 6 [(.agg ⟨[(.int .i64 x5), (Sl.v 2 s7)]⟩), (Sl.v 1 s9)]) none fun v => some (v, (⟨3, objTr [(.cells tab0 true false []), (.cells [(.int .i64 x5), (Sl.v 2 s7)] false false []), (.cells [(.int .i64 x5), (Sl.v 2 s7)] false false [])] 0 .nil, true⟩ : AHeap)))) (by kernel_rfl) (call_eq h21) (okAt_of (by kernel_rfl) (by kernel_rfl)) (by kernel_rfl))) ?_
    refine .ghs (⟨54, frTr [(1, (Sl.v 1 s9)), (2, (.pointer (some ⟨1, 0, none⟩))), (5, (.pointer (some ⟨2, 0, none⟩))), (6, (Sl.v 1 s26)), (7, (.int .i64 x28))] .nil⟩ : Fr) (⟨3, objTr [(.cells tab0 true false []), (.cells [(.int .i64 x5), (Sl.v 2 s7)] false false []), (.cells [(.int .i64 x5), (Sl.v 2 s7)] false false [])] 0 .nil, true⟩ : AHeap) (.gc [] [false] [.tmp 2 false, .tmp 5 false] [1, 2, 5, 6, 7] (by kernel_rfl) trivial (by kernel_rfl)) ?_
    refine .then ?_
    have hq := oo_inv hm; clear hm; obtain ⟨v30, h31, hm⟩ := hq
    have hq := oo_inv hm; clear hm; obtain ⟨l32, h33, hm⟩ := hq
    obtain rfl := vTup_some h33
    have hq := ll_uncons hm; clear hm; obtain ⟨v34, l32_0, rfl, hm⟩ := hq
    have hq := ll_uncons hm; clear hm; obtain ⟨v35, l32_1, rfl, hm⟩ := hq
    have hq := ll_end hm; clear hm; obtain ⟨rfl, hm⟩ := hq
    have hq := oo_inv hm; clear hm; obtain ⟨s36, h37, hm⟩ := hq
    obtain rfl := toSl_some h37
    have hq := oo_inv hm; clear hm; obtain ⟨x38, h39, hm⟩ := hq
    obtain rfl := toI_some h39
    refine .reg (F' := (Fr.puts (⟨54, frTr [(1, (Sl.v 1 s9)), (2, (.pointer (some ⟨1, 0, none⟩))), (5, (.pointer (some ⟨2, 0, none⟩))), (6, (Sl.v 1 s26)), (7, (.int .i64 x28))] .nil⟩ : Fr) [(22, (.agg ⟨[(.int .i64 x5), (Sl.v 2 s7)]⟩)), (23, (Sl.v 1 s9)), (24, (.tuple ⟨[(Sl.v 1 s36), (.int .i64 x38)]⟩)), (21, (.tuple ⟨[(Sl.v 1 s36), (.int .i64 x38)]⟩)), (25, (Sl.v 1 s36)), (26, (.int .i64 x38)), (8, (Sl.v 1 s36)), (9, (.int .i64 x38))])) (H' := (⟨3, objTr [(.cells tab0 true false []), (.cells [(.int .i64 x5), (Sl.v 2 s7)] false false []), (.cells [(.int .i64 x5), (Sl.v 2 s7)] false false [])] 0 .nil, true⟩ : AHeap)) (evOps_cut 2 (by kernel_rfl) (evOps_data ((oo (pu 7 [(.agg ⟨[(.int .i64 x5), (Sl.v 2 s7)]⟩), (Sl.v 1 s9)]) none fun v => some (v, (⟨3, objTr [(.cells tab0 true false []), (.cells [(.int .i64 x5), (Sl.v 2 s7)] false false []), (.cells [(.int .i64 x5), (Sl.v 2 s7)] false false [])] 0 .nil, true⟩ : AHeap)))) (by kernel_rfl) (call_eq h31) (okAt_of (by kernel_rfl) (by kernel_rfl)) (by kernel_rfl))) ?_
    refine .ghs (⟨54, frTr [(1, (Sl.v 1 s9)), (2, (.pointer (some ⟨1, 0, none⟩))), (5, (.pointer (some ⟨2, 0, none⟩))), (6, (Sl.v 1 s26)), (7, (.int .i64 x28)), (8, (Sl.v 1 s36)), (9, (.int .i64 x38))] .nil⟩ : Fr) (⟨3, objTr [(.cells tab0 true false []), (.cells [(.int .i64 x5), (Sl.v 2 s7)] false false []), (.cells [(.int .i64 x5), (Sl.v 2 s7)] false false [])] 0 .nil, true⟩ : AHeap) (.gc [] [false] [.tmp 2 false, .tmp 5 false] [1, 2, 5, 6, 7, 8, 9] (by kernel_rfl) trivial (by kernel_rfl)) ?_
    refine .join (v := v) (fun y : Bool => ((⟨54, frTr [(4, (.bool y))] .nil⟩ : Fr), (⟨1, objTr [(.cells tab0 true false [])] 0 .nil, true⟩ : AHeap))) (fun y => m3_0 pu n y) ?_ ?_
    · rintro b68 hm
      unfold m3_0 at hm
      refine .ret ?_
      exact fin_ret (.bool b68) (by kernel_rfl) (by kernel_rfl) hm
    · skip
      have hq := oo_inv hm; clear hm; obtain ⟨v69, h70, hm⟩ := hq
      have hq := oo_inv hm; clear hm; obtain ⟨b71, h72, hm⟩ := hq
      obtain rfl := vBool_some h72
      have hq := bb_cases hm; clear hm; rcases hq with ⟨h73, hm⟩ | ⟨h73, hm⟩
      · skip
        have hq := bb_cases hm; clear hm; rcases hq with ⟨h74, hm⟩ | ⟨h74, hm⟩
        · skip
          have hq := oo_inv hm; clear hm; obtain ⟨v75, h76, hm⟩ := hq
          have hq := oo_inv hm; clear hm; obtain ⟨x77, h78, hm⟩ := hq
          obtain rfl := toI_some h78
          have hq := oo_inv hm; clear hm; obtain ⟨v79, h80, hm⟩ := hq
          have hq := oo_inv hm; clear hm; obtain ⟨x81, h82, hm⟩ := hq
          obtain rfl := toI_some h82
          have hq := bb_cases hm; clear hm; rcases hq with ⟨h83, hm⟩ | ⟨h83, hm⟩
          · skip
            have hq := oo_inv hm; clear hm; obtain ⟨v84, h85, hm⟩ := hq
            have hq := oo_inv hm; clear hm; obtain ⟨x86, h87, hm⟩ := hq
            obtain rfl := toI_some h87
            have hq := oo_inv hm; clear hm; obtain ⟨v88, h89, hm⟩ := hq
            have hq := oo_inv hm; clear hm; obtain ⟨x90, h91, hm⟩ := hq
            obtain rfl := toI_some h91
            have hq := bb_cases hm; clear hm; rcases hq with ⟨h92, hm⟩ | ⟨h92, hm⟩
            · skip
              have hq := oo_inv hm; clear hm; obtain ⟨v93, h94, hm⟩ := hq
              have hq := oo_inv hm; clear hm; obtain ⟨b95, h96, hm⟩ := hq
              obtain rfl := vBool_some h96
              refine .reg (F' := (Fr.puts (⟨54, frTr [(1, (Sl.v 1 s9)), (2, (.pointer (some ⟨1, 0, none⟩))), (5, (.pointer (some ⟨2, 0, none⟩))), (6, (Sl.v 1 s26)), (7, (.int .i64 x28)), (8, (Sl.v 1 s36)), (9, (.int .i64 x38))] .nil⟩ : Fr) [(27, (Sl.v 1 s26)), (28, (Sl.v 1 s36)), (29, (.bool true)), (30, (.bool true)), (31, (.int .i64 x28)), (32, (.int .i64 x38)), (33, (.bool true)), (34, (.bool true)), (35, (.bool true)), (36, (.agg ⟨[(.int .i64 x5), (Sl.v 2 s7)]⟩)), (38, (.agg ⟨[(.int .i64 x5), (Sl.v 2 s7)]⟩)), (37, (.int .i64 x77)), (39, (.int .i64 x81)), (40, (.bool true)), (41, (.bool true)), (42, (.bool true)), (43, (.agg ⟨[(.int .i64 x5), (Sl.v 2 s7)]⟩)), (44, (Sl.v 1 s9)), (46, (.agg ⟨[(.int .i64 x5), (Sl.v 2 s7)]⟩)), (47, (Sl.v 1 s9)), (45, (.int .i64 x86)), (48, (.int .i64 x90)), (49, (.bool true)), (50, (.bool true)), (51, (.bool true)), (52, (.bool b95)), (53, (.bool b95)), (4, (.bool b95))])) (H' := (⟨3, objTr [(.cells tab0 true false []), (.cells [(.int .i64 x5), (Sl.v 2 s7)] false false []), (.cells [(.int .i64 x5), (Sl.v 2 s7)] false false [])] 0 .nil, true⟩ : AHeap)) (evOps_cut 2 (by kernel_rfl) (evOps_data ((oo (pu 8 [(Sl.v 1 s26), (Sl.v 1 s36)]) none fun v => some (v, (⟨3, objTr [(.cells tab0 true false []), (.cells [(.int .i64 x5), (Sl.v 2 s7)] false false []), (.cells [(.int .i64 x5), (Sl.v 2 s7)] false false [])] 0 .nil, true⟩ : AHeap)))) (by kernel_rfl) (show _ = some ((.bool true), _) from (by have hz : (oo (pu 8 [(Sl.v 1 s26), (Sl.v 1 s36)]) none fun v => some (v, (⟨3, objTr [(.cells tab0 true false []), (.cells [(.int .i64 x5), (Sl.v 2 s7)] false false []), (.cells [(.int .i64 x5), (Sl.v 2 s7)] false false [])] 0 .nil, true⟩ : AHeap))) = some ((.bool b71), (⟨3, objTr [(.cells tab0 true false []), (.cells [(.int .i64 x5), (Sl.v 2 s7)] false false []), (.cells [(.int .i64 x5), (Sl.v 2 s7)] false false [])] 0 .nil, true⟩ : AHeap)) := (call_eq h70); rw [h73] at hz; exact hz)) (okAt_of (by kernel_rfl) (by kernel_rfl)) (evOps_cut 3 (by kernel_rfl) (evOps_data (some ((.bool (ieq x28 x38)), (⟨3, objTr [(.cells tab0 true false []), (.cells [(.int .i64 x5), (Sl.v 2 s7)] false false []), (.cells [(.int .i64 x5), (Sl.v 2 s7)] false false [])] 0 .nil, true⟩ : AHeap))) (by kernel_rfl) (show _ = some ((.bool true), _) from (by rw [h74])) (okAt_of (by kernel_rfl) (by kernel_rfl)) (evOps_cut 4 (by kernel_rfl) (evOps_data ((oo (pu 9 [(.agg ⟨[(.int .i64 x5), (Sl.v 2 s7)]⟩)]) none fun v => some (v, (⟨3, objTr [(.cells tab0 true false []), (.cells [(.int .i64 x5), (Sl.v 2 s7)] false false []), (.cells [(.int .i64 x5), (Sl.v 2 s7)] false false [])] 0 .nil, true⟩ : AHeap)))) (by kernel_rfl) (call_eq h76) (okAt_of (by kernel_rfl) (by kernel_rfl)) (evOps_data ((oo (pu 10 [(.agg ⟨[(.int .i64 x5), (Sl.v 2 s7)]⟩)]) none fun v => some (v, (⟨3, objTr [(.cells tab0 true false []), (.cells [(.int .i64 x5), (Sl.v 2 s7)] false false []), (.cells [(.int .i64 x5), (Sl.v 2 s7)] false false [])] 0 .nil, true⟩ : AHeap)))) (by kernel_rfl) (call_eq h80) (okAt_of (by kernel_rfl) (by kernel_rfl)) (evOps_data (some ((.bool (ieq x77 x81)), (⟨3, objTr [(.cells tab0 true false []), (.cells [(.int .i64 x5), (Sl.v 2 s7)] false false []), (.cells [(.int .i64 x5), (Sl.v 2 s7)] false false [])] 0 .nil, true⟩ : AHeap))) (by kernel_rfl) (show _ = some ((.bool true), _) from (by rw [h83])) (okAt_of (by kernel_rfl) (by kernel_rfl)) (evOps_cut 6 (by kernel_rfl) (evOps_data ((oo (pu 11 [(.agg ⟨[(.int .i64 x5), (Sl.v 2 s7)]⟩), (Sl.v 1 s9)]) none fun v => some (v, (⟨3, objTr [(.cells tab0 true false []), (.cells [(.int .i64 x5), (Sl.v 2 s7)] false false []), (.cells [(.int .i64 x5), (Sl.v 2 s7)] false false [])] 0 .nil, true⟩ : AHeap)))) (by kernel_rfl) (call_eq h85) (okAt_of (by kernel_rfl) (by kernel_rfl)) (evOps_data ((oo (pu 12 [(.agg ⟨[(.int .i64 x5), (Sl.v 2 s7)]⟩), (Sl.v 1 s9)]) none fun v => some (v, (⟨3, objTr [(.cells tab0 true false []), (.cells [(.int .i64 x5), (Sl.v 2 s7)] false false []), (.cells [(.int .i64 x5), (Sl.v 2 s7)] false false [])] 0 .nil, true⟩ : AHeap)))) (by kernel_rfl) (call_eq h89) (okAt_of (by kernel_rfl) (by kernel_rfl)) (evOps_data (some ((.bool (ieq x86 x90)), (⟨3, objTr [(.cells tab0 true false []), (.cells [(.int .i64 x5), (Sl.v 2 s7)] false false []), (.cells [(.int .i64 x5), (Sl.v 2 s7)] false false [])] 0 .nil, true⟩ : AHeap))) (by kernel_rfl) (show _ = some ((.bool true), _) from (by rw [h92])) (okAt_of (by kernel_rfl) (by kernel_rfl)) (evOps_cut 2 (by kernel_rfl) (evOps_data ((oo (pu 5 []) none fun v => some (v, (⟨3, objTr [(.cells tab0 true false []), (.cells [(.int .i64 x5), (Sl.v 2 s7)] false false []), (.cells [(.int .i64 x5), (Sl.v 2 s7)] false false [])] 0 .nil, true⟩ : AHeap)))) (by kernel_rfl) (call_eq h94) (okAt_of (by kernel_rfl) (by kernel_rfl)) (by kernel_rfl))))))))))))))) ?_
              exact ⟨b95, hm, (.gc [] [false] [] [4] (by kernel_rfl) trivial (by kernel_rfl))⟩
            · skip
              refine .reg (F' := (Fr.puts (⟨54, frTr [(1, (Sl.v 1 s9)), (2, (.pointer (some ⟨1, 0, none⟩))), (5, (.pointer (some ⟨2, 0, none⟩))), (6, (Sl.v 1 s26)), (7, (.int .i64 x28)), (8, (Sl.v 1 s36)), (9, (.int .i64 x38))] .nil⟩ : Fr) [(27, (Sl.v 1 s26)), (28, (Sl.v 1 s36)), (29, (.bool true)), (30, (.bool true)), (31, (.int .i64 x28)), (32, (.int .i64 x38)), (33, (.bool true)), (34, (.bool true)), (35, (.bool true)), (36, (.agg ⟨[(.int .i64 x5), (Sl.v 2 s7)]⟩)), (38, (.agg ⟨[(.int .i64 x5), (Sl.v 2 s7)]⟩)), (37, (.int .i64 x77)), (39, (.int .i64 x81)), (40, (.bool true)), (41, (.bool true)), (42, (.bool true)), (43, (.agg ⟨[(.int .i64 x5), (Sl.v 2 s7)]⟩)), (44, (Sl.v 1 s9)), (46, (.agg ⟨[(.int .i64 x5), (Sl.v 2 s7)]⟩)), (47, (Sl.v 1 s9)), (45, (.int .i64 x86)), (48, (.int .i64 x90)), (49, (.bool false)), (50, (.bool false)), (51, (.bool false)), (52, (.tuple ⟨[]⟩)), (53, (.bool false)), (4, (.bool false))])) (H' := (⟨3, objTr [(.cells tab0 true false []), (.cells [(.int .i64 x5), (Sl.v 2 s7)] false false []), (.cells [(.int .i64 x5), (Sl.v 2 s7)] false false [])] 0 .nil, true⟩ : AHeap)) (evOps_cut 2 (by kernel_rfl) (evOps_data ((oo (pu 8 [(Sl.v 1 s26), (Sl.v 1 s36)]) none fun v => some (v, (⟨3, objTr [(.cells tab0 true false []), (.cells [(.int .i64 x5), (Sl.v 2 s7)] false false []), (.cells [(.int .i64 x5), (Sl.v 2 s7)] false false [])] 0 .nil, true⟩ : AHeap)))) (by kernel_rfl) (show _ = some ((.bool true), _) from (by have hz : (oo (pu 8 [(Sl.v 1 s26), (Sl.v 1 s36)]) none fun v => some (v, (⟨3, objTr [(.cells tab0 true false []), (.cells [(.int .i64 x5), (Sl.v 2 s7)] false false []), (.cells [(.int .i64 x5), (Sl.v 2 s7)] false false [])] 0 .nil, true⟩ : AHeap))) = some ((.bool b71), (⟨3, objTr [(.cells tab0 true false []), (.cells [(.int .i64 x5), (Sl.v 2 s7)] false false []), (.cells [(.int .i64 x5), (Sl.v 2 s7)] false false [])] 0 .nil, true⟩ : AHeap)) := (call_eq h70); rw [h73] at hz; exact hz)) (okAt_of (by kernel_rfl) (by kernel_rfl)) (evOps_cut 3 (by kernel_rfl) (evOps_data (some ((.bool (ieq x28 x38)), (⟨3, objTr [(.cells tab0 true false []), (.cells [(.int .i64 x5), (Sl.v 2 s7)] false false []), (.cells [(.int .i64 x5), (Sl.v 2 s7)] false false [])] 0 .nil, true⟩ : AHeap))) (by kernel_rfl) (show _ = some ((.bool true), _) from (by rw [h74])) (okAt_of (by kernel_rfl) (by kernel_rfl)) (evOps_cut 4 (by kernel_rfl) (evOps_data ((oo (pu 9 [(.agg ⟨[(.int .i64 x5), (Sl.v 2 s7)]⟩)]) none fun v => some (v, (⟨3, objTr [(.cells tab0 true false []), (.cells [(.int .i64 x5), (Sl.v 2 s7)] false false []), (.cells [(.int .i64 x5), (Sl.v 2 s7)] false false [])] 0 .nil, true⟩ : AHeap)))) (by kernel_rfl) (call_eq h76) (okAt_of (by kernel_rfl) (by kernel_rfl)) (evOps_data ((oo (pu 10 [(.agg ⟨[(.int .i64 x5), (Sl.v 2 s7)]⟩)]) none fun v => some (v, (⟨3, objTr [(.cells tab0 true false []), (.cells [(.int .i64 x5), (Sl.v 2 s7)] false false []), (.cells [(.int .i64 x5), (Sl.v 2 s7)] false false [])] 0 .nil, true⟩ : AHeap)))) (by kernel_rfl) (call_eq h80) (okAt_of (by kernel_rfl) (by kernel_rfl)) (evOps_data (some ((.bool (ieq x77 x81)), (⟨3, objTr [(.cells tab0 true false []), (.cells [(.int .i64 x5), (Sl.v 2 s7)] false false []), (.cells [(.int .i64 x5), (Sl.v 2 s7)] false false [])] 0 .nil, true⟩ : AHeap))) (by kernel_rfl) (show _ = some ((.bool true), _) from (by rw [h83])) (okAt_of (by kernel_rfl) (by kernel_rfl)) (evOps_cut 6 (by kernel_rfl) (evOps_data ((oo (pu 11 [(.agg ⟨[(.int .i64 x5), (Sl.v 2 s7)]⟩), (Sl.v 1 s9)]) none fun v => some (v, (⟨3, objTr [(.cells tab0 true false []), (.cells [(.int .i64 x5), (Sl.v 2 s7)] false false []), (.cells [(.int .i64 x5), (Sl.v 2 s7)] false false [])] 0 .nil, true⟩ : AHeap)))) (by kernel_rfl) (call_eq h85) (okAt_of (by kernel_rfl) (by kernel_rfl)) (evOps_data ((oo (pu 12 [(.agg ⟨[(.int .i64 x5), (Sl.v 2 s7)]⟩), (Sl.v 1 s9)]) none fun v => some (v, (⟨3, objTr [(.cells tab0 true false []), (.cells [(.int .i64 x5), (Sl.v 2 s7)] false false []), (.cells [(.int .i64 x5), (Sl.v 2 s7)] false false [])] 0 .nil, true⟩ : AHeap)))) (by kernel_rfl) (call_eq h89) (okAt_of (by kernel_rfl) (by kernel_rfl)) (evOps_data (some ((.bool (ieq x86 x90)), (⟨3, objTr [(.cells tab0 true false []), (.cells [(.int .i64 x5), (Sl.v 2 s7)] false false []), (.cells [(.int .i64 x5), (Sl.v 2 s7)] false false [])] 0 .nil, true⟩ : AHeap))) (by kernel_rfl) (show _ = some ((.bool false), _) from (by rw [h92])) (okAt_of (by kernel_rfl) (by kernel_rfl)) (by kernel_rfl))))))))))))) ?_
              exact ⟨false, hm, (.gc [] [false] [] [4] (by kernel_rfl) trivial (by kernel_rfl))⟩
          · skip
            refine .reg (F' := (Fr.puts (⟨54, frTr [(1, (Sl.v 1 s9)), (2, (.pointer (some ⟨1, 0, none⟩))), (5, (.pointer (some ⟨2, 0, none⟩))), (6, (Sl.v 1 s26)), (7, (.int .i64 x28)), (8, (Sl.v 1 s36)), (9, (.int .i64 x38))] .nil⟩ : Fr) [(27, (Sl.v 1 s26)), (28, (Sl.v 1 s36)), (29, (.bool true)), (30, (.bool true)), (31, (.int .i64 x28)), (32, (.int .i64 x38)), (33, (.bool true)), (34, (.bool true)), (35, (.bool true)), (36, (.agg ⟨[(.int .i64 x5), (Sl.v 2 s7)]⟩)), (38, (.agg ⟨[(.int .i64 x5), (Sl.v 2 s7)]⟩)), (37, (.int .i64 x77)), (39, (.int .i64 x81)), (40, (.bool false)), (41, (.bool false)), (42, (.bool false)), (43, (.tuple ⟨[]⟩)), (44, (.tuple ⟨[]⟩)), (46, (.tuple ⟨[]⟩)), (47, (.tuple ⟨[]⟩)), (45, (.tuple ⟨[]⟩)), (48, (.tuple ⟨[]⟩)), (49, (.tuple ⟨[]⟩)), (50, (.bool false)), (51, (.bool false)), (52, (.tuple ⟨[]⟩)), (53, (.bool false)), (4, (.bool false))])) (H' := (⟨3, objTr [(.cells tab0 true false []), (.cells [(.int .i64 x5), (Sl.v 2 s7)] false false []), (.cells [(.int .i64 x5), (Sl.v 2 s7)] false false [])] 0 .nil, true⟩ : AHeap)) (evOps_cut 2 (by kernel_rfl) (evOps_data ((oo (pu 8 [(Sl.v 1 s26), (Sl.v 1 s36)]) none fun v => some (v, (⟨3, objTr [(.cells tab0 true false []), (.cells [(.int .i64 x5), (Sl.v 2 s7)] false false []), (.cells [(.int .i64 x5), (Sl.v 2 s7)] false false [])] 0 .nil, true⟩ : AHeap)))) (by kernel_rfl) (show _ = some ((.bool true), _) from (by have hz : (oo (pu 8 [(Sl.v 1 s26), (Sl.v 1 s36)]) none fun v => some (v, (⟨3, objTr [(.cells tab0 true false []), (.cells [(.int .i64 x5), (Sl.v 2 s7)] false false []), (.cells [(.int .i64 x5), (Sl.v 2 s7)] false false [])] 0 .nil, true⟩ : AHeap))) = some ((.bool b71), (⟨3, objTr [(.cells tab0 true false []), (.cells [(.int .i64 x5), (Sl.v 2 s7)] false false []), (.cells [(.int .i64 x5), (Sl.v 2 s7)] false false [])] 0 .nil, true⟩ : AHeap)) := (call_eq h70); rw [h73] at hz; exact hz)) (okAt_of (by kernel_rfl) (by kernel_rfl)) (evOps_cut 3 (by kernel_rfl) (evOps_data (some ((.bool (ieq x28 x38)), (⟨3, objTr [(.cells tab0 true false []), (.cells [(.int .i64 x5), (Sl.v 2 s7)] false false []), (.cells [(.int .i64 x5), (Sl.v 2 s7)] false false [])] 0 .nil, true⟩ : AHeap))) (by kernel_rfl) (show _ = some ((.bool true), _) from (by rw [h74])) (okAt_of (by kernel_rfl) (by kernel_rfl)) (evOps_cut 4 (by kernel_rfl) (evOps_data ((oo (pu 9 [(.agg ⟨[(.int .i64 x5), (Sl.v 2 s7)]⟩)]) none fun v => some (v, (⟨3, objTr [(.cells tab0 true false []), (.cells [(.int .i64 x5), (Sl.v 2 s7)] false false []), (.cells [(.int .i64 x5), (Sl.v 2 s7)] false false [])] 0 .nil, true⟩ : AHeap)))) (by kernel_rfl) (call_eq h76) (okAt_of (by kernel_rfl) (by kernel_rfl)) (evOps_data ((oo (pu 10 [(.agg ⟨[(.int .i64 x5), (Sl.v 2 s7)]⟩)]) none fun v => some (v, (⟨3, objTr [(.cells tab0 true false []), (.cells [(.int .i64 x5), (Sl.v 2 s7)] false false []), (.cells [(.int .i64 x5), (Sl.v 2 s7)] false false [])] 0 .nil, true⟩ : AHeap)))) (by kernel_rfl) (call_eq h80) (okAt_of (by kernel_rfl) (by kernel_rfl)) (evOps_data (some ((.bool (ieq x77 x81)), (⟨3, objTr [(.cells tab0 true false []), (.cells [(.int .i64 x5), (Sl.v 2 s7)] false false []), (.cells [(.int .i64 x5), (Sl.v 2 s7)] false false [])] 0 .nil, true⟩ : AHeap))) (by kernel_rfl) (show _ = some ((.bool false), _) from (by rw [h83])) (okAt_of (by kernel_rfl) (by kernel_rfl)) (by kernel_rfl))))))))) ?_
            exact ⟨false, hm, (.gc [] [false] [] [4] (by kernel_rfl) trivial (by kernel_rfl))⟩
        · skip
          refine .reg (F' := (Fr.puts (⟨54, frTr [(1, (Sl.v 1 s9)), (2, (.pointer (some ⟨1, 0, none⟩))), (5, (.pointer (some ⟨2, 0, none⟩))), (6, (Sl.v 1 s26)), (7, (.int .i64 x28)), (8, (Sl.v 1 s36)), (9, (.int .i64 x38))] .nil⟩ : Fr) [(27, (Sl.v 1 s26)), (28, (Sl.v 1 s36)), (29, (.bool true)), (30, (.bool true)), (31, (.int .i64 x28)), (32, (.int .i64 x38)), (33, (.bool false)), (34, (.bool false)), (35, (.bool false)), (36, (.tuple ⟨[]⟩)), (38, (.tuple ⟨[]⟩)), (37, (.tuple ⟨[]⟩)), (39, (.tuple ⟨[]⟩)), (40, (.tuple ⟨[]⟩)), (41, (.bool false)), (42, (.bool false)), (43, (.tuple ⟨[]⟩)), (44, (.tuple ⟨[]⟩)), (46, (.tuple ⟨[]⟩)), (47, (.tuple ⟨[]⟩)), (45, (.tuple ⟨[]⟩)), (48, (.tuple ⟨[]⟩)), (49, (.tuple ⟨[]⟩)), (50, (.bool false)), (51, (.bool false)), (52, (.tuple ⟨[]⟩)), (53, (.bool false)), (4, (.bool false))])) (H' := (⟨3, objTr [(.cells tab0 true false []), (.cells [(.int .i64 x5), (Sl.v 2 s7)] false false []), (.cells [(.int .i64 x5), (Sl.v 2 s7)] false false [])] 0 .nil, true⟩ : AHeap)) (evOps_cut 2 (by kernel_rfl) (evOps_data ((oo (pu 8 [(Sl.v 1 s26), (Sl.v 1 s36)]) none fun v => some (v, (⟨3, objTr [(.cells tab0 true false []), (.cells [(.int .i64 x5), (Sl.v 2 s7)] false false []), (.cells [(.int .i64 x5), (Sl.v 2 s7)] false false [])] 0 .nil, true⟩ : AHeap)))) (by kernel_rfl) (show _ = some ((.bool true), _) from (by have hz : (oo (pu 8 [(Sl.v 1 s26), (Sl.v 1 s36)]) none fun v => some (v, (⟨3, objTr [(.cells tab0 true false []), (.cells [(.int .i64 x5), (Sl.v 2 s7)] false false []), (.cells [(.int .i64 x5), (Sl.v 2 s7)] false false [])] 0 .nil, true⟩ : AHeap))) = some ((.bool b71), (⟨3, objTr [(.cells tab0 true false []), (.cells [(.int .i64 x5), (Sl.v 2 s7)] false false []), (.cells [(.int .i64 x5), (Sl.v 2 s7)] false false [])] 0 .nil, true⟩ : AHeap)) := (call_eq h70); rw [h73] at hz; exact hz)) (okAt_of (by kernel_rfl) (by kernel_rfl)) (evOps_cut 3 (by kernel_rfl) (evOps_data (some ((.bool (ieq x28 x38)), (⟨3, objTr [(.cells tab0 true false []), (.cells [(.int .i64 x5), (Sl.v 2 s7)] false false []), (.cells [(.int .i64 x5), (Sl.v 2 s7)] false false [])] 0 .nil, true⟩ : AHeap))) (by kernel_rfl) (show _ = some ((.bool false), _) from (by rw [h74])) (okAt_of (by kernel_rfl) (by kernel_rfl)) (by kernel_rfl))))) ?_
          exact ⟨false, hm, (.gc [] [false] [] [4] (by kernel_rfl) trivial (by kernel_rfl))⟩
      · skip
        refine .reg (F' := (Fr.puts (⟨54, frTr [(1, (Sl.v 1 s9)), (2, (.pointer (some ⟨1, 0, none⟩))), (5, (.pointer (some ⟨2, 0, none⟩))), (6, (Sl.v 1 s26)), (7, (.int .i64 x28)), (8, (Sl.v 1 s36)), (9, (.int .i64 x38))] .nil⟩ : Fr) [(27, (Sl.v 1 s26)), (28, (Sl.v 1 s36)), (29, (.bool false)), (30, (.bool false)), (31, (.tuple ⟨[]⟩)), (32, (.tuple ⟨[]⟩)), (33, (.tuple ⟨[]⟩)), (34, (.bool false)), (35, (.bool false)), (36, (.tuple ⟨[]⟩)), (38, (.tuple ⟨[]⟩)), (37, (.tuple ⟨[]⟩)), (39, (.tuple ⟨[]⟩)), (40, (.tuple ⟨[]⟩)), (41, (.bool false)), (42, (.bool false)), (43, (.tuple ⟨[]⟩)), (44, (.tuple ⟨[]⟩)), (46, (.tuple ⟨[]⟩)), (47, (.tuple ⟨[]⟩)), (45, (.tuple ⟨[]⟩)), (48, (.tuple ⟨[]⟩)), (49, (.tuple ⟨[]⟩)), (50, (.bool false)), (51, (.bool false)), (52, (.tuple ⟨[]⟩)), (53, (.bool false)), (4, (.bool false))])) (H' := (⟨3, objTr [(.cells tab0 true false []), (.cells [(.int .i64 x5), (Sl.v 2 s7)] false false []), (.cells [(.int .i64 x5), (Sl.v 2 s7)] false false [])] 0 .nil, true⟩ : AHeap)) (evOps_cut 2 (by kernel_rfl) (evOps_data ((oo (pu 8 [(Sl.v 1 s26), (Sl.v 1 s36)]) none fun v => some (v, (⟨3, objTr [(.cells tab0 true false []), (.cells [(.int .i64 x5), (Sl.v 2 s7)] false false []), (.cells [(.int .i64 x5), (Sl.v 2 s7)] false false [])] 0 .nil, true⟩ : AHeap)))) (by kernel_rfl) (show _ = some ((.bool false), _) from (by have hz : (oo (pu 8 [(Sl.v 1 s26), (Sl.v 1 s36)]) none fun v => some (v, (⟨3, objTr [(.cells tab0 true false []), (.cells [(.int .i64 x5), (Sl.v 2 s7)] false false []), (.cells [(.int .i64 x5), (Sl.v 2 s7)] false false [])] 0 .nil, true⟩ : AHeap))) = some ((.bool b71), (⟨3, objTr [(.cells tab0 true false []), (.cells [(.int .i64 x5), (Sl.v 2 s7)] false false []), (.cells [(.int .i64 x5), (Sl.v 2 s7)] false false [])] 0 .nil, true⟩ : AHeap)) := (call_eq h70); rw [h73] at hz; exact hz)) (okAt_of (by kernel_rfl) (by kernel_rfl)) (by kernel_rfl))) ?_
        exact ⟨false, hm, (.gc [] [false] [] [4] (by kernel_rfl) trivial (by kernel_rfl))⟩
/-- spadille/spadillelaw07.large -/
def o4_0 : List ROp := [
  ⟨(some 2), .box 24 (.tmp 0), 0, none, []⟩,
  ⟨(some 4), .assign (.const (.bool false)), 4, none, []⟩]
def c4_0 : RC := .reg [] o4_0
def o4_1 : List ROp := [
  ⟨(some 5), .fieldAddr 24 (.tmp 2) 1, 0, none, []⟩,
  ⟨(some 6), .load 22 (.tmp 5), 22, none, []⟩,
  ⟨(some 7), .call ⟨.builtin .len, #[(.tmp 6)], #[22]⟩, 3, none, []⟩,
  ⟨(some 8), .binOp .gtr 3 (.tmp 7) (.const (.int .i64 60)) 3, 4, none, []⟩,
  ⟨(some 9), .move (.tmp 8), 4, none, []⟩,
  ⟨(some 10), .move (.tmp 1), 25, (some ((some 9), false)), []⟩,
  ⟨(some 11), .call ⟨.builtin .len, #[(.tmp 10)], #[25]⟩, 3, (some ((some 9), false)), []⟩,
  ⟨(some 12), .binOp .gtr 3 (.tmp 11) (.const (.int .i64 40)) 3, 4, (some ((some 9), false)), []⟩,
  ⟨(some 13), .pick (.tmp 9) (.const (.bool true)) (.tmp 12), 4, none, []⟩,
  ⟨(some 4), .assign (.tmp 13), 4, none, []⟩]
def c4_1 : RC := .reg [] o4_1
def c4_2 : RC := .seq c4_1 .ret
def c4_3 : RC := .seq c4_0 c4_2
def m4_0 (pu : PureF) (n : Nat) (b108 : Bool) : Option Value :=
  (some (.bool b108))
def m4_ (pu : PureF) (n : Nat) (x101 : Int) (s103 : Sl) (s105 : Sl) : Option Value :=
  (bb (ilt (60 : Int) (Int.ofNat (Sl.n s103))) (m4_0 pu n true) (m4_0 pu n (ilt (40 : Int) (Int.ofNat (Sl.n s105)))))
def m4 (pu : PureF) (n : Nat) (args : List Value) : Option Value :=
  (ll args none fun a0 args => (ll args none fun a1 args => (ll args (oo (vAgg a0) none fun l97 => (ll l97 none fun v99 l97 => (ll l97 none fun v100 l97 => (ll l97 (oo (toI .i64 v99) none fun x101 => (oo (toSl 2 v100) none fun s103 => (oo (toSl 1 a1) none fun s105 => (m4_ pu n x101 s103 s105)))) fun _ _ => none)))) fun _ _ => none)))
theorem r4 {call : CallF} (pu : PureF) (n : Nat) (hcall : call = callP tabs isP pu inl) {args : List Value} {v : Value} (hm : m4 pu n args = some v) (_ : ∀ x ∈ args, closed2 x = true) : args.length ≤ 14 ∧ Run tt call 1 c4_3 (Fr.made 14 args) (pureHeap tabs) (Fin tt 1 [.tmp 4] v) := by
  subst hcall
  unfold m4 at hm
  have hq := ll_uncons hm; clear hm; obtain ⟨a0, args_0, rfl, hm⟩ := hq
  have hq := ll_uncons hm; clear hm; obtain ⟨a1, args_1, rfl, hm⟩ := hq
  have hq := ll_end hm; clear hm; obtain ⟨rfl, hm⟩ := hq
  have hq := oo_inv hm; clear hm; obtain ⟨l97, h98, hm⟩ := hq
  obtain rfl := vAgg_some h98
  have hq := ll_uncons hm; clear hm; obtain ⟨v99, l97_0, rfl, hm⟩ := hq
  have hq := ll_uncons hm; clear hm; obtain ⟨v100, l97_1, rfl, hm⟩ := hq
  have hq := ll_end hm; clear hm; obtain ⟨rfl, hm⟩ := hq
  have hq := oo_inv hm; clear hm; obtain ⟨x101, h102, hm⟩ := hq
  obtain rfl := toI_some h102
  have hq := oo_inv hm; clear hm; obtain ⟨s103, h104, hm⟩ := hq
  obtain rfl := toSl_some h104
  have hq := oo_inv hm; clear hm; obtain ⟨s105, h106, hm⟩ := hq
  obtain rfl := toSl_some h106
  unfold m4_ at hm
  refine ⟨by simp, ?_⟩
  refine .same (F' := (⟨14, frTr [(0, (.agg ⟨[(.int .i64 x101), (Sl.v 2 s103)]⟩)), (1, (Sl.v 1 s105))] .nil⟩ : Fr)) (H' := (⟨1, objTr [(.cells tab0 true false [])] 0 .nil, true⟩ : AHeap)) (by kernel_rfl) (by kernel_rfl) ?_
  refine .then ?_
  refine .reg (F' := (Fr.puts (⟨14, frTr [(0, (.agg ⟨[(.int .i64 x101), (Sl.v 2 s103)]⟩)), (1, (Sl.v 1 s105))] .nil⟩ : Fr) [(2, (.pointer (some ⟨1, 0, none⟩))), (4, (.bool false))])) (H' := (⟨2, objTr [(.cells tab0 true false []), (.cells [(.int .i64 x101), (Sl.v 2 s103)] false false [])] 0 .nil, true⟩ : AHeap)) (by kernel_rfl) ?_
  refine .ghs (⟨14, frTr [(1, (Sl.v 1 s105)), (2, (.pointer (some ⟨1, 0, none⟩)))] .nil⟩ : Fr) (⟨2, objTr [(.cells tab0 true false []), (.cells [(.int .i64 x101), (Sl.v 2 s103)] false false [])] 0 .nil, true⟩ : AHeap) (.gc [] [false] [.tmp 2 false] [1, 2] (by kernel_rfl) trivial (by kernel_rfl)) ?_
  refine .join (v := v) (fun y : Bool => ((⟨14, frTr [(4, (.bool y))] .nil⟩ : Fr), (⟨1, objTr [(.cells tab0 true false [])] 0 .nil, true⟩ : AHeap))) (fun y => m4_0 pu n y) ?_ ?_
  · rintro b108 hm
    unfold m4_0 at hm
    refine .ret ?_
    exact fin_ret (.bool b108) (by kernel_rfl) (by kernel_rfl) hm
  · skip
    have hq := bb_cases hm; clear hm; rcases hq with ⟨h109, hm⟩ | ⟨h109, hm⟩
    · skip
      refine .reg (F' := (Fr.puts (⟨14, frTr [(1, (Sl.v 1 s105)), (2, (.pointer (some ⟨1, 0, none⟩)))] .nil⟩ : Fr) [(5, (.pointer (some ⟨1, 1, none⟩))), (6, (Sl.v 2 s103)), (7, (.int .i64 (Int.ofNat (Sl.n s103)))), (8, (.bool true)), (9, (.bool true)), (10, (.tuple ⟨[]⟩)), (11, (.tuple ⟨[]⟩)), (12, (.tuple ⟨[]⟩)), (13, (.bool true)), (4, (.bool true))])) (H' := (⟨2, objTr [(.cells tab0 true false []), (.cells [(.int .i64 x101), (Sl.v 2 s103)] false false [])] 0 .nil, true⟩ : AHeap)) (evOps_cut 3 (by kernel_rfl) (evOps_data (some ((.bool (ilt (60 : Int) (Int.ofNat (Sl.n s103)))), (⟨2, objTr [(.cells tab0 true false []), (.cells [(.int .i64 x101), (Sl.v 2 s103)] false false [])] 0 .nil, true⟩ : AHeap))) (by kernel_rfl) (show _ = some ((.bool true), _) from (by rw [h109])) (okAt_of (by kernel_rfl) (by kernel_rfl)) (by kernel_rfl))) ?_
      exact ⟨true, hm, (.gc [] [false] [] [4] (by kernel_rfl) trivial (by kernel_rfl))⟩
    · skip
      refine .reg (F' := (Fr.puts (⟨14, frTr [(1, (Sl.v 1 s105)), (2, (.pointer (some ⟨1, 0, none⟩)))] .nil⟩ : Fr) [(5, (.pointer (some ⟨1, 1, none⟩))), (6, (Sl.v 2 s103)), (7, (.int .i64 (Int.ofNat (Sl.n s103)))), (8, (.bool false)), (9, (.bool false)), (10, (Sl.v 1 s105)), (11, (.int .i64 (Int.ofNat (Sl.n s105)))), (12, (.bool (ilt (40 : Int) (Int.ofNat (Sl.n s105))))), (13, (.bool (ilt (40 : Int) (Int.ofNat (Sl.n s105))))), (4, (.bool (ilt (40 : Int) (Int.ofNat (Sl.n s105)))))])) (H' := (⟨2, objTr [(.cells tab0 true false []), (.cells [(.int .i64 x101), (Sl.v 2 s103)] false false [])] 0 .nil, true⟩ : AHeap)) (evOps_cut 3 (by kernel_rfl) (evOps_data (some ((.bool (ilt (60 : Int) (Int.ofNat (Sl.n s103)))), (⟨2, objTr [(.cells tab0 true false []), (.cells [(.int .i64 x101), (Sl.v 2 s103)] false false [])] 0 .nil, true⟩ : AHeap))) (by kernel_rfl) (show _ = some ((.bool false), _) from (by rw [h109])) (okAt_of (by kernel_rfl) (by kernel_rfl)) (by kernel_rfl))) ?_
      exact ⟨(ilt (40 : Int) (Int.ofNat (Sl.n s105))), hm, (.gc [] [false] [] [4] (by kernel_rfl) trivial (by kernel_rfl))⟩
/-- spadille/table.Run -/
def o6_0 : List ROp := [
  ⟨(some 2), .box 24 (.tmp 0), 0, none, []⟩,
  ⟨(some 4), .assign (.const (.slice none 0 0)), 25, none, []⟩,
  ⟨(some 5), .assign (.const (.int .i64 0)), 29, none, []⟩]
def c6_0 : RC := .reg [] o6_0
def o6_1 : List ROp := [
  ⟨(some 10), .load 24 (.tmp 2), 24, none, []⟩,
  ⟨(some 11), .call ⟨.value (.func 9), #[(.tmp 10)], #[24]⟩, 29, none, []⟩,
  ⟨(some 6), .assign (.tmp 11), 29, none, []⟩]
def c6_1 : RC := .reg [] o6_1
def o6_2 : List ROp := [
  ⟨(some 13), .move (.tmp 6), 29, none, []⟩,
  ⟨(some 14), .binOp .neq 29 (.tmp 13) (.const (.int .i64 0)) 29, 4, none, []⟩,
  ⟨(some 12), .assign (.tmp 14), 4, none, []⟩]
def c6_2 : RC := .reg [] o6_2
def o6_3 : List ROp := [
  ⟨(some 15), .move (.tmp 6), 29, none, []⟩,
  ⟨(some 4), .assign (.const (.slice none 0 0)), 25, none, []⟩,
  ⟨(some 5), .assign (.tmp 15), 29, none, []⟩]
def c6_3 : RC := .reg [] o6_3
def c6_4 : RC := .seq c6_3 .ret
def o6_5 : List ROp := [
  ⟨(some 17), .move (.tmp 1), 25, none, []⟩,
  ⟨(some 18), .call ⟨.builtin .len, #[(.tmp 17)], #[25]⟩, 3, none, []⟩,
  ⟨(some 19), .fieldAddr 24 (.tmp 2) 0, 0, none, []⟩,
  ⟨(some 20), .load 3 (.tmp 19), 3, none, []⟩,
  ⟨(some 21), .binOp .neq 3 (.tmp 18) (.tmp 20) 3, 4, none, []⟩,
  ⟨(some 16), .assign (.tmp 21), 4, none, []⟩]
def c6_5 : RC := .reg [] o6_5
def o6_6 : List ROp := [
  ⟨(some 4), .assign (.const (.slice none 0 0)), 25, none, []⟩,
  ⟨(some 5), .assign (.const (.int .i64 5)), 29, none, []⟩]
def c6_6 : RC := .reg [] o6_6
def c6_7 : RC := .seq c6_6 .ret
def c6_8 : RC := .cond (.tmp 16) c6_7 .skip
def c6_9 : RC := .seq c6_5 c6_8
def c6_10 : RC := .cond (.tmp 12) c6_4 c6_9
def c6_11 : RC := .seq c6_2 c6_10
def c6_12 : RC := .block 0 c6_11
def o6_13 : List ROp := [
  ⟨(some 22), .move (.tmp 1), 25, none, []⟩,
  ⟨(some 23), .call ⟨.value (.func 29), #[(.tmp 22)], #[25]⟩, 25, none, []⟩,
  ⟨(some 7), .assign (.tmp 23), 25, none, []⟩]
def c6_13 : RC := .reg [] o6_13
def o6_14 : List ROp := [
  ⟨(some 24), .fieldAddr 24 (.tmp 2) 1, 0, none, []⟩,
  ⟨(some 25), .load 22 (.tmp 24), 22, none, []⟩,
  ⟨(some 26), .call ⟨.builtin .len, #[(.tmp 25)], #[22]⟩, 3, none, []⟩,
  ⟨(some 27), .move (.const (.int .i64 0)), 3, none, []⟩]
def c6_14 : RC := .reg [] o6_14
def o6_15 : List ROp := [
  ⟨(some 28), .binOp .lss 3 (.tmp 27) (.tmp 26) 3, 0, none, []⟩]
def c6_15 : RC := .reg [] o6_15
def c6_16 : RC := .cond (.tmp 28) .skip (.exit 1)
def o6_17 : List ROp := [
  ⟨(some 29), .indexAddr 22 (.tmp 25) (.tmp 27), 0, none, []⟩,
  ⟨(some 30), .load 55 (.tmp 29), 55, none, []⟩,
  ⟨(some 9), .alloc 55, 0, none, []⟩,
  ⟨none, .store 55 (.tmp 9) (.tmp 30), 0, none, []⟩]
def c6_17 : RC := .reg [] o6_17
def o6_18 : List ROp := [
  ⟨(some 31), .move (.tmp 7), 25, none, []⟩,
  ⟨(some 32), .indexAddr 55 (.tmp 9) (.const (.int .i64 0)), 0, none, []⟩,
  ⟨(some 33), .load 3 (.tmp 32), 3, none, []⟩,
  ⟨(some 34), .move (.tmp 7), 25, none, []⟩,
  ⟨(some 35), .indexAddr 55 (.tmp 9) (.const (.int .i64 1)), 0, none, []⟩,
  ⟨(some 36), .load 3 (.tmp 35), 3, none, []⟩,
  ⟨(some 37), .move (.tmp 7), 25, none, []⟩,
  ⟨(some 38), .indexAddr 55 (.tmp 9) (.const (.int .i64 0)), 0, none, []⟩,
  ⟨(some 39), .load 3 (.tmp 38), 3, none, []⟩,
  ⟨(some 40), .indexAddr 25 (.tmp 37) (.tmp 39), 0, none, []⟩,
  ⟨(some 41), .load 3 (.tmp 40), 3, none, []⟩,
  ⟨(some 42), .move (.tmp 7), 25, none, []⟩,
  ⟨(some 43), .indexAddr 55 (.tmp 9) (.const (.int .i64 1)), 0, none, []⟩,
  ⟨(some 44), .load 3 (.tmp 43), 3, none, []⟩,
  ⟨(some 45), .indexAddr 25 (.tmp 42) (.tmp 44), 0, none, []⟩,
  ⟨(some 46), .load 3 (.tmp 45), 3, none, []⟩,
  ⟨(some 47), .call ⟨.builtin .min, #[(.tmp 41), (.tmp 46)], #[3, 3]⟩, 3, none, []⟩,
  ⟨(some 48), .move (.tmp 7), 25, none, []⟩,
  ⟨(some 49), .indexAddr 55 (.tmp 9) (.const (.int .i64 0)), 0, none, []⟩,
  ⟨(some 50), .load 3 (.tmp 49), 3, none, []⟩,
  ⟨(some 51), .indexAddr 25 (.tmp 48) (.tmp 50), 0, none, []⟩,
  ⟨(some 52), .load 3 (.tmp 51), 3, none, []⟩,
  ⟨(some 53), .move (.tmp 7), 25, none, []⟩,
  ⟨(some 54), .indexAddr 55 (.tmp 9) (.const (.int .i64 1)), 0, none, []⟩,
  ⟨(some 55), .load 3 (.tmp 54), 3, none, []⟩,
  ⟨(some 56), .indexAddr 25 (.tmp 53) (.tmp 55), 0, none, []⟩,
  ⟨(some 57), .load 3 (.tmp 56), 3, none, []⟩,
  ⟨(some 58), .call ⟨.builtin .max, #[(.tmp 52), (.tmp 57)], #[3, 3]⟩, 3, none, []⟩,
  ⟨(some 59), .indexAddr 25 (.tmp 31) (.tmp 33), 0, none, []⟩,
  ⟨none, .store 3 (.tmp 59) (.tmp 47), 0, none, [(.tmp 35)]⟩,
  ⟨(some 60), .indexAddr 25 (.tmp 34) (.tmp 36), 0, none, []⟩,
  ⟨none, .store 3 (.tmp 60) (.tmp 58), 0, none, []⟩]
def c6_18 : RC := .reg [0, 1, 2, 3, 4, 5, 6, 7, 8, 9, 10, 11, 12, 13, 14, 15, 16, 17, 18, 19, 20, 21, 22, 23, 24, 25, 26, 27, 28, 29, 30, 31] o6_18
def c6_19 : RC := .seq c6_17 c6_18
def c6_20 : RC := .block 2 c6_19
def o6_21 : List ROp := [
  ⟨(some 61), .binOp .add 3 (.tmp 27) (.const (.int .i64 1)) 3, 3, none, []⟩,
  ⟨(some 27), .move (.tmp 61), 3, none, []⟩]
def c6_21 : RC := .reg [] o6_21
def c6_22 : RC := .seq c6_20 c6_21
def c6_23 : RC := .seq c6_16 c6_22
def c6_24 : RC := .seq c6_15 c6_23
def c6_25 : RC := .loop c6_24
def c6_26 : RC := .block 1 c6_25
def c6_27 : RC := .seq c6_14 c6_26
def o6_28 : List ROp := [
  ⟨(some 62), .move (.tmp 7), 25, none, []⟩,
  ⟨(some 4), .assign (.tmp 62), 25, none, []⟩,
  ⟨(some 5), .assign (.const (.int .i64 0)), 29, none, []⟩]
def c6_28 : RC := .reg [] o6_28
def c6_29 : RC := .seq c6_28 .ret
def c6_30 : RC := .seq c6_27 c6_29
def c6_31 : RC := .seq c6_13 c6_30
def c6_32 : RC := .seq c6_12 c6_31
def c6_33 : RC := .seq c6_1 c6_32
def c6_34 : RC := .seq c6_0 c6_33
def m6_0 (pu : PureF) (n : Nat) (n177 : Nat) (c178 : Nat) (q179 : List Value) : Option Value :=
  (bb (allL closed1 q179) (bb (an (Nat.ble (0 + n177 * 1) (len q179)) (allL closed1 (takeL (n177 * 1) (dropL 0 q179)))) (some (.tuple ⟨[(Sl.v 1 (Sl.mk n177 0 (takeL (n177 * 1) (dropL 0 q179)))), (.int .i64 (0 : Int))]⟩)) none) none)
def b6_1 (pu : PureF) (n : Nat) (ih0 : Nat → Nat → Sl → Int → Int → List Value → Option Value) (n182 : Nat) (c183 : Nat) (s184 : Sl) (z185 : Int) (z186 : Int) (q187 : List Value) : Option Value :=
  (bb (allL closed1 q187) (bb (ilt z186 z185) (oo (toN z186) none fun k190 => (bb (an (Nat.blt k190 (Sl.n s184)) true) (bb (Nat.ble ((k190 * 2) + 2) (len (Sl.cs s184))) (oo (nthL (Sl.cs s184) (k190 * 2)) none fun v194 => (oo (toI .i64 v194) none fun x196 => (oo (nthL (Sl.cs s184) ((k190 * 2) + 1)) none fun v198 => (oo (toI .i64 v198) none fun x200 => (oo (toN x196) none fun k202 => (bb (an (Nat.blt k202 n182) true) (oo (nthL q187 (0 + k202 * 1)) none fun v205 => (oo (toI .i64 v205) none fun x207 => (oo (toN x200) none fun k209 => (bb (an (Nat.blt k209 n182) true) (oo (nthL q187 (0 + k209 * 1)) none fun v212 => (oo (toI .i64 v212) none fun x214 => (bb (an (Nat.blt k202 n182) true) (oo (nthL q187 (0 + k202 * 1)) none fun v217 => (oo (toI .i64 v217) none fun x219 => (bb (an (Nat.blt k209 n182) true) (oo (nthL q187 (0 + k209 * 1)) none fun v222 => (oo (toI .i64 v222) none fun x224 => (bb (an (Nat.blt k202 n182) true) (bb (an (Nat.ble ((0 + k202 * 1) + 1) (len q187)) true) (bb (an (Nat.blt k209 n182) true) (bb (an (Nat.ble ((0 + k209 * 1) + 1) (len (setL ([(.int .i64 (bb (ilt x214 x207) x214 x207))] : List Value) (0 + k202 * 1) q187))) true) (bb (allL closed1 (setL ([(.int .i64 (bb (ilt x219 x224) x224 x219))] : List Value) (0 + k209 * 1) (setL ([(.int .i64 (bb (ilt x214 x207) x214 x207))] : List Value) (0 + k202 * 1) q187))) (ih0 n182 c183 s184 z185 (wrapF .i64 (Int.add (Int.ofNat k190) (1 : Int))) (setL ([(.int .i64 (bb (ilt x219 x224) x224 x219))] : List Value) (0 + k209 * 1) (setL ([(.int .i64 (bb (ilt x214 x207) x214 x207))] : List Value) (0 + k202 * 1) q187))) none) none) none) none) none))) none))) none))) none)))) none)))))) none) none)) (m6_0 pu n n182 c183 q187)) none)
def l6_1 (pu : PureF) (n : Nat) (w : Nat) : Nat → Nat → Sl → Int → Int → List Value → Option Value :=
  Nat.rec (motive := fun _ => Nat → Nat → Sl → Int → Int → List Value → Option Value) (fun _ _ _ _ _ _ => none) (fun _ ih0 => b6_1 pu n ih0) w
def m6_ (pu : PureF) (n : Nat) (x114 : Int) (s116 : Sl) (s118 : Sl) : Option Value :=
  (oo (pu 9 [(.agg ⟨[(.int .i64 x114), (Sl.v 2 s116)]⟩)]) none fun v120 => (oo (toI .i64 v120) none fun x122 => (bb (nt (ieq x122 (0 : Int))) (some (.tuple ⟨[(Sl.v 1 (Sl.mk 0 2 [])), (.int .i64 x122)]⟩)) (bb (nt (ieq (Int.ofNat (Sl.n s118)) x114)) (some (.tuple ⟨[(Sl.v 1 (Sl.mk 0 2 [])), (.int .i64 (5 : Int))]⟩)) (bb (roomy (0 + (Sl.n s118)) 8) (bb (allL closed1 (takeL ((Sl.n s118) * 1) (Sl.cs s118))) (l6_1 pu n n (Sl.n s118) (2 * (Sl.n s118) + bb false 1 0) s116 (Int.ofNat (Sl.n s116)) (0 : Int) (takeL ((Sl.n s118) * 1) (Sl.cs s118))) none) none)))))
def m6 (pu : PureF) (n : Nat) (args : List Value) : Option Value :=
  (ll args none fun a0 args => (ll args none fun a1 args => (ll args (oo (vAgg a0) none fun l110 => (ll l110 none fun v112 l110 => (ll l110 none fun v113 l110 => (ll l110 (oo (toI .i64 v112) none fun x114 => (oo (toSl 2 v113) none fun s116 => (oo (toSl 1 a1) none fun s118 => (m6_ pu n x114 s116 s118)))) fun _ _ => none)))) fun _ _ => none)))
theorem r6 {call : CallF} (pu : PureF) (n : Nat) (hcall : call = callP tabs isP pu inl) {args : List Value} {v : Value} (hm : m6 pu n args = some v) (_ : ∀ x ∈ args, closed2 x = true) : args.length ≤ 63 ∧ Run tt call 1 c6_34 (Fr.made 63 args) (pureHeap tabs) (Fin tt 1 [.tmp 4, .tmp 5] v) := by
  subst hcall
  unfold m6 at hm
  have hq := ll_uncons hm; clear hm; obtain ⟨a0, args_0, rfl, hm⟩ := hq
  have hq := ll_uncons hm; clear hm; obtain ⟨a1, args_1, rfl, hm⟩ := hq
  have hq := ll_end hm; clear hm; obtain ⟨rfl, hm⟩ := hq
  have hq := oo_inv hm; clear hm; obtain ⟨l110, h111, hm⟩ := hq
  obtain rfl := vAgg_some h111
  have hq := ll_uncons hm; clear hm; obtain ⟨v112, l110_0, rfl, hm⟩ := hq
  have hq := ll_uncons hm; clear hm; obtain ⟨v113, l110_1, rfl, hm⟩ := hq
  have hq := ll_end hm; clear hm; obtain ⟨rfl, hm⟩ := hq
  have hq := oo_inv hm; clear hm; obtain ⟨x114, h115, hm⟩ := hq
  obtain rfl := toI_some h115
  have hq := oo_inv hm; clear hm; obtain ⟨s116, h117, hm⟩ := hq
  obtain rfl := toSl_some h117
  have hq := oo_inv hm; clear hm; obtain ⟨s118, h119, hm⟩ := hq
  obtain rfl := toSl_some h119
  unfold m6_ at hm
  refine ⟨by simp, ?_⟩
  refine .same (F' := (⟨63, frTr [(0, (.agg ⟨[(.int .i64 x114), (Sl.v 2 s116)]⟩)), (1, (Sl.v 1 s118))] .nil⟩ : Fr)) (H' := (⟨1, objTr [(.cells tab0 true false [])] 0 .nil, true⟩ : AHeap)) (by kernel_rfl) (by kernel_rfl) ?_
  refine .then ?_
  refine .reg (F' := (Fr.puts (⟨63, frTr [(0, (.agg ⟨[(.int .i64 x114), (Sl.v 2 s116)]⟩)), (1, (Sl.v 1 s118))] .nil⟩ : Fr) [(2, (.pointer (some ⟨1, 0, none⟩))), (4, (.slice none 0 0)), (5, (.int .i64 (0 : Int)))])) (H' := (⟨2, objTr [(.cells tab0 true false []), (.cells [(.int .i64 x114), (Sl.v 2 s116)] false false [])] 0 .nil, true⟩ : AHeap)) (by kernel_rfl) ?_
  refine .ghs (⟨63, frTr [(1, (Sl.v 1 s118)), (2, (.pointer (some ⟨1, 0, none⟩)))] .nil⟩ : Fr) (⟨2, objTr [(.cells tab0 true false []), (.cells [(.int .i64 x114), (Sl.v 2 s116)] false false [])] 0 .nil, true⟩ : AHeap) (.gc [] [false] [.tmp 2 false] [1, 2] (by kernel_rfl) trivial (by kernel_rfl)) ?_
  refine .then ?_
  have hq := oo_inv hm; clear hm; obtain ⟨v120, h121, hm⟩ := hq
  have hq := oo_inv hm; clear hm; obtain ⟨x122, h123, hm⟩ := hq
  obtain rfl := toI_some h123
  refine .reg (F' := (Fr.puts (⟨63, frTr [(1, (Sl.v 1 s118)), (2, (.pointer (some ⟨1, 0, none⟩)))] .nil⟩ : Fr) [(10, (.agg ⟨[(.int .i64 x114), (Sl.v 2 s116)]⟩)), (11, (.int .i64 x122)), (6, (.int .i64 x122))])) (H' := (⟨2, objTr [(.cells tab0 true false []), (.cells [(.int .i64 x114), (Sl.v 2 s116)] false false [])] 0 .nil, true⟩ : AHeap)) (evOps_cut 1 (by kernel_rfl) (evOps_data ((oo (pu 9 [(.agg ⟨[(.int .i64 x114), (Sl.v 2 s116)]⟩)]) none fun v => some (v, (⟨2, objTr [(.cells tab0 true false []), (.cells [(.int .i64 x114), (Sl.v 2 s116)] false false [])] 0 .nil, true⟩ : AHeap)))) (by kernel_rfl) (call_eq h121) (okAt_of (by kernel_rfl) (by kernel_rfl)) (by kernel_rfl))) ?_
  refine .ghs (⟨63, frTr [(1, (Sl.v 1 s118)), (2, (.pointer (some ⟨1, 0, none⟩))), (6, (.int .i64 x122))] .nil⟩ : Fr) (⟨2, objTr [(.cells tab0 true false []), (.cells [(.int .i64 x114), (Sl.v 2 s116)] false false [])] 0 .nil, true⟩ : AHeap) (.gc [] [false] [.tmp 2 false] [1, 2, 6] (by kernel_rfl) trivial (by kernel_rfl)) ?_
  refine .then ?_
  refine .block ?_
  refine .then ?_
  refine .reg (F' := (Fr.puts (⟨63, frTr [(1, (Sl.v 1 s118)), (2, (.pointer (some ⟨1, 0, none⟩))), (6, (.int .i64 x122))] .nil⟩ : Fr) [(13, (.int .i64 x122)), (14, (.bool (nt (ieq x122 (0 : Int))))), (12, (.bool (nt (ieq x122 (0 : Int)))))])) (H' := (⟨2, objTr [(.cells tab0 true false []), (.cells [(.int .i64 x114), (Sl.v 2 s116)] false false [])] 0 .nil, true⟩ : AHeap)) (by kernel_rfl) ?_
  refine .ghs (⟨63, frTr [(1, (Sl.v 1 s118)), (2, (.pointer (some ⟨1, 0, none⟩))), (6, (.int .i64 x122)), (12, (.bool (nt (ieq x122 (0 : Int)))))] .nil⟩ : Fr) (⟨2, objTr [(.cells tab0 true false []), (.cells [(.int .i64 x114), (Sl.v 2 s116)] false false [])] 0 .nil, true⟩ : AHeap) (.gc [] [false] [.tmp 2 false] [1, 2, 6, 12] (by kernel_rfl) trivial (by kernel_rfl)) ?_
  have hq := bb_cases hm; clear hm; rcases hq with ⟨h124, hm⟩ | ⟨h124, hm⟩
  · refine .ifT (nt (ieq x122 (0 : Int))) (by kernel_rfl) h124 ?_
    refine .then ?_
    refine .reg (F' := (Fr.puts (⟨63, frTr [(1, (Sl.v 1 s118)), (2, (.pointer (some ⟨1, 0, none⟩))), (6, (.int .i64 x122)), (12, (.bool (nt (ieq x122 (0 : Int)))))] .nil⟩ : Fr) [(15, (.int .i64 x122)), (4, (.slice none 0 0)), (5, (.int .i64 x122))])) (H' := (⟨2, objTr [(.cells tab0 true false []), (.cells [(.int .i64 x114), (Sl.v 2 s116)] false false [])] 0 .nil, true⟩ : AHeap)) (by kernel_rfl) ?_
    refine .ghs (⟨63, frTr [(4, (.slice none 0 0)), (5, (.int .i64 x122))] .nil⟩ : Fr) (⟨1, objTr [(.cells tab0 true false [])] 0 .nil, true⟩ : AHeap) (.gc [] [false] [] [4, 5] (by kernel_rfl) trivial (by kernel_rfl)) ?_
    refine .ghs (Fr.puts (⟨63, frTr [(4, (.slice none 0 0)), (5, (.int .i64 x122))] .nil⟩ : Fr) [(4, (Sl.v 1 (Sl.mk 0 2 [])))]) (⟨1, objTr [(.cells tab0 true false [])] 0 .nil, true⟩ : AHeap) (.freeze 1 4 1 (by kernel_rfl) (by kernel_rfl) (GhS.id _ _)) ?_
    refine .ret ?_
    exact fin_ret (.tuple ⟨[(Sl.v 1 (Sl.mk 0 2 [])), (.int .i64 x122)]⟩) (by kernel_rfl) (by kernel_rfl) hm
  · refine .ifF (nt (ieq x122 (0 : Int))) (by kernel_rfl) h124 ?_
    refine .then ?_
    refine .reg (F' := (Fr.puts (⟨63, frTr [(1, (Sl.v 1 s118)), (2, (.pointer (some ⟨1, 0, none⟩))), (6, (.int .i64 x122)), (12, (.bool (nt (ieq x122 (0 : Int)))))] .nil⟩ : Fr) [(17, (Sl.v 1 s118)), (18, (.int .i64 (Int.ofNat (Sl.n s118)))), (19, (.pointer (some ⟨1, 0, none⟩))), (20, (.int .i64 x114)), (21, (.bool (nt (ieq (Int.ofNat (Sl.n s118)) x114)))), (16, (.bool (nt (ieq (Int.ofNat (Sl.n s118)) x114))))])) (H' := (⟨2, objTr [(.cells tab0 true false []), (.cells [(.int .i64 x114), (Sl.v 2 s116)] false false [])] 0 .nil, true⟩ : AHeap)) (by kernel_rfl) ?_
    refine .ghs (⟨63, frTr [(1, (Sl.v 1 s118)), (2, (.pointer (some ⟨1, 0, none⟩))), (16, (.bool (nt (ieq (Int.ofNat (Sl.n s118)) x114))))] .nil⟩ : Fr) (⟨2, objTr [(.cells tab0 true false []), (.cells [(.int .i64 x114), (Sl.v 2 s116)] false false [])] 0 .nil, true⟩ : AHeap) (.gc [] [false] [.tmp 2 false] [1, 2, 16] (by kernel_rfl) trivial (by kernel_rfl)) ?_
    have hq := bb_cases hm; clear hm; rcases hq with ⟨h125, hm⟩ | ⟨h125, hm⟩
    · refine .ifT (nt (ieq (Int.ofNat (Sl.n s118)) x114)) (by kernel_rfl) h125 ?_
      refine .then ?_
      refine .reg (F' := (Fr.puts (⟨63, frTr [(1, (Sl.v 1 s118)), (2, (.pointer (some ⟨1, 0, none⟩))), (16, (.bool (nt (ieq (Int.ofNat (Sl.n s118)) x114))))] .nil⟩ : Fr) [(4, (.slice none 0 0)), (5, (.int .i64 (5 : Int)))])) (H' := (⟨2, objTr [(.cells tab0 true false []), (.cells [(.int .i64 x114), (Sl.v 2 s116)] false false [])] 0 .nil, true⟩ : AHeap)) (by kernel_rfl) ?_
      refine .ghs (⟨63, frTr [(4, (.slice none 0 0)), (5, (.int .i64 (5 : Int)))] .nil⟩ : Fr) (⟨1, objTr [(.cells tab0 true false [])] 0 .nil, true⟩ : AHeap) (.gc [] [false] [] [4, 5] (by kernel_rfl) trivial (by kernel_rfl)) ?_
      refine .ghs (Fr.puts (⟨63, frTr [(4, (.slice none 0 0)), (5, (.int .i64 (5 : Int)))] .nil⟩ : Fr) [(4, (Sl.v 1 (Sl.mk 0 2 [])))]) (⟨1, objTr [(.cells tab0 true false [])] 0 .nil, true⟩ : AHeap) (.freeze 1 4 1 (by kernel_rfl) (by kernel_rfl) (GhS.id _ _)) ?_
      refine .ret ?_
      exact fin_ret (.tuple ⟨[(Sl.v 1 (Sl.mk 0 2 [])), (.int .i64 (5 : Int))]⟩) (by kernel_rfl) (by kernel_rfl) hm
    · refine .ifF (nt (ieq (Int.ofNat (Sl.n s118)) x114)) (by kernel_rfl) h125 ?_
      refine .skip ?_
      refine .ghs (⟨63, frTr [(1, (Sl.v 1 s118)), (2, (.pointer (some ⟨1, 0, none⟩)))] .nil⟩ : Fr) (⟨2, objTr [(.cells tab0 true false []), (.cells [(.int .i64 x114), (Sl.v 2 s116)] false false [])] 0 .nil, true⟩ : AHeap) (.gc [] [false] [.tmp 2 false] [1, 2] (by kernel_rfl) trivial (by kernel_rfl)) ?_
      refine .then ?_
      have hq := bb_inv hm; clear hm; obtain ⟨h126, hm⟩ := hq
      refine .reg (F' := (Fr.puts (⟨63, frTr [(1, (Sl.v 1 s118)), (2, (.pointer (some ⟨1, 0, none⟩)))] .nil⟩ : Fr) [(22, (Sl.v 1 s118)), (23, (.slice (some ⟨3, 0, some 1⟩) (Sl.n s118) (2 * (Sl.n s118) + bb false 1 0))), (7, (.slice (some ⟨3, 0, some 1⟩) (Sl.n s118) (2 * (Sl.n s118) + bb false 1 0)))])) (H' := (⟨4, objTr [(.cells tab0 true false []), (.cells [(.int .i64 x114), (Sl.v 2 s116)] false false []), (.cells [] false false []), (.cells (takeL ((Sl.n s118) * 1) (Sl.cs s118)) false false [])] 0 .nil, true⟩ : AHeap)) (evOps_cut 1 (by kernel_rfl) (evOps_data (bb (roomy (0 + (Sl.n s118)) 8) (some ((.slice (some ⟨3, 0, some 1⟩) (Sl.n s118) (2 * (Sl.n s118) + bb false 1 0)), (⟨4, objTr [(.cells tab0 true false []), (.cells [(.int .i64 x114), (Sl.v 2 s116)] false false []), (.cells [] false false []), (.cells (takeL ((Sl.n s118) * 1) (Sl.cs s118)) false false [])] 0 .nil, true⟩ : AHeap))) none) (by kernel_rfl) (bb_some h126) (okAt_of (by kernel_rfl) (by kernel_rfl)) (by kernel_rfl))) ?_
      have hq := bb_inv hm; clear hm; obtain ⟨h127, hm⟩ := hq
      refine .ghs (⟨63, frTr [(2, (.pointer (some ⟨1, 0, none⟩))), (7, (.slice (some ⟨2, 0, some 1⟩) (Sl.n s118) (2 * (Sl.n s118) + bb false 1 0)))] .nil⟩ : Fr) (⟨3, objTr [(.cells tab0 true false []), (.cells [(.int .i64 x114), (Sl.v 2 s116)] false false []), (.cells (takeL ((Sl.n s118) * 1) (Sl.cs s118)) false false [])] 0 .nil, true⟩ : AHeap) (.gc [3] [false] [.tmp 2 false, .tmp 7 false] [2, 7] (by kernel_rfl) ⟨trE (by kernel_rfl) h127, trivial⟩ (by kernel_rfl)) ?_
      refine .join (v := v) (fun y : Nat × Nat × List Value => ((⟨63, frTr [(7, (.slice (some ⟨1, 0, some 1⟩) y.1 y.2.1))] .nil⟩ : Fr), (⟨2, objTr [(.cells tab0 true false []), (.cells y.2.2 false false [])] 0 .nil, true⟩ : AHeap))) (fun y => m6_0 pu n y.1 y.2.1 y.2.2) ?_ ?_
      · rintro ⟨n177, c178, q179⟩ hm
        unfold m6_0 at hm
        refine .then ?_
        refine .reg (F' := (Fr.puts (⟨63, frTr [(7, (.slice (some ⟨1, 0, some 1⟩) n177 c178))] .nil⟩ : Fr) [(62, (.slice (some ⟨1, 0, some 1⟩) n177 c178)), (4, (.slice (some ⟨1, 0, some 1⟩) n177 c178)), (5, (.int .i64 (0 : Int)))])) (H' := (⟨2, objTr [(.cells tab0 true false []), (.cells q179 false false [])] 0 .nil, true⟩ : AHeap)) (by kernel_rfl) ?_
        have hq := bb_inv hm; clear hm; obtain ⟨h180, hm⟩ := hq
        refine .ghs (⟨63, frTr [(4, (.slice (some ⟨1, 0, some 1⟩) n177 c178)), (5, (.int .i64 (0 : Int)))] .nil⟩ : Fr) (⟨2, objTr [(.cells tab0 true false []), (.cells q179 false false [])] 0 .nil, true⟩ : AHeap) (.gc [1] [false] [.tmp 4 false] [4, 5] (by kernel_rfl) ⟨trE (by kernel_rfl) h180, trivial⟩ (by kernel_rfl)) ?_
        have hq := bb_inv hm; clear hm; obtain ⟨h181, hm⟩ := hq
        refine .ghs (Fr.puts (⟨63, frTr [(4, (.slice (some ⟨1, 0, some 1⟩) n177 c178)), (5, (.int .i64 (0 : Int)))] .nil⟩ : Fr) [(4, (Sl.v 1 (Sl.mk n177 0 (takeL (n177 * 1) (dropL 0 q179)))))]) (⟨2, objTr [(.cells tab0 true false []), .dead] 0 .nil, true⟩ : AHeap) (.freezeC 1 4 1 (an (Nat.ble (0 + n177 * 1) (len q179)) (allL closed1 (takeL (n177 * 1) (dropL 0 q179)))) (F1 := (Fr.puts (⟨63, frTr [(4, (.slice (some ⟨1, 0, some 1⟩) n177 c178)), (5, (.int .i64 (0 : Int)))] .nil⟩ : Fr) [(4, (Sl.v 1 (Sl.mk n177 0 (takeL (n177 * 1) (dropL 0 q179)))))])) (H1 := (⟨2, objTr [(.cells tab0 true false []), .dead] 0 .nil, true⟩ : AHeap)) (by kernel_rfl) (by kernel_rfl) h181 (GhS.id _ _)) ?_
        refine .ret ?_
        exact fin_ret (.tuple ⟨[(Sl.v 1 (Sl.mk n177 0 (takeL (n177 * 1) (dropL 0 q179)))), (.int .i64 (0 : Int))]⟩) (by kernel_rfl) (by kernel_rfl) hm
      · skip
        refine .then ?_
        refine .reg (F' := (Fr.puts (⟨63, frTr [(2, (.pointer (some ⟨1, 0, none⟩))), (7, (.slice (some ⟨2, 0, some 1⟩) (Sl.n s118) (2 * (Sl.n s118) + bb false 1 0)))] .nil⟩ : Fr) [(24, (.pointer (some ⟨1, 1, none⟩))), (25, (Sl.v 2 s116)), (26, (.int .i64 (Int.ofNat (Sl.n s116)))), (27, (.int .i64 (0 : Int)))])) (H' := (⟨3, objTr [(.cells tab0 true false []), (.cells [(.int .i64 x114), (Sl.v 2 s116)] false false []), (.cells (takeL ((Sl.n s118) * 1) (Sl.cs s118)) false false [])] 0 .nil, true⟩ : AHeap)) (by kernel_rfl) ?_
        refine .ghs (⟨63, frTr [(7, (.slice (some ⟨1, 0, some 1⟩) (Sl.n s118) (2 * (Sl.n s118) + bb false 1 0))), (25, (Sl.v 2 s116)), (26, (.int .i64 (Int.ofNat (Sl.n s116)))), (27, (.int .i64 (0 : Int)))] .nil⟩ : Fr) (⟨2, objTr [(.cells tab0 true false []), (.cells (takeL ((Sl.n s118) * 1) (Sl.cs s118)) false false [])] 0 .nil, true⟩ : AHeap) (.gc [2] [false] [.tmp 7 false] [7, 25, 26, 27] (by kernel_rfl) ⟨trE (by kernel_rfl) h127, trivial⟩ (by kernel_rfl)) ?_
        refine .block ?_
        refine .loopM (v := v) (fun y : Nat × Nat × Sl × Int × Int × List Value => ((⟨63, frTr [(7, (.slice (some ⟨1, 0, some 1⟩) y.1 y.2.1)), (25, (Sl.v 2 y.2.2.1)), (26, (.int .i64 y.2.2.2.1)), (27, (.int .i64 y.2.2.2.2.1))] .nil⟩ : Fr), (⟨2, objTr [(.cells tab0 true false []), (.cells y.2.2.2.2.2 false false [])] 0 .nil, true⟩ : AHeap))) (fun w y => l6_1 pu n w y.1 y.2.1 y.2.2.1 y.2.2.2.1 y.2.2.2.2.1 y.2.2.2.2.2) n ⟨((Sl.n s118), (2 * (Sl.n s118) + bb false 1 0), s116, (Int.ofNat (Sl.n s116)), (0 : Int), (takeL ((Sl.n s118) * 1) (Sl.cs s118))), hm, (.gc [1] [false] [.tmp 7 false] [7, 25, 26, 27] (by kernel_rfl) ⟨trE (by kernel_rfl) h127, trivial⟩ (by kernel_rfl))⟩ (fun _ => rfl) ?_
        rintro w0 ⟨n182, c183, s184, z185, z186, q187⟩ hm
        refine .then ?_
        refine .reg (F' := (Fr.puts (⟨63, frTr [(7, (.slice (some ⟨1, 0, some 1⟩) n182 c183)), (25, (Sl.v 2 s184)), (26, (.int .i64 z185)), (27, (.int .i64 z186))] .nil⟩ : Fr) [(28, (.bool (ilt z186 z185)))])) (H' := (⟨2, objTr [(.cells tab0 true false []), (.cells q187 false false [])] 0 .nil, true⟩ : AHeap)) (by kernel_rfl) ?_
        have hq := bb_inv hm; clear hm; obtain ⟨h188, hm⟩ := hq
        refine .ghs (⟨63, frTr [(7, (.slice (some ⟨1, 0, some 1⟩) n182 c183)), (25, (Sl.v 2 s184)), (26, (.int .i64 z185)), (27, (.int .i64 z186)), (28, (.bool (ilt z186 z185)))] .nil⟩ : Fr) (⟨2, objTr [(.cells tab0 true false []), (.cells q187 false false [])] 0 .nil, true⟩ : AHeap) (.gc [1] [false] [.tmp 7 false] [7, 25, 26, 27, 28] (by kernel_rfl) ⟨trE (by kernel_rfl) h188, trivial⟩ (by kernel_rfl)) ?_
        refine .then ?_
        have hq := bb_cases hm; clear hm; rcases hq with ⟨h189, hm⟩ | ⟨h189, hm⟩
        · refine .ifT (ilt z186 z185) (by kernel_rfl) h189 ?_
          refine .skip ?_
          refine .ghs (⟨63, frTr [(7, (.slice (some ⟨1, 0, some 1⟩) n182 c183)), (25, (Sl.v 2 s184)), (26, (.int .i64 z185)), (27, (.int .i64 z186))] .nil⟩ : Fr) (⟨2, objTr [(.cells tab0 true false []), (.cells q187 false false [])] 0 .nil, true⟩ : AHeap) (.gc [1] [false] [.tmp 7 false] [7, 25, 26, 27] (by kernel_rfl) ⟨trE (by kernel_rfl) h188, trivial⟩ (by kernel_rfl)) ?_
          refine .then ?_
          refine .block ?_
          refine .then ?_
          have hq := oo_inv hm; clear hm; obtain ⟨k190, h191, hm⟩ := hq
          obtain rfl := toN_some h191
          have hq := bb_inv hm; clear hm; obtain ⟨h192, hm⟩ := hq
          have hq := bb_inv hm; clear hm; obtain ⟨h193, hm⟩ := hq
          have hq := oo_inv hm; clear hm; obtain ⟨v194, h195, hm⟩ := hq
          have hq := oo_inv hm; clear hm; obtain ⟨x196, h197, hm⟩ := hq
          obtain rfl := toI_some h197
          have hq := oo_inv hm; clear hm; obtain ⟨v198, h199, hm⟩ := hq
          have hq := oo_inv hm; clear hm; obtain ⟨x200, h201, hm⟩ := hq
          obtain rfl := toI_some h201
          refine .reg (F' := (Fr.puts (⟨63, frTr [(7, (.slice (some ⟨1, 0, some 1⟩) n182 c183)), (25, (Sl.v 2 s184)), (26, (.int .i64 z185)), (27, (.int .i64 (Int.ofNat k190)))] .nil⟩ : Fr) [(29, (fpV (k190 * 2) (Sl.cs s184))), (30, (.agg ⟨[(.int .i64 x196), (.int .i64 x200)]⟩)), (9, (.pointer (some ⟨2, 0, none⟩)))])) (H' := (⟨3, objTr [(.cells tab0 true false []), (.cells q187 false false []), (.cells [(.int .i64 x196), (.int .i64 x200)] false false [])] 0 .nil, true⟩ : AHeap)) (evOps_data (keep (⟨2, objTr [(.cells tab0 true false []), (.cells q187 false false [])] 0 .nil, true⟩ : AHeap) (bb (an (Nat.blt k190 (Sl.n s184)) true) (some (fpV (k190 * 2) (Sl.cs s184))) none)) (by kernel_rfl) (keep_bb h192) (okAt_of (by kernel_rfl) (by kernel_rfl)) (evOps_data (keep (⟨2, objTr [(.cells tab0 true false []), (.cells q187 false false [])] 0 .nil, true⟩ : AHeap) (bb (Nat.ble ((k190 * 2) + 2) (len (Sl.cs s184))) (some (.agg ⟨takeL 2 (dropL (k190 * 2) (Sl.cs s184))⟩)) none)) (by kernel_rfl) (keep_agg h193 (takeL_cons h195 (takeL_cons h199 rfl))) (okAt_of (by kernel_rfl) (by kernel_rfl)) (by kernel_rfl))) ?_
          refine .ghs (⟨63, frTr [(7, (.slice (some ⟨1, 0, some 1⟩) n182 c183)), (9, (.pointer (some ⟨2, 0, none⟩))), (25, (Sl.v 2 s184)), (26, (.int .i64 z185)), (27, (.int .i64 (Int.ofNat k190)))] .nil⟩ : Fr) (⟨3, objTr [(.cells tab0 true false []), (.cells q187 false false []), (.cells [(.int .i64 x196), (.int .i64 x200)] false false [])] 0 .nil, true⟩ : AHeap) (.gc [1] [false] [.tmp 7 false, .tmp 9 false] [7, 9, 25, 26, 27] (by kernel_rfl) ⟨trE (by kernel_rfl) h188, trivial⟩ (by kernel_rfl)) ?_
          have hq := oo_inv hm; clear hm; obtain ⟨k202, h203, hm⟩ := hq
          obtain rfl := toN_some h203
          have hq := bb_inv hm; clear hm; obtain ⟨h204, hm⟩ := hq
          have hq := oo_inv hm; clear hm; obtain ⟨v205, h206, hm⟩ := hq
          have hq := oo_inv hm; clear hm; obtain ⟨x207, h208, hm⟩ := hq
          obtain rfl := toI_some h208
          have hq := oo_inv hm; clear hm; obtain ⟨k209, h210, hm⟩ := hq
          obtain rfl := toN_some h210
          have hq := bb_inv hm; clear hm; obtain ⟨h211, hm⟩ := hq
          have hq := oo_inv hm; clear hm; obtain ⟨v212, h213, hm⟩ := hq
          have hq := oo_inv hm; clear hm; obtain ⟨x214, h215, hm⟩ := hq
          obtain rfl := toI_some h215
          have hq := bb_inv hm; clear hm; obtain ⟨h216, hm⟩ := hq
          have hq := oo_inv hm; clear hm; obtain ⟨v217, h218, hm⟩ := hq
          have hq := oo_inv hm; clear hm; obtain ⟨x219, h220, hm⟩ := hq
          obtain rfl := toI_some h220
          have hq := bb_inv hm; clear hm; obtain ⟨h221, hm⟩ := hq
          have hq := oo_inv hm; clear hm; obtain ⟨v222, h223, hm⟩ := hq
          have hq := oo_inv hm; clear hm; obtain ⟨x224, h225, hm⟩ := hq
          obtain rfl := toI_some h225
          have hq := bb_inv hm; clear hm; obtain ⟨h226, hm⟩ := hq
          have hq := bb_inv hm; clear hm; obtain ⟨h227, hm⟩ := hq
          have hq := bb_inv hm; clear hm; obtain ⟨h228, hm⟩ := hq
          have hq := bb_inv hm; clear hm; obtain ⟨h229, hm⟩ := hq
          refine .reg (F' := (Fr.puts (⟨63, frTr [(7, (.slice (some ⟨1, 0, some 1⟩) n182 c183)), (9, (.pointer (some ⟨2, 0, none⟩))), (25, (Sl.v 2 s184)), (26, (.int .i64 z185)), (27, (.int .i64 (Int.ofNat k190)))] .nil⟩ : Fr) [(31, (.slice (some ⟨1, 0, some 1⟩) n182 c183)), (32, (.pointer (some ⟨2, 0, none⟩))), (33, (.int .i64 (Int.ofNat k202))), (34, (.slice (some ⟨1, 0, some 1⟩) n182 c183)), (35, (.pointer (some ⟨2, 1, none⟩))), (36, (.int .i64 (Int.ofNat k209))), (37, (.slice (some ⟨1, 0, some 1⟩) n182 c183)), (38, (.pointer (some ⟨2, 0, none⟩))), (39, (.int .i64 (Int.ofNat k202))), (40, (.pointer (some ⟨1, (0 + k202 * 1), none⟩))), (41, (.int .i64 x207)), (42, (.slice (some ⟨1, 0, some 1⟩) n182 c183)), (43, (.pointer (some ⟨2, 1, none⟩))), (44, (.int .i64 (Int.ofNat k209))), (45, (.pointer (some ⟨1, (0 + k209 * 1), none⟩))), (46, (.int .i64 x214)), (47, (.int .i64 (bb (ilt x214 x207) x214 x207))), (48, (.slice (some ⟨1, 0, some 1⟩) n182 c183)), (49, (.pointer (some ⟨2, 0, none⟩))), (50, (.int .i64 (Int.ofNat k202))), (51, (.pointer (some ⟨1, (0 + k202 * 1), none⟩))), (52, (.int .i64 x219)), (53, (.slice (some ⟨1, 0, some 1⟩) n182 c183)), (54, (.pointer (some ⟨2, 1, none⟩))), (55, (.int .i64 (Int.ofNat k209))), (56, (.pointer (some ⟨1, (0 + k209 * 1), none⟩))), (57, (.int .i64 x224)), (58, (.int .i64 (bb (ilt x219 x224) x224 x219))), (59, (.pointer (some ⟨1, (0 + k202 * 1), none⟩))), (60, (.pointer (some ⟨1, (0 + k209 * 1), none⟩)))])) (H' := (⟨3, objTr [(.cells tab0 true false []), (.cells (setL ([(.int .i64 (bb (ilt x219 x224) x224 x219))] : List Value) (0 + k209 * 1) (setL ([(.int .i64 (bb (ilt x214 x207) x214 x207))] : List Value) (0 + k202 * 1) q187)) false false []), (.cells [(.int .i64 (Int.ofNat k202)), (.int .i64 (Int.ofNat k209))] false false [])] 0 .nil, true⟩ : AHeap)) (evOps_cut 9 (by kernel_rfl) (evOps_data (keep (⟨3, objTr [(.cells tab0 true false []), (.cells q187 false false []), (.cells [(.int .i64 (Int.ofNat k202)), (.int .i64 (Int.ofNat k209))] false false [])] 0 .nil, true⟩ : AHeap) (bb (an (Nat.blt k202 n182) true) (some (.pointer (some ⟨1, (0 + k202 * 1), none⟩))) none)) (by kernel_rfl) (keep_bb h204) (okAt_of (by kernel_rfl) (by kernel_rfl)) (evOps_data (keep (⟨3, objTr [(.cells tab0 true false []), (.cells q187 false false []), (.cells [(.int .i64 (Int.ofNat k202)), (.int .i64 (Int.ofNat k209))] false false [])] 0 .nil, true⟩ : AHeap) (nthL q187 (0 + k202 * 1))) (by kernel_rfl) (keep_eq h206) (okAt_of (by kernel_rfl) (by kernel_rfl)) (evOps_cut 3 (by kernel_rfl) (evOps_data (keep (⟨3, objTr [(.cells tab0 true false []), (.cells q187 false false []), (.cells [(.int .i64 (Int.ofNat k202)), (.int .i64 (Int.ofNat k209))] false false [])] 0 .nil, true⟩ : AHeap) (bb (an (Nat.blt k209 n182) true) (some (.pointer (some ⟨1, (0 + k209 * 1), none⟩))) none)) (by kernel_rfl) (keep_bb h211) (okAt_of (by kernel_rfl) (by kernel_rfl)) (evOps_data (keep (⟨3, objTr [(.cells tab0 true false []), (.cells q187 false false []), (.cells [(.int .i64 (Int.ofNat k202)), (.int .i64 (Int.ofNat k209))] false false [])] 0 .nil, true⟩ : AHeap) (nthL q187 (0 + k209 * 1))) (by kernel_rfl) (keep_eq h213) (okAt_of (by kernel_rfl) (by kernel_rfl)) (evOps_cut 4 (by kernel_rfl) (evOps_data (keep (⟨3, objTr [(.cells tab0 true false []), (.cells q187 false false []), (.cells [(.int .i64 (Int.ofNat k202)), (.int .i64 (Int.ofNat k209))] false false [])] 0 .nil, true⟩ : AHeap) (bb (an (Nat.blt k202 n182) true) (some (.pointer (some ⟨1, (0 + k202 * 1), none⟩))) none)) (by kernel_rfl) (keep_bb h216) (okAt_of (by kernel_rfl) (by kernel_rfl)) (evOps_data (keep (⟨3, objTr [(.cells tab0 true false []), (.cells q187 false false []), (.cells [(.int .i64 (Int.ofNat k202)), (.int .i64 (Int.ofNat k209))] false false [])] 0 .nil, true⟩ : AHeap) (nthL q187 (0 + k202 * 1))) (by kernel_rfl) (keep_eq h218) (okAt_of (by kernel_rfl) (by kernel_rfl)) (evOps_cut 3 (by kernel_rfl) (evOps_data (keep (⟨3, objTr [(.cells tab0 true false []), (.cells q187 false false []), (.cells [(.int .i64 (Int.ofNat k202)), (.int .i64 (Int.ofNat k209))] false false [])] 0 .nil, true⟩ : AHeap) (bb (an (Nat.blt k209 n182) true) (some (.pointer (some ⟨1, (0 + k209 * 1), none⟩))) none)) (by kernel_rfl) (keep_bb h221) (okAt_of (by kernel_rfl) (by kernel_rfl)) (evOps_data (keep (⟨3, objTr [(.cells tab0 true false []), (.cells q187 false false []), (.cells [(.int .i64 (Int.ofNat k202)), (.int .i64 (Int.ofNat k209))] false false [])] 0 .nil, true⟩ : AHeap) (nthL q187 (0 + k209 * 1))) (by kernel_rfl) (keep_eq h223) (okAt_of (by kernel_rfl) (by kernel_rfl)) (evOps_cut 1 (by kernel_rfl) (evOps_data (keep (⟨3, objTr [(.cells tab0 true false []), (.cells q187 false false []), (.cells [(.int .i64 (Int.ofNat k202)), (.int .i64 (Int.ofNat k209))] false false [])] 0 .nil, true⟩ : AHeap) (bb (an (Nat.blt k202 n182) true) (some (.pointer (some ⟨1, (0 + k202 * 1), none⟩))) none)) (by kernel_rfl) (keep_bb h226) (okAt_of (by kernel_rfl) (by kernel_rfl)) (evOps_data (done (bb (an (Nat.ble ((0 + k202 * 1) + 1) (len q187)) true) (some (⟨3, objTr [(.cells tab0 true false []), (.cells (setL ([(.int .i64 (bb (ilt x214 x207) x214 x207))] : List Value) (0 + k202 * 1) q187) false false []), (.cells [(.int .i64 (Int.ofNat k202)), (.int .i64 (Int.ofNat k209))] false false [])] 0 .nil, true⟩ : AHeap)) none) undef) (by kernel_rfl) (done_bb h227) (okAt_of (by kernel_rfl) (by kernel_rfl)) (evOps_data (keep (⟨3, objTr [(.cells tab0 true false []), (.cells (setL ([(.int .i64 (bb (ilt x214 x207) x214 x207))] : List Value) (0 + k202 * 1) q187) false false []), (.cells [(.int .i64 (Int.ofNat k202)), (.int .i64 (Int.ofNat k209))] false false [])] 0 .nil, true⟩ : AHeap) (bb (an (Nat.blt k209 n182) true) (some (.pointer (some ⟨1, (0 + k209 * 1), none⟩))) none)) (by kernel_rfl) (keep_bb h228) (okAt_of (by kernel_rfl) (by kernel_rfl)) (evOps_data (done (bb (an (Nat.ble ((0 + k209 * 1) + 1) (len (setL ([(.int .i64 (bb (ilt x214 x207) x214 x207))] : List Value) (0 + k202 * 1) q187))) true) (some (⟨3, objTr [(.cells tab0 true false []), (.cells (setL ([(.int .i64 (bb (ilt x219 x224) x224 x219))] : List Value) (0 + k209 * 1) (setL ([(.int .i64 (bb (ilt x214 x207) x214 x207))] : List Value) (0 + k202 * 1) q187)) false false []), (.cells [(.int .i64 (Int.ofNat k202)), (.int .i64 (Int.ofNat k209))] false false [])] 0 .nil, true⟩ : AHeap)) none) undef) (by kernel_rfl) (done_bb h229) (okAt_of (by kernel_rfl) (by kernel_rfl)) (by kernel_rfl)))))))))))))))))) ?_
          have hq := bb_inv hm; clear hm; obtain ⟨h230, hm⟩ := hq
          refine .ghs (⟨63, frTr [(7, (.slice (some ⟨1, 0, some 1⟩) n182 c183)), (25, (Sl.v 2 s184)), (26, (.int .i64 z185)), (27, (.int .i64 (Int.ofNat k190)))] .nil⟩ : Fr) (⟨2, objTr [(.cells tab0 true false []), (.cells (setL ([(.int .i64 (bb (ilt x219 x224) x224 x219))] : List Value) (0 + k209 * 1) (setL ([(.int .i64 (bb (ilt x214 x207) x214 x207))] : List Value) (0 + k202 * 1) q187)) false false [])] 0 .nil, true⟩ : AHeap) (.gc [1] [false] [.tmp 7 false] [7, 25, 26, 27] (by kernel_rfl) ⟨trE (by kernel_rfl) h230, trivial⟩ (by kernel_rfl)) ?_
          refine .reg (F' := (Fr.puts (⟨63, frTr [(7, (.slice (some ⟨1, 0, some 1⟩) n182 c183)), (25, (Sl.v 2 s184)), (26, (.int .i64 z185)), (27, (.int .i64 (Int.ofNat k190)))] .nil⟩ : Fr) [(61, (.int .i64 (wrapF .i64 (Int.add (Int.ofNat k190) (1 : Int))))), (27, (.int .i64 (wrapF .i64 (Int.add (Int.ofNat k190) (1 : Int)))))])) (H' := (⟨2, objTr [(.cells tab0 true false []), (.cells (setL ([(.int .i64 (bb (ilt x219 x224) x224 x219))] : List Value) (0 + k209 * 1) (setL ([(.int .i64 (bb (ilt x214 x207) x214 x207))] : List Value) (0 + k202 * 1) q187)) false false [])] 0 .nil, true⟩ : AHeap)) (by kernel_rfl) ?_
          exact ⟨(n182, c183, s184, z185, (wrapF .i64 (Int.add (Int.ofNat k190) (1 : Int))), (setL ([(.int .i64 (bb (ilt x219 x224) x224 x219))] : List Value) (0 + k209 * 1) (setL ([(.int .i64 (bb (ilt x214 x207) x214 x207))] : List Value) (0 + k202 * 1) q187))), hm, (.gc [1] [false] [.tmp 7 false] [7, 25, 26, 27] (by kernel_rfl) ⟨trE (by kernel_rfl) h230, trivial⟩ (by kernel_rfl))⟩
        · refine .ifF (ilt z186 z185) (by kernel_rfl) h189 ?_
          refine .exit ?_
          exact ⟨(n182, c183, q187), hm, (.gc [1] [false] [.tmp 7 false] [7] (by kernel_rfl) ⟨trE (by kernel_rfl) h188, trivial⟩ (by kernel_rfl))⟩
end
end Go.TabRM
