/- What stands behind the models: the code, slices.Clone twice, and the contract of slices.Sort. -/
import Derived.Test.YtchpnknhdgplgaaDoorSpObjSx
import Derived.Test.YtchpnknhdgplgaaDoorTabUNodesx
import Derived.Test.YtchpnknhdgplgaaDoorTabUCode
import Derived.KernelRfl

set_option maxRecDepth 100000
namespace Go.TabUM.C25
open Go.Sp Go.TabU
noncomputable section
def cloneF (sz by' : Nat) (args : List Value) (H : AHeap) : Option (Value × AHeap) :=
  ll args none fun x r => ll r (oo (toSl sz x) none fun s => AHeap.rec (motive := fun _ => Option (Value × AHeap)) (fun k T z => bb z (bb (roomy (0 + s.n) by')
    (some (.slice (some ⟨Nat.succ k, 0, some sz⟩) s.n (2 * s.n + bb false 1 0), ((⟨k, T, true⟩ : AHeap).push (.cells [] false false [])).push (.cells (takeL (s.n * sz) s.cs) false false []))) none) none) H) fun _ _ => none
def oX : List ROp := [
   ⟨(some 5), .buildSlice 32 0 #[], 32, none, []⟩,
   ⟨(some 6), .move (.tmp 0), 32, none, []⟩,
   ⟨(some 7), .call ⟨.builtin .append, #[(.tmp 5), (.tmp 6)], #[32, 32]⟩, 32, none, []⟩,
   ⟨(some 2), .assign (.tmp 7), 32, none, []⟩]
def H1 (k : Nat) (T : Tr AObj) : AHeap := (⟨k, T, true⟩ : AHeap).push (.cells [] false false [])
def F1 (a : Value) : Fr := Fr.puts (Fr.made 8 [a]) [(2, .slice none 0 0), (3, a), (4, .bool false)]
def F2 (a : Value) (k : Nat) : Fr := Fr.puts (F1 a) [(5, .slice (some ⟨k, 0, some 1⟩) 0 1)]
def F3 (a : Value) (k : Nat) : Fr := Fr.puts (F2 a k) [(6, a)]
def F4 (a : Value) (k : Nat) (v : Value) : Fr := Fr.puts (F3 a k) [(7, v)]
def F5 (a : Value) (k : Nat) (v : Value) : Fr := Fr.puts (F4 a k v) [(2, v)]
theorem H1_get (k : Nat) (T : Tr AObj) : oCells ((H1 k T).get k) = some ⟨[], false, false, []⟩ := by
  unfold H1
  rw [AHeap.get_push, if_pos rfl]; rfl
theorem H1_next (k : Nat) (T : Tr AObj) : (H1 k T).next = k + 1 := by
  unfold H1; rw [AHeap.next_push]
theorem cloneA (k : Nat) (T : Tr AObj) : evFn tt fns 2 25 [fsV 1 0 2 []] ⟨k, T, true⟩ = some (.slice none 0 0, ⟨k, T, true⟩) := by kernel_rfl
theorem ops (call : CallF) (k : Nat) (T : Tr AObj) (a : Value) (v : Value) (H2 : AHeap) (s : Sl) (ha : a = s.v 1) (hD : appFs (H1 k T) 1 8 (.slice (some ⟨k, 0, some 1⟩) 0 1) s = some (v, H2)) :
    evOps tt call oX (F1 a) ⟨k, T, true⟩ = some (F5 a k v, H2) := by
  subst ha
  refine evOps_data (some (.slice (some ⟨k, 0, some 1⟩) 0 1, H1 k T)) (by kernel_rfl) rfl (by kernel_rfl) ?_
  refine evOps_data (some (s.v 1, H1 k T)) (by kernel_rfl) rfl (by kernel_rfl) ?_
  refine evOps_data (appFs (H1 k T) 1 8 (.slice (some ⟨k, 0, some 1⟩) 0 1) s) (by kernel_rfl) hD (by kernel_rfl) ?_
  refine evOps_data (some (v, H2)) (by kernel_rfl) rfl (by kernel_rfl) ?_
  rfl
theorem ev (k : Nat) (T : Tr AObj) (a : Value) (v : Value) (H2 : AHeap) (h1 : evC tt (evFn tt fns 1) 1 c25 (Fr.made 8 [a]) ⟨k, T, true⟩ = evC tt (evFn tt fns 1) 1 (.seq (.reg [] oX) .ret) (F1 a) ⟨k, T, true⟩)
    (h : evOps tt (evFn tt fns 1) oX (F1 a) ⟨k, T, true⟩ = some (F5 a k v, H2)) : evFn tt fns 2 25 [a] ⟨k, T, true⟩ = some (v, H2) := by
  show endFn tt [.tmp 2] (evC tt (evFn tt fns 1) 1 c25 (Fr.made 8 [a]) ⟨k, T, true⟩) = _
  rw [h1]
  show endFn tt [.tmp 2] (onNormal (regR (evOps tt (evFn tt fns 1) oX (F1 a) ⟨k, T, true⟩)) _) = _
  rw [h]
  kernel_rfl
theorem cloneB (k : Nat) (T : Tr AObj) : evFn tt fns 2 25 [fsV 1 0 3 []] ⟨k, T, true⟩ = some (.slice (some ⟨k, 0, some 1⟩) 0 1, H1 k T) :=
  ev k T _ _ _ (by kernel_rfl) (ops _ k T _ _ _ ⟨0, 3, []⟩ rfl (appFs_sl0 rfl))
theorem cloneC (k : Nat) (T : Tr AObj) (n : Nat) (cs : List Value) (hr : roomy (0 + (n + 1)) 8 = true) :
    evFn tt fns 2 25 [fsV 1 (n + 1) 0 cs] ⟨k, T, true⟩ = some (sliceAt (k + 1) 0 1 (0 + (n + 1)) (0 + (n + 1)) false, (H1 k T).push (.cells (takeL ((n + 1) * 1) cs) false false [])) :=
  ev k T _ _ _ (by kernel_rfl) (ops _ k T _ _ _ ⟨n + 1, 0, cs⟩ rfl (by rw [appFs_new rfl hr (H1_get k T), H1_next]))

theorem clone_ok {P : Program} (hT : TOk P tt) (hf : ∀ f r, fns f = some r → FnOk P [0] f r) (hm : P.follows .mixedOrders = true) {args : List Value} {H H' : AHeap} {v : Value} (h : cloneF 1 8 args H = some (v, H')) :
    (∀ (as : Array Value) (w : World), (callFunc 25 as).run P w = .ok (.enter 25 as) w) ∧
    ∀ R w args', Sim H R w → GlR [0] R → VRL R args args' → Calls P 25 ⟨args'⟩ w fun e w' => ∃ u R', e = .returned u ∧ VR R' v u ∧ Post H R w H' R' w' := by
  refine ⟨((evFn_ok hT hf hm 2) 25 _ _ _ _ (cloneA 0 .nil)).1, fun R w args' hs hgl ha => ?_⟩
  obtain ⟨x, r, rfl, h⟩ := ll_uncons h
  obtain ⟨rfl, h⟩ := ll_end h
  obtain ⟨s, hsl, h⟩ := oo_inv h
  obtain rfl := toSl_some hsl
  obtain ⟨k, T, z⟩ := H
  obtain ⟨hz, h⟩ := bb_inv (show bb z _ none = some _ from h)
  subst hz
  obtain ⟨hr, h⟩ := bb_inv h
  injection h with h; injection h with e1 e2; subst e1; subst e2
  obtain ⟨u, us, rfl, hu, hnil⟩ := ha.uncons
  obtain rfl := hnil.unnil
  obtain ⟨n, fl, cs⟩ := s
  have run : ∀ (a v1 : Value) (H2 : AHeap), evFn tt fns 2 25 [a] ⟨k, T, true⟩ = some (v1, H2) → VR R a u → Calls P 25 ⟨[u]⟩ w fun e w' => ∃ u' R', e = .returned u' ∧ VR R' v1 u' ∧ Post ⟨k, T, true⟩ R w H2 R' w' := fun a v1 H2 he hau =>
    ((evFn_ok hT hf hm 2) 25 _ _ _ _ he).2 R w [u] hs hgl (.one hau)
  have empty : ∀ (a : Value), VR R a u → (a = fsV 1 0 2 [] ∨ a = fsV 1 0 3 []) → ∀ o, o = AObj.cells (takeL (0 * 1) cs) false false [] → Calls P 25 ⟨[u]⟩ w fun e w' => ∃ u' R', e = .returned u' ∧ VR R' (.slice (some ⟨Nat.succ k, 0, some 1⟩) 0 (2 * 0 + bb false 1 0)) u' ∧
      Post ⟨k, T, true⟩ R w ((H1 k T).push o) R' w' := fun a hau hcase o ho => by
    rcases hcase with rfl | rfl
    · refine (run _ _ _ (cloneA k T) hau).mono fun e w' ⟨u', R', h1, h2, h3⟩ => ⟨u', R', h1, ?_, (h3.absPush (obj := .cells [] false false []) rfl).absPush (by rw [ho]; rfl)⟩
      rw [h2.slNil_l]; exact .slN rfl
    · refine (run _ _ _ (cloneB k T) hau).mono fun e w' ⟨u', R', h1, h2, h3⟩ => ⟨u', R', h1, ?_, h3.absPush (by rw [ho]; rfl)⟩
      cases h2 with
      | sl _ _ _ h3 _ => have := h3 rfl; subst this; exact .slE rfl
      | slE => exact .slE rfl
      | slN => exact .slN rfl
  rcases hu.fs_l (f := ⟨1, n, fl, cs⟩) rfl with ⟨h1, h2, rfl⟩ | ⟨_, h1, h2, c, o, sp, rfl⟩ | ⟨c, o, cap, C, hro, rfl, hn, k1, k2, k3, hfit, hcr, hcl⟩
  · have h1 : n = 0 := h1
    subst h1
    exact empty _ (.fsN 1 2 (by decide)) (.inl rfl) _ rfl
  · have h1 : n = 0 := h1
    subst h1
    exact empty _ (.fsE (by decide)) (.inr rfl) _ rfl
  · cases n with
    | zero =>
      have hc0 : cs = [] := by simpa using hn
      subst hc0
      exact empty (fsV 1 0 3 []) (.mkFs hro rfl (Nat.zero_le _) (fun h => by cases h) (by decide) hfit hcr hcl) (.inr rfl) _ rfl
    | succ n =>
      refine (run _ _ _ (cloneC k T n cs hr) (.mkFs hro hn k1 (fun h => by cases h) (by decide) hfit hcr hcl)).mono fun e w' ⟨u', R', g1, g2, g3⟩ => ⟨u', R', g1, ?_, g3⟩
      rwa [Nat.zero_add] at g2
end
end Go.TabUM.C25
namespace Go.TabUM.C27
open Go.Sp Go.TabU
noncomputable section
def cloneF (sz by' : Nat) (args : List Value) (H : AHeap) : Option (Value × AHeap) :=
  ll args none fun x r => ll r (oo (toSl sz x) none fun s => AHeap.rec (motive := fun _ => Option (Value × AHeap)) (fun k T z => bb z (bb (roomy (0 + s.n) by')
    (some (.slice (some ⟨Nat.succ k, 0, some sz⟩) s.n (2 * s.n + bb false 1 0), ((⟨k, T, true⟩ : AHeap).push (.cells [] false false [])).push (.cells (takeL (s.n * sz) s.cs) false false []))) none) none) H) fun _ _ => none
def oX : List ROp := [
   ⟨(some 5), .buildSlice 22 0 #[], 22, none, []⟩,
   ⟨(some 6), .move (.tmp 0), 22, none, []⟩,
   ⟨(some 7), .call ⟨.builtin .append, #[(.tmp 5), (.tmp 6)], #[22, 22]⟩, 22, none, []⟩,
   ⟨(some 2), .assign (.tmp 7), 22, none, []⟩]
def H1 (k : Nat) (T : Tr AObj) : AHeap := (⟨k, T, true⟩ : AHeap).push (.cells [] false false [])
def F1 (a : Value) : Fr := Fr.puts (Fr.made 8 [a]) [(2, .slice none 0 0), (3, a), (4, .bool false)]
def F2 (a : Value) (k : Nat) : Fr := Fr.puts (F1 a) [(5, .slice (some ⟨k, 0, some 2⟩) 0 1)]
def F3 (a : Value) (k : Nat) : Fr := Fr.puts (F2 a k) [(6, a)]
def F4 (a : Value) (k : Nat) (v : Value) : Fr := Fr.puts (F3 a k) [(7, v)]
def F5 (a : Value) (k : Nat) (v : Value) : Fr := Fr.puts (F4 a k v) [(2, v)]
theorem H1_get (k : Nat) (T : Tr AObj) : oCells ((H1 k T).get k) = some ⟨[], false, false, []⟩ := by
  unfold H1
  rw [AHeap.get_push, if_pos rfl]; rfl
theorem H1_next (k : Nat) (T : Tr AObj) : (H1 k T).next = k + 1 := by
  unfold H1; rw [AHeap.next_push]
theorem cloneA (k : Nat) (T : Tr AObj) : evFn tt fns 2 27 [fsV 2 0 2 []] ⟨k, T, true⟩ = some (.slice none 0 0, ⟨k, T, true⟩) := by kernel_rfl
theorem ops (call : CallF) (k : Nat) (T : Tr AObj) (a : Value) (v : Value) (H2 : AHeap) (s : Sl) (ha : a = s.v 2) (hD : appFs (H1 k T) 2 16 (.slice (some ⟨k, 0, some 2⟩) 0 1) s = some (v, H2)) :
    evOps tt call oX (F1 a) ⟨k, T, true⟩ = some (F5 a k v, H2) := by
  subst ha
  refine evOps_data (some (.slice (some ⟨k, 0, some 2⟩) 0 1, H1 k T)) (by kernel_rfl) rfl (by kernel_rfl) ?_
  refine evOps_data (some (s.v 2, H1 k T)) (by kernel_rfl) rfl (by kernel_rfl) ?_
  refine evOps_data (appFs (H1 k T) 2 16 (.slice (some ⟨k, 0, some 2⟩) 0 1) s) (by kernel_rfl) hD (by kernel_rfl) ?_
  refine evOps_data (some (v, H2)) (by kernel_rfl) rfl (by kernel_rfl) ?_
  rfl
theorem ev (k : Nat) (T : Tr AObj) (a : Value) (v : Value) (H2 : AHeap) (h1 : evC tt (evFn tt fns 1) 1 c27 (Fr.made 8 [a]) ⟨k, T, true⟩ = evC tt (evFn tt fns 1) 1 (.seq (.reg [] oX) .ret) (F1 a) ⟨k, T, true⟩)
    (h : evOps tt (evFn tt fns 1) oX (F1 a) ⟨k, T, true⟩ = some (F5 a k v, H2)) : evFn tt fns 2 27 [a] ⟨k, T, true⟩ = some (v, H2) := by
  show endFn tt [.tmp 2] (evC tt (evFn tt fns 1) 1 c27 (Fr.made 8 [a]) ⟨k, T, true⟩) = _
  rw [h1]
  show endFn tt [.tmp 2] (onNormal (regR (evOps tt (evFn tt fns 1) oX (F1 a) ⟨k, T, true⟩)) _) = _
  rw [h]
  kernel_rfl
theorem cloneB (k : Nat) (T : Tr AObj) : evFn tt fns 2 27 [fsV 2 0 3 []] ⟨k, T, true⟩ = some (.slice (some ⟨k, 0, some 2⟩) 0 1, H1 k T) :=
  ev k T _ _ _ (by kernel_rfl) (ops _ k T _ _ _ ⟨0, 3, []⟩ rfl (appFs_sl0 rfl))
theorem cloneC (k : Nat) (T : Tr AObj) (n : Nat) (cs : List Value) (hr : roomy (0 + (n + 1)) 16 = true) :
    evFn tt fns 2 27 [fsV 2 (n + 1) 0 cs] ⟨k, T, true⟩ = some (sliceAt (k + 1) 0 2 (0 + (n + 1)) (0 + (n + 1)) false, (H1 k T).push (.cells (takeL ((n + 1) * 2) cs) false false [])) :=
  ev k T _ _ _ (by kernel_rfl) (ops _ k T _ _ _ ⟨n + 1, 0, cs⟩ rfl (by rw [appFs_new rfl hr (H1_get k T), H1_next]))

theorem clone_ok {P : Program} (hT : TOk P tt) (hf : ∀ f r, fns f = some r → FnOk P [0] f r) (hm : P.follows .mixedOrders = true) {args : List Value} {H H' : AHeap} {v : Value} (h : cloneF 2 16 args H = some (v, H')) :
    (∀ (as : Array Value) (w : World), (callFunc 27 as).run P w = .ok (.enter 27 as) w) ∧
    ∀ R w args', Sim H R w → GlR [0] R → VRL R args args' → Calls P 27 ⟨args'⟩ w fun e w' => ∃ u R', e = .returned u ∧ VR R' v u ∧ Post H R w H' R' w' := by
  refine ⟨((evFn_ok hT hf hm 2) 27 _ _ _ _ (cloneA 0 .nil)).1, fun R w args' hs hgl ha => ?_⟩
  obtain ⟨x, r, rfl, h⟩ := ll_uncons h
  obtain ⟨rfl, h⟩ := ll_end h
  obtain ⟨s, hsl, h⟩ := oo_inv h
  obtain rfl := toSl_some hsl
  obtain ⟨k, T, z⟩ := H
  obtain ⟨hz, h⟩ := bb_inv (show bb z _ none = some _ from h)
  subst hz
  obtain ⟨hr, h⟩ := bb_inv h
  injection h with h; injection h with e1 e2; subst e1; subst e2
  obtain ⟨u, us, rfl, hu, hnil⟩ := ha.uncons
  obtain rfl := hnil.unnil
  obtain ⟨n, fl, cs⟩ := s
  have run : ∀ (a v1 : Value) (H2 : AHeap), evFn tt fns 2 27 [a] ⟨k, T, true⟩ = some (v1, H2) → VR R a u → Calls P 27 ⟨[u]⟩ w fun e w' => ∃ u' R', e = .returned u' ∧ VR R' v1 u' ∧ Post ⟨k, T, true⟩ R w H2 R' w' := fun a v1 H2 he hau =>
    ((evFn_ok hT hf hm 2) 27 _ _ _ _ he).2 R w [u] hs hgl (.one hau)
  have empty : ∀ (a : Value), VR R a u → (a = fsV 2 0 2 [] ∨ a = fsV 2 0 3 []) → ∀ o, o = AObj.cells (takeL (0 * 2) cs) false false [] → Calls P 27 ⟨[u]⟩ w fun e w' => ∃ u' R', e = .returned u' ∧ VR R' (.slice (some ⟨Nat.succ k, 0, some 2⟩) 0 (2 * 0 + bb false 1 0)) u' ∧
      Post ⟨k, T, true⟩ R w ((H1 k T).push o) R' w' := fun a hau hcase o ho => by
    rcases hcase with rfl | rfl
    · refine (run _ _ _ (cloneA k T) hau).mono fun e w' ⟨u', R', h1, h2, h3⟩ => ⟨u', R', h1, ?_, (h3.absPush (obj := .cells [] false false []) rfl).absPush (by rw [ho]; rfl)⟩
      rw [h2.slNil_l]; exact .slN rfl
    · refine (run _ _ _ (cloneB k T) hau).mono fun e w' ⟨u', R', h1, h2, h3⟩ => ⟨u', R', h1, ?_, h3.absPush (by rw [ho]; rfl)⟩
      cases h2 with
      | sl _ _ _ h3 _ => have := h3 rfl; subst this; exact .slE rfl
      | slE => exact .slE rfl
      | slN => exact .slN rfl
  rcases hu.fs_l (f := ⟨2, n, fl, cs⟩) rfl with ⟨h1, h2, rfl⟩ | ⟨_, h1, h2, c, o, sp, rfl⟩ | ⟨c, o, cap, C, hro, rfl, hn, k1, k2, k3, hfit, hcr, hcl⟩
  · have h1 : n = 0 := h1
    subst h1
    exact empty _ (.fsN 2 2 (by decide)) (.inl rfl) _ rfl
  · have h1 : n = 0 := h1
    subst h1
    exact empty _ (.fsE (by decide)) (.inr rfl) _ rfl
  · cases n with
    | zero =>
      have hc0 : cs = [] := by simpa using hn
      subst hc0
      exact empty (fsV 2 0 3 []) (.mkFs hro rfl (Nat.zero_le _) (fun h => by cases h) (by decide) hfit hcr hcl) (.inr rfl) _ rfl
    | succ n =>
      refine (run _ _ _ (cloneC k T n cs hr) (.mkFs hro hn k1 (fun h => by cases h) (by decide) hfit hcr hcl)).mono fun e w' ⟨u', R', g1, g2, g3⟩ => ⟨u', R', g1, ?_, g3⟩
      rwa [Nat.zero_add] at g2
end
end Go.TabUM.C27
namespace Go.TabUM
open Go.Sp Go.TabU
noncomputable def cloneF (sz by' : Nat) (args : List Value) (H : AHeap) : Option (Value × AHeap) := C25.cloneF sz by' args H
theorem clone25_ok {P : Program} (hT : TOk P tt) (hf : ∀ f r, fns f = some r → FnOk P [0] f r) (hm : P.follows .mixedOrders = true) {args : List Value} {H H' : AHeap} {v : Value} (h : cloneF 1 8 args H = some (v, H')) :
    (∀ (as : Array Value) (w : World), (callFunc 25 as).run P w = .ok (.enter 25 as) w) ∧
    ∀ R w args', Sim H R w → GlR [0] R → VRL R args args' → Calls P 25 ⟨args'⟩ w fun e w' => ∃ u R', e = .returned u ∧ VR R' v u ∧ Post H R w H' R' w' := C25.clone_ok hT hf hm h
theorem clone27_ok {P : Program} (hT : TOk P tt) (hf : ∀ f r, fns f = some r → FnOk P [0] f r) (hm : P.follows .mixedOrders = true) {args : List Value} {H H' : AHeap} {v : Value} (h : cloneF 2 16 args H = some (v, H')) :
    (∀ (as : Array Value) (w : World), (callFunc 27 as).run P w = .ok (.enter 27 as) w) ∧
    ∀ R w args', Sim H R w → GlR [0] R → VRL R args args' → Calls P 27 ⟨args'⟩ w fun e w' => ∃ u R', e = .returned u ∧ VR R' v u ∧ Post H R w H' R' w' := C27.clone_ok hT hf hm h
end Go.TabUM
set_option maxRecDepth 100000
set_option maxHeartbeats 20000000
set_option linter.unusedVariables false
namespace Go.TabUM
open Go.Sp Go.TabU
noncomputable section
def tab0 : List Value := [.int .u8 0, .int .u8 1, .int .u8 56, .int .u8 2, .int .u8 57, .int .u8 49, .int .u8 28, .int .u8 3, .int .u8 61, .int .u8 58, .int .u8 42, .int .u8 50, .int .u8 38, .int .u8 29, .int .u8 17, .int .u8 4, .int .u8 62, .int .u8 47, .int .u8 59, .int .u8 36, .int .u8 45, .int .u8 43, .int .u8 51, .int .u8 22, .int .u8 53, .int .u8 39, .int .u8 33, .int .u8 30, .int .u8 24, .int .u8 18, .int .u8 12, .int .u8 5, .int .u8 63, .int .u8 55, .int .u8 48, .int .u8 27, .int .u8 60, .int .u8 41, .int .u8 37, .int .u8 16, .int .u8 46, .int .u8 35, .int .u8 44, .int .u8 21, .int .u8 52, .int .u8 32, .int .u8 23, .int .u8 11, .int .u8 54, .int .u8 26, .int .u8 40, .int .u8 15, .int .u8 34, .int .u8 20, .int .u8 31, .int .u8 10, .int .u8 25, .int .u8 14, .int .u8 19, .int .u8 9, .int .u8 13, .int .u8 8, .int .u8 7, .int .u8 6]
def tabs : List (List Value) := [tab0]
def plist : List Nat := [6, 8, 38, 39, 50, 51, 52, 53, 56, 60]
def isP : FuncId → Bool := fun g => memN g plist
def inl (pu : PureF) : CallF := fun g args H => bb (Nat.beq g 25) (cloneF 1 8 args H) (bb (Nat.beq g 27) (cloneF 2 16 args H) (bb (Nat.beq g 26) (sortF args H) (bb (Nat.beq g 23) (objG tabs [[none, some 2, none], [none]] 2 [] [true, false] (pu 10230) args H) (bb (Nat.beq g 24) (objG tabs [[none, some 2], [some 1]] 2 [] [] (pu 10240) args H) (bb (Nat.beq g 9) (objG tabs [[none, some 2]] 1 [] [] (pu 10090) args H) (bb (Nat.beq g 15) (objG tabs [[some 1], [some 1]] 2 [] [] (pu 10150) args H) (none)))))))
def zA73 : List Value := [(.int .u64 (0 : Int)), (.int .u64 (0 : Int)), (.int .u64 (0 : Int)), (.int .u64 (0 : Int)), (.int .u64 (0 : Int)), (.int .u64 (0 : Int)), (.int .u64 (0 : Int)), (.int .u64 (0 : Int)), (.int .u64 (0 : Int)), (.int .u64 (0 : Int)), (.int .u64 (0 : Int)), (.int .u64 (0 : Int)), (.int .u64 (0 : Int)), (.int .u64 (0 : Int))]
end
end Go.TabUM
