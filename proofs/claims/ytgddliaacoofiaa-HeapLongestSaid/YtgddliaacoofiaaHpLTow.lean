/- Tables of heaps of at most 14 cards: the promises that closed runs give; and the law HeapLongest. -/
import Derived.Test.YtgddliaacoofiaaHpLRepx
import Derived.Test.YtgddliaacoofiaaHpLRun1
import Derived.Test.YtgddliaacoofiaaHpLRun2
import Derived.Test.YtgddliaacoofiaaHpLRun3
import Derived.Test.YtgddliaacoofiaaHpLRun4
import Derived.Test.YtgddliaacoofiaaHpLRun5
import Derived.Test.YtgddliaacoofiaaHpLRun6
import Derived.Test.YtgddliaacoofiaaHpLRun7
import Derived.Test.YtgddliaacoofiaaHpLRun8
import Derived.Test.YtgddliaacoofiaaHpLRun9
import Derived.Test.YtgddliaacoofiaaHpLRun10

set_option maxRecDepth 100000
namespace Go.Proofs.Ytgddliaacoofiaa.HpL
open Go Go.Sp Go.HpLM Go.HpL Go.HpT
theorem onP_inv {β : Type} {args : List Value} {k : List Nat → Option β} {v : β} (h : onP args k = some v) : ∃ p, args = [slP p] ∧ okP 14 p = true ∧ k p = some v := by
  replace h := ll_uncons h; obtain ⟨a, r, rfl, h⟩ := h
  replace h := ll_end h; obtain ⟨rfl, h⟩ := h
  obtain ⟨s, hs, h1⟩ := oo_inv h
  obtain ⟨p, hp, h2⟩ := oo_inv h1
  obtain ⟨hc, h3⟩ := bb_inv h2
  obtain ⟨c1, hc⟩ := an_inv hc
  obtain ⟨c2, hc⟩ := an_inv hc
  obtain ⟨c3, c4⟩ := an_inv hc
  refine ⟨p, ?_, c1, h3⟩
  rw [toSl_some hs]
  obtain ⟨n, fl, cs⟩ := s
  have e1 : n = len p := Nat.eq_of_beq_eq_true c2
  have e2 : fl = 0 := Nat.eq_of_beq_eq_true c3
  have e3 : cs = iL p := valsEq_eq c4
  subst e1; subst e2; subst e3; rfl
theorem onC_inv {β : Type} {args : List Value} {k : List Nat → Option β} {v : β} (h : onC args k = some v) : ∃ p, args = [cnP p] ∧ okP 14 p = true ∧ k p = some v := by
  replace h := ll_uncons h; obtain ⟨a, r, rfl, h⟩ := h
  replace h := ll_end h; obtain ⟨rfl, h⟩ := h
  obtain ⟨cs, hs, h1⟩ := oo_inv h
  obtain ⟨p, hp, h2⟩ := oo_inv h1
  obtain ⟨hc, h3⟩ := bb_inv h2
  obtain ⟨c1, c2⟩ := an_inv hc
  refine ⟨p, ?_, c1, h3⟩
  rw [vAgg_some hs, valsEq_eq c2]; rfl
theorem oo_true {α : Type} {o : Option α} {f : α → Bool} (h : oo o false f = true) : ∃ a, o = some a ∧ f a = true := by
  cases o with
  | none => cases h
  | some a => exact ⟨a, rfl, h⟩
theorem ll_true {α : Type} {l : List α} {f : α → List α → Bool} (h : ll l false f = true) : ∃ a r, l = a :: r ∧ f a r = true := by
  cases l with
  | nil => cases h
  | cons a r => exact ⟨a, r, rfl, h⟩
theorem ll_last {α : Type} {l : List α} {b : Bool} (h : ll l b (fun _ _ => false) = true) : l = [] ∧ b = true := by
  cases l with
  | nil => exact ⟨rfl, h⟩
  | cons a r => cases h
theorem isB_eq {b : Bool} {v : Option Value} (h : isB b v = true) : v = some (.bool b) := by
  replace h := oo_true h; obtain ⟨v, rfl, h⟩ := h
  replace h := oo_true h; obtain ⟨c, hc, h⟩ := h
  rw [vBool_some hc]
  cases c <;> cases b <;> first | rfl | cases h
theorem isA_eq {cs : List Value} {v : Option Value} (h : isA cs v = true) : v = some (.agg ⟨cs⟩) := by
  replace h := oo_true h; obtain ⟨v, rfl, h⟩ := h
  replace h := oo_true h; obtain ⟨l, hl, h⟩ := h
  rw [vAgg_some hl, valsEq_eq h]
theorem ieq_nat {z : Int} {n : Nat} (h : ieq z (.ofNat n) = true) : z = .ofNat n := by rw [ieq_eq] at h; simpa using h
theorem isW_eq {n : Nat} {cs : List Value} {v : Option Value} (h : isW n cs v = true) : v = some (.tuple ⟨[.int .i64 (.ofNat n), .agg ⟨cs⟩]⟩) := by
  replace h := oo_true h; obtain ⟨v, rfl, h⟩ := h
  replace h := oo_true h; obtain ⟨l, hl, h⟩ := h
  replace h := ll_true h; obtain ⟨a, r, rfl, h⟩ := h
  replace h := ll_true h; obtain ⟨b, r, rfl, h⟩ := h
  replace h := ll_last h; obtain ⟨rfl, h⟩ := h
  replace h := oo_true h; obtain ⟨z, hz, h⟩ := h
  replace h := an_inv h; obtain ⟨h1, h⟩ := h
  replace h := oo_true h; obtain ⟨q, hq, h⟩ := h
  rw [vTup_some hl, toI_some hz, ieq_nat h1, vAgg_some hq, valsEq_eq h]
theorem isU_eq {n : Nat} {q : List Nat} {v : Option Value} (h : isU n q v = true) : v = some (.tuple ⟨[.int .i64 (.ofNat n), slP q]⟩) := by
  replace h := oo_true h; obtain ⟨v, rfl, h⟩ := h
  replace h := oo_true h; obtain ⟨l, hl, h⟩ := h
  replace h := ll_true h; obtain ⟨a, r, rfl, h⟩ := h
  replace h := ll_true h; obtain ⟨b, r, rfl, h⟩ := h
  replace h := ll_last h; obtain ⟨rfl, h⟩ := h
  replace h := oo_true h; obtain ⟨z, hz, h⟩ := h
  replace h := an_inv h; obtain ⟨h1, h⟩ := h
  replace h := oo_true h; obtain ⟨s, hs, h⟩ := h
  replace h := an_inv h; obtain ⟨h2, h⟩ := h
  replace h := an_inv h; obtain ⟨h3, h4⟩ := h
  obtain ⟨m, fl, cs⟩ := s
  have e1 : m = len q := Nat.eq_of_beq_eq_true h2
  have e2 : fl = 0 := Nat.eq_of_beq_eq_true h3
  have e3 : cs = iL q := valsEq_eq h4
  subst e1; subst e2; subst e3
  rw [vTup_some hl, toI_some hz, ieq_nat h1, toSl_some hs]; rfl
theorem allL_app {α : Type} {c : α → Bool} {a b : List α} (h1 : allL c a = true) (h2 : allL c b = true) : allL c (appL a b) = true := by
  rw [allL_eq, List.all_eq_true] at *
  intro x hx
  rw [appL_eq, List.mem_append] at hx
  rcases hx with hx | hx
  · exact h1 x hx
  · exact h2 x hx
theorem heads_all {c : List Nat → Bool} {ih : Nat → Nat → List (List Nat)} {left : Nat} : ∀ m, (∀ k, k < m → allL c (mapL (fun p => (k + 1) :: p) (ih (left - (k + 1)) (k + 1))) = true) → allL c (heads ih left m) = true
  | 0, _ => rfl
  | m + 1, h => allL_app (heads_all m fun k hk => h k (by omega)) (h m (by omega))
theorem allP_succ {c : List Nat → Bool} {n : Nat} (h : allP n c = true) (h2 : allL c (pts (n + 1) (n + 1) (n + 1)) = true) : allP (n + 1) c = true := by
  show an (allP n c) (allL c (pts (n + 1) (n + 1) (n + 1))) = true
  rw [h, h2]; rfl
theorem run57 : allP 14 chk57 = true := (allP_succ (allP_succ (allP_succ (allP_succ (allP_succ (allP_succ (allP_succ (allP_succ (allP_succ (allP_succ (allP_succ (allP_succ (allP_succ (allP_succ (rfl : allP 0 chk57 = true) t57_1) t57_2) t57_3) t57_4) t57_5) t57_6) t57_7) t57_8) t57_9) t57_10) t57_11) t57_12) t57_13) t57_14)
theorem t58_14 : allL chkT58 (pts 14 14 14) = true := by
  show allL chkT58 (heads (pts 13) 14 14) = true
  refine heads_all 14 fun k hk => ?_
  match k, hk with
  | 0, _ => exact t58_14_1
  | 1, _ => exact t58_14_2
  | 2, _ => exact t58_14_3
  | 3, _ => exact t58_14_4
  | 4, _ => exact t58_14_5
  | 5, _ => exact t58_14_6
  | 6, _ => exact t58_14_7
  | 7, _ => exact t58_14_8
  | 8, _ => exact t58_14_9
  | 9, _ => exact t58_14_10
  | 10, _ => exact t58_14_11
  | 11, _ => exact t58_14_12
  | 12, _ => exact t58_14_13
  | 13, _ => exact t58_14_14
  | k + 14, hk => omega
theorem run58 : allP 14 chkT58 = true := (allP_succ (allP_succ (allP_succ (allP_succ (allP_succ (allP_succ (allP_succ (allP_succ (allP_succ (allP_succ (allP_succ (allP_succ (allP_succ (allP_succ (rfl : allP 0 chkT58 = true) t58_1) t58_2) t58_3) t58_4) t58_5) t58_6) t58_7) t58_8) t58_9) t58_10) t58_11) t58_12) t58_13) t58_14)
section
variable (hm : Try.prog.follows .mixedOrders = true)
include hm
theorem all0 : ∀ g, isP g = true → PureOk Try.prog tabs g (pu0 g) := (all_ok hm (orc75_ok hm) 60).1
theorem inl0 : CallOk Try.prog (List.range tabs.length) (inl pu0) := by
  obtain ⟨_, hl44, hg75, ho10770, ho10860, ho11100⟩ := all_ok hm (orc75_ok hm) 60
  exact inl_ok hm hl44 hg75 ho10770 ho10860 ho11100
theorem ok51 : PureOk Try.prog tabs 51 orc51 := by
  refine pureOk_closedP (tabs := tabs) (n := 1000) (g := 51) (H := tabsHeap tabs) (isP := isP) (pu := pu0) (inl := inl pu0) ttOk tabs_ne tabs_pl fnsOk hm (all0 hm) (inl0 hm) (fun i => tabsHeap_get i) rfl (enter_ok fok51) fun args v h => ?_
  obtain ⟨p, rfl, hp, hk⟩ := onP_inv h
  injection hk with hk; subst hk
  exact ⟨rfl, .inl (isB_eq (allP_ok run51 p hp))⟩
theorem ok43 : PureOk Try.prog tabs 43 orc43 := by
  refine pureOk_closedP (tabs := tabs) (n := 1000) (g := 43) (H := tabsHeap tabs) (isP := isP) (pu := pu0) (inl := inl pu0) ttOk tabs_ne tabs_pl fnsOk hm (all0 hm) (inl0 hm) (fun i => tabsHeap_get i) rfl (enter_ok fok43) fun args v h => ?_
  obtain ⟨p, rfl, hp, hk⟩ := onC_inv h
  injection hk with hk; subst hk
  exact ⟨by rfl, .inl (isA_eq (allP_ok run43 p hp))⟩
theorem ok47 : PureOk Try.prog tabs 47 orc47 := by
  refine pureOk_closedP (tabs := tabs) (n := 1000) (g := 47) (H := tabsHeap tabs) (isP := isP) (pu := pu0) (inl := inl pu0) ttOk tabs_ne tabs_pl fnsOk hm (all0 hm) (inl0 hm) (fun i => tabsHeap_get i) rfl (enter_ok fok47) fun args v h => ?_
  obtain ⟨p, rfl, hp, hk⟩ := onC_inv h
  injection hk with hk; subst hk
  exact ⟨rfl, .inl (isB_eq (allP_ok run47 p hp))⟩
theorem ok11 : PureOk Try.prog tabs 11 tru := by
  refine pureOk_closedP (tabs := tabs) (n := 1000) (g := 11) (H := tabsHeap tabs) (isP := isP) (pu := pu0) (inl := inl pu0) ttOk tabs_ne tabs_pl fnsOk hm (all0 hm) (inl0 hm) (fun i => tabsHeap_get i) rfl (enter_ok fok11) fun args v h => ?_
  replace h := ll_end h; obtain ⟨rfl, h⟩ := h
  injection h with h; subst h
  exact ⟨rfl, .inl run11⟩
theorem all1 : ∀ g, is1' g = true → PureOk Try.prog tabs g (pu1 g) := fun g hg => by
  unfold is1' at hg
  unfold pu1
  cases h51 : Nat.beq g 51 with
  | true => obtain rfl := Nat.eq_of_beq_eq_true h51; exact ok51 hm
  | false =>
  rw [h51] at hg
  rw [bb_false]
  replace hg : (orr (Nat.beq g 43) (Nat.beq g 47)) = true := hg
  cases h43 : Nat.beq g 43 with
  | true => obtain rfl := Nat.eq_of_beq_eq_true h43; exact ok43 hm
  | false =>
  rw [h43] at hg
  rw [bb_false]
  replace hg : (Nat.beq g 47) = true := hg
  cases h47 : Nat.beq g 47 with
  | true => obtain rfl := Nat.eq_of_beq_eq_true h47; exact ok47 hm
  | false =>
  rw [h47] at hg; cases hg
theorem ok57 : PureOk Try.prog tabs 57 orc57 := by
  refine pureOk_closedP (tabs := tabs) (n := 1000) (g := 57) (H := tabsHeap tabs) (isP := is1') (pu := pu1) (inl := fun _ _ _ => none) ttOk tabs_ne tabs_pl fnsOk hm (all1 hm) no_ok (fun i => tabsHeap_get i) rfl (enter_ok fok57) fun args v h => ?_
  obtain ⟨p, rfl, hp, hk⟩ := onC_inv h
  have hc := allP_ok run57 p hp
  unfold chk57 at hc
  rw [pp_eta] at hk hc
  injection hk with hk; subst hk
  exact ⟨by rfl, .inl (isW_eq hc)⟩
theorem ok58 : PureOk Try.prog tabs 58 orc58 := by
  refine pureOk_closedT (tabs := tabs) (n := 1000) (g := 58) (H := tabsHeap tabs) (isP := is1') (pu := pu1) (inl := inl pu0) ttOk tabs_ne tabs_pl fnsOk hm (all1 hm) (inl0 hm) (fun i => tabsHeap_get i) rfl (enter_ok fok58) fun args v h => ?_
  obtain ⟨p, rfl, hp, hk⟩ := onP_inv h
  have hc := allP_ok run58 p hp
  unfold chkT58 at hc
  rw [pp_eta] at hk hc
  injection hk with hk; subst hk
  exact ⟨by rfl, isU_eq hc⟩
theorem ok34 : PureOk Try.prog tabs 34 orc34 := by
  refine pureOk_closedP (tabs := tabs) (n := 1000) (g := 34) (H := tabsHeap tabs) (isP := isP) (pu := pu0) (inl := inl pu0) ttOk tabs_ne tabs_pl fnsOk hm (all0 hm) (inl0 hm) (fun i => tabsHeap_get i) rfl (enter_ok fok34) fun args v h => ?_
  replace h := ll_uncons h; obtain ⟨a, r, rfl, h⟩ := h
  replace h := ll_end h; obtain ⟨rfl, h⟩ := h
  replace h := oo_inv h; obtain ⟨z, hz, h⟩ := h
  obtain rfl := toI_some hz
  replace h := oo_inv h; obtain ⟨n, hn, h⟩ := h
  obtain rfl := toN_some hn
  replace h := bb_inv h; obtain ⟨h1, h⟩ := h
  match n, h1, h with
  | 0, h1, _ => cases h1
  | 1, _, h => obtain rfl := Option.some.inj (show some (Value.tuple ⟨[.int .i64 (.ofNat 0), .int .i64 (.ofNat 0)]⟩) = some v from h); exact ⟨by rfl, .inl r34_1⟩
  | 2, _, h => obtain rfl := Option.some.inj (show some (Value.tuple ⟨[.int .i64 (.ofNat 0), .int .i64 (.ofNat 0)]⟩) = some v from h); exact ⟨by rfl, .inl r34_2⟩
  | 3, _, h => obtain rfl := Option.some.inj (show some (Value.tuple ⟨[.int .i64 (.ofNat 1), .int .i64 (.ofNat 0)]⟩) = some v from h); exact ⟨by rfl, .inl r34_3⟩
  | 4, _, h => obtain rfl := Option.some.inj (show some (Value.tuple ⟨[.int .i64 (.ofNat 1), .int .i64 (.ofNat 0)]⟩) = some v from h); exact ⟨by rfl, .inl r34_4⟩
  | 5, _, h => obtain rfl := Option.some.inj (show some (Value.tuple ⟨[.int .i64 (.ofNat 2), .int .i64 (.ofNat 0)]⟩) = some v from h); exact ⟨by rfl, .inl r34_5⟩
  | 6, _, h => obtain rfl := Option.some.inj (show some (Value.tuple ⟨[.int .i64 (.ofNat 3), .int .i64 (.ofNat 0)]⟩) = some v from h); exact ⟨by rfl, .inl r34_6⟩
  | 7, _, h => obtain rfl := Option.some.inj (show some (Value.tuple ⟨[.int .i64 (.ofNat 5), .int .i64 (.ofNat 0)]⟩) = some v from h); exact ⟨by rfl, .inl r34_7⟩
  | 8, _, h => obtain rfl := Option.some.inj (show some (Value.tuple ⟨[.int .i64 (.ofNat 7), .int .i64 (.ofNat 0)]⟩) = some v from h); exact ⟨by rfl, .inl r34_8⟩
  | 9, _, h => obtain rfl := Option.some.inj (show some (Value.tuple ⟨[.int .i64 (.ofNat 10), .int .i64 (.ofNat 0)]⟩) = some v from h); exact ⟨by rfl, .inl r34_9⟩
  | 10, _, h => obtain rfl := Option.some.inj (show some (Value.tuple ⟨[.int .i64 (.ofNat 14), .int .i64 (.ofNat 0)]⟩) = some v from h); exact ⟨by rfl, .inl r34_10⟩
  | 11, _, h => obtain rfl := Option.some.inj (show some (Value.tuple ⟨[.int .i64 (.ofNat 20), .int .i64 (.ofNat 0)]⟩) = some v from h); exact ⟨by rfl, .inl r34_11⟩
  | 12, _, h => obtain rfl := Option.some.inj (show some (Value.tuple ⟨[.int .i64 (.ofNat 27), .int .i64 (.ofNat 0)]⟩) = some v from h); exact ⟨by rfl, .inl r34_12⟩
  | 13, _, h => obtain rfl := Option.some.inj (show some (Value.tuple ⟨[.int .i64 (.ofNat 37), .int .i64 (.ofNat 0)]⟩) = some v from h); exact ⟨by rfl, .inl r34_13⟩
  | 14, _, h => obtain rfl := Option.some.inj (show some (Value.tuple ⟨[.int .i64 (.ofNat 49), .int .i64 (.ofNat 0)]⟩) = some v from h); exact ⟨by rfl, .inl r34_14⟩
  | n + 15, _, h => cases h
theorem ok35 : PureOk Try.prog tabs 35 orc34 := by
  refine pureOk_closedP (tabs := tabs) (n := 1000) (g := 35) (H := tabsHeap tabs) (isP := isP) (pu := pu0) (inl := inl pu0) ttOk tabs_ne tabs_pl fnsOk hm (all0 hm) (inl0 hm) (fun i => tabsHeap_get i) rfl (enter_ok fok35) fun args v h => ?_
  replace h := ll_uncons h; obtain ⟨a, r, rfl, h⟩ := h
  replace h := ll_end h; obtain ⟨rfl, h⟩ := h
  replace h := oo_inv h; obtain ⟨z, hz, h⟩ := h
  obtain rfl := toI_some hz
  replace h := oo_inv h; obtain ⟨n, hn, h⟩ := h
  obtain rfl := toN_some hn
  replace h := bb_inv h; obtain ⟨h1, h⟩ := h
  match n, h1, h with
  | 0, h1, _ => cases h1
  | 1, _, h => obtain rfl := Option.some.inj (show some (Value.tuple ⟨[.int .i64 (.ofNat 0), .int .i64 (.ofNat 0)]⟩) = some v from h); exact ⟨by rfl, .inl r35_1⟩
  | 2, _, h => obtain rfl := Option.some.inj (show some (Value.tuple ⟨[.int .i64 (.ofNat 0), .int .i64 (.ofNat 0)]⟩) = some v from h); exact ⟨by rfl, .inl r35_2⟩
  | 3, _, h => obtain rfl := Option.some.inj (show some (Value.tuple ⟨[.int .i64 (.ofNat 1), .int .i64 (.ofNat 0)]⟩) = some v from h); exact ⟨by rfl, .inl r35_3⟩
  | 4, _, h => obtain rfl := Option.some.inj (show some (Value.tuple ⟨[.int .i64 (.ofNat 1), .int .i64 (.ofNat 0)]⟩) = some v from h); exact ⟨by rfl, .inl r35_4⟩
  | 5, _, h => obtain rfl := Option.some.inj (show some (Value.tuple ⟨[.int .i64 (.ofNat 2), .int .i64 (.ofNat 0)]⟩) = some v from h); exact ⟨by rfl, .inl r35_5⟩
  | 6, _, h => obtain rfl := Option.some.inj (show some (Value.tuple ⟨[.int .i64 (.ofNat 3), .int .i64 (.ofNat 0)]⟩) = some v from h); exact ⟨by rfl, .inl r35_6⟩
  | 7, _, h => obtain rfl := Option.some.inj (show some (Value.tuple ⟨[.int .i64 (.ofNat 5), .int .i64 (.ofNat 0)]⟩) = some v from h); exact ⟨by rfl, .inl r35_7⟩
  | 8, _, h => obtain rfl := Option.some.inj (show some (Value.tuple ⟨[.int .i64 (.ofNat 7), .int .i64 (.ofNat 0)]⟩) = some v from h); exact ⟨by rfl, .inl r35_8⟩
  | 9, _, h => obtain rfl := Option.some.inj (show some (Value.tuple ⟨[.int .i64 (.ofNat 10), .int .i64 (.ofNat 0)]⟩) = some v from h); exact ⟨by rfl, .inl r35_9⟩
  | 10, _, h => obtain rfl := Option.some.inj (show some (Value.tuple ⟨[.int .i64 (.ofNat 14), .int .i64 (.ofNat 0)]⟩) = some v from h); exact ⟨by rfl, .inl r35_10⟩
  | 11, _, h => obtain rfl := Option.some.inj (show some (Value.tuple ⟨[.int .i64 (.ofNat 20), .int .i64 (.ofNat 0)]⟩) = some v from h); exact ⟨by rfl, .inl r35_11⟩
  | 12, _, h => obtain rfl := Option.some.inj (show some (Value.tuple ⟨[.int .i64 (.ofNat 27), .int .i64 (.ofNat 0)]⟩) = some v from h); exact ⟨by rfl, .inl r35_12⟩
  | 13, _, h => obtain rfl := Option.some.inj (show some (Value.tuple ⟨[.int .i64 (.ofNat 37), .int .i64 (.ofNat 0)]⟩) = some v from h); exact ⟨by rfl, .inl r35_13⟩
  | 14, _, h => obtain rfl := Option.some.inj (show some (Value.tuple ⟨[.int .i64 (.ofNat 49), .int .i64 (.ofNat 0)]⟩) = some v from h); exact ⟨by rfl, .inl r35_14⟩
  | n + 15, _, h => cases h
theorem all2 : ∀ g, is2 g = true → PureOk Try.prog tabs g (pu2 g) := fun g hg => by
  unfold is2 at hg
  unfold pu2
  cases h11 : Nat.beq g 11 with
  | true => obtain rfl := Nat.eq_of_beq_eq_true h11; exact ok11 hm
  | false =>
  rw [h11] at hg
  rw [bb_false]
  replace hg : (orr (Nat.beq g 58) (orr (Nat.beq g 57) (orr (Nat.beq g 34) (orr (Nat.beq g 35) (isP g))))) = true := hg
  cases h58 : Nat.beq g 58 with
  | true => obtain rfl := Nat.eq_of_beq_eq_true h58; exact ok58 hm
  | false =>
  rw [h58] at hg
  rw [bb_false]
  replace hg : (orr (Nat.beq g 57) (orr (Nat.beq g 34) (orr (Nat.beq g 35) (isP g)))) = true := hg
  cases h57 : Nat.beq g 57 with
  | true => obtain rfl := Nat.eq_of_beq_eq_true h57; exact ok57 hm
  | false =>
  rw [h57] at hg
  rw [bb_false]
  replace hg : (orr (Nat.beq g 34) (orr (Nat.beq g 35) (isP g))) = true := hg
  cases h34 : Nat.beq g 34 with
  | true => obtain rfl := Nat.eq_of_beq_eq_true h34; exact ok34 hm
  | false =>
  rw [h34] at hg
  rw [bb_false]
  replace hg : (orr (Nat.beq g 35) (isP g)) = true := hg
  cases h35 : Nat.beq g 35 with
  | true => obtain rfl := Nat.eq_of_beq_eq_true h35; exact ok35 hm
  | false =>
  rw [h35] at hg
  rw [bb_false]
  replace hg : (isP g) = true := hg
  exact all0 hm g hg
theorem ok36 : PureOk Try.prog tabs 36 orc36 := by
  refine pureOk_closedT (tabs := tabs) (n := 1000) (g := 36) (H := tabsHeap tabs) (isP := is2) (pu := pu2) (inl := inl pu0) ttOk tabs_ne tabs_pl fnsOk hm (all2 hm) (inl0 hm) (fun i => tabsHeap_get i) rfl (enter_ok fok36) fun args v h => ?_
  replace h := ll_uncons h; obtain ⟨a, r, rfl, h⟩ := h
  replace h := ll_end h; obtain ⟨rfl, h⟩ := h
  replace h := oo_inv h; obtain ⟨z, hz, h⟩ := h
  obtain rfl := toI_some hz
  replace h := oo_inv h; obtain ⟨n, hn, h⟩ := h
  obtain rfl := toN_some hn
  replace h := bb_inv h; obtain ⟨h1, h⟩ := h
  match n, h1, h with
  | 0, h1, _ => cases h1
  | 1, _, h => obtain rfl := Option.some.inj (show some (longV (0, [1])) = some v from h); exact ⟨by rfl, r36_1⟩
  | 2, _, h => obtain rfl := Option.some.inj (show some (longV (0, [1, 1])) = some v from h); exact ⟨by rfl, r36_2⟩
  | 3, _, h => obtain rfl := Option.some.inj (show some (longV (2, [1, 1, 1])) = some v from h); exact ⟨by rfl, r36_3⟩
  | 4, _, h => obtain rfl := Option.some.inj (show some (longV (2, [1, 1, 1, 1])) = some v from h); exact ⟨by rfl, r36_4⟩
  | 5, _, h => obtain rfl := Option.some.inj (show some (longV (3, [1, 1, 1, 1, 1])) = some v from h); exact ⟨by rfl, r36_5⟩
  | 6, _, h => obtain rfl := Option.some.inj (show some (longV (6, [2, 2, 1, 1])) = some v from h); exact ⟨by rfl, r36_6⟩
  | 7, _, h => obtain rfl := Option.some.inj (show some (longV (4, [1, 1, 1, 1, 1, 1, 1])) = some v from h); exact ⟨by rfl, r36_7⟩
  | 8, _, h => obtain rfl := Option.some.inj (show some (longV (5, [1, 1, 1, 1, 1, 1, 1, 1])) = some v from h); exact ⟨by rfl, r36_8⟩
  | 9, _, h => obtain rfl := Option.some.inj (show some (longV (7, [3, 2, 2, 1, 1])) = some v from h); exact ⟨by rfl, r36_9⟩
  | 10, _, h => obtain rfl := Option.some.inj (show some (longV (12, [3, 2, 2, 1, 1, 1])) = some v from h); exact ⟨by rfl, r36_10⟩
  | 11, _, h => obtain rfl := Option.some.inj (show some (longV (8, [3, 2, 2, 2, 1, 1])) = some v from h); exact ⟨by rfl, r36_11⟩
  | 12, _, h => obtain rfl := Option.some.inj (show some (longV (8, [1, 1, 1, 1, 1, 1, 1, 1, 1, 1, 1, 1])) = some v from h); exact ⟨by rfl, r36_12⟩
  | 13, _, h => obtain rfl := Option.some.inj (show some (longV (9, [1, 1, 1, 1, 1, 1, 1, 1, 1, 1, 1, 1, 1])) = some v from h); exact ⟨by rfl, r36_13⟩
  | 14, _, h => obtain rfl := Option.some.inj (show some (longV (14, [3, 3, 2, 2, 2, 1, 1])) = some v from h); exact ⟨by rfl, r36_14⟩
  | n + 15, _, h => cases h
theorem ok37 : PureOk Try.prog tabs 37 orc36 := by
  refine pureOk_closedT (tabs := tabs) (n := 1000) (g := 37) (H := tabsHeap tabs) (isP := is2) (pu := pu2) (inl := inl pu0) ttOk tabs_ne tabs_pl fnsOk hm (all2 hm) (inl0 hm) (fun i => tabsHeap_get i) rfl (enter_ok fok37) fun args v h => ?_
  replace h := ll_uncons h; obtain ⟨a, r, rfl, h⟩ := h
  replace h := ll_end h; obtain ⟨rfl, h⟩ := h
  replace h := oo_inv h; obtain ⟨z, hz, h⟩ := h
  obtain rfl := toI_some hz
  replace h := oo_inv h; obtain ⟨n, hn, h⟩ := h
  obtain rfl := toN_some hn
  replace h := bb_inv h; obtain ⟨h1, h⟩ := h
  match n, h1, h with
  | 0, h1, _ => cases h1
  | 1, _, h => obtain rfl := Option.some.inj (show some (longV (0, [1])) = some v from h); exact ⟨by rfl, r37_1⟩
  | 2, _, h => obtain rfl := Option.some.inj (show some (longV (0, [1, 1])) = some v from h); exact ⟨by rfl, r37_2⟩
  | 3, _, h => obtain rfl := Option.some.inj (show some (longV (2, [1, 1, 1])) = some v from h); exact ⟨by rfl, r37_3⟩
  | 4, _, h => obtain rfl := Option.some.inj (show some (longV (2, [1, 1, 1, 1])) = some v from h); exact ⟨by rfl, r37_4⟩
  | 5, _, h => obtain rfl := Option.some.inj (show some (longV (3, [1, 1, 1, 1, 1])) = some v from h); exact ⟨by rfl, r37_5⟩
  | 6, _, h => obtain rfl := Option.some.inj (show some (longV (6, [2, 2, 1, 1])) = some v from h); exact ⟨by rfl, r37_6⟩
  | 7, _, h => obtain rfl := Option.some.inj (show some (longV (4, [1, 1, 1, 1, 1, 1, 1])) = some v from h); exact ⟨by rfl, r37_7⟩
  | 8, _, h => obtain rfl := Option.some.inj (show some (longV (5, [1, 1, 1, 1, 1, 1, 1, 1])) = some v from h); exact ⟨by rfl, r37_8⟩
  | 9, _, h => obtain rfl := Option.some.inj (show some (longV (7, [3, 2, 2, 1, 1])) = some v from h); exact ⟨by rfl, r37_9⟩
  | 10, _, h => obtain rfl := Option.some.inj (show some (longV (12, [3, 2, 2, 1, 1, 1])) = some v from h); exact ⟨by rfl, r37_10⟩
  | 11, _, h => obtain rfl := Option.some.inj (show some (longV (8, [3, 2, 2, 2, 1, 1])) = some v from h); exact ⟨by rfl, r37_11⟩
  | 12, _, h => obtain rfl := Option.some.inj (show some (longV (8, [1, 1, 1, 1, 1, 1, 1, 1, 1, 1, 1, 1])) = some v from h); exact ⟨by rfl, r37_12⟩
  | 13, _, h => obtain rfl := Option.some.inj (show some (longV (9, [1, 1, 1, 1, 1, 1, 1, 1, 1, 1, 1, 1, 1])) = some v from h); exact ⟨by rfl, r37_13⟩
  | 14, _, h => obtain rfl := Option.some.inj (show some (longV (14, [3, 3, 2, 2, 2, 1, 1])) = some v from h); exact ⟨by rfl, r37_14⟩
  | n + 15, _, h => cases h
theorem all3 : ∀ g, is3 g = true → PureOk Try.prog tabs g (pu3 g) := fun g hg => by
  unfold is3 at hg
  unfold pu3
  cases h11 : Nat.beq g 11 with
  | true => obtain rfl := Nat.eq_of_beq_eq_true h11; exact ok11 hm
  | false =>
  rw [h11] at hg
  rw [bb_false]
  replace hg : (orr (Nat.beq g 34) (orr (Nat.beq g 35) (orr (Nat.beq g 36) (orr (Nat.beq g 37) (isP g))))) = true := hg
  cases h34 : Nat.beq g 34 with
  | true => obtain rfl := Nat.eq_of_beq_eq_true h34; exact ok34 hm
  | false =>
  rw [h34] at hg
  rw [bb_false]
  replace hg : (orr (Nat.beq g 35) (orr (Nat.beq g 36) (orr (Nat.beq g 37) (isP g)))) = true := hg
  cases h35 : Nat.beq g 35 with
  | true => obtain rfl := Nat.eq_of_beq_eq_true h35; exact ok35 hm
  | false =>
  rw [h35] at hg
  rw [bb_false]
  replace hg : (orr (Nat.beq g 36) (orr (Nat.beq g 37) (isP g))) = true := hg
  cases h36 : Nat.beq g 36 with
  | true => obtain rfl := Nat.eq_of_beq_eq_true h36; exact ok36 hm
  | false =>
  rw [h36] at hg
  rw [bb_false]
  replace hg : (orr (Nat.beq g 37) (isP g)) = true := hg
  cases h37 : Nat.beq g 37 with
  | true => obtain rfl := Nat.eq_of_beq_eq_true h37; exact ok37 hm
  | false =>
  rw [h37] at hg
  rw [bb_false]
  replace hg : (isP g) = true := hg
  exact all0 hm g hg
noncomputable def mLaw (args : List Value) : Option Value := ll args none fun a r => ll r (oo (toI .i64 a) none fun _ => some (.bool true)) fun _ _ => none
theorem law7 : PureOk Try.prog tabs 7 mLaw := by
  refine pureOk_closedP (tabs := tabs) (n := 1000) (g := 7) (H := tabsHeap tabs) (isP := is3) (pu := pu3) (inl := inl pu0) ttOk tabs_ne tabs_pl fnsOk hm (all3 hm) (inl0 hm) (fun i => tabsHeap_get i) rfl (enter_ok fok7) fun args v h => ?_
  replace h := ll_uncons h; obtain ⟨a, r, rfl, h⟩ := h
  replace h := ll_end h; obtain ⟨rfl, h⟩ := h
  replace h := oo_inv h; obtain ⟨z, hz, h⟩ := h
  obtain rfl := toI_some hz
  injection h with h; subst h
  refine ⟨rfl, .inl ?_⟩
  match z with
  | .ofNat 0 => exact run7_0
  | .ofNat 1 => exact run7_1
  | .ofNat 2 => exact run7_2
  | .ofNat 3 => exact run7_3
  | .ofNat 4 => exact run7_4
  | .ofNat 5 => exact run7_5
  | .ofNat 6 => exact run7_6
  | .ofNat 7 => exact run7_7
  | .ofNat 8 => exact run7_8
  | .ofNat 9 => exact run7_9
  | .ofNat 10 => exact run7_10
  | .ofNat 11 => exact run7_11
  | .ofNat 12 => exact run7_12
  | .ofNat 13 => exact run7_13
  | .ofNat 14 => exact run7_14
  | .ofNat 15 => exact run7_15
  | .ofNat 16 => exact run7_16
  | .ofNat 17 => exact run7_17
  | .ofNat 18 => exact run7_18
  | .ofNat 19 => exact run7_19
  | .ofNat 20 => exact run7_20
  | .ofNat 21 => exact run7_21
  | .ofNat (m + 22) => exact run7_big m
  | .negSucc 0 => exact run7_neg0
  | .negSucc (m + 1) => exact run7_neg m
end
end Go.Proofs.Ytgddliaacoofiaa.HpL
