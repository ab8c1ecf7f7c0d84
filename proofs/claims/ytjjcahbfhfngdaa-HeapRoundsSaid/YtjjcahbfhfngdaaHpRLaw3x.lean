/- What the kernel sees, of any heaps of at most 21 cards: MADE BY PROGRAM (wip/hr/runs.py). -/
import Derived.Test.YtjjcahbfhfngdaaHpRRun1
import Derived.Test.YtjjcahbfhfngdaaHpRRun2
import Derived.Test.YtjjcahbfhfngdaaHpRRun3
import Derived.Test.YtjjcahbfhfngdaaHpRRun4
import Derived.Test.YtjjcahbfhfngdaaHpRRun5
import Derived.Test.YtjjcahbfhfngdaaHpRRun6
import Derived.Test.YtjjcahbfhfngdaaHpRRun7
import Derived.Test.YtjjcahbfhfngdaaHpRRun8
import Derived.Test.YtjjcahbfhfngdaaHpRRun9
import Derived.Test.YtjjcahbfhfngdaaHpRRun10
import Derived.Test.YtjjcahbfhfngdaaHpRRun11
import Derived.Test.YtjjcahbfhfngdaaHpRRun12
import Derived.Test.YtjjcahbfhfngdaaHpRLaw1x

set_option maxRecDepth 100000
namespace Go.HpRM
open Go Go.Sp Go.HpR Go.HpT
theorem map_at {α : Type} {f g : List Nat → α} {l : List (List Nat)} (h : mapL f l = mapL g l) {p : List Nat} (hp : p ∈ l) : f p = g p := by
  rw [mapL_eq, mapL_eq] at h
  exact List.map_inj_left.1 h p hp
theorem all_at {f : List Nat → Bool} {l : List (List Nat)} (h : allL f l = true) {p : List Nat} (hp : p ∈ l) : f p = true := by
  rw [allL_eq, List.all_eq_true] at h
  exact h p hp
theorem in_pts {p : List Nat} (h : okP 21 p = true) : ∃ k, 1 ≤ k ∧ k ≤ 21 ∧ sumL p = k ∧ p ∈ pts k k k := by
  obtain ⟨h1, h2⟩ := an_inv (show an (Nat.ble 1 (sumL p)) (an (Nat.ble (sumL p) 21) (isPt p (sumL p) (sumL p))) = true from h)
  obtain ⟨h2, h3⟩ := an_inv h2
  exact ⟨sumL p, Nat.le_of_ble_eq_true h1, Nat.le_of_ble_eq_true h2, rfl, mem_pts p _ _ _ (Nat.le_refl _) h3⟩
theorem ret_in : ∀ {l : List (List Nat)} {p : List Nat}, p ∈ l → ret p = true → p ∈ (List.rec (motive := fun _ => List (List Nat)) [] (fun p _ ih => bb (ret p) (p :: ih) ih) l : List (List Nat))
  | a :: l, p, h, hr => by
    show p ∈ bb (ret a) (a :: _) _
    rcases List.mem_cons.1 h with rfl | h
    · rw [hr, bb_true]; exact List.mem_cons_self
    · cases ret a with
      | true => rw [bb_true]; exact List.mem_cons_of_mem _ (ret_in h hr)
      | false => rw [bb_false]; exact ret_in h hr
theorem in_retP {p : List Nat} {k : Nat} (h : p ∈ pts k k k) (hr : ret p = true) : p ∈ retP k := ret_in h hr
theorem P29 (n : Nat) {p : List Nat} (h : okP 21 p = true) : puN (n + 6) 29 [sv p] = some (cv p) := by
  obtain ⟨k, h1, h2, hs, hm⟩ := in_pts h
  clear hs
  match k, h1, h2, hm with
  | 1, _, _, hm => exact map_at (f := fun p => puN (n + 6) 29 [sv p]) (g := fun p => some (cv p)) (e29_1 n) hm
  | 2, _, _, hm => exact map_at (f := fun p => puN (n + 6) 29 [sv p]) (g := fun p => some (cv p)) (e29_2 n) hm
  | 3, _, _, hm => exact map_at (f := fun p => puN (n + 6) 29 [sv p]) (g := fun p => some (cv p)) (e29_3 n) hm
  | 4, _, _, hm => exact map_at (f := fun p => puN (n + 6) 29 [sv p]) (g := fun p => some (cv p)) (e29_4 n) hm
  | 5, _, _, hm => exact map_at (f := fun p => puN (n + 6) 29 [sv p]) (g := fun p => some (cv p)) (e29_5 n) hm
  | 6, _, _, hm => exact map_at (f := fun p => puN (n + 6) 29 [sv p]) (g := fun p => some (cv p)) (e29_6 n) hm
  | 7, _, _, hm => exact map_at (f := fun p => puN (n + 6) 29 [sv p]) (g := fun p => some (cv p)) (e29_7 n) hm
  | 8, _, _, hm => exact map_at (f := fun p => puN (n + 6) 29 [sv p]) (g := fun p => some (cv p)) (e29_8 n) hm
  | 9, _, _, hm => exact map_at (f := fun p => puN (n + 6) 29 [sv p]) (g := fun p => some (cv p)) (e29_9 n) hm
  | 10, _, _, hm => exact map_at (f := fun p => puN (n + 6) 29 [sv p]) (g := fun p => some (cv p)) (e29_10 n) hm
  | 11, _, _, hm => exact map_at (f := fun p => puN (n + 6) 29 [sv p]) (g := fun p => some (cv p)) (e29_11 n) hm
  | 12, _, _, hm => exact map_at (f := fun p => puN (n + 6) 29 [sv p]) (g := fun p => some (cv p)) (e29_12 n) hm
  | 13, _, _, hm => exact map_at (f := fun p => puN (n + 6) 29 [sv p]) (g := fun p => some (cv p)) (e29_13 n) hm
  | 14, _, _, hm => exact map_at (f := fun p => puN (n + 6) 29 [sv p]) (g := fun p => some (cv p)) (e29_14 n) hm
  | 15, _, _, hm => exact map_at (f := fun p => puN (n + 6) 29 [sv p]) (g := fun p => some (cv p)) (e29_15 n) hm
  | 16, _, _, hm => exact map_at (f := fun p => puN (n + 6) 29 [sv p]) (g := fun p => some (cv p)) (e29_16 n) hm
  | 17, _, _, hm => exact map_at (f := fun p => puN (n + 6) 29 [sv p]) (g := fun p => some (cv p)) (e29_17 n) hm
  | 18, _, _, hm => exact map_at (f := fun p => puN (n + 6) 29 [sv p]) (g := fun p => some (cv p)) (e29_18 n) hm
  | 19, _, _, hm => exact map_at (f := fun p => puN (n + 6) 29 [sv p]) (g := fun p => some (cv p)) (e29_19 n) hm
  | 20, _, _, hm => exact map_at (f := fun p => puN (n + 6) 29 [sv p]) (g := fun p => some (cv p)) (e29_20 n) hm
  | 21, _, _, hm => exact map_at (f := fun p => puN (n + 6) 29 [sv p]) (g := fun p => some (cv p)) (e29_21 n) hm
  | k + 22, _, h2, _ => omega
theorem P32 (n : Nat) {p : List Nat} (h : okP 21 p = true) : puN (n + 6) 32 [sv p] = some (sv (rnd p)) := by
  obtain ⟨k, h1, h2, hs, hm⟩ := in_pts h
  clear hs
  match k, h1, h2, hm with
  | 1, _, _, hm => exact map_at (f := fun p => puN (n + 6) 32 [sv p]) (g := fun p => some (sv (rnd p))) (e32_1 n) hm
  | 2, _, _, hm => exact map_at (f := fun p => puN (n + 6) 32 [sv p]) (g := fun p => some (sv (rnd p))) (e32_2 n) hm
  | 3, _, _, hm => exact map_at (f := fun p => puN (n + 6) 32 [sv p]) (g := fun p => some (sv (rnd p))) (e32_3 n) hm
  | 4, _, _, hm => exact map_at (f := fun p => puN (n + 6) 32 [sv p]) (g := fun p => some (sv (rnd p))) (e32_4 n) hm
  | 5, _, _, hm => exact map_at (f := fun p => puN (n + 6) 32 [sv p]) (g := fun p => some (sv (rnd p))) (e32_5 n) hm
  | 6, _, _, hm => exact map_at (f := fun p => puN (n + 6) 32 [sv p]) (g := fun p => some (sv (rnd p))) (e32_6 n) hm
  | 7, _, _, hm => exact map_at (f := fun p => puN (n + 6) 32 [sv p]) (g := fun p => some (sv (rnd p))) (e32_7 n) hm
  | 8, _, _, hm => exact map_at (f := fun p => puN (n + 6) 32 [sv p]) (g := fun p => some (sv (rnd p))) (e32_8 n) hm
  | 9, _, _, hm => exact map_at (f := fun p => puN (n + 6) 32 [sv p]) (g := fun p => some (sv (rnd p))) (e32_9 n) hm
  | 10, _, _, hm => exact map_at (f := fun p => puN (n + 6) 32 [sv p]) (g := fun p => some (sv (rnd p))) (e32_10 n) hm
  | 11, _, _, hm => exact map_at (f := fun p => puN (n + 6) 32 [sv p]) (g := fun p => some (sv (rnd p))) (e32_11 n) hm
  | 12, _, _, hm => exact map_at (f := fun p => puN (n + 6) 32 [sv p]) (g := fun p => some (sv (rnd p))) (e32_12 n) hm
  | 13, _, _, hm => exact map_at (f := fun p => puN (n + 6) 32 [sv p]) (g := fun p => some (sv (rnd p))) (e32_13 n) hm
  | 14, _, _, hm => exact map_at (f := fun p => puN (n + 6) 32 [sv p]) (g := fun p => some (sv (rnd p))) (e32_14 n) hm
  | 15, _, _, hm => exact map_at (f := fun p => puN (n + 6) 32 [sv p]) (g := fun p => some (sv (rnd p))) (e32_15 n) hm
  | 16, _, _, hm => exact map_at (f := fun p => puN (n + 6) 32 [sv p]) (g := fun p => some (sv (rnd p))) (e32_16 n) hm
  | 17, _, _, hm => exact map_at (f := fun p => puN (n + 6) 32 [sv p]) (g := fun p => some (sv (rnd p))) (e32_17 n) hm
  | 18, _, _, hm => exact map_at (f := fun p => puN (n + 6) 32 [sv p]) (g := fun p => some (sv (rnd p))) (e32_18 n) hm
  | 19, _, _, hm => exact map_at (f := fun p => puN (n + 6) 32 [sv p]) (g := fun p => some (sv (rnd p))) (e32_19 n) hm
  | 20, _, _, hm => exact map_at (f := fun p => puN (n + 6) 32 [sv p]) (g := fun p => some (sv (rnd p))) (e32_20 n) hm
  | 21, _, _, hm => exact map_at (f := fun p => puN (n + 6) 32 [sv p]) (g := fun p => some (sv (rnd p))) (e32_21 n) hm
  | k + 22, _, h2, _ => omega
theorem P36 (n : Nat) {p : List Nat} (h : okP 21 p = true) : puN (n + 6) 36 [cv p] = some (.int .i64 (.ofNat (sumL p))) := by
  obtain ⟨k, h1, h2, hs, hm⟩ := in_pts h
  clear hs
  match k, h1, h2, hm with
  | 1, _, _, hm => exact map_at (f := fun p => puN (n + 6) 36 [cv p]) (g := fun p => some (.int .i64 (.ofNat (sumL p)))) (e36_1 n) hm
  | 2, _, _, hm => exact map_at (f := fun p => puN (n + 6) 36 [cv p]) (g := fun p => some (.int .i64 (.ofNat (sumL p)))) (e36_2 n) hm
  | 3, _, _, hm => exact map_at (f := fun p => puN (n + 6) 36 [cv p]) (g := fun p => some (.int .i64 (.ofNat (sumL p)))) (e36_3 n) hm
  | 4, _, _, hm => exact map_at (f := fun p => puN (n + 6) 36 [cv p]) (g := fun p => some (.int .i64 (.ofNat (sumL p)))) (e36_4 n) hm
  | 5, _, _, hm => exact map_at (f := fun p => puN (n + 6) 36 [cv p]) (g := fun p => some (.int .i64 (.ofNat (sumL p)))) (e36_5 n) hm
  | 6, _, _, hm => exact map_at (f := fun p => puN (n + 6) 36 [cv p]) (g := fun p => some (.int .i64 (.ofNat (sumL p)))) (e36_6 n) hm
  | 7, _, _, hm => exact map_at (f := fun p => puN (n + 6) 36 [cv p]) (g := fun p => some (.int .i64 (.ofNat (sumL p)))) (e36_7 n) hm
  | 8, _, _, hm => exact map_at (f := fun p => puN (n + 6) 36 [cv p]) (g := fun p => some (.int .i64 (.ofNat (sumL p)))) (e36_8 n) hm
  | 9, _, _, hm => exact map_at (f := fun p => puN (n + 6) 36 [cv p]) (g := fun p => some (.int .i64 (.ofNat (sumL p)))) (e36_9 n) hm
  | 10, _, _, hm => exact map_at (f := fun p => puN (n + 6) 36 [cv p]) (g := fun p => some (.int .i64 (.ofNat (sumL p)))) (e36_10 n) hm
  | 11, _, _, hm => exact map_at (f := fun p => puN (n + 6) 36 [cv p]) (g := fun p => some (.int .i64 (.ofNat (sumL p)))) (e36_11 n) hm
  | 12, _, _, hm => exact map_at (f := fun p => puN (n + 6) 36 [cv p]) (g := fun p => some (.int .i64 (.ofNat (sumL p)))) (e36_12 n) hm
  | 13, _, _, hm => exact map_at (f := fun p => puN (n + 6) 36 [cv p]) (g := fun p => some (.int .i64 (.ofNat (sumL p)))) (e36_13 n) hm
  | 14, _, _, hm => exact map_at (f := fun p => puN (n + 6) 36 [cv p]) (g := fun p => some (.int .i64 (.ofNat (sumL p)))) (e36_14 n) hm
  | 15, _, _, hm => exact map_at (f := fun p => puN (n + 6) 36 [cv p]) (g := fun p => some (.int .i64 (.ofNat (sumL p)))) (e36_15 n) hm
  | 16, _, _, hm => exact map_at (f := fun p => puN (n + 6) 36 [cv p]) (g := fun p => some (.int .i64 (.ofNat (sumL p)))) (e36_16 n) hm
  | 17, _, _, hm => exact map_at (f := fun p => puN (n + 6) 36 [cv p]) (g := fun p => some (.int .i64 (.ofNat (sumL p)))) (e36_17 n) hm
  | 18, _, _, hm => exact map_at (f := fun p => puN (n + 6) 36 [cv p]) (g := fun p => some (.int .i64 (.ofNat (sumL p)))) (e36_18 n) hm
  | 19, _, _, hm => exact map_at (f := fun p => puN (n + 6) 36 [cv p]) (g := fun p => some (.int .i64 (.ofNat (sumL p)))) (e36_19 n) hm
  | 20, _, _, hm => exact map_at (f := fun p => puN (n + 6) 36 [cv p]) (g := fun p => some (.int .i64 (.ofNat (sumL p)))) (e36_20 n) hm
  | 21, _, _, hm => exact map_at (f := fun p => puN (n + 6) 36 [cv p]) (g := fun p => some (.int .i64 (.ofNat (sumL p)))) (e36_21 n) hm
  | k + 22, _, h2, _ => omega
theorem P30 (n : Nat) {p : List Nat} (h : okP 21 p = true) : puN (n + 6) 30 [cv p] = some (cv (rnd p)) := by
  obtain ⟨k, h1, h2, hs, hm⟩ := in_pts h
  clear hs
  match k, h1, h2, hm with
  | 1, _, _, hm => exact map_at (f := fun p => puN (n + 6) 30 [cv p]) (g := fun p => some (cv (rnd p))) (e30_1 n) hm
  | 2, _, _, hm => exact map_at (f := fun p => puN (n + 6) 30 [cv p]) (g := fun p => some (cv (rnd p))) (e30_2 n) hm
  | 3, _, _, hm => exact map_at (f := fun p => puN (n + 6) 30 [cv p]) (g := fun p => some (cv (rnd p))) (e30_3 n) hm
  | 4, _, _, hm => exact map_at (f := fun p => puN (n + 6) 30 [cv p]) (g := fun p => some (cv (rnd p))) (e30_4 n) hm
  | 5, _, _, hm => exact map_at (f := fun p => puN (n + 6) 30 [cv p]) (g := fun p => some (cv (rnd p))) (e30_5 n) hm
  | 6, _, _, hm => exact map_at (f := fun p => puN (n + 6) 30 [cv p]) (g := fun p => some (cv (rnd p))) (e30_6 n) hm
  | 7, _, _, hm => exact map_at (f := fun p => puN (n + 6) 30 [cv p]) (g := fun p => some (cv (rnd p))) (e30_7 n) hm
  | 8, _, _, hm => exact map_at (f := fun p => puN (n + 6) 30 [cv p]) (g := fun p => some (cv (rnd p))) (e30_8 n) hm
  | 9, _, _, hm => exact map_at (f := fun p => puN (n + 6) 30 [cv p]) (g := fun p => some (cv (rnd p))) (e30_9 n) hm
  | 10, _, _, hm => exact map_at (f := fun p => puN (n + 6) 30 [cv p]) (g := fun p => some (cv (rnd p))) (e30_10 n) hm
  | 11, _, _, hm => exact map_at (f := fun p => puN (n + 6) 30 [cv p]) (g := fun p => some (cv (rnd p))) (e30_11 n) hm
  | 12, _, _, hm => exact map_at (f := fun p => puN (n + 6) 30 [cv p]) (g := fun p => some (cv (rnd p))) (e30_12 n) hm
  | 13, _, _, hm => exact map_at (f := fun p => puN (n + 6) 30 [cv p]) (g := fun p => some (cv (rnd p))) (e30_13 n) hm
  | 14, _, _, hm => exact map_at (f := fun p => puN (n + 6) 30 [cv p]) (g := fun p => some (cv (rnd p))) (e30_14 n) hm
  | 15, _, _, hm => exact map_at (f := fun p => puN (n + 6) 30 [cv p]) (g := fun p => some (cv (rnd p))) (e30_15 n) hm
  | 16, _, _, hm => exact map_at (f := fun p => puN (n + 6) 30 [cv p]) (g := fun p => some (cv (rnd p))) (e30_16 n) hm
  | 17, _, _, hm => exact map_at (f := fun p => puN (n + 6) 30 [cv p]) (g := fun p => some (cv (rnd p))) (e30_17 n) hm
  | 18, _, _, hm => exact map_at (f := fun p => puN (n + 6) 30 [cv p]) (g := fun p => some (cv (rnd p))) (e30_18 n) hm
  | 19, _, _, hm => exact map_at (f := fun p => puN (n + 6) 30 [cv p]) (g := fun p => some (cv (rnd p))) (e30_19 n) hm
  | 20, _, _, hm => exact map_at (f := fun p => puN (n + 6) 30 [cv p]) (g := fun p => some (cv (rnd p))) (e30_20 n) hm
  | 21, _, _, hm => exact map_at (f := fun p => puN (n + 6) 30 [cv p]) (g := fun p => some (cv (rnd p))) (e30_21 n) hm
  | k + 22, _, h2, _ => omega
theorem P31 (n : Nat) {p : List Nat} (h : okP 21 p = true) : puN (n + 6) 31 [cv p] = some (sv p) := by
  obtain ⟨k, h1, h2, hs, hm⟩ := in_pts h
  clear hs
  match k, h1, h2, hm with
  | 1, _, _, hm => exact map_at (f := fun p => puN (n + 6) 31 [cv p]) (g := fun p => some (sv p)) (e31_1 n) hm
  | 2, _, _, hm => exact map_at (f := fun p => puN (n + 6) 31 [cv p]) (g := fun p => some (sv p)) (e31_2 n) hm
  | 3, _, _, hm => exact map_at (f := fun p => puN (n + 6) 31 [cv p]) (g := fun p => some (sv p)) (e31_3 n) hm
  | 4, _, _, hm => exact map_at (f := fun p => puN (n + 6) 31 [cv p]) (g := fun p => some (sv p)) (e31_4 n) hm
  | 5, _, _, hm => exact map_at (f := fun p => puN (n + 6) 31 [cv p]) (g := fun p => some (sv p)) (e31_5 n) hm
  | 6, _, _, hm => exact map_at (f := fun p => puN (n + 6) 31 [cv p]) (g := fun p => some (sv p)) (e31_6 n) hm
  | 7, _, _, hm => exact map_at (f := fun p => puN (n + 6) 31 [cv p]) (g := fun p => some (sv p)) (e31_7 n) hm
  | 8, _, _, hm => exact map_at (f := fun p => puN (n + 6) 31 [cv p]) (g := fun p => some (sv p)) (e31_8 n) hm
  | 9, _, _, hm => exact map_at (f := fun p => puN (n + 6) 31 [cv p]) (g := fun p => some (sv p)) (e31_9 n) hm
  | 10, _, _, hm => exact map_at (f := fun p => puN (n + 6) 31 [cv p]) (g := fun p => some (sv p)) (e31_10 n) hm
  | 11, _, _, hm => exact map_at (f := fun p => puN (n + 6) 31 [cv p]) (g := fun p => some (sv p)) (e31_11 n) hm
  | 12, _, _, hm => exact map_at (f := fun p => puN (n + 6) 31 [cv p]) (g := fun p => some (sv p)) (e31_12 n) hm
  | 13, _, _, hm => exact map_at (f := fun p => puN (n + 6) 31 [cv p]) (g := fun p => some (sv p)) (e31_13 n) hm
  | 14, _, _, hm => exact map_at (f := fun p => puN (n + 6) 31 [cv p]) (g := fun p => some (sv p)) (e31_14 n) hm
  | 15, _, _, hm => exact map_at (f := fun p => puN (n + 6) 31 [cv p]) (g := fun p => some (sv p)) (e31_15 n) hm
  | 16, _, _, hm => exact map_at (f := fun p => puN (n + 6) 31 [cv p]) (g := fun p => some (sv p)) (e31_16 n) hm
  | 17, _, _, hm => exact map_at (f := fun p => puN (n + 6) 31 [cv p]) (g := fun p => some (sv p)) (e31_17 n) hm
  | 18, _, _, hm => exact map_at (f := fun p => puN (n + 6) 31 [cv p]) (g := fun p => some (sv p)) (e31_18 n) hm
  | 19, _, _, hm => exact map_at (f := fun p => puN (n + 6) 31 [cv p]) (g := fun p => some (sv p)) (e31_19 n) hm
  | 20, _, _, hm => exact map_at (f := fun p => puN (n + 6) 31 [cv p]) (g := fun p => some (sv p)) (e31_20 n) hm
  | 21, _, _, hm => exact map_at (f := fun p => puN (n + 6) 31 [cv p]) (g := fun p => some (sv p)) (e31_21 n) hm
  | k + 22, _, h2, _ => omega
theorem P34 (n : Nat) {p : List Nat} (h : okP 21 p = true) : puN (n + 6) 34 [cv p] = some (.bool (ret p)) := by
  obtain ⟨k, h1, h2, hs, hm⟩ := in_pts h
  clear hs
  match k, h1, h2, hm with
  | 1, _, _, hm => exact map_at (f := fun p => puN (n + 6) 34 [cv p]) (g := fun p => some (.bool (ret p))) (e34_1 n) hm
  | 2, _, _, hm => exact map_at (f := fun p => puN (n + 6) 34 [cv p]) (g := fun p => some (.bool (ret p))) (e34_2 n) hm
  | 3, _, _, hm => exact map_at (f := fun p => puN (n + 6) 34 [cv p]) (g := fun p => some (.bool (ret p))) (e34_3 n) hm
  | 4, _, _, hm => exact map_at (f := fun p => puN (n + 6) 34 [cv p]) (g := fun p => some (.bool (ret p))) (e34_4 n) hm
  | 5, _, _, hm => exact map_at (f := fun p => puN (n + 6) 34 [cv p]) (g := fun p => some (.bool (ret p))) (e34_5 n) hm
  | 6, _, _, hm => exact map_at (f := fun p => puN (n + 6) 34 [cv p]) (g := fun p => some (.bool (ret p))) (e34_6 n) hm
  | 7, _, _, hm => exact map_at (f := fun p => puN (n + 6) 34 [cv p]) (g := fun p => some (.bool (ret p))) (e34_7 n) hm
  | 8, _, _, hm => exact map_at (f := fun p => puN (n + 6) 34 [cv p]) (g := fun p => some (.bool (ret p))) (e34_8 n) hm
  | 9, _, _, hm => exact map_at (f := fun p => puN (n + 6) 34 [cv p]) (g := fun p => some (.bool (ret p))) (e34_9 n) hm
  | 10, _, _, hm => exact map_at (f := fun p => puN (n + 6) 34 [cv p]) (g := fun p => some (.bool (ret p))) (e34_10 n) hm
  | 11, _, _, hm => exact map_at (f := fun p => puN (n + 6) 34 [cv p]) (g := fun p => some (.bool (ret p))) (e34_11 n) hm
  | 12, _, _, hm => exact map_at (f := fun p => puN (n + 6) 34 [cv p]) (g := fun p => some (.bool (ret p))) (e34_12 n) hm
  | 13, _, _, hm => exact map_at (f := fun p => puN (n + 6) 34 [cv p]) (g := fun p => some (.bool (ret p))) (e34_13 n) hm
  | 14, _, _, hm => exact map_at (f := fun p => puN (n + 6) 34 [cv p]) (g := fun p => some (.bool (ret p))) (e34_14 n) hm
  | 15, _, _, hm => exact map_at (f := fun p => puN (n + 6) 34 [cv p]) (g := fun p => some (.bool (ret p))) (e34_15 n) hm
  | 16, _, _, hm => exact map_at (f := fun p => puN (n + 6) 34 [cv p]) (g := fun p => some (.bool (ret p))) (e34_16 n) hm
  | 17, _, _, hm => exact map_at (f := fun p => puN (n + 6) 34 [cv p]) (g := fun p => some (.bool (ret p))) (e34_17 n) hm
  | 18, _, _, hm => exact map_at (f := fun p => puN (n + 6) 34 [cv p]) (g := fun p => some (.bool (ret p))) (e34_18 n) hm
  | 19, _, _, hm => exact map_at (f := fun p => puN (n + 6) 34 [cv p]) (g := fun p => some (.bool (ret p))) (e34_19 n) hm
  | 20, _, _, hm => exact map_at (f := fun p => puN (n + 6) 34 [cv p]) (g := fun p => some (.bool (ret p))) (e34_20 n) hm
  | 21, _, _, hm => exact map_at (f := fun p => puN (n + 6) 34 [cv p]) (g := fun p => some (.bool (ret p))) (e34_21 n) hm
  | k + 22, _, h2, _ => omega
theorem P11 (n : Nat) {p : List Nat} (h : okP 21 p = true) : puN (n + 6) 11 [sv p] = some (.tuple ⟨[sv (conjT p), .int .i64 0]⟩) := by
  obtain ⟨k, h1, h2, hs, hm⟩ := in_pts h
  clear hs
  match k, h1, h2, hm with
  | 1, _, _, hm => exact map_at (f := fun p => puN (n + 6) 11 [sv p]) (g := fun p => some (.tuple ⟨[sv (conjT p), .int .i64 0]⟩)) (e11_1 n) hm
  | 2, _, _, hm => exact map_at (f := fun p => puN (n + 6) 11 [sv p]) (g := fun p => some (.tuple ⟨[sv (conjT p), .int .i64 0]⟩)) (e11_2 n) hm
  | 3, _, _, hm => exact map_at (f := fun p => puN (n + 6) 11 [sv p]) (g := fun p => some (.tuple ⟨[sv (conjT p), .int .i64 0]⟩)) (e11_3 n) hm
  | 4, _, _, hm => exact map_at (f := fun p => puN (n + 6) 11 [sv p]) (g := fun p => some (.tuple ⟨[sv (conjT p), .int .i64 0]⟩)) (e11_4 n) hm
  | 5, _, _, hm => exact map_at (f := fun p => puN (n + 6) 11 [sv p]) (g := fun p => some (.tuple ⟨[sv (conjT p), .int .i64 0]⟩)) (e11_5 n) hm
  | 6, _, _, hm => exact map_at (f := fun p => puN (n + 6) 11 [sv p]) (g := fun p => some (.tuple ⟨[sv (conjT p), .int .i64 0]⟩)) (e11_6 n) hm
  | 7, _, _, hm => exact map_at (f := fun p => puN (n + 6) 11 [sv p]) (g := fun p => some (.tuple ⟨[sv (conjT p), .int .i64 0]⟩)) (e11_7 n) hm
  | 8, _, _, hm => exact map_at (f := fun p => puN (n + 6) 11 [sv p]) (g := fun p => some (.tuple ⟨[sv (conjT p), .int .i64 0]⟩)) (e11_8 n) hm
  | 9, _, _, hm => exact map_at (f := fun p => puN (n + 6) 11 [sv p]) (g := fun p => some (.tuple ⟨[sv (conjT p), .int .i64 0]⟩)) (e11_9 n) hm
  | 10, _, _, hm => exact map_at (f := fun p => puN (n + 6) 11 [sv p]) (g := fun p => some (.tuple ⟨[sv (conjT p), .int .i64 0]⟩)) (e11_10 n) hm
  | 11, _, _, hm => exact map_at (f := fun p => puN (n + 6) 11 [sv p]) (g := fun p => some (.tuple ⟨[sv (conjT p), .int .i64 0]⟩)) (e11_11 n) hm
  | 12, _, _, hm => exact map_at (f := fun p => puN (n + 6) 11 [sv p]) (g := fun p => some (.tuple ⟨[sv (conjT p), .int .i64 0]⟩)) (e11_12 n) hm
  | 13, _, _, hm => exact map_at (f := fun p => puN (n + 6) 11 [sv p]) (g := fun p => some (.tuple ⟨[sv (conjT p), .int .i64 0]⟩)) (e11_13 n) hm
  | 14, _, _, hm => exact map_at (f := fun p => puN (n + 6) 11 [sv p]) (g := fun p => some (.tuple ⟨[sv (conjT p), .int .i64 0]⟩)) (e11_14 n) hm
  | 15, _, _, hm => exact map_at (f := fun p => puN (n + 6) 11 [sv p]) (g := fun p => some (.tuple ⟨[sv (conjT p), .int .i64 0]⟩)) (e11_15 n) hm
  | 16, _, _, hm => exact map_at (f := fun p => puN (n + 6) 11 [sv p]) (g := fun p => some (.tuple ⟨[sv (conjT p), .int .i64 0]⟩)) (e11_16 n) hm
  | 17, _, _, hm => exact map_at (f := fun p => puN (n + 6) 11 [sv p]) (g := fun p => some (.tuple ⟨[sv (conjT p), .int .i64 0]⟩)) (e11_17 n) hm
  | 18, _, _, hm => exact map_at (f := fun p => puN (n + 6) 11 [sv p]) (g := fun p => some (.tuple ⟨[sv (conjT p), .int .i64 0]⟩)) (e11_18 n) hm
  | 19, _, _, hm => exact map_at (f := fun p => puN (n + 6) 11 [sv p]) (g := fun p => some (.tuple ⟨[sv (conjT p), .int .i64 0]⟩)) (e11_19 n) hm
  | 20, _, _, hm => exact map_at (f := fun p => puN (n + 6) 11 [sv p]) (g := fun p => some (.tuple ⟨[sv (conjT p), .int .i64 0]⟩)) (e11_20 n) hm
  | 21, _, _, hm => exact map_at (f := fun p => puN (n + 6) 11 [sv p]) (g := fun p => some (.tuple ⟨[sv (conjT p), .int .i64 0]⟩)) (e11_21 n) hm
  | k + 22, _, h2, _ => omega
theorem P12 (n : Nat) {p : List Nat} (h : okP 21 p = true) : puN (n + 6) 12 [sv p] = some (.tuple ⟨[sv (conjT p), .int .i64 0]⟩) := by
  obtain ⟨k, h1, h2, hs, hm⟩ := in_pts h
  clear hs
  match k, h1, h2, hm with
  | 1, _, _, hm => exact map_at (f := fun p => puN (n + 6) 12 [sv p]) (g := fun p => some (.tuple ⟨[sv (conjT p), .int .i64 0]⟩)) (e12_1 n) hm
  | 2, _, _, hm => exact map_at (f := fun p => puN (n + 6) 12 [sv p]) (g := fun p => some (.tuple ⟨[sv (conjT p), .int .i64 0]⟩)) (e12_2 n) hm
  | 3, _, _, hm => exact map_at (f := fun p => puN (n + 6) 12 [sv p]) (g := fun p => some (.tuple ⟨[sv (conjT p), .int .i64 0]⟩)) (e12_3 n) hm
  | 4, _, _, hm => exact map_at (f := fun p => puN (n + 6) 12 [sv p]) (g := fun p => some (.tuple ⟨[sv (conjT p), .int .i64 0]⟩)) (e12_4 n) hm
  | 5, _, _, hm => exact map_at (f := fun p => puN (n + 6) 12 [sv p]) (g := fun p => some (.tuple ⟨[sv (conjT p), .int .i64 0]⟩)) (e12_5 n) hm
  | 6, _, _, hm => exact map_at (f := fun p => puN (n + 6) 12 [sv p]) (g := fun p => some (.tuple ⟨[sv (conjT p), .int .i64 0]⟩)) (e12_6 n) hm
  | 7, _, _, hm => exact map_at (f := fun p => puN (n + 6) 12 [sv p]) (g := fun p => some (.tuple ⟨[sv (conjT p), .int .i64 0]⟩)) (e12_7 n) hm
  | 8, _, _, hm => exact map_at (f := fun p => puN (n + 6) 12 [sv p]) (g := fun p => some (.tuple ⟨[sv (conjT p), .int .i64 0]⟩)) (e12_8 n) hm
  | 9, _, _, hm => exact map_at (f := fun p => puN (n + 6) 12 [sv p]) (g := fun p => some (.tuple ⟨[sv (conjT p), .int .i64 0]⟩)) (e12_9 n) hm
  | 10, _, _, hm => exact map_at (f := fun p => puN (n + 6) 12 [sv p]) (g := fun p => some (.tuple ⟨[sv (conjT p), .int .i64 0]⟩)) (e12_10 n) hm
  | 11, _, _, hm => exact map_at (f := fun p => puN (n + 6) 12 [sv p]) (g := fun p => some (.tuple ⟨[sv (conjT p), .int .i64 0]⟩)) (e12_11 n) hm
  | 12, _, _, hm => exact map_at (f := fun p => puN (n + 6) 12 [sv p]) (g := fun p => some (.tuple ⟨[sv (conjT p), .int .i64 0]⟩)) (e12_12 n) hm
  | 13, _, _, hm => exact map_at (f := fun p => puN (n + 6) 12 [sv p]) (g := fun p => some (.tuple ⟨[sv (conjT p), .int .i64 0]⟩)) (e12_13 n) hm
  | 14, _, _, hm => exact map_at (f := fun p => puN (n + 6) 12 [sv p]) (g := fun p => some (.tuple ⟨[sv (conjT p), .int .i64 0]⟩)) (e12_14 n) hm
  | 15, _, _, hm => exact map_at (f := fun p => puN (n + 6) 12 [sv p]) (g := fun p => some (.tuple ⟨[sv (conjT p), .int .i64 0]⟩)) (e12_15 n) hm
  | 16, _, _, hm => exact map_at (f := fun p => puN (n + 6) 12 [sv p]) (g := fun p => some (.tuple ⟨[sv (conjT p), .int .i64 0]⟩)) (e12_16 n) hm
  | 17, _, _, hm => exact map_at (f := fun p => puN (n + 6) 12 [sv p]) (g := fun p => some (.tuple ⟨[sv (conjT p), .int .i64 0]⟩)) (e12_17 n) hm
  | 18, _, _, hm => exact map_at (f := fun p => puN (n + 6) 12 [sv p]) (g := fun p => some (.tuple ⟨[sv (conjT p), .int .i64 0]⟩)) (e12_18 n) hm
  | 19, _, _, hm => exact map_at (f := fun p => puN (n + 6) 12 [sv p]) (g := fun p => some (.tuple ⟨[sv (conjT p), .int .i64 0]⟩)) (e12_19 n) hm
  | 20, _, _, hm => exact map_at (f := fun p => puN (n + 6) 12 [sv p]) (g := fun p => some (.tuple ⟨[sv (conjT p), .int .i64 0]⟩)) (e12_20 n) hm
  | 21, _, _, hm => exact map_at (f := fun p => puN (n + 6) 12 [sv p]) (g := fun p => some (.tuple ⟨[sv (conjT p), .int .i64 0]⟩)) (e12_21 n) hm
  | k + 22, _, h2, _ => omega
theorem Pseen {p : List Nat} (h : okP 21 p = true) : seen p = true := by
  obtain ⟨k, h1, h2, hs, hm⟩ := in_pts h
  clear hs
  match k, h1, h2, hm with
  | 1, _, _, hm => exact all_at seen_1 hm
  | 2, _, _, hm => exact all_at seen_2 hm
  | 3, _, _, hm => exact all_at seen_3 hm
  | 4, _, _, hm => exact all_at seen_4 hm
  | 5, _, _, hm => exact all_at seen_5 hm
  | 6, _, _, hm => exact all_at seen_6 hm
  | 7, _, _, hm => exact all_at seen_7 hm
  | 8, _, _, hm => exact all_at seen_8 hm
  | 9, _, _, hm => exact all_at seen_9 hm
  | 10, _, _, hm => exact all_at seen_10 hm
  | 11, _, _, hm => exact all_at seen_11 hm
  | 12, _, _, hm => exact all_at seen_12 hm
  | 13, _, _, hm => exact all_at seen_13 hm
  | 14, _, _, hm => exact all_at seen_14 hm
  | 15, _, _, hm => exact all_at seen_15 hm
  | 16, _, _, hm => exact all_at seen_16 hm
  | 17, _, _, hm => exact all_at seen_17 hm
  | 18, _, _, hm => exact all_at seen_18 hm
  | 19, _, _, hm => exact all_at seen_19 hm
  | 20, _, _, hm => exact all_at seen_20 hm
  | 21, _, _, hm => exact all_at seen_21 hm
  | k + 22, _, h2, _ => omega
theorem Pring (n : Nat) {p : List Nat} (h : okP 21 p = true) (hr : ret p = true) : ringN (puN (n + 6) 39 [sv p]) = some (perT p) := by
  obtain ⟨k, h1, h2, hs, hm⟩ := in_pts h
  clear hs
  match k, h1, h2, hm with
  | 1, _, _, hm => exact map_at (f := fun p => ringN (puN (n + 6) 39 [sv p])) (g := fun p => some (perT p)) (ring_1 n) (in_retP hm hr)
  | 2, _, _, hm => exact map_at (f := fun p => ringN (puN (n + 6) 39 [sv p])) (g := fun p => some (perT p)) (ring_2 n) (in_retP hm hr)
  | 3, _, _, hm => exact map_at (f := fun p => ringN (puN (n + 6) 39 [sv p])) (g := fun p => some (perT p)) (ring_3 n) (in_retP hm hr)
  | 4, _, _, hm => exact map_at (f := fun p => ringN (puN (n + 6) 39 [sv p])) (g := fun p => some (perT p)) (ring_4 n) (in_retP hm hr)
  | 5, _, _, hm => exact map_at (f := fun p => ringN (puN (n + 6) 39 [sv p])) (g := fun p => some (perT p)) (ring_5 n) (in_retP hm hr)
  | 6, _, _, hm => exact map_at (f := fun p => ringN (puN (n + 6) 39 [sv p])) (g := fun p => some (perT p)) (ring_6 n) (in_retP hm hr)
  | 7, _, _, hm => exact map_at (f := fun p => ringN (puN (n + 6) 39 [sv p])) (g := fun p => some (perT p)) (ring_7 n) (in_retP hm hr)
  | 8, _, _, hm => exact map_at (f := fun p => ringN (puN (n + 6) 39 [sv p])) (g := fun p => some (perT p)) (ring_8 n) (in_retP hm hr)
  | 9, _, _, hm => exact map_at (f := fun p => ringN (puN (n + 6) 39 [sv p])) (g := fun p => some (perT p)) (ring_9 n) (in_retP hm hr)
  | 10, _, _, hm => exact map_at (f := fun p => ringN (puN (n + 6) 39 [sv p])) (g := fun p => some (perT p)) (ring_10 n) (in_retP hm hr)
  | 11, _, _, hm => exact map_at (f := fun p => ringN (puN (n + 6) 39 [sv p])) (g := fun p => some (perT p)) (ring_11 n) (in_retP hm hr)
  | 12, _, _, hm => exact map_at (f := fun p => ringN (puN (n + 6) 39 [sv p])) (g := fun p => some (perT p)) (ring_12 n) (in_retP hm hr)
  | 13, _, _, hm => exact map_at (f := fun p => ringN (puN (n + 6) 39 [sv p])) (g := fun p => some (perT p)) (ring_13 n) (in_retP hm hr)
  | 14, _, _, hm => exact map_at (f := fun p => ringN (puN (n + 6) 39 [sv p])) (g := fun p => some (perT p)) (ring_14 n) (in_retP hm hr)
  | 15, _, _, hm => exact map_at (f := fun p => ringN (puN (n + 6) 39 [sv p])) (g := fun p => some (perT p)) (ring_15 n) (in_retP hm hr)
  | 16, _, _, hm => exact map_at (f := fun p => ringN (puN (n + 6) 39 [sv p])) (g := fun p => some (perT p)) (ring_16 n) (in_retP hm hr)
  | 17, _, _, hm => exact map_at (f := fun p => ringN (puN (n + 6) 39 [sv p])) (g := fun p => some (perT p)) (ring_17 n) (in_retP hm hr)
  | 18, _, _, hm => exact map_at (f := fun p => ringN (puN (n + 6) 39 [sv p])) (g := fun p => some (perT p)) (ring_18 n) (in_retP hm hr)
  | 19, _, _, hm => exact map_at (f := fun p => ringN (puN (n + 6) 39 [sv p])) (g := fun p => some (perT p)) (ring_19 n) (in_retP hm hr)
  | 20, _, _, hm => exact map_at (f := fun p => ringN (puN (n + 6) 39 [sv p])) (g := fun p => some (perT p)) (ring_20 n) (in_retP hm hr)
  | 21, _, _, hm => exact map_at (f := fun p => ringN (puN (n + 6) 39 [sv p])) (g := fun p => some (perT p)) (ring_21 n) (in_retP hm hr)
  | k + 22, _, h2, _ => omega
theorem Pper {p : List Nat} (h : okP 21 p = true) (hr : ret p = true) : an (Nat.ble 1 (perT p)) (eqP (iter (perT p) p) p) = true := by
  obtain ⟨k, h1, h2, hs, hm⟩ := in_pts h
  clear hs
  match k, h1, h2, hm with
  | 1, _, _, hm => exact all_at (f := fun p => an (Nat.ble 1 (perT p)) (eqP (iter (perT p) p) p)) per_1 (in_retP hm hr)
  | 2, _, _, hm => exact all_at (f := fun p => an (Nat.ble 1 (perT p)) (eqP (iter (perT p) p) p)) per_2 (in_retP hm hr)
  | 3, _, _, hm => exact all_at (f := fun p => an (Nat.ble 1 (perT p)) (eqP (iter (perT p) p) p)) per_3 (in_retP hm hr)
  | 4, _, _, hm => exact all_at (f := fun p => an (Nat.ble 1 (perT p)) (eqP (iter (perT p) p) p)) per_4 (in_retP hm hr)
  | 5, _, _, hm => exact all_at (f := fun p => an (Nat.ble 1 (perT p)) (eqP (iter (perT p) p) p)) per_5 (in_retP hm hr)
  | 6, _, _, hm => exact all_at (f := fun p => an (Nat.ble 1 (perT p)) (eqP (iter (perT p) p) p)) per_6 (in_retP hm hr)
  | 7, _, _, hm => exact all_at (f := fun p => an (Nat.ble 1 (perT p)) (eqP (iter (perT p) p) p)) per_7 (in_retP hm hr)
  | 8, _, _, hm => exact all_at (f := fun p => an (Nat.ble 1 (perT p)) (eqP (iter (perT p) p) p)) per_8 (in_retP hm hr)
  | 9, _, _, hm => exact all_at (f := fun p => an (Nat.ble 1 (perT p)) (eqP (iter (perT p) p) p)) per_9 (in_retP hm hr)
  | 10, _, _, hm => exact all_at (f := fun p => an (Nat.ble 1 (perT p)) (eqP (iter (perT p) p) p)) per_10 (in_retP hm hr)
  | 11, _, _, hm => exact all_at (f := fun p => an (Nat.ble 1 (perT p)) (eqP (iter (perT p) p) p)) per_11 (in_retP hm hr)
  | 12, _, _, hm => exact all_at (f := fun p => an (Nat.ble 1 (perT p)) (eqP (iter (perT p) p) p)) per_12 (in_retP hm hr)
  | 13, _, _, hm => exact all_at (f := fun p => an (Nat.ble 1 (perT p)) (eqP (iter (perT p) p) p)) per_13 (in_retP hm hr)
  | 14, _, _, hm => exact all_at (f := fun p => an (Nat.ble 1 (perT p)) (eqP (iter (perT p) p) p)) per_14 (in_retP hm hr)
  | 15, _, _, hm => exact all_at (f := fun p => an (Nat.ble 1 (perT p)) (eqP (iter (perT p) p) p)) per_15 (in_retP hm hr)
  | 16, _, _, hm => exact all_at (f := fun p => an (Nat.ble 1 (perT p)) (eqP (iter (perT p) p) p)) per_16 (in_retP hm hr)
  | 17, _, _, hm => exact all_at (f := fun p => an (Nat.ble 1 (perT p)) (eqP (iter (perT p) p) p)) per_17 (in_retP hm hr)
  | 18, _, _, hm => exact all_at (f := fun p => an (Nat.ble 1 (perT p)) (eqP (iter (perT p) p) p)) per_18 (in_retP hm hr)
  | 19, _, _, hm => exact all_at (f := fun p => an (Nat.ble 1 (perT p)) (eqP (iter (perT p) p) p)) per_19 (in_retP hm hr)
  | 20, _, _, hm => exact all_at (f := fun p => an (Nat.ble 1 (perT p)) (eqP (iter (perT p) p) p)) per_20 (in_retP hm hr)
  | 21, _, _, hm => exact all_at (f := fun p => an (Nat.ble 1 (perT p)) (eqP (iter (perT p) p) p)) per_21 (in_retP hm hr)
  | k + 22, _, h2, _ => omega
theorem Pback (n : Nat) {p : List Nat} (h : okP 21 p = true) (hr : ret p = true) : puN (n + 6) 38 [sv p] = some (.bool true) := by
  obtain ⟨k, h1, h2, hs, hm⟩ := in_pts h
  clear hs
  match k, h1, h2, hm with
  | 1, _, _, hm => exact map_at (f := fun p => puN (n + 6) 38 [sv p]) (g := fun _ => some (.bool true)) (back_1 n) (in_retP hm hr)
  | 2, _, _, hm => exact map_at (f := fun p => puN (n + 6) 38 [sv p]) (g := fun _ => some (.bool true)) (back_2 n) (in_retP hm hr)
  | 3, _, _, hm => exact map_at (f := fun p => puN (n + 6) 38 [sv p]) (g := fun _ => some (.bool true)) (back_3 n) (in_retP hm hr)
  | 4, _, _, hm => exact map_at (f := fun p => puN (n + 6) 38 [sv p]) (g := fun _ => some (.bool true)) (back_4 n) (in_retP hm hr)
  | 5, _, _, hm => exact map_at (f := fun p => puN (n + 6) 38 [sv p]) (g := fun _ => some (.bool true)) (back_5 n) (in_retP hm hr)
  | 6, _, _, hm => exact map_at (f := fun p => puN (n + 6) 38 [sv p]) (g := fun _ => some (.bool true)) (back_6 n) (in_retP hm hr)
  | 7, _, _, hm => exact map_at (f := fun p => puN (n + 6) 38 [sv p]) (g := fun _ => some (.bool true)) (back_7 n) (in_retP hm hr)
  | 8, _, _, hm => exact map_at (f := fun p => puN (n + 6) 38 [sv p]) (g := fun _ => some (.bool true)) (back_8 n) (in_retP hm hr)
  | 9, _, _, hm => exact map_at (f := fun p => puN (n + 6) 38 [sv p]) (g := fun _ => some (.bool true)) (back_9 n) (in_retP hm hr)
  | 10, _, _, hm => exact map_at (f := fun p => puN (n + 6) 38 [sv p]) (g := fun _ => some (.bool true)) (back_10 n) (in_retP hm hr)
  | 11, _, _, hm => exact map_at (f := fun p => puN (n + 6) 38 [sv p]) (g := fun _ => some (.bool true)) (back_11 n) (in_retP hm hr)
  | 12, _, _, hm => exact map_at (f := fun p => puN (n + 6) 38 [sv p]) (g := fun _ => some (.bool true)) (back_12 n) (in_retP hm hr)
  | 13, _, _, hm => exact map_at (f := fun p => puN (n + 6) 38 [sv p]) (g := fun _ => some (.bool true)) (back_13 n) (in_retP hm hr)
  | 14, _, _, hm => exact map_at (f := fun p => puN (n + 6) 38 [sv p]) (g := fun _ => some (.bool true)) (back_14 n) (in_retP hm hr)
  | 15, _, _, hm => exact map_at (f := fun p => puN (n + 6) 38 [sv p]) (g := fun _ => some (.bool true)) (back_15 n) (in_retP hm hr)
  | 16, _, _, hm => exact map_at (f := fun p => puN (n + 6) 38 [sv p]) (g := fun _ => some (.bool true)) (back_16 n) (in_retP hm hr)
  | 17, _, _, hm => exact map_at (f := fun p => puN (n + 6) 38 [sv p]) (g := fun _ => some (.bool true)) (back_17 n) (in_retP hm hr)
  | 18, _, _, hm => exact map_at (f := fun p => puN (n + 6) 38 [sv p]) (g := fun _ => some (.bool true)) (back_18 n) (in_retP hm hr)
  | 19, _, _, hm => exact map_at (f := fun p => puN (n + 6) 38 [sv p]) (g := fun _ => some (.bool true)) (back_19 n) (in_retP hm hr)
  | 20, _, _, hm => exact map_at (f := fun p => puN (n + 6) 38 [sv p]) (g := fun _ => some (.bool true)) (back_20 n) (in_retP hm hr)
  | 21, _, _, hm => exact map_at (f := fun p => puN (n + 6) 38 [sv p]) (g := fun _ => some (.bool true)) (back_21 n) (in_retP hm hr)
  | k + 22, _, h2, _ => omega
end Go.HpRM
set_option maxRecDepth 100000
namespace Go.HpRM
open Go.Sp Go.HpR Go.HpT

theorem eqP_eq : ∀ (a b : List Nat), eqP a b = true → a = b
  | [], b, h => by
    have h : nilL b = true := h
    cases b with
    | nil => rfl
    | cons x r => cases h
  | x :: a, b, h => by
    have h : ll b false (fun y r => an (Nat.beq x y) (eqP a r)) = true := h
    cases b with
    | nil => cases h
    | cons y r =>
      obtain ⟨h1, h2⟩ := an_inv (show an (Nat.beq x y) (eqP a r) = true from h)
      rw [Nat.eq_of_beq_eq_true h1, eqP_eq a r h2]
theorem seen_ok {p : List Nat} (h : okP 21 p = true) : okP 21 (rnd p) = true ∧ sumL (rnd p) = sumL p ∧ comes 60 p = true ∧ (ret p = true → ret (rnd p) = true ∧ iter (stair (sumL p) + 1) p = p) := by
  obtain ⟨h1, h2⟩ := an_inv (show an (okP 21 (rnd p)) (an (Nat.beq (sumL (rnd p)) (sumL p)) (an (comes 60 p) (bb (ret p) (an (ret (rnd p)) (eqP (iter (stair (sumL p) + 1) p) p)) true))) = true from Pseen h)
  obtain ⟨h2, h3⟩ := an_inv h2
  obtain ⟨h3, h4⟩ := an_inv h3
  refine ⟨h1, Nat.eq_of_beq_eq_true h2, h3, fun hr => ?_⟩
  rw [hr, bb_true] at h4
  obtain ⟨h4, h5⟩ := an_inv h4
  exact ⟨h4, eqP_eq _ _ h5⟩
theorem iter_s (n : Nat) (p : List Nat) : iter (n + 1) p = iter n (rnd p) := rfl
theorem iter_0 (p : List Nat) : iter 0 p = p := rfl
theorem iter_add : ∀ (a b : Nat) (p : List Nat), iter (a + b) p = iter b (iter a p)
  | 0, b, p => by rw [Nat.zero_add, iter_0]
  | a + 1, b, p => by rw [show a + 1 + b = (a + b) + 1 by omega, iter_s, iter_s, iter_add a b]
theorem iter_r (n : Nat) (p : List Nat) : iter (n + 1) p = rnd (iter n p) := iter_add n 1 p
theorem iter_ok : ∀ (n : Nat) {p : List Nat}, okP 21 p = true → okP 21 (iter n p) = true
  | 0, p, h => h
  | n + 1, p, h => by rw [iter_s]; exact iter_ok n (seen_ok h).1
theorem iter_ret : ∀ (n : Nat) {p : List Nat}, okP 21 p = true → ret p = true → ret (iter n p) = true
  | 0, p, _, h => h
  | n + 1, p, h, hr => by rw [iter_s]; exact iter_ret n (seen_ok h).1 ((seen_ok h).2.2.2 hr).1
theorem iter_mul {j : Nat} {p : List Nat} (h : iter j p = p) : ∀ k : Nat, iter (k * j) p = p
  | 0 => by rw [Nat.zero_mul, iter_0]
  | k + 1 => by rw [Nat.succ_mul, iter_add, iter_mul h k, h]
theorem iter_mod {c : Nat} {p : List Nat} (h : iter c p = p) (z : Nat) : iter (z % c) p = iter z p := by
  conv => rhs; rw [← Nat.div_add_mod z c, iter_add, Nat.mul_comm, iter_mul h]
theorem comes_ex : ∀ (f : Nat) {p : List Nat}, comes f p = true → ∃ m, ret (iter m p) = true
  | 0, p, h => ⟨0, h⟩
  | f + 1, p, h => by
    have h : bb (ret p) true (comes f (rnd p)) = true := h
    cases hr : ret p with
    | true => exact ⟨0, hr⟩
    | false =>
      rw [hr, bb_false] at h
      obtain ⟨m, hm⟩ := comes_ex f h
      exact ⟨m + 1, hm⟩
theorem no_back {p : List Nat} (h : okP 21 p = true) (hr : ret p = false) (j : Nat) (hj : 1 ≤ j) : iter j p ≠ p := fun e => by
  obtain ⟨m, hm⟩ := comes_ex 60 (seen_ok h).2.2.1
  have h1 := iter_mul e m
  have h2 : m * j = m + (m * j - m) := by
    have := Nat.mul_le_mul_left m hj
    omega
  rw [h2, iter_add] at h1
  have h3 := iter_ret (m * j - m) (iter_ok m h) hm
  rw [h1, hr] at h3; cases h3
theorem len_isPt : ∀ (p : List Nat) (left most : Nat), isPt p left most = true → p.length ≤ left
  | [], _, _, _ => Nat.zero_le _
  | a :: p, left, most, h => by
    obtain ⟨h1, h2⟩ := an_inv (show an (Nat.ble 1 a) (an (Nat.ble a most) (an (Nat.ble a left) (isPt p (left - a) a))) = true from h)
    obtain ⟨_, h3⟩ := an_inv h2
    obtain ⟨h3, h4⟩ := an_inv h3
    have := len_isPt p _ _ h4
    have := Nat.le_of_ble_eq_true h1
    have := Nat.le_of_ble_eq_true h3
    rw [List.length_cons]; omega
theorem ok_sum {p : List Nat} (h : okP 21 p = true) : 1 ≤ sumL p ∧ sumL p ≤ 21 := by
  obtain ⟨h1, h2⟩ := an_inv (show an (Nat.ble 1 (sumL p)) (an (Nat.ble (sumL p) 21) (isPt p (sumL p) (sumL p))) = true from h)
  exact ⟨Nat.le_of_ble_eq_true h1, Nat.le_of_ble_eq_true (an_inv h2).1⟩
theorem ok_len {p : List Nat} (h : okP 21 p = true) : p.length ≤ 21 := by
  obtain ⟨h1, h2⟩ := an_inv (show an (Nat.ble 1 (sumL p)) (an (Nat.ble (sumL p) 21) (isPt p (sumL p) (sumL p))) = true from h)
  obtain ⟨h2, h3⟩ := an_inv h2
  exact Nat.le_trans (len_isPt p _ _ h3) (Nat.le_of_ble_eq_true h2)
theorem ok_ne {p : List Nat} (h : okP 21 p = true) : p ≠ [] := fun e => by
  subst e; have := (ok_sum h).1; exact absurd this (by decide)
theorem mem_rng : ∀ (n m : Nat), m < n → m ∈ rngT n
  | n + 1, m, h => by
    show m ∈ appL (rngT n) [n]
    rw [appL_eq, List.mem_append]
    by_cases e : m = n
    · right; simp [e]
    · left; exact mem_rng n m (by omega)
theorem P35 (n m : Nat) (h : m ≤ 21) : puN (n + 6) 35 [I (Int.ofNat m)] = some (.tuple ⟨[I (Int.ofNat (stair m)), I (Int.ofNat (left m))]⟩) := by
  have e := stair_all n
  rw [mapL_eq, mapL_eq] at e
  exact List.map_inj_left.1 e m (mem_rng 22 m (by omega))
theorem stair_all6 : allL (fun k => Nat.ble (stair k) 6) (rngT 22) = true := by kernel_rfl
theorem stair_le (m : Nat) (h : m ≤ 21) : stair m ≤ 6 := by
  have e := stair_all6
  rw [allL_eq, List.all_eq_true] at e
  exact Nat.le_of_ble_eq_true (e m (mem_rng 22 m (by omega)))
theorem wrapZ (z : Nat) (h : z ≤ 1000000000) (h1 : 1 ≤ z) : wrapF .i64 (Int.sub (Int.ofNat z) 1) = Int.ofNat (z - 1) := by
  have e : Int.sub (Int.ofNat z) 1 = Int.ofNat (z - 1) := by show (z : Int) - 1 = ((z - 1 : Nat) : Int); omega
  rw [e]
  exact wrapN (by simp only [Int.ofNat_eq_natCast]; omega) (by simp only [Int.ofNat_eq_natCast]; omega)
theorem takeI (r : List Int) : takeL (r.length * 1) (dropL 0 (r.map I)) = r.map I := by
  have : r.length * 1 = (r.map I).length := by rw [List.length_map, Nat.mul_one]
  rw [this, dropL_eq, List.drop_zero, takeL_eq, List.take_length]
theorem takeI' (r : List Int) : takeL (r.length * 1) (r.map I) = r.map I := by
  have := takeI r
  rwa [dropL_eq, List.drop_zero] at this
theorem wholeI (r : List Int) : an (Nat.ble (0 + r.length * 1) (len (r.map I))) (allL closed1 (takeL (r.length * 1) (dropL 0 (r.map I)))) = true := by
  rw [takeI, clI, len_eq, List.length_map, ble_eq]; simp

theorem l59 (pu : PureF) (a b : List Nat) (hl : a.length = b.length) (h100 : a.length ≤ 100) : ∀ (f i : Nat), a.length - i < f → i ≤ a.length → a.take i = b.take i →
    l59_1 pu 1000000 f (sl 0 (nI a)) (sl 0 (nI b)) (Int.ofNat i) = some (.bool (decide (a = b))) := by
  intro f
  induction f with
  | zero => intro i h; omega
  | succ f ih =>
    intro i hf hi ht
    show b59_1 pu 1000000 (l59_1 pu 1000000 f) _ _ _ = _
    unfold b59_1
    rw [sl_n, nI_len]
    by_cases hlt : i < a.length
    · have hlb : i < b.length := by omega
      rw [lt_true hlt]
      simp only [bb_true, toN_mk, oo_some, sl_n, sl_cs, nI_len, blt_eq, hlt, hlb, decide_true, an_eq, Bool.true_and, nthL_eq, Nat.mul_one, getN a i hlt, getN b i hlb, toI_mk]
      by_cases e : a[i] = b[i]
      · rw [e, neqr, bb_false, wrapS i (by omega)]
        exact ih (i + 1) (by omega) (by omega) (by rw [List.take_succ_eq_append_getElem hlt, List.take_succ_eq_append_getElem hlb, ht, e])
      · have q : nt (ieq (Int.ofNat a[i]) (Int.ofNat b[i])) = true := by
          have : ieq (Int.ofNat a[i]) (Int.ofNat b[i]) = false := by rw [ieq_eq]; simp only [Int.ofNat_eq_natCast]; exact decide_eq_false (by omega)
          rw [this]; rfl
        have hne : a ≠ b := fun g => e (by subst g; rfl)
        rw [q, bb_true, decide_eq_false hne]
    · have : i = a.length := by omega
      subst this
      rw [List.take_length, hl, List.take_length] at ht
      rw [lt_false hlt, bb_false, decide_eq_true ht]; rfl
theorem p59 (n : Nat) (a b : List Nat) (h100 : a.length ≤ 100) : puN (n + 1) 59 [sv a, sv b] = some (.bool (decide (a = b))) := by
  rw [sv_eq, sv_eq]
  refine Eq.trans (b := m59_ (puN n) 1000000 (sl 0 (nI a)) (sl 0 (nI b))) (by kernel_rfl) ?_
  unfold m59_
  rw [sl_n, sl_n, nI_len, nI_len]
  by_cases hl : a.length = b.length
  · rw [hl, neqr, bb_false]
    exact l59 (puN n) a b hl h100 1000000 0 (by omega) (by omega) rfl
  · have q : nt (ieq (Int.ofNat a.length) (Int.ofNat b.length)) = true := by
      have : ieq (Int.ofNat a.length) (Int.ofNat b.length) = false := by rw [ieq_eq]; simp only [Int.ofNat_eq_natCast]; exact decide_eq_false (by omega)
      rw [this]; rfl
    have hne : a ≠ b := fun g => hl (by rw [g])
    rw [q, bb_true, decide_eq_false hne]
theorem l38 (n : Nat) (p : List Nat) (hp : okP 21 p = true) (hr : ret p = false) : ∀ (f i : Nat), 21 - i < f → i ≤ 21 →
    l38_1 (puN (n + 6)) 1000000 f (sl 0 (nI p)) (sl 0 (nI (iter i p))) (Int.ofNat i) = some (.bool false) := by
  intro f
  induction f with
  | zero => intro i h; omega
  | succ f ih =>
    intro i hf hi
    show b38_1 (puN (n + 6)) 1000000 (l38_1 (puN (n + 6)) 1000000 f) _ _ _ = _
    unfold b38_1
    by_cases hlt : i < 21
    · have e1 := P32 n (iter_ok i hp)
      have e2 := p59 (n + 5) (iter (i + 1) p) p (by have := ok_len (iter_ok (i + 1) hp); omega)
      rw [← iter_r, sv_eq, sv_eq] at e1
      rw [sv_eq, sv_eq, decide_eq_false (no_back hp hr (i + 1) (by omega))] at e2
      rw [show ilt (Int.ofNat i) 21 = true from lt_true hlt, bb_true, e1, oo_some, toSl_mk, oo_some, e2, oo_some, vBool_mk, oo_some, bb_false, wrapS i (by omega)]
      exact ih (i + 1) (by omega) (by omega)
    · have : i = 21 := by omega
      subst this
      rfl
theorem p38 (n : Nat) {p : List Nat} (hp : okP 21 p = true) : puN (n + 7) 38 [sv p] = some (.bool (ret p)) := by
  cases hr : ret p with
  | true => exact Pback (n + 1) hp hr
  | false =>
    rw [sv_eq]
    refine Eq.trans (b := m38_ (puN (n + 6)) 1000000 (sl 0 (nI p))) (by kernel_rfl) ?_
    exact l38 n p hp hr 1000000 0 (by omega) (by omega)
theorem per_le (p : List Nat) : ∀ (f k : Nat) (q : List Nat), (Nat.rec (motive := fun _ => List Nat → Nat → Nat) (fun _ k => k) (fun _ ih q k => bb (eqP q p) k (ih (rnd q) (Nat.succ k))) f : List Nat → Nat → Nat) q k ≤ k + f
  | 0, k, q => Nat.le_refl _
  | f + 1, k, q => by
    show bb (eqP q p) k _ ≤ _
    cases eqP q p with
    | true => rw [bb_true]; omega
    | false =>
      rw [bb_false]
      have := per_le p f (Nat.succ k) (rnd q)
      omega
theorem perT_le (p : List Nat) : perT p ≤ 31 := per_le p 30 1 (rnd p)
noncomputable def fin (p : List Nat) : Option Value := some (.tuple ⟨[sv p, I 0]⟩)
theorem l10b (n z : Nat) (hz : z ≤ 100) : ∀ (f i : Nat) (q : List Nat), z - i < f → i ≤ z → okP 21 q = true →
    l10_10 (puN (n + 8)) 1000000 f (Int.ofNat z) (sl 0 (nI q)) (Int.ofNat i) = fin (iter (z - i) q) := by
  intro f
  induction f with
  | zero => intro i q h; omega
  | succ f ih =>
    intro i q hf hi hq
    show b10_10 (puN (n + 8)) 1000000 (l10_10 (puN (n + 8)) 1000000 f) _ _ _ = _
    unfold b10_10
    by_cases hlt : i < z
    · have e1 := P32 (n + 2) hq
      rw [sv_eq, sv_eq] at e1
      rw [lt_true hlt, bb_true, e1, oo_some, toSl_mk, oo_some, wrapS i (by omega), ih (i + 1) (rnd q) (by omega) (by omega) (seen_ok hq).1, show z - i = (z - (i + 1)) + 1 by omega, iter_s]
    · have : i = z := by omega
      subst this
      rw [lt_false hlt, bb_false, Nat.sub_self, iter_0]
      unfold m10_9 fin
      rw [sv_eq]
theorem m10_7p (n z : Nat) (hz : z ≤ 1000000000) {q : List Nat} (hq : okP 21 q = true) (hr : z = 0 ∨ ret q = true) : m10_7 (puN (n + 8)) 1000000 (Int.ofNat z) (sl 0 (nI q)) = fin (iter z q) := by
  unfold m10_7
  by_cases h0 : z = 0
  · subst h0
    rw [show ilt 0 (Int.ofNat 0) = false from rfl, bb_false]
    exact l10b n 0 (by omega) 1000000 0 q (by omega) (by omega) hq
  · have hr : ret q = true := by rcases hr with h | h; exact absurd h h0; exact h
    have hR := Pring (n + 2) hq hr
    obtain ⟨v, hv, hs⟩ := oo_inv (show oo (puN (n + 8) 39 [sv q]) none (fun v => oo (toSl 1 v) none fun s => some s.n) = some (perT q) from hR)
    obtain ⟨s, hs, hn⟩ := oo_inv hs
    injection hn with hn
    obtain ⟨h1, h2⟩ := an_inv (Pper hq hr)
    have h1 := Nat.le_of_ble_eq_true h1
    have h2 := eqP_eq _ _ h2
    rw [sv_eq] at hv
    have hne : nt (ieq (Int.ofNat (perT q)) 0) = true := ne_t (by simp only [Int.ofNat_eq_natCast]; omega)
    have hp21 := perT_le q
    have hmod : Int.tmod (Int.ofNat z) (Int.ofNat (perT q)) = Int.ofNat (z % perT q) := (Int.ofNat_tmod _ _).symm
    have hlt : z % perT q < perT q := Nat.mod_lt _ (by omega)
    rw [show ilt 0 (Int.ofNat z) = true from lt_true (a := 0) (by omega), bb_true, hv, oo_some, hs, oo_some, hn, hne, bb_true, hmod]
    have := l10b n (z % perT q) (by omega) 1000000 0 q (by omega) (by omega) hq
    rw [Nat.sub_zero, iter_mod h2] at this
    exact this
theorem l10 (n : Nat) : ∀ (f m z : Nat) (q : List Nat), m < f → z ≤ 1000000000 → okP 21 q = true → comes m q = true →
    l10_11 (puN (n + 8)) 1000000 f (Int.ofNat z) (sl 0 (nI q)) = fin (iter z q) := by
  intro f
  induction f with
  | zero => intro m z q h; omega
  | succ f ih =>
    intro m z q hf hz hq hc
    show b10_11 (puN (n + 8)) 1000000 (l10_11 (puN (n + 8)) 1000000 f) _ _ = _
    unfold b10_11 m10_12
    by_cases h0 : z = 0
    · subst h0
      rw [show ilt 0 (Int.ofNat 0) = false from rfl, bb_false, bb_false]
      exact m10_7p n 0 hz hq (.inl rfl)
    · have e := p38 (n + 1) hq
      rw [sv_eq] at e
      rw [show ilt 0 (Int.ofNat z) = true from lt_true (a := 0) (by omega), bb_true, e, oo_some, vBool_mk, oo_some]
      cases hr : ret q with
      | true =>
        rw [show nt true = false from rfl, bb_false]
        exact m10_7p n z hz hq (.inr hr)
      | false =>
        have e1 := P32 (n + 2) hq
        rw [sv_eq, sv_eq] at e1
        rw [show nt false = true from rfl, bb_true, e1, oo_some, toSl_mk, oo_some, wrapZ z hz (by omega)]
        cases m with
        | zero => rw [show comes 0 q = ret q from rfl, hr] at hc; cases hc
        | succ m =>
          have hc : bb (ret q) true (comes m (rnd q)) = true := hc
          rw [hr, bb_false] at hc
          rw [ih m (z - 1) (rnd q) (by omega) (by omega) (seen_ok hq).1 hc]
          conv => rhs; rw [show z = (z - 1) + 1 by omega, iter_s]
end Go.HpRM
set_option maxRecDepth 100000
namespace Go.HpRM
open Go.Sp Go.HpR Go.HpT

theorem cv1 (p : List Nat) : allL closed1 (cvl p) = true := by kernel_rfl
theorem cv2 (p : List Nat) : setL (cvl p) 0 zA53 = cvl p := by kernel_rfl
theorem cv3 (p : List Nat) : takeL 22 (dropL 0 (cvl p)) = cvl p := by kernel_rfl
theorem cv4 (p : List Nat) : allL closed2 [.agg ⟨cvl p⟩] = true := by kernel_rfl
theorem cv5 (p : List Nat) : Nat.ble (0 + 22) (len (cvl p)) = true := by kernel_rfl
theorem cv6 (p : List Nat) : an (Nat.beq (len (cvl p)) 22) (allL closed1 (cvl p)) = true := by kernel_rfl
theorem cv7 (p : List Nat) : Nat.beq (len (cvl p)) 22 = true := by kernel_rfl
theorem cv8 (p : List Nat) : an (Nat.ble (0 + len (cvl p)) (len zA53)) (allL scalarB (cvl p)) = true := by kernel_rfl
theorem cv9 (p q : List Nat) : setL (cvl q) 0 (cvl p) = cvl q := by kernel_rfl
theorem cv10 (p q : List Nat) : an (Nat.ble (0 + len (cvl q)) (len (cvl p))) (allL scalarB (cvl q)) = true := by kernel_rfl
theorem svE (p : List Nat) : Sl.mk (sl 0 (nI p)).n 0 (takeL ((sl 0 (nI p)).n * 1) (dropL 0 (sl 0 (nI p)).cs)) = sl 0 (nI p) := by
  have t := takeI (nI p)
  rw [sl_n, sl_cs, t]; rfl
theorem svW (p : List Nat) : an (Nat.ble (0 + (sl 0 (nI p)).n * 1) (len (sl 0 (nI p)).cs)) (allL closed1 (takeL ((sl 0 (nI p)).n * 1) (dropL 0 (sl 0 (nI p)).cs))) = true := wholeI (nI p)
theorem svC (p : List Nat) : allL closed1 (sl 0 (nI p)).cs = true := clI (nI p)
noncomputable def nilE (e : Int) : Option Value := some (.tuple ⟨[Sl.v 1 ⟨0, 2, []⟩, I e]⟩)

theorem p7 (n : Nat) {p : List Nat} (hp : okP 21 p = true) (e14 : puN (n + 6) 14 [sv p] = some (I 0)) : puN (n + 7) 7 [sv p] = fin (rnd p) := by
  have e1 := P29 n hp
  have e2 := P30 n hp
  have e3 := P31 n (seen_ok hp).1
  rw [sv_eq] at e14 e1 e3 ⊢
  unfold cv at e1 e2 e3
  refine Eq.trans (b := m7_ (puN (n + 6)) 1000000 (sl 0 (nI p))) (by kernel_rfl) ?_
  unfold m7_
  rw [e14, oo_some, toI_mk, oo_some, show nt (ieq (0 : Int) 0) = false from rfl, bb_false, e1, oo_some, vAgg_mk, oo_some, cv6, bb_true, e2, oo_some, vAgg_mk, oo_some, cv6, bb_true, cv4, bb_true, e3, oo_some, toSl_mk, oo_some, cv4, bb_true, svC, bb_true, svW, bb_true, svE]
  unfold fin; rw [sv_eq]
theorem p7e (n fl : Nat) (l : List Int) (c : Int) (hc : c ≠ 0) (e14 : puN (n + 6) 14 [Sl.v 1 (sl fl l)] = some (I c)) : puN (n + 7) 7 [Sl.v 1 (sl fl l)] = nilE c := by
  refine Eq.trans (b := m7_ (puN (n + 6)) 1000000 (sl fl l)) (by kernel_rfl) ?_
  unfold m7_
  rw [e14, oo_some, toI_mk, oo_some, ne_t hc, bb_true]; rfl
theorem p8 (n : Nat) {p : List Nat} (hp : okP 21 p = true) (e15 : puN (n + 6) 15 [sv p] = some (I 0)) : puN (n + 7) 8 [sv p] = fin (rnd p) := by
  have e1 := P32 n hp
  rw [sv_eq] at e15 e1 ⊢
  refine Eq.trans (b := m8_ (puN (n + 6)) 1000000 (sl 0 (nI p))) (by kernel_rfl) ?_
  unfold m8_
  rw [sv_eq] at e1
  rw [e15, oo_some, toI_mk, oo_some, show nt (ieq (0 : Int) 0) = false from rfl, bb_false, e1, oo_some, toSl_mk, oo_some]
  unfold fin; rw [sv_eq]
theorem p8e (n fl : Nat) (l : List Int) (c : Int) (hc : c ≠ 0) (e15 : puN (n + 6) 15 [Sl.v 1 (sl fl l)] = some (I c)) : puN (n + 7) 8 [Sl.v 1 (sl fl l)] = nilE c := by
  refine Eq.trans (b := m8_ (puN (n + 6)) 1000000 (sl fl l)) (by kernel_rfl) ?_
  unfold m8_
  rw [e15, oo_some, toI_mk, oo_some, ne_t hc, bb_true]; rfl
theorem p11e (n fl : Nat) (l : List Int) (c : Int) (hc : c ≠ 0) (e14 : puN (n + 6) 14 [Sl.v 1 (sl fl l)] = some (I c)) : puN (n + 7) 11 [Sl.v 1 (sl fl l)] = nilE c := by
  refine Eq.trans (b := m11_ (puN (n + 6)) 1000000 (sl fl l)) (by kernel_rfl) ?_
  unfold m11_
  rw [e14, oo_some, toI_mk, oo_some, ne_t hc, bb_true]; rfl
theorem p12e (n fl : Nat) (l : List Int) (c : Int) (hc : c ≠ 0) (e15 : puN (n + 6) 15 [Sl.v 1 (sl fl l)] = some (I c)) : puN (n + 7) 12 [Sl.v 1 (sl fl l)] = nilE c := by
  refine Eq.trans (b := m12_ (puN (n + 6)) 1000000 (sl fl l)) (by kernel_rfl) ?_
  unfold m12_
  rw [e15, oo_some, toI_mk, oo_some, ne_t hc, bb_true]; rfl

theorem m9_2p (n z : Nat) (hz : z ≤ 1000000000) (h1 : 1 ≤ z) {p : List Nat} (hp : okP 21 p = true) (ih : Int → List Value → Option Value) : m9_2 (puN (n + 8)) 1000000 ih (Int.ofNat z) (cvl p) = ih (Int.ofNat (z - 1)) (cvl (rnd p)) := by
  have e := P30 (n + 2) hp
  unfold cv at e
  unfold m9_2
  rw [cv5, bb_true, cv3, e, oo_some, vAgg_mk, oo_some, cv6, bb_true, cv4, bb_true, cv7, bb_true, cv10, bb_true, cv9, cv1, bb_true, wrapZ z hz h1]
theorem m9_0p (n : Nat) {p : List Nat} (hp : okP 21 p = true) : m9_0 (puN (n + 8)) 1000000 (cvl p) = fin p := by
  have e := P31 (n + 2) hp
  rw [sv_eq] at e
  unfold cv at e
  unfold m9_0
  rw [cv5, bb_true, cv3, e, oo_some, toSl_mk, oo_some, cv4, bb_true, svC, bb_true, svW, bb_true, svE]
  unfold fin; rw [sv_eq]
theorem b9p (n : Nat) (f z : Nat) (hz : z ≤ 1000000000) {p : List Nat} (hp : okP 21 p = true) : l9_1 (puN (n + 8)) 1000000 (f + 1) (Int.ofNat z) (cvl p) =
    if z = 0 then fin p else l9_1 (puN (n + 8)) 1000000 f (Int.ofNat (if ret p then (z - 1) % (stair (sumL p) + 1) else z - 1)) (cvl (rnd p)) := by
  show b9_1 (puN (n + 8)) 1000000 (l9_1 (puN (n + 8)) 1000000 f) _ _ = _
  unfold b9_1
  rw [cv1, bb_true]
  by_cases h0 : z = 0
  · subst h0
    rw [if_pos rfl, show ilt 0 (Int.ofNat 0) = false from rfl, bb_false]
    exact m9_0p n hp
  · have e1 := P34 (n + 2) hp
    unfold cv at e1
    rw [if_neg h0, show ilt 0 (Int.ofNat z) = true from lt_true (a := 0) (by omega), bb_true, cv5, bb_true, cv3, e1, oo_some, vBool_mk, oo_some, cv4, bb_true]
    cases hr : ret p with
    | false =>
      rw [bb_false, m9_2p n z hz (by omega) hp]; rfl
    | true =>
      have hs := (ok_sum hp).2
      have e2 := P36 (n + 2) hp
      have e3 := P35 (n + 2) (sumL p) hs
      have hk := stair_le (sumL p) hs
      unfold cv at e2
      have ea : wrapF .i64 (Int.add (Int.ofNat (stair (sumL p))) 1) = Int.ofNat (stair (sumL p) + 1) := wrapS _ (by omega)
      have hne : nt (ieq (Int.ofNat (stair (sumL p) + 1)) 0) = true := ne_t (by simp only [Int.ofNat_eq_natCast]; omega)
      have hmod : Int.tmod (Int.ofNat (z - 1)) (Int.ofNat (stair (sumL p) + 1)) = Int.ofNat ((z - 1) % (stair (sumL p) + 1)) := (Int.ofNat_tmod _ _).symm
      have hlt : (z - 1) % (stair (sumL p) + 1) < stair (sumL p) + 1 := Nat.mod_lt _ (by omega)
      rw [bb_true, e2]
      simp only [oo_some, toI_mk]
      rw [bb_true, e3]
      simp only [oo_some, vTup_mk, ll_cons', ll_nil', toI_mk]
      rw [ea, hne, bb_true, wrapZ z hz (by omega), hmod, wrapS _ (by omega), m9_2p n _ (by omega) (by omega) hp, Nat.add_sub_cancel]; rfl
theorem l9r (n : Nat) : ∀ (f z : Nat) (p : List Nat), okP 21 p = true → ret p = true → z ≤ stair (sumL p) + 1 → z < f → l9_1 (puN (n + 8)) 1000000 f (Int.ofNat z) (cvl p) = fin (iter z p) := by
  intro f
  induction f with
  | zero => intro z p _ _ _ h; omega
  | succ f ih =>
    intro z p hp hr hz hf
    have hk := stair_le (sumL p) (ok_sum hp).2
    obtain ⟨s1, s2, _, s4⟩ := seen_ok hp
    rw [b9p n f z (by omega) hp]
    by_cases h0 : z = 0
    · subst h0; rw [if_pos rfl, iter_0]
    · have hm : (z - 1) % (stair (sumL p) + 1) = z - 1 := Nat.mod_eq_of_lt (by omega)
      rw [if_neg h0, hr, if_pos rfl, hm, ih (z - 1) (rnd p) s1 (s4 hr).1 (by rw [s2]; omega) (by omega)]
      conv => rhs; rw [show z = (z - 1) + 1 by omega, iter_s]
theorem l9 (n : Nat) : ∀ (f m z : Nat) (p : List Nat), m + 30 < f → z ≤ 1000000000 → okP 21 p = true → comes m p = true → l9_1 (puN (n + 8)) 1000000 f (Int.ofNat z) (cvl p) = fin (iter z p) := by
  intro f
  induction f with
  | zero => intro m z p h; omega
  | succ f ih =>
    intro m z p hf hz hp hc
    have hk := stair_le (sumL p) (ok_sum hp).2
    obtain ⟨s1, s2, _, s4⟩ := seen_ok hp
    rw [b9p n f z hz hp]
    by_cases h0 : z = 0
    · subst h0; rw [if_pos rfl, iter_0]
    · rw [if_neg h0]
      cases hr : ret p with
      | true =>
        have hlt : (z - 1) % (stair (sumL p) + 1) < stair (sumL p) + 1 := Nat.mod_lt _ (by omega)
        obtain ⟨r1, r2⟩ := s4 hr
        have r3 := ((seen_ok s1).2.2.2 r1).2
        rw [s2] at r3
        rw [if_pos rfl, l9r n f _ (rnd p) s1 r1 (by rw [s2]; omega) (by omega), iter_mod r3]
        conv => rhs; rw [show z = (z - 1) + 1 by omega, iter_s]
      | false =>
        cases m with
        | zero => rw [show comes 0 p = ret p from rfl, hr] at hc; cases hc
        | succ m =>
          have hc : bb (ret p) true (comes m (rnd p)) = true := hc
          rw [hr, bb_false] at hc
          rw [if_neg (by simp), ih m (z - 1) (rnd p) (by omega) (by omega) s1 hc]
          conv => rhs; rw [show z = (z - 1) + 1 by omega, iter_s]
noncomputable def aft (p : List Nat) (z : Int) : Option Value := @ite _ (0 ≤ z ∧ z ≤ 1000000000) (Classical.propDecidable _) (fin (iter z.toNat p)) (nilE 1)
theorem rng_d (z : Int) : (decide (0 ≤ z) && decide (z ≤ 1000000000)) = true ↔ (0 ≤ z ∧ z ≤ 1000000000) := by
  rw [Bool.and_eq_true, decide_eq_true_eq, decide_eq_true_eq]
theorem p9 (n : Nat) {p : List Nat} (hp : okP 21 p = true) (z : Int) (e14 : puN (n + 8) 14 [sv p] = some (I 0)) : puN (n + 9) 9 [sv p, I z] = aft p z := by
  have q := p33 (n + 7) 0 z 1000000000
  have e1 := P29 (n + 2) hp
  rw [sv_eq] at e14 e1 ⊢
  unfold cv at e1
  refine Eq.trans (b := m9_ (puN (n + 8)) 1000000 (sl 0 (nI p)) z) (by kernel_rfl) ?_
  unfold m9_ aft
  rw [e14, oo_some, toI_mk, oo_some, show nt (ieq (0 : Int) 0) = false from rfl, bb_false, q, oo_some, vBool_mk, oo_some]
  by_cases h : 0 ≤ z ∧ z ≤ 1000000000
  · have hz : z = Int.ofNat z.toNat := by simp only [Int.ofNat_eq_natCast]; omega
    rw [(rng_d z).2 h, if_pos h, show nt true = false from rfl, bb_false, e1, oo_some, vAgg_mk, oo_some, cv6, bb_true, cv7, bb_true, cv8, bb_true, cv2, cv1, bb_true]
    have := l9 n 1000000 60 z.toNat p (by omega) (by omega) hp (seen_ok hp).2.2.1
    rw [← hz] at this
    exact this
  · have : (decide (0 ≤ z) && decide (z ≤ 1000000000)) = false := by rw [← Bool.not_eq_true, rng_d]; exact h
    rw [this, if_neg h, show nt false = true from rfl, bb_true]; rfl
theorem p9e (n fl : Nat) (l : List Int) (z c : Int) (hc : c ≠ 0) (e14 : puN (n + 8) 14 [Sl.v 1 (sl fl l)] = some (I c)) : puN (n + 9) 9 [Sl.v 1 (sl fl l), I z] = nilE c := by
  refine Eq.trans (b := m9_ (puN (n + 8)) 1000000 (sl fl l) z) (by kernel_rfl) ?_
  unfold m9_
  rw [e14, oo_some, toI_mk, oo_some, ne_t hc, bb_true]; rfl
theorem m10_0e (pu : PureF) (s : Sl) (z c : Int) (hc : c ≠ 0) : m10_0 pu 1000000 s z c = nilE c := by
  unfold m10_0
  rw [ne_t hc, bb_true]; rfl
theorem roomyB {n b : Nat} (hn : n ≤ 1000) (hb : b ≤ 100) : roomy n b = true := by
  unfold roomy; rw [ble_eq]
  have := Nat.mul_le_mul (show 4 * n + 4096 ≤ 8096 by omega) hb
  simp; omega
theorem p10 (n : Nat) {p : List Nat} (hp : okP 21 p = true) (z : Int) (e15 : puN (n + 8) 15 [sv p] = some (I 0)) : puN (n + 9) 10 [sv p, I z] = aft p z := by
  have q := p37 (n + 7) z 0 1000000000
  rw [sv_eq] at e15 ⊢
  refine Eq.trans (b := m10_ (puN (n + 8)) 1000000 (sl 0 (nI p)) z) (by kernel_rfl) ?_
  unfold m10_ m10_13 aft
  rw [e15, oo_some, toI_mk, oo_some, show ieq (0 : Int) 0 = true from rfl, bb_true, q, oo_some, vBool_mk, oo_some]
  by_cases h : 0 ≤ z ∧ z ≤ 1000000000
  · have hz : z = Int.ofNat z.toNat := by simp only [Int.ofNat_eq_natCast]; omega
    have hn0 : Nat.beq (nI p).length 0 = false := by
      rw [nI_len]
      cases hp0 : p with
      | nil => exact absurd hp0 (ok_ne hp)
      | cons a t => rfl
    have hl := ok_len hp
    have rm : roomy (0 + (nI p).length) 8 = true := roomyB (by rw [nI_len]; omega) (by omega)
    have w := wholeI (nI p)
    rw [Nat.zero_add] at w
    have t := takeI (nI p)
    rw [(rng_d z).2 h, if_pos h, show nt true = false from rfl, bb_false]
    unfold m10_0
    rw [show nt (ieq (0 : Int) 0) = false from rfl, bb_false, sl_n, sl_cs, hn0, bb_false, rm, bb_true, takeI', clI, bb_true, Nat.zero_add, Nat.zero_add, w, bb_true, t]
    have := l10 n 1000000 60 z.toNat p (by omega) (by omega) hp (seen_ok hp).2.2.1
    rw [← hz] at this
    exact this
  · have : (decide (0 ≤ z) && decide (z ≤ 1000000000)) = false := by rw [← Bool.not_eq_true, rng_d]; exact h
    rw [this, if_neg h, show nt false = true from rfl, bb_true, m10_0e _ _ _ _ (by decide)]
theorem p10e (n fl : Nat) (l : List Int) (z c : Int) (hc : c ≠ 0) (e15 : puN (n + 8) 15 [Sl.v 1 (sl fl l)] = some (I c)) : puN (n + 9) 10 [Sl.v 1 (sl fl l), I z] = nilE c := by
  refine Eq.trans (b := m10_ (puN (n + 8)) 1000000 (sl fl l) z) (by kernel_rfl) ?_
  unfold m10_ m10_13
  have : ieq c 0 = false := by rw [ieq_eq]; exact decide_eq_false hc
  rw [e15, oo_some, toI_mk, oo_some, this, bb_false, bb_false, m10_0e _ _ _ _ hc]
theorem l13 (pu : PureF) (f1 f2 : Nat) (l : List Int) (hl : l.length ≤ 100) : ∀ (f i : Nat), l.length - i < f → i ≤ l.length → l13_1 pu 1000000 f (sl f1 l) (sl f2 l) (Int.ofNat i) = some (.bool true) := by
  intro f
  induction f with
  | zero => intro i h; omega
  | succ f ih =>
    intro i hf hi
    show b13_1 pu 1000000 (l13_1 pu 1000000 f) _ _ _ = _
    unfold b13_1
    rw [sl_n]
    by_cases hlt : i < l.length
    · rw [lt_true hlt]
      simp only [bb_true, toN_mk, oo_some, sl_n, sl_cs, blt_eq, hlt, decide_true, an_eq, Bool.true_and, nthL_eq, Nat.mul_one, getI l i hlt, toI_mk, neqr, bb_false, wrapS i (by omega)]
      exact ih (i + 1) (by omega) (by omega)
    · rw [lt_false hlt]; rfl
theorem p13 (n f1 f2 : Nat) (l : List Int) (hl : l.length ≤ 100) : puN (n + 1) 13 [Sl.v 1 (sl f1 l), Sl.v 1 (sl f2 l)] = some (.bool true) := by
  refine Eq.trans (b := m13_ (puN n) 1000000 (sl f1 l) (sl f2 l)) (by kernel_rfl) ?_
  unfold m13_
  rw [sl_n, sl_n, neqr, bb_false]
  exact l13 (puN n) f1 f2 l hl 1000000 0 (by omega) (by omega)
def Both (pu : PureF) (x y : Option Value) : Prop := ∃ (s : Sl) (e : Int), x = some (.tuple ⟨[Sl.v 1 s, I e]⟩) ∧ y = some (.tuple ⟨[Sl.v 1 s, I e]⟩) ∧ pu 13 [Sl.v 1 s, Sl.v 1 s] = some (.bool true)
section
variable (pu : PureF) (b : Sl) (z : Int) (e6 : pu 6 [] = some (.bool true))
include e6
theorem m3_big (e5 : pu 5 [Sl.v 1 b] = some (.bool true)) : m3_ pu 1000000 b z = some (.bool true) := by
  unfold m3_
  rw [e5, oo_some, vBool_mk, oo_some, bb_true, e6]; rfl
theorem m3_p (e5 : pu 5 [Sl.v 1 b] = some (.bool false)) (h1 : Both pu (pu 7 [Sl.v 1 b]) (pu 8 [Sl.v 1 b])) (h2 : Both pu (pu 9 [Sl.v 1 b, I z]) (pu 10 [Sl.v 1 b, I z])) (h3 : Both pu (pu 11 [Sl.v 1 b]) (pu 12 [Sl.v 1 b]))
    {c : Int} (e14 : pu 14 [Sl.v 1 b] = some (I c)) (e15 : pu 15 [Sl.v 1 b] = some (I c)) : m3_ pu 1000000 b z = some (.bool true) := by
  obtain ⟨s1, c1, a1, a2, a3⟩ := h1
  obtain ⟨s2, c2, b1, b2, b3⟩ := h2
  obtain ⟨s3, c3, d1, d2, d3⟩ := h3
  unfold m3_
  rw [e5, oo_some, vBool_mk, oo_some, bb_false, a1]
  simp -implicitDefEqProofs only [oo_some, vTup_mk, ll_cons', ll_nil', toSl_mk, toI_mk]
  rw [a2]
  simp -implicitDefEqProofs only [oo_some, vTup_mk, ll_cons', ll_nil', toSl_mk, toI_mk]
  rw [b1]
  simp -implicitDefEqProofs only [oo_some, vTup_mk, ll_cons', ll_nil', toSl_mk, toI_mk]
  rw [b2]
  simp -implicitDefEqProofs only [oo_some, vTup_mk, ll_cons', ll_nil', toSl_mk, toI_mk]
  rw [d1]
  simp -implicitDefEqProofs only [oo_some, vTup_mk, ll_cons', ll_nil', toSl_mk, toI_mk]
  rw [d2]
  simp -implicitDefEqProofs only [oo_some, vTup_mk, ll_cons', ll_nil', toSl_mk, toI_mk]
  rw [a3, oo_some, vBool_mk, oo_some, bb_true, ieqr, bb_true, b3, oo_some, vBool_mk, oo_some, bb_true, ieqr, bb_true, d3, oo_some, vBool_mk, oo_some, bb_true, ieqr, bb_true, e14, oo_some, toI_mk, oo_some, e15, oo_some, toI_mk, oo_some, ieqr, bb_true, e6, oo_some, vBool_mk, oo_some]
  rfl
end
noncomputable def puW : PureF := fun g args => bb (Nat.beq g 6) (ll args (some (.bool true)) fun _ _ => none) (puN 30 g args)
theorem puW_n (g : FuncId) (args : List Value) (h : Nat.beq g 6 = false) : puW g args = puN 30 g args := by
  unfold puW; rw [h, bb_false]
theorem puW_6 : puW 6 [] = some (.bool true) := rfl
theorem puW_g (g : FuncId) (h : Nat.beq g 6 = false) : puW g = puN 30 g := by funext a; exact puW_n g a h
theorem puW_w : puW 6 = fun args => ll args (some (.bool true)) fun _ _ => none := rfl
theorem both_fin (p : List Nat) (h : p.length ≤ 100) {x y : Option Value} (hx : x = fin p) (hy : y = fin p) : Both puW x y := by
  refine ⟨sl 0 (nI p), 0, ?_, ?_, ?_⟩
  · rw [hx]; unfold fin; rw [sv_eq]
  · rw [hy]; unfold fin; rw [sv_eq]
  · rw [puW_n 13 _ rfl]; exact p13 29 0 0 (nI p) (by rw [nI_len]; exact h)
theorem both_nil (c : Int) {x y : Option Value} (hx : x = nilE c) (hy : y = nilE c) : Both puW x y := by
  refine ⟨⟨0, 2, []⟩, c, hx, hy, ?_⟩
  rw [puW_n 13 _ rfl]; exact p13 29 2 2 [] (by simp)
theorem both_to {x y x' y' : Option Value} (h : Both puW x y) (hx : x' = x) (hy : y' = y) : Both puW x' y' := by rw [hx, hy]; exact h
theorem rngT_len (n : Nat) : (rngT n).length = n := by
  induction n with
  | zero => rfl
  | succ n ih =>
    show (appL (rngT n) [n]).length = _
    rw [appL_eq, List.length_append, ih]; rfl
theorem conj_len {p : List Nat} (hp : okP 21 p = true) : (conjT p).length ≤ 100 := by
  cases p with
  | nil => exact absurd rfl (ok_ne hp)
  | cons a t =>
    show (mapL (cjT (a :: t)) (rngT a)).length ≤ 100
    rw [mapL_eq, List.length_map, rngT_len]
    have : a + sumL t ≤ 21 := (ok_sum hp).2
    omega
theorem pRounds (l : List Int) (z : Int) : m3_ puW 1000000 (sl 0 l) z = some (.bool true) := by
  have e5 := p5 29 0 l
  rw [show (29 + 1 : Nat) = 30 from rfl, ← puW_n 5 _ rfl] at e5
  by_cases hb : 60 < l.length
  · rw [decide_eq_true hb] at e5
    exact m3_big puW (sl 0 l) z puW_6 e5
  · rw [decide_eq_false hb] at e5
    have hl : l.length ≤ 60 := by omega
    have c14 := p14 28 0 l hl
    have c15 := p15 28 0 l hl
    rw [show (28 + 2 : Nat) = 30 from rfl, ← puW_n 14 _ rfl] at c14
    rw [show (28 + 2 : Nat) = 30 from rfl, ← puW_n 15 _ rfl] at c15
    have a14 : puN 29 14 [Sl.v 1 (sl 0 l)] = some (I (chk l)) := p14 27 0 l hl
    have a15 : puN 29 15 [Sl.v 1 (sl 0 l)] = some (I (chk l)) := p15 27 0 l hl
    have w7 := puW_n 7 [Sl.v 1 (sl 0 l)] rfl
    have w8 := puW_n 8 [Sl.v 1 (sl 0 l)] rfl
    have w9 := puW_n 9 [Sl.v 1 (sl 0 l), I z] rfl
    have w10 := puW_n 10 [Sl.v 1 (sl 0 l), I z] rfl
    have w11 := puW_n 11 [Sl.v 1 (sl 0 l)] rfl
    have w12 := puW_n 12 [Sl.v 1 (sl 0 l)] rfl
    by_cases hc : chk l = 0
    · obtain ⟨p, rfl, hp⟩ := ok_of hc
      rw [hc, ← sv_eq] at a14 a15
      rw [← sv_eq] at w7 w8 w9 w10 w11 w12
      have b7 := both_fin (rnd p) (by have := ok_len (seen_ok hp).1; omega) (p7 23 hp a14) (p8 23 hp a15)
      have b11 : Both puW (puN 30 11 [sv p]) (puN 30 12 [sv p]) := by
        refine ⟨sl 0 (nI (conjT p)), 0, ?_, ?_, ?_⟩
        · rw [← sv_eq]; exact P11 24 hp
        · rw [← sv_eq]; exact P12 24 hp
        · rw [puW_n 13 _ rfl]; exact p13 29 0 0 _ (by rw [nI_len]; exact conj_len hp)
      have b9 : Both puW (puN 30 9 [sv p, I z]) (puN 30 10 [sv p, I z]) := by
        have q1 := p9 21 hp z a14
        have q2 := p10 21 hp z a15
        unfold aft at q1 q2
        by_cases h : 0 ≤ z ∧ z ≤ 1000000000
        · rw [if_pos h] at q1 q2
          exact both_fin (iter z.toNat p) (by have := ok_len (iter_ok z.toNat hp); omega) q1 q2
        · rw [if_neg h] at q1 q2
          exact both_nil 1 q1 q2
      have r7 := both_to b7 w7 w8
      have r9 := both_to b9 w9 w10
      have r11 := both_to b11 w11 w12
      rw [sv_eq] at r7 r9 r11
      exact m3_p puW _ z puW_6 e5 r7 r9 r11 c14 c15
    · have r7 := both_to (both_nil (chk l) (p7e 23 0 l _ hc a14) (p8e 23 0 l _ hc a15)) w7 w8
      have r9 := both_to (both_nil (chk l) (p9e 21 0 l z _ hc a14) (p10e 21 0 l z _ hc a15)) w9 w10
      have r11 := both_to (both_nil (chk l) (p11e 23 0 l _ hc a14) (p12e 23 0 l _ hc a15)) w11 w12
      exact m3_p puW _ z puW_6 e5 r7 r9 r11 c14 c15
noncomputable def mLaw (args : List Value) : Option Value := m3 puW 1000000 args
theorem mLaw_ok (l : List Int) (z : Int) : mLaw [Sl.v 1 (sl 0 l), I z] = some (Value.bool true) :=
  Eq.trans (b := m3_ puW 1000000 (sl 0 l) z) (by kernel_rfl) (pRounds l z)
end Go.HpRM
