/- What the kernel sees, of any heaps of at most 21 cards: MADE BY PROGRAM (wip/hq/runs.py). -/
import Derived.Test.YthcmfnmmgejnaaaHpQRun1
import Derived.Test.YthcmfnmmgejnaaaHpQRun2
import Derived.Test.YthcmfnmmgejnaaaHpQRun3
import Derived.Test.YthcmfnmmgejnaaaHpQRun4
import Derived.Test.YthcmfnmmgejnaaaHpQRun5
import Derived.Test.YthcmfnmmgejnaaaHpQRun6
import Derived.Test.YthcmfnmmgejnaaaHpQRun7
import Derived.Test.YthcmfnmmgejnaaaHpQRun8
import Derived.Test.YthcmfnmmgejnaaaHpQLaw1x

set_option maxRecDepth 100000
namespace Go.HpQM
open Go Go.Sp Go.HpQ Go.HpT
theorem map_at {α : Type} {f g : List Nat → α} {l : List (List Nat)} (h : mapL f l = mapL g l) {p : List Nat} (hp : p ∈ l) : f p = g p := by
  rw [mapL_eq, mapL_eq] at h
  exact List.map_inj_left.1 h p hp
theorem all_at {f : List Nat → Bool} {l : List (List Nat)} (h : allL f l = true) {p : List Nat} (hp : p ∈ l) : f p = true := by
  rw [allL_eq, List.all_eq_true] at h
  exact h p hp
theorem in_pts {p : List Nat} (h : okP 21 p = true) : ∃ k, 1 ≤ k ∧ k ≤ 21 ∧ sumL p = k ∧ p ∈ pts k k k := by
  obtain ⟨h1, h2⟩ := an_inv (show an (Nat.ble 1 (sumL p)) (an (Nat.ble (sumL p) 21) (isPt p (sumL p) (sumL p))) = true from h)
  obtain ⟨h2, h3⟩ := an_inv h2
  exact ⟨sumL p, Nat.le_of_ble_eq_true h1, Nat.le_of_ble_eq_true h2, rfl, mem_pts p _ _ _ (Nat.le_refl _) h3⟩
theorem ret_in : ∀ {l : List (List Nat)} {p : List Nat}, p ∈ l → ret p = true → p ∈ (List.rec (motive := fun _ => List (List Nat)) [] (fun p _ ih => bb (ret p) (p :: ih) ih) l : List (List Nat))
  | a :: l, p, h, hr => by
    show p ∈ bb (ret a) (a :: _) _
    rcases List.mem_cons.1 h with rfl | h
    · rw [hr, bb_true]; exact List.mem_cons_self
    · cases ret a with
      | true => rw [bb_true]; exact List.mem_cons_of_mem _ (ret_in h hr)
      | false => rw [bb_false]; exact ret_in h hr
theorem in_retP {p : List Nat} {k : Nat} (h : p ∈ pts k k k) (hr : ret p = true) : p ∈ retP k := ret_in h hr
theorem P27 (n : Nat) {p : List Nat} (h : okP 21 p = true) : puN (n + 6) 27 [sv p] = some (cv p) := by
  obtain ⟨k, h1, h2, hs, hm⟩ := in_pts h
  clear hs
  match k, h1, h2, hm with
  | 1, _, _, hm => exact map_at (f := fun p => puN (n + 6) 27 [sv p]) (g := fun p => some (cv p)) (e27_1 n) hm
  | 2, _, _, hm => exact map_at (f := fun p => puN (n + 6) 27 [sv p]) (g := fun p => some (cv p)) (e27_2 n) hm
  | 3, _, _, hm => exact map_at (f := fun p => puN (n + 6) 27 [sv p]) (g := fun p => some (cv p)) (e27_3 n) hm
  | 4, _, _, hm => exact map_at (f := fun p => puN (n + 6) 27 [sv p]) (g := fun p => some (cv p)) (e27_4 n) hm
  | 5, _, _, hm => exact map_at (f := fun p => puN (n + 6) 27 [sv p]) (g := fun p => some (cv p)) (e27_5 n) hm
  | 6, _, _, hm => exact map_at (f := fun p => puN (n + 6) 27 [sv p]) (g := fun p => some (cv p)) (e27_6 n) hm
  | 7, _, _, hm => exact map_at (f := fun p => puN (n + 6) 27 [sv p]) (g := fun p => some (cv p)) (e27_7 n) hm
  | 8, _, _, hm => exact map_at (f := fun p => puN (n + 6) 27 [sv p]) (g := fun p => some (cv p)) (e27_8 n) hm
  | 9, _, _, hm => exact map_at (f := fun p => puN (n + 6) 27 [sv p]) (g := fun p => some (cv p)) (e27_9 n) hm
  | 10, _, _, hm => exact map_at (f := fun p => puN (n + 6) 27 [sv p]) (g := fun p => some (cv p)) (e27_10 n) hm
  | 11, _, _, hm => exact map_at (f := fun p => puN (n + 6) 27 [sv p]) (g := fun p => some (cv p)) (e27_11 n) hm
  | 12, _, _, hm => exact map_at (f := fun p => puN (n + 6) 27 [sv p]) (g := fun p => some (cv p)) (e27_12 n) hm
  | 13, _, _, hm => exact map_at (f := fun p => puN (n + 6) 27 [sv p]) (g := fun p => some (cv p)) (e27_13 n) hm
  | 14, _, _, hm => exact map_at (f := fun p => puN (n + 6) 27 [sv p]) (g := fun p => some (cv p)) (e27_14 n) hm
  | 15, _, _, hm => exact map_at (f := fun p => puN (n + 6) 27 [sv p]) (g := fun p => some (cv p)) (e27_15 n) hm
  | 16, _, _, hm => exact map_at (f := fun p => puN (n + 6) 27 [sv p]) (g := fun p => some (cv p)) (e27_16 n) hm
  | 17, _, _, hm => exact map_at (f := fun p => puN (n + 6) 27 [sv p]) (g := fun p => some (cv p)) (e27_17 n) hm
  | 18, _, _, hm => exact map_at (f := fun p => puN (n + 6) 27 [sv p]) (g := fun p => some (cv p)) (e27_18 n) hm
  | 19, _, _, hm => exact map_at (f := fun p => puN (n + 6) 27 [sv p]) (g := fun p => some (cv p)) (e27_19 n) hm
  | 20, _, _, hm => exact map_at (f := fun p => puN (n + 6) 27 [sv p]) (g := fun p => some (cv p)) (e27_20 n) hm
  | 21, _, _, hm => exact map_at (f := fun p => puN (n + 6) 27 [sv p]) (g := fun p => some (cv p)) (e27_21 n) hm
  | k + 22, _, h2, _ => omega
theorem P33 (n : Nat) {p : List Nat} (h : okP 21 p = true) : puN (n + 6) 33 [sv p] = some (sv (rnd p)) := by
  obtain ⟨k, h1, h2, hs, hm⟩ := in_pts h
  clear hs
  match k, h1, h2, hm with
  | 1, _, _, hm => exact map_at (f := fun p => puN (n + 6) 33 [sv p]) (g := fun p => some (sv (rnd p))) (e33_1 n) hm
  | 2, _, _, hm => exact map_at (f := fun p => puN (n + 6) 33 [sv p]) (g := fun p => some (sv (rnd p))) (e33_2 n) hm
  | 3, _, _, hm => exact map_at (f := fun p => puN (n + 6) 33 [sv p]) (g := fun p => some (sv (rnd p))) (e33_3 n) hm
  | 4, _, _, hm => exact map_at (f := fun p => puN (n + 6) 33 [sv p]) (g := fun p => some (sv (rnd p))) (e33_4 n) hm
  | 5, _, _, hm => exact map_at (f := fun p => puN (n + 6) 33 [sv p]) (g := fun p => some (sv (rnd p))) (e33_5 n) hm
  | 6, _, _, hm => exact map_at (f := fun p => puN (n + 6) 33 [sv p]) (g := fun p => some (sv (rnd p))) (e33_6 n) hm
  | 7, _, _, hm => exact map_at (f := fun p => puN (n + 6) 33 [sv p]) (g := fun p => some (sv (rnd p))) (e33_7 n) hm
  | 8, _, _, hm => exact map_at (f := fun p => puN (n + 6) 33 [sv p]) (g := fun p => some (sv (rnd p))) (e33_8 n) hm
  | 9, _, _, hm => exact map_at (f := fun p => puN (n + 6) 33 [sv p]) (g := fun p => some (sv (rnd p))) (e33_9 n) hm
  | 10, _, _, hm => exact map_at (f := fun p => puN (n + 6) 33 [sv p]) (g := fun p => some (sv (rnd p))) (e33_10 n) hm
  | 11, _, _, hm => exact map_at (f := fun p => puN (n + 6) 33 [sv p]) (g := fun p => some (sv (rnd p))) (e33_11 n) hm
  | 12, _, _, hm => exact map_at (f := fun p => puN (n + 6) 33 [sv p]) (g := fun p => some (sv (rnd p))) (e33_12 n) hm
  | 13, _, _, hm => exact map_at (f := fun p => puN (n + 6) 33 [sv p]) (g := fun p => some (sv (rnd p))) (e33_13 n) hm
  | 14, _, _, hm => exact map_at (f := fun p => puN (n + 6) 33 [sv p]) (g := fun p => some (sv (rnd p))) (e33_14 n) hm
  | 15, _, _, hm => exact map_at (f := fun p => puN (n + 6) 33 [sv p]) (g := fun p => some (sv (rnd p))) (e33_15 n) hm
  | 16, _, _, hm => exact map_at (f := fun p => puN (n + 6) 33 [sv p]) (g := fun p => some (sv (rnd p))) (e33_16 n) hm
  | 17, _, _, hm => exact map_at (f := fun p => puN (n + 6) 33 [sv p]) (g := fun p => some (sv (rnd p))) (e33_17 n) hm
  | 18, _, _, hm => exact map_at (f := fun p => puN (n + 6) 33 [sv p]) (g := fun p => some (sv (rnd p))) (e33_18 n) hm
  | 19, _, _, hm => exact map_at (f := fun p => puN (n + 6) 33 [sv p]) (g := fun p => some (sv (rnd p))) (e33_19 n) hm
  | 20, _, _, hm => exact map_at (f := fun p => puN (n + 6) 33 [sv p]) (g := fun p => some (sv (rnd p))) (e33_20 n) hm
  | 21, _, _, hm => exact map_at (f := fun p => puN (n + 6) 33 [sv p]) (g := fun p => some (sv (rnd p))) (e33_21 n) hm
  | k + 22, _, h2, _ => omega
theorem P40 (n : Nat) {p : List Nat} (h : okP 21 p = true) : puN (n + 6) 40 [cv p] = some (cv (rnd p)) := by
  obtain ⟨k, h1, h2, hs, hm⟩ := in_pts h
  clear hs
  match k, h1, h2, hm with
  | 1, _, _, hm => exact map_at (f := fun p => puN (n + 6) 40 [cv p]) (g := fun p => some (cv (rnd p))) (e40_1 n) hm
  | 2, _, _, hm => exact map_at (f := fun p => puN (n + 6) 40 [cv p]) (g := fun p => some (cv (rnd p))) (e40_2 n) hm
  | 3, _, _, hm => exact map_at (f := fun p => puN (n + 6) 40 [cv p]) (g := fun p => some (cv (rnd p))) (e40_3 n) hm
  | 4, _, _, hm => exact map_at (f := fun p => puN (n + 6) 40 [cv p]) (g := fun p => some (cv (rnd p))) (e40_4 n) hm
  | 5, _, _, hm => exact map_at (f := fun p => puN (n + 6) 40 [cv p]) (g := fun p => some (cv (rnd p))) (e40_5 n) hm
  | 6, _, _, hm => exact map_at (f := fun p => puN (n + 6) 40 [cv p]) (g := fun p => some (cv (rnd p))) (e40_6 n) hm
  | 7, _, _, hm => exact map_at (f := fun p => puN (n + 6) 40 [cv p]) (g := fun p => some (cv (rnd p))) (e40_7 n) hm
  | 8, _, _, hm => exact map_at (f := fun p => puN (n + 6) 40 [cv p]) (g := fun p => some (cv (rnd p))) (e40_8 n) hm
  | 9, _, _, hm => exact map_at (f := fun p => puN (n + 6) 40 [cv p]) (g := fun p => some (cv (rnd p))) (e40_9 n) hm
  | 10, _, _, hm => exact map_at (f := fun p => puN (n + 6) 40 [cv p]) (g := fun p => some (cv (rnd p))) (e40_10 n) hm
  | 11, _, _, hm => exact map_at (f := fun p => puN (n + 6) 40 [cv p]) (g := fun p => some (cv (rnd p))) (e40_11 n) hm
  | 12, _, _, hm => exact map_at (f := fun p => puN (n + 6) 40 [cv p]) (g := fun p => some (cv (rnd p))) (e40_12 n) hm
  | 13, _, _, hm => exact map_at (f := fun p => puN (n + 6) 40 [cv p]) (g := fun p => some (cv (rnd p))) (e40_13 n) hm
  | 14, _, _, hm => exact map_at (f := fun p => puN (n + 6) 40 [cv p]) (g := fun p => some (cv (rnd p))) (e40_14 n) hm
  | 15, _, _, hm => exact map_at (f := fun p => puN (n + 6) 40 [cv p]) (g := fun p => some (cv (rnd p))) (e40_15 n) hm
  | 16, _, _, hm => exact map_at (f := fun p => puN (n + 6) 40 [cv p]) (g := fun p => some (cv (rnd p))) (e40_16 n) hm
  | 17, _, _, hm => exact map_at (f := fun p => puN (n + 6) 40 [cv p]) (g := fun p => some (cv (rnd p))) (e40_17 n) hm
  | 18, _, _, hm => exact map_at (f := fun p => puN (n + 6) 40 [cv p]) (g := fun p => some (cv (rnd p))) (e40_18 n) hm
  | 19, _, _, hm => exact map_at (f := fun p => puN (n + 6) 40 [cv p]) (g := fun p => some (cv (rnd p))) (e40_19 n) hm
  | 20, _, _, hm => exact map_at (f := fun p => puN (n + 6) 40 [cv p]) (g := fun p => some (cv (rnd p))) (e40_20 n) hm
  | 21, _, _, hm => exact map_at (f := fun p => puN (n + 6) 40 [cv p]) (g := fun p => some (cv (rnd p))) (e40_21 n) hm
  | k + 22, _, h2, _ => omega
theorem P34 (n : Nat) {p : List Nat} (h : okP 21 p = true) : puN (n + 6) 34 [cv p] = some (.bool (ret p)) := by
  obtain ⟨k, h1, h2, hs, hm⟩ := in_pts h
  clear hs
  match k, h1, h2, hm with
  | 1, _, _, hm => exact map_at (f := fun p => puN (n + 6) 34 [cv p]) (g := fun p => some (.bool (ret p))) (e34_1 n) hm
  | 2, _, _, hm => exact map_at (f := fun p => puN (n + 6) 34 [cv p]) (g := fun p => some (.bool (ret p))) (e34_2 n) hm
  | 3, _, _, hm => exact map_at (f := fun p => puN (n + 6) 34 [cv p]) (g := fun p => some (.bool (ret p))) (e34_3 n) hm
  | 4, _, _, hm => exact map_at (f := fun p => puN (n + 6) 34 [cv p]) (g := fun p => some (.bool (ret p))) (e34_4 n) hm
  | 5, _, _, hm => exact map_at (f := fun p => puN (n + 6) 34 [cv p]) (g := fun p => some (.bool (ret p))) (e34_5 n) hm
  | 6, _, _, hm => exact map_at (f := fun p => puN (n + 6) 34 [cv p]) (g := fun p => some (.bool (ret p))) (e34_6 n) hm
  | 7, _, _, hm => exact map_at (f := fun p => puN (n + 6) 34 [cv p]) (g := fun p => some (.bool (ret p))) (e34_7 n) hm
  | 8, _, _, hm => exact map_at (f := fun p => puN (n + 6) 34 [cv p]) (g := fun p => some (.bool (ret p))) (e34_8 n) hm
  | 9, _, _, hm => exact map_at (f := fun p => puN (n + 6) 34 [cv p]) (g := fun p => some (.bool (ret p))) (e34_9 n) hm
  | 10, _, _, hm => exact map_at (f := fun p => puN (n + 6) 34 [cv p]) (g := fun p => some (.bool (ret p))) (e34_10 n) hm
  | 11, _, _, hm => exact map_at (f := fun p => puN (n + 6) 34 [cv p]) (g := fun p => some (.bool (ret p))) (e34_11 n) hm
  | 12, _, _, hm => exact map_at (f := fun p => puN (n + 6) 34 [cv p]) (g := fun p => some (.bool (ret p))) (e34_12 n) hm
  | 13, _, _, hm => exact map_at (f := fun p => puN (n + 6) 34 [cv p]) (g := fun p => some (.bool (ret p))) (e34_13 n) hm
  | 14, _, _, hm => exact map_at (f := fun p => puN (n + 6) 34 [cv p]) (g := fun p => some (.bool (ret p))) (e34_14 n) hm
  | 15, _, _, hm => exact map_at (f := fun p => puN (n + 6) 34 [cv p]) (g := fun p => some (.bool (ret p))) (e34_15 n) hm
  | 16, _, _, hm => exact map_at (f := fun p => puN (n + 6) 34 [cv p]) (g := fun p => some (.bool (ret p))) (e34_16 n) hm
  | 17, _, _, hm => exact map_at (f := fun p => puN (n + 6) 34 [cv p]) (g := fun p => some (.bool (ret p))) (e34_17 n) hm
  | 18, _, _, hm => exact map_at (f := fun p => puN (n + 6) 34 [cv p]) (g := fun p => some (.bool (ret p))) (e34_18 n) hm
  | 19, _, _, hm => exact map_at (f := fun p => puN (n + 6) 34 [cv p]) (g := fun p => some (.bool (ret p))) (e34_19 n) hm
  | 20, _, _, hm => exact map_at (f := fun p => puN (n + 6) 34 [cv p]) (g := fun p => some (.bool (ret p))) (e34_20 n) hm
  | 21, _, _, hm => exact map_at (f := fun p => puN (n + 6) 34 [cv p]) (g := fun p => some (.bool (ret p))) (e34_21 n) hm
  | k + 22, _, h2, _ => omega
theorem Pseen {p : List Nat} (h : okP 21 p = true) : seen p = true := by
  obtain ⟨k, h1, h2, hs, hm⟩ := in_pts h
  clear hs
  match k, h1, h2, hm with
  | 1, _, _, hm => exact all_at seen_1 hm
  | 2, _, _, hm => exact all_at seen_2 hm
  | 3, _, _, hm => exact all_at seen_3 hm
  | 4, _, _, hm => exact all_at seen_4 hm
  | 5, _, _, hm => exact all_at seen_5 hm
  | 6, _, _, hm => exact all_at seen_6 hm
  | 7, _, _, hm => exact all_at seen_7 hm
  | 8, _, _, hm => exact all_at seen_8 hm
  | 9, _, _, hm => exact all_at seen_9 hm
  | 10, _, _, hm => exact all_at seen_10 hm
  | 11, _, _, hm => exact all_at seen_11 hm
  | 12, _, _, hm => exact all_at seen_12 hm
  | 13, _, _, hm => exact all_at seen_13 hm
  | 14, _, _, hm => exact all_at seen_14 hm
  | 15, _, _, hm => exact all_at seen_15 hm
  | 16, _, _, hm => exact all_at seen_16 hm
  | 17, _, _, hm => exact all_at seen_17 hm
  | 18, _, _, hm => exact all_at seen_18 hm
  | 19, _, _, hm => exact all_at seen_19 hm
  | 20, _, _, hm => exact all_at seen_20 hm
  | 21, _, _, hm => exact all_at seen_21 hm
  | k + 22, _, h2, _ => omega
theorem Pringa (n : Nat) {p : List Nat} (h : okP 21 p = true) (hr : ret p = true) : puN (n + 9) 38 [cv p] = some (ringV p) := by
  obtain ⟨k, h1, h2, hs, hm⟩ := in_pts h
  clear hs
  match k, h1, h2, hm with
  | 1, _, _, hm => exact map_at (f := fun p => puN (n + 9) 38 [cv p]) (g := fun p => some (ringV p)) (ringa_1 n) (in_retP hm hr)
  | 2, _, _, hm => exact map_at (f := fun p => puN (n + 9) 38 [cv p]) (g := fun p => some (ringV p)) (ringa_2 n) (in_retP hm hr)
  | 3, _, _, hm => exact map_at (f := fun p => puN (n + 9) 38 [cv p]) (g := fun p => some (ringV p)) (ringa_3 n) (in_retP hm hr)
  | 4, _, _, hm => exact map_at (f := fun p => puN (n + 9) 38 [cv p]) (g := fun p => some (ringV p)) (ringa_4 n) (in_retP hm hr)
  | 5, _, _, hm => exact map_at (f := fun p => puN (n + 9) 38 [cv p]) (g := fun p => some (ringV p)) (ringa_5 n) (in_retP hm hr)
  | 6, _, _, hm => exact map_at (f := fun p => puN (n + 9) 38 [cv p]) (g := fun p => some (ringV p)) (ringa_6 n) (in_retP hm hr)
  | 7, _, _, hm => exact map_at (f := fun p => puN (n + 9) 38 [cv p]) (g := fun p => some (ringV p)) (ringa_7 n) (in_retP hm hr)
  | 8, _, _, hm => exact map_at (f := fun p => puN (n + 9) 38 [cv p]) (g := fun p => some (ringV p)) (ringa_8 n) (in_retP hm hr)
  | 9, _, _, hm => exact map_at (f := fun p => puN (n + 9) 38 [cv p]) (g := fun p => some (ringV p)) (ringa_9 n) (in_retP hm hr)
  | 10, _, _, hm => exact map_at (f := fun p => puN (n + 9) 38 [cv p]) (g := fun p => some (ringV p)) (ringa_10 n) (in_retP hm hr)
  | 11, _, _, hm => exact map_at (f := fun p => puN (n + 9) 38 [cv p]) (g := fun p => some (ringV p)) (ringa_11 n) (in_retP hm hr)
  | 12, _, _, hm => exact map_at (f := fun p => puN (n + 9) 38 [cv p]) (g := fun p => some (ringV p)) (ringa_12 n) (in_retP hm hr)
  | 13, _, _, hm => exact map_at (f := fun p => puN (n + 9) 38 [cv p]) (g := fun p => some (ringV p)) (ringa_13 n) (in_retP hm hr)
  | 14, _, _, hm => exact map_at (f := fun p => puN (n + 9) 38 [cv p]) (g := fun p => some (ringV p)) (ringa_14 n) (in_retP hm hr)
  | 15, _, _, hm => exact map_at (f := fun p => puN (n + 9) 38 [cv p]) (g := fun p => some (ringV p)) (ringa_15 n) (in_retP hm hr)
  | 16, _, _, hm => exact map_at (f := fun p => puN (n + 9) 38 [cv p]) (g := fun p => some (ringV p)) (ringa_16 n) (in_retP hm hr)
  | 17, _, _, hm => exact map_at (f := fun p => puN (n + 9) 38 [cv p]) (g := fun p => some (ringV p)) (ringa_17 n) (in_retP hm hr)
  | 18, _, _, hm => exact map_at (f := fun p => puN (n + 9) 38 [cv p]) (g := fun p => some (ringV p)) (ringa_18 n) (in_retP hm hr)
  | 19, _, _, hm => exact map_at (f := fun p => puN (n + 9) 38 [cv p]) (g := fun p => some (ringV p)) (ringa_19 n) (in_retP hm hr)
  | 20, _, _, hm => exact map_at (f := fun p => puN (n + 9) 38 [cv p]) (g := fun p => some (ringV p)) (ringa_20 n) (in_retP hm hr)
  | 21, _, _, hm => exact map_at (f := fun p => puN (n + 9) 38 [cv p]) (g := fun p => some (ringV p)) (ringa_21 n) (in_retP hm hr)
  | k + 22, _, h2, _ => omega
theorem Pringb (n : Nat) {p : List Nat} (h : okP 21 p = true) (hr : ret p = true) : puN (n + 9) 39 [sv p] = some (ringV p) := by
  obtain ⟨k, h1, h2, hs, hm⟩ := in_pts h
  clear hs
  match k, h1, h2, hm with
  | 1, _, _, hm => exact map_at (f := fun p => puN (n + 9) 39 [sv p]) (g := fun p => some (ringV p)) (ringb_1 n) (in_retP hm hr)
  | 2, _, _, hm => exact map_at (f := fun p => puN (n + 9) 39 [sv p]) (g := fun p => some (ringV p)) (ringb_2 n) (in_retP hm hr)
  | 3, _, _, hm => exact map_at (f := fun p => puN (n + 9) 39 [sv p]) (g := fun p => some (ringV p)) (ringb_3 n) (in_retP hm hr)
  | 4, _, _, hm => exact map_at (f := fun p => puN (n + 9) 39 [sv p]) (g := fun p => some (ringV p)) (ringb_4 n) (in_retP hm hr)
  | 5, _, _, hm => exact map_at (f := fun p => puN (n + 9) 39 [sv p]) (g := fun p => some (ringV p)) (ringb_5 n) (in_retP hm hr)
  | 6, _, _, hm => exact map_at (f := fun p => puN (n + 9) 39 [sv p]) (g := fun p => some (ringV p)) (ringb_6 n) (in_retP hm hr)
  | 7, _, _, hm => exact map_at (f := fun p => puN (n + 9) 39 [sv p]) (g := fun p => some (ringV p)) (ringb_7 n) (in_retP hm hr)
  | 8, _, _, hm => exact map_at (f := fun p => puN (n + 9) 39 [sv p]) (g := fun p => some (ringV p)) (ringb_8 n) (in_retP hm hr)
  | 9, _, _, hm => exact map_at (f := fun p => puN (n + 9) 39 [sv p]) (g := fun p => some (ringV p)) (ringb_9 n) (in_retP hm hr)
  | 10, _, _, hm => exact map_at (f := fun p => puN (n + 9) 39 [sv p]) (g := fun p => some (ringV p)) (ringb_10 n) (in_retP hm hr)
  | 11, _, _, hm => exact map_at (f := fun p => puN (n + 9) 39 [sv p]) (g := fun p => some (ringV p)) (ringb_11 n) (in_retP hm hr)
  | 12, _, _, hm => exact map_at (f := fun p => puN (n + 9) 39 [sv p]) (g := fun p => some (ringV p)) (ringb_12 n) (in_retP hm hr)
  | 13, _, _, hm => exact map_at (f := fun p => puN (n + 9) 39 [sv p]) (g := fun p => some (ringV p)) (ringb_13 n) (in_retP hm hr)
  | 14, _, _, hm => exact map_at (f := fun p => puN (n + 9) 39 [sv p]) (g := fun p => some (ringV p)) (ringb_14 n) (in_retP hm hr)
  | 15, _, _, hm => exact map_at (f := fun p => puN (n + 9) 39 [sv p]) (g := fun p => some (ringV p)) (ringb_15 n) (in_retP hm hr)
  | 16, _, _, hm => exact map_at (f := fun p => puN (n + 9) 39 [sv p]) (g := fun p => some (ringV p)) (ringb_16 n) (in_retP hm hr)
  | 17, _, _, hm => exact map_at (f := fun p => puN (n + 9) 39 [sv p]) (g := fun p => some (ringV p)) (ringb_17 n) (in_retP hm hr)
  | 18, _, _, hm => exact map_at (f := fun p => puN (n + 9) 39 [sv p]) (g := fun p => some (ringV p)) (ringb_18 n) (in_retP hm hr)
  | 19, _, _, hm => exact map_at (f := fun p => puN (n + 9) 39 [sv p]) (g := fun p => some (ringV p)) (ringb_19 n) (in_retP hm hr)
  | 20, _, _, hm => exact map_at (f := fun p => puN (n + 9) 39 [sv p]) (g := fun p => some (ringV p)) (ringb_20 n) (in_retP hm hr)
  | 21, _, _, hm => exact map_at (f := fun p => puN (n + 9) 39 [sv p]) (g := fun p => some (ringV p)) (ringb_21 n) (in_retP hm hr)
  | k + 22, _, h2, _ => omega
theorem Plen {p : List Nat} (h : okP 21 p = true) (hr : ret p = true) : an (Nat.ble (len (ringT p)) 50) (allL (fun q => Nat.ble (len q) 50) (ringT p)) = true := by
  obtain ⟨k, h1, h2, hs, hm⟩ := in_pts h
  clear hs
  match k, h1, h2, hm with
  | 1, _, _, hm => exact all_at (f := fun p => an (Nat.ble (len (ringT p)) 50) (allL (fun q => Nat.ble (len q) 50) (ringT p))) len_1 (in_retP hm hr)
  | 2, _, _, hm => exact all_at (f := fun p => an (Nat.ble (len (ringT p)) 50) (allL (fun q => Nat.ble (len q) 50) (ringT p))) len_2 (in_retP hm hr)
  | 3, _, _, hm => exact all_at (f := fun p => an (Nat.ble (len (ringT p)) 50) (allL (fun q => Nat.ble (len q) 50) (ringT p))) len_3 (in_retP hm hr)
  | 4, _, _, hm => exact all_at (f := fun p => an (Nat.ble (len (ringT p)) 50) (allL (fun q => Nat.ble (len q) 50) (ringT p))) len_4 (in_retP hm hr)
  | 5, _, _, hm => exact all_at (f := fun p => an (Nat.ble (len (ringT p)) 50) (allL (fun q => Nat.ble (len q) 50) (ringT p))) len_5 (in_retP hm hr)
  | 6, _, _, hm => exact all_at (f := fun p => an (Nat.ble (len (ringT p)) 50) (allL (fun q => Nat.ble (len q) 50) (ringT p))) len_6 (in_retP hm hr)
  | 7, _, _, hm => exact all_at (f := fun p => an (Nat.ble (len (ringT p)) 50) (allL (fun q => Nat.ble (len q) 50) (ringT p))) len_7 (in_retP hm hr)
  | 8, _, _, hm => exact all_at (f := fun p => an (Nat.ble (len (ringT p)) 50) (allL (fun q => Nat.ble (len q) 50) (ringT p))) len_8 (in_retP hm hr)
  | 9, _, _, hm => exact all_at (f := fun p => an (Nat.ble (len (ringT p)) 50) (allL (fun q => Nat.ble (len q) 50) (ringT p))) len_9 (in_retP hm hr)
  | 10, _, _, hm => exact all_at (f := fun p => an (Nat.ble (len (ringT p)) 50) (allL (fun q => Nat.ble (len q) 50) (ringT p))) len_10 (in_retP hm hr)
  | 11, _, _, hm => exact all_at (f := fun p => an (Nat.ble (len (ringT p)) 50) (allL (fun q => Nat.ble (len q) 50) (ringT p))) len_11 (in_retP hm hr)
  | 12, _, _, hm => exact all_at (f := fun p => an (Nat.ble (len (ringT p)) 50) (allL (fun q => Nat.ble (len q) 50) (ringT p))) len_12 (in_retP hm hr)
  | 13, _, _, hm => exact all_at (f := fun p => an (Nat.ble (len (ringT p)) 50) (allL (fun q => Nat.ble (len q) 50) (ringT p))) len_13 (in_retP hm hr)
  | 14, _, _, hm => exact all_at (f := fun p => an (Nat.ble (len (ringT p)) 50) (allL (fun q => Nat.ble (len q) 50) (ringT p))) len_14 (in_retP hm hr)
  | 15, _, _, hm => exact all_at (f := fun p => an (Nat.ble (len (ringT p)) 50) (allL (fun q => Nat.ble (len q) 50) (ringT p))) len_15 (in_retP hm hr)
  | 16, _, _, hm => exact all_at (f := fun p => an (Nat.ble (len (ringT p)) 50) (allL (fun q => Nat.ble (len q) 50) (ringT p))) len_16 (in_retP hm hr)
  | 17, _, _, hm => exact all_at (f := fun p => an (Nat.ble (len (ringT p)) 50) (allL (fun q => Nat.ble (len q) 50) (ringT p))) len_17 (in_retP hm hr)
  | 18, _, _, hm => exact all_at (f := fun p => an (Nat.ble (len (ringT p)) 50) (allL (fun q => Nat.ble (len q) 50) (ringT p))) len_18 (in_retP hm hr)
  | 19, _, _, hm => exact all_at (f := fun p => an (Nat.ble (len (ringT p)) 50) (allL (fun q => Nat.ble (len q) 50) (ringT p))) len_19 (in_retP hm hr)
  | 20, _, _, hm => exact all_at (f := fun p => an (Nat.ble (len (ringT p)) 50) (allL (fun q => Nat.ble (len q) 50) (ringT p))) len_20 (in_retP hm hr)
  | 21, _, _, hm => exact all_at (f := fun p => an (Nat.ble (len (ringT p)) 50) (allL (fun q => Nat.ble (len q) 50) (ringT p))) len_21 (in_retP hm hr)
  | k + 22, _, h2, _ => omega
theorem Pback (n : Nat) {p : List Nat} (h : okP 21 p = true) (hr : ret p = true) : puN (n + 6) 35 [sv p] = some (.bool true) := by
  obtain ⟨k, h1, h2, hs, hm⟩ := in_pts h
  clear hs
  match k, h1, h2, hm with
  | 1, _, _, hm => exact map_at (f := fun p => puN (n + 6) 35 [sv p]) (g := fun _ => some (.bool true)) (back_1 n) (in_retP hm hr)
  | 2, _, _, hm => exact map_at (f := fun p => puN (n + 6) 35 [sv p]) (g := fun _ => some (.bool true)) (back_2 n) (in_retP hm hr)
  | 3, _, _, hm => exact map_at (f := fun p => puN (n + 6) 35 [sv p]) (g := fun _ => some (.bool true)) (back_3 n) (in_retP hm hr)
  | 4, _, _, hm => exact map_at (f := fun p => puN (n + 6) 35 [sv p]) (g := fun _ => some (.bool true)) (back_4 n) (in_retP hm hr)
  | 5, _, _, hm => exact map_at (f := fun p => puN (n + 6) 35 [sv p]) (g := fun _ => some (.bool true)) (back_5 n) (in_retP hm hr)
  | 6, _, _, hm => exact map_at (f := fun p => puN (n + 6) 35 [sv p]) (g := fun _ => some (.bool true)) (back_6 n) (in_retP hm hr)
  | 7, _, _, hm => exact map_at (f := fun p => puN (n + 6) 35 [sv p]) (g := fun _ => some (.bool true)) (back_7 n) (in_retP hm hr)
  | 8, _, _, hm => exact map_at (f := fun p => puN (n + 6) 35 [sv p]) (g := fun _ => some (.bool true)) (back_8 n) (in_retP hm hr)
  | 9, _, _, hm => exact map_at (f := fun p => puN (n + 6) 35 [sv p]) (g := fun _ => some (.bool true)) (back_9 n) (in_retP hm hr)
  | 10, _, _, hm => exact map_at (f := fun p => puN (n + 6) 35 [sv p]) (g := fun _ => some (.bool true)) (back_10 n) (in_retP hm hr)
  | 11, _, _, hm => exact map_at (f := fun p => puN (n + 6) 35 [sv p]) (g := fun _ => some (.bool true)) (back_11 n) (in_retP hm hr)
  | 12, _, _, hm => exact map_at (f := fun p => puN (n + 6) 35 [sv p]) (g := fun _ => some (.bool true)) (back_12 n) (in_retP hm hr)
  | 13, _, _, hm => exact map_at (f := fun p => puN (n + 6) 35 [sv p]) (g := fun _ => some (.bool true)) (back_13 n) (in_retP hm hr)
  | 14, _, _, hm => exact map_at (f := fun p => puN (n + 6) 35 [sv p]) (g := fun _ => some (.bool true)) (back_14 n) (in_retP hm hr)
  | 15, _, _, hm => exact map_at (f := fun p => puN (n + 6) 35 [sv p]) (g := fun _ => some (.bool true)) (back_15 n) (in_retP hm hr)
  | 16, _, _, hm => exact map_at (f := fun p => puN (n + 6) 35 [sv p]) (g := fun _ => some (.bool true)) (back_16 n) (in_retP hm hr)
  | 17, _, _, hm => exact map_at (f := fun p => puN (n + 6) 35 [sv p]) (g := fun _ => some (.bool true)) (back_17 n) (in_retP hm hr)
  | 18, _, _, hm => exact map_at (f := fun p => puN (n + 6) 35 [sv p]) (g := fun _ => some (.bool true)) (back_18 n) (in_retP hm hr)
  | 19, _, _, hm => exact map_at (f := fun p => puN (n + 6) 35 [sv p]) (g := fun _ => some (.bool true)) (back_19 n) (in_retP hm hr)
  | 20, _, _, hm => exact map_at (f := fun p => puN (n + 6) 35 [sv p]) (g := fun _ => some (.bool true)) (back_20 n) (in_retP hm hr)
  | 21, _, _, hm => exact map_at (f := fun p => puN (n + 6) 35 [sv p]) (g := fun _ => some (.bool true)) (back_21 n) (in_retP hm hr)
  | k + 22, _, h2, _ => omega
end Go.HpQM
set_option maxRecDepth 100000
namespace Go.HpQM
open Go.Sp Go.HpQ Go.HpT

theorem eqP_eq : ∀ (a b : List Nat), eqP a b = true → a = b
  | [], b, h => by
    have h : nilL b = true := h
    cases b with
    | nil => rfl
    | cons x r => cases h
  | x :: a, b, h => by
    have h : ll b false (fun y r => an (Nat.beq x y) (eqP a r)) = true := h
    cases b with
    | nil => cases h
    | cons y r =>
      obtain ⟨h1, h2⟩ := an_inv (show an (Nat.beq x y) (eqP a r) = true from h)
      rw [Nat.eq_of_beq_eq_true h1, eqP_eq a r h2]
theorem seen_ok {p : List Nat} (h : okP 21 p = true) : okP 21 (rnd p) = true ∧ sumL (rnd p) = sumL p ∧ comes 60 p = true ∧ (ret p = true → ret (rnd p) = true ∧ iter (stair (sumL p) + 1) p = p) := by
  obtain ⟨h1, h2⟩ := an_inv (show an (okP 21 (rnd p)) (an (Nat.beq (sumL (rnd p)) (sumL p)) (an (comes 60 p) (bb (ret p) (an (ret (rnd p)) (eqP (iter (stair (sumL p) + 1) p) p)) true))) = true from Pseen h)
  obtain ⟨h2, h3⟩ := an_inv h2
  obtain ⟨h3, h4⟩ := an_inv h3
  refine ⟨h1, Nat.eq_of_beq_eq_true h2, h3, fun hr => ?_⟩
  rw [hr, bb_true] at h4
  obtain ⟨h4, h5⟩ := an_inv h4
  exact ⟨h4, eqP_eq _ _ h5⟩
theorem iter_s (n : Nat) (p : List Nat) : iter (n + 1) p = iter n (rnd p) := rfl
theorem iter_0 (p : List Nat) : iter 0 p = p := rfl
theorem iter_add : ∀ (a b : Nat) (p : List Nat), iter (a + b) p = iter b (iter a p)
  | 0, b, p => by rw [Nat.zero_add, iter_0]
  | a + 1, b, p => by rw [show a + 1 + b = (a + b) + 1 by omega, iter_s, iter_s, iter_add a b]
theorem iter_r (n : Nat) (p : List Nat) : iter (n + 1) p = rnd (iter n p) := iter_add n 1 p
theorem iter_ok : ∀ (n : Nat) {p : List Nat}, okP 21 p = true → okP 21 (iter n p) = true
  | 0, p, h => h
  | n + 1, p, h => by rw [iter_s]; exact iter_ok n (seen_ok h).1
theorem iter_ret : ∀ (n : Nat) {p : List Nat}, okP 21 p = true → ret p = true → ret (iter n p) = true
  | 0, p, _, h => h
  | n + 1, p, h, hr => by rw [iter_s]; exact iter_ret n (seen_ok h).1 ((seen_ok h).2.2.2 hr).1
theorem iter_mul {j : Nat} {p : List Nat} (h : iter j p = p) : ∀ k : Nat, iter (k * j) p = p
  | 0 => by rw [Nat.zero_mul, iter_0]
  | k + 1 => by rw [Nat.succ_mul, iter_add, iter_mul h k, h]
theorem comes_ex : ∀ (f : Nat) {p : List Nat}, comes f p = true → ∃ m, ret (iter m p) = true
  | 0, p, h => ⟨0, h⟩
  | f + 1, p, h => by
    have h : bb (ret p) true (comes f (rnd p)) = true := h
    cases hr : ret p with
    | true => exact ⟨0, hr⟩
    | false =>
      rw [hr, bb_false] at h
      obtain ⟨m, hm⟩ := comes_ex f h
      exact ⟨m + 1, hm⟩
theorem no_back {p : List Nat} (h : okP 21 p = true) (hr : ret p = false) (j : Nat) (hj : 1 ≤ j) : iter j p ≠ p := fun e => by
  obtain ⟨m, hm⟩ := comes_ex 60 (seen_ok h).2.2.1
  have h1 := iter_mul e m
  have h2 : m * j = m + (m * j - m) := by
    have := Nat.mul_le_mul_left m hj
    omega
  rw [h2, iter_add] at h1
  have h3 := iter_ret (m * j - m) (iter_ok m h) hm
  rw [h1, hr] at h3; cases h3
theorem len_isPt : ∀ (p : List Nat) (left most : Nat), isPt p left most = true → p.length ≤ left
  | [], _, _, _ => Nat.zero_le _
  | a :: p, left, most, h => by
    obtain ⟨h1, h2⟩ := an_inv (show an (Nat.ble 1 a) (an (Nat.ble a most) (an (Nat.ble a left) (isPt p (left - a) a))) = true from h)
    obtain ⟨_, h3⟩ := an_inv h2
    obtain ⟨h3, h4⟩ := an_inv h3
    have := len_isPt p _ _ h4
    have := Nat.le_of_ble_eq_true h1
    have := Nat.le_of_ble_eq_true h3
    rw [List.length_cons]; omega
theorem ok_len {p : List Nat} (h : okP 21 p = true) : p.length ≤ 21 := by
  obtain ⟨h1, h2⟩ := an_inv (show an (Nat.ble 1 (sumL p)) (an (Nat.ble (sumL p) 21) (isPt p (sumL p) (sumL p))) = true from h)
  obtain ⟨h2, h3⟩ := an_inv h2
  exact Nat.le_trans (len_isPt p _ _ h3) (Nat.le_of_ble_eq_true h2)
theorem l32 (pu : PureF) (a b : List Nat) (hl : a.length = b.length) (h100 : a.length ≤ 100) : ∀ (f i : Nat), a.length - i < f → i ≤ a.length → a.take i = b.take i →
    l32_1 pu 1000000 f (sl 0 (nI a)) (sl 0 (nI b)) (Int.ofNat i) = some (.bool (decide (a = b))) := by
  intro f
  induction f with
  | zero => intro i h; omega
  | succ f ih =>
    intro i hf hi ht
    show b32_1 pu 1000000 (l32_1 pu 1000000 f) _ _ _ = _
    unfold b32_1
    rw [sl_n, nI_len]
    by_cases hlt : i < a.length
    · have hlb : i < b.length := by omega
      rw [lt_true hlt]
      simp only [bb_true, toN_mk, oo_some, sl_n, sl_cs, nI_len, blt_eq, hlt, hlb, decide_true, an_eq, Bool.true_and, nthL_eq, Nat.mul_one, getN a i hlt, getN b i hlb, toI_mk]
      by_cases e : a[i] = b[i]
      · rw [e, neqr, bb_false, wrapS i (by omega)]
        exact ih (i + 1) (by omega) (by omega) (by rw [List.take_succ_eq_append_getElem hlt, List.take_succ_eq_append_getElem hlb, ht, e])
      · have q : nt (ieq (Int.ofNat a[i]) (Int.ofNat b[i])) = true := by
          have : ieq (Int.ofNat a[i]) (Int.ofNat b[i]) = false := by rw [ieq_eq]; simp only [Int.ofNat_eq_natCast]; exact decide_eq_false (by omega)
          rw [this]; rfl
        have hne : a ≠ b := fun g => e (by subst g; rfl)
        rw [q, bb_true, decide_eq_false hne]
    · have : i = a.length := by omega
      subst this
      rw [List.take_length, hl, List.take_length] at ht
      rw [lt_false hlt, bb_false, decide_eq_true ht]; rfl
theorem p32 (n : Nat) (a b : List Nat) (h100 : a.length ≤ 100) : puN (n + 1) 32 [sv a, sv b] = some (.bool (decide (a = b))) := by
  rw [sv_eq, sv_eq]
  refine Eq.trans (b := m32_ (puN n) 1000000 (sl 0 (nI a)) (sl 0 (nI b))) (by kernel_rfl) ?_
  unfold m32_
  rw [sl_n, sl_n, nI_len, nI_len]
  by_cases hl : a.length = b.length
  · rw [hl, neqr, bb_false]
    exact l32 (puN n) a b hl h100 1000000 0 (by omega) (by omega) rfl
  · have q : nt (ieq (Int.ofNat a.length) (Int.ofNat b.length)) = true := by
      have : ieq (Int.ofNat a.length) (Int.ofNat b.length) = false := by rw [ieq_eq]; simp only [Int.ofNat_eq_natCast]; exact decide_eq_false (by omega)
      rw [this]; rfl
    have hne : a ≠ b := fun g => hl (by rw [g])
    rw [q, bb_true, decide_eq_false hne]
theorem l35 (n : Nat) (p : List Nat) (hp : okP 21 p = true) (hr : ret p = false) : ∀ (f i : Nat), 21 - i < f → i ≤ 21 →
    l35_1 (puN (n + 6)) 1000000 f (sl 0 (nI p)) (sl 0 (nI (iter i p))) (Int.ofNat i) = some (.bool false) := by
  intro f
  induction f with
  | zero => intro i h; omega
  | succ f ih =>
    intro i hf hi
    show b35_1 (puN (n + 6)) 1000000 (l35_1 (puN (n + 6)) 1000000 f) _ _ _ = _
    unfold b35_1
    by_cases hlt : i < 21
    · have e1 := P33 n (iter_ok i hp)
      have e2 := p32 (n + 5) (iter (i + 1) p) p (by have := ok_len (iter_ok (i + 1) hp); omega)
      rw [← iter_r, sv_eq, sv_eq] at e1
      rw [sv_eq, sv_eq, decide_eq_false (no_back hp hr (i + 1) (by omega))] at e2
      rw [show ilt (Int.ofNat i) 21 = true from lt_true hlt, bb_true, e1, oo_some, toSl_mk, oo_some, e2, oo_some, vBool_mk, oo_some, bb_false, wrapS i (by omega)]
      exact ih (i + 1) (by omega) (by omega)
    · have : i = 21 := by omega
      subst this
      rfl
theorem p35 (n : Nat) {p : List Nat} (hp : okP 21 p = true) : puN (n + 7) 35 [sv p] = some (.bool (ret p)) := by
  cases hr : ret p with
  | true => exact Pback (n + 1) hp hr
  | false =>
    rw [sv_eq]
    refine Eq.trans (b := m35_ (puN (n + 6)) 1000000 (sl 0 (nI p))) (by kernel_rfl) ?_
    exact l35 n p hp hr 1000000 0 (by omega) (by omega)
end Go.HpQM
set_option maxRecDepth 100000
namespace Go.HpQM
open Go.Sp Go.HpQ Go.HpT

theorem zc : allL closed1 zA48 = true := by kernel_rfl
theorem cv1 (p : List Nat) : allL closed1 (cvl p) = true := by kernel_rfl
theorem cv2 (p : List Nat) : setL (cvl p) 0 zA48 = cvl p := by kernel_rfl
theorem cv3 (p : List Nat) : takeL 22 (dropL 0 (cvl p)) = cvl p := by kernel_rfl
theorem cv4 (p : List Nat) : allL closed2 [.agg ⟨cvl p⟩] = true := by kernel_rfl
theorem cv5 (p : List Nat) : Nat.ble (0 + 22) (len (cvl p)) = true := by kernel_rfl
theorem cv6 (p : List Nat) : an (Nat.beq (len (cvl p)) 22) (allL closed1 (cvl p)) = true := by kernel_rfl
theorem cv7 (p : List Nat) : Nat.beq (len (cvl p)) 22 = true := by kernel_rfl
theorem cv8 (p : List Nat) : an (Nat.ble (0 + len (cvl p)) (len zA48)) (allL scalarB (cvl p)) = true := by kernel_rfl
theorem cv9 (p q : List Nat) : setL (cvl q) 0 (cvl p) = cvl q := by kernel_rfl
theorem cv10 (p q : List Nat) : an (Nat.ble (0 + len (cvl q)) (len (cvl p))) (allL scalarB (cvl q)) = true := by kernel_rfl
theorem cv11 (z : Int) (p : List Nat) : closedV (.tuple ⟨[.int .i64 z, .agg ⟨cvl p⟩]⟩) = true := by kernel_rfl

theorem lev_s (m : Nat) (q : List Nat) : levT (m + 1) q = bb (ret q) 0 (levT m (rnd q) + 1) := rfl
theorem lev_ret : ∀ (m : Nat) (q : List Nat), comes m q = true → ret (iter (levT m q) q) = true
  | 0, q, h => h
  | m + 1, q, h => by
    have h : bb (ret q) true (comes m (rnd q)) = true := h
    rw [lev_s]
    cases hr : ret q with
    | true => rw [bb_true, iter_0]; exact hr
    | false =>
      rw [hr, bb_false] at h
      rw [bb_false, iter_s]
      exact lev_ret m (rnd q) h
theorem lev_0 {q : List Nat} (hr : ret q = true) : levT 60 q = 0 := by rw [lev_s, hr, bb_true]
noncomputable def unt2 (z : Nat) (q : List Nat) : Option Value := some (.tuple ⟨[I (Int.ofNat z), cv q]⟩)
theorem b36p (n f z : Nat) (hz : z < 1000) {q : List Nat} (hq : okP 21 q = true) : l36_0 (puN (n + 6)) 1000000 (f + 1) (Int.ofNat z) (cvl q) zA48 = bb (ret q) (unt2 z q) (l36_0 (puN (n + 6)) 1000000 f (Int.ofNat (z + 1)) (cvl (rnd q)) zA48) := by
  have e1 := P34 n hq
  have e2 := P40 n hq
  unfold cv at e1 e2
  show b36_0 (puN (n + 6)) 1000000 (l36_0 (puN (n + 6)) 1000000 f) _ _ _ = _
  unfold b36_0
  rw [cv1, bb_true, zc, bb_true, cv5, bb_true, cv3, e1, oo_some, vBool_mk, oo_some, cv4, bb_true]
  cases ret q with
  | true =>
    rw [show nt true = false from rfl, bb_false, bb_true, bb_true, cv7, bb_true, cv8, bb_true, cv2, cv1, bb_true, cv5, bb_true, cv3, cv11, bb_true]; rfl
  | false =>
    rw [show nt false = true from rfl, bb_true, bb_false, bb_true, e2, oo_some, vAgg_mk, oo_some, cv6, bb_true, bb_true, cv7, bb_true, cv10, bb_true, cv9, cv1, bb_true, wrapS z (by omega)]
theorem l36 (n : Nat) : ∀ (f m z : Nat) (q : List Nat), m < f → okP 21 q = true → comes m q = true → z + m ≤ 900 → l36_0 (puN (n + 6)) 1000000 f (Int.ofNat z) (cvl q) zA48 = unt2 (z + levT m q) (iter (levT m q) q) := by
  intro f
  induction f with
  | zero => intro m z q h; omega
  | succ f ih =>
    intro m z q hf hq hc hz
    rw [b36p n f z (by omega) hq]
    cases m with
    | zero =>
      have hr : ret q = true := hc
      rw [hr, bb_true]; rfl
    | succ m =>
      have hc : bb (ret q) true (comes m (rnd q)) = true := hc
      rw [lev_s]
      cases hr : ret q with
      | true => rw [bb_true, bb_true, iter_0, Nat.add_zero]
      | false =>
        rw [hr, bb_false] at hc
        rw [bb_false, bb_false, ih m (z + 1) (rnd q) (by omega) (seen_ok hq).1 hc (by omega), iter_s, show z + 1 + levT m (rnd q) = z + (levT m (rnd q) + 1) by omega]
theorem p36 (n : Nat) {p : List Nat} (hp : okP 21 p = true) : puN (n + 7) 36 [cv p] = unt2 (levT 60 p) (iter (levT 60 p) p) := by
  have e1 := P34 n hp
  have e2 := P40 n hp
  have hc : bb (ret p) true (comes 59 (rnd p)) = true := (seen_ok hp).2.2.1
  unfold cv at e1 e2
  refine Eq.trans (b := m36_ (puN (n + 6)) 1000000 (cvl p)) (by kernel_rfl) ?_
  unfold m36_
  rw [cv1, bb_true, zc, bb_true, cv5, bb_true, cv3, e1, oo_some, vBool_mk, oo_some, cv4, bb_true, lev_s]
  cases hr : ret p with
  | true =>
    rw [show nt true = false from rfl, bb_false, bb_true, bb_true, cv7, bb_true, cv8, bb_true, cv2, cv1, bb_true, cv5, bb_true, cv3, cv11, bb_true]; rfl
  | false =>
    rw [hr, bb_false] at hc
    rw [show nt false = true from rfl, bb_true, bb_false, bb_true, e2, oo_some, vAgg_mk, oo_some, cv6, bb_true, bb_true, cv7, bb_true, cv10, bb_true, cv9, cv1, bb_true]
    have := l36 n 1000000 59 1 (rnd p) (by omega) (seen_ok hp).1 hc (by omega)
    rw [iter_s, show levT 59 (rnd p) + 1 = 1 + levT 59 (rnd p) by omega]
    exact this
theorem l37 (n : Nat) : ∀ (f m z : Nat) (q : List Nat), m < f → okP 21 q = true → comes m q = true → z + m ≤ 900 →
    l37_1 (puN (n + 7)) 1000000 f (sl 0 (nI q)) (Int.ofNat z) = some (.tuple ⟨[I (Int.ofNat (z + levT m q)), sv (iter (levT m q) q)]⟩) := by
  intro f
  induction f with
  | zero => intro m z q h; omega
  | succ f ih =>
    intro m z q hf hq hc hz
    have e1 := p35 n hq
    have e2 := P33 (n + 1) hq
    rw [sv_eq] at e1
    rw [sv_eq, sv_eq] at e2
    show b37_1 (puN (n + 7)) 1000000 (l37_1 (puN (n + 7)) 1000000 f) _ _ = _
    unfold b37_1
    rw [e1, oo_some, vBool_mk, oo_some]
    cases m with
    | zero =>
      have hr : ret q = true := hc
      rw [hr, show nt true = false from rfl, bb_false]
      unfold m37_0
      rw [show levT 0 q = 0 from rfl, iter_0, sv_eq, Nat.add_zero]
    | succ m =>
      have hc : bb (ret q) true (comes m (rnd q)) = true := hc
      rw [lev_s]
      cases hr : ret q with
      | true =>
        rw [show nt true = false from rfl, bb_false, bb_true, iter_0]
        unfold m37_0
        rw [sv_eq]; rfl
      | false =>
        rw [hr, bb_false] at hc
        rw [show nt false = true from rfl, bb_true, bb_false, e2, oo_some, toSl_mk, oo_some, wrapS z (by omega), ih m (z + 1) (rnd q) (by omega) (seen_ok hq).1 hc (by omega), iter_s, show z + 1 + levT m (rnd q) = z + (levT m (rnd q) + 1) by omega]
theorem p37 (n : Nat) {p : List Nat} (hp : okP 21 p = true) : puN (n + 8) 37 [sv p] = some (.tuple ⟨[I (Int.ofNat (levT 60 p)), sv (iter (levT 60 p) p)]⟩) := by
  have := l37 n 1000000 60 0 p (by omega) hp (seen_ok hp).2.2.1 (by omega)
  rw [Nat.zero_add] at this
  rw [sv_eq p]
  exact Eq.trans (b := m37_ (puN (n + 7)) 1000000 (sl 0 (nI p))) (by kernel_rfl) this
theorem m38_u (pu : PureF) (x q : List Nat) (l : Int) (h : pu 36 [.agg ⟨cvl x⟩] = some (.tuple ⟨[I l, .agg ⟨cvl q⟩]⟩)) : m38_ pu 1000000 (cvl x) = l38_1 pu 1000000 1000000 0 0 (0 : Int) (0 : Int) (cvl q) ([] : List Value) (cvl q) := by
  unfold m38_
  rw [cv1, bb_true, cv5, bb_true, cv3, h]
  simp only [oo_some, vTup_mk, ll_cons', ll_nil', toI_mk, vAgg_mk]
  rw [cv6, bb_true, cv4, bb_true, cv7, bb_true, cv8, bb_true, cv2, cv1, bb_true, cv5, bb_true, cv3, cv7, bb_true, cv8, bb_true, cv2, cv1, bb_true]
theorem p38 (n : Nat) {p : List Nat} (hp : okP 21 p = true) : puN (n + 9) 38 [cv p] = some (ringV (iter (levT 60 p) p)) := by
  have hq := iter_ok (levT 60 p) hp
  have hr := lev_ret 60 p (seen_ok hp).2.2.1
  have a := p36 (n + 1) hp
  have b := p36 (n + 1) hq
  have e := Pringa n hq hr
  rw [lev_0 hr, iter_0] at b
  unfold unt2 cv at a b
  have t : ∀ x, puN (n + 9) 38 [cv x] = m38_ (puN (n + 8)) 1000000 (cvl x) := fun x => by kernel_rfl
  rw [t, m38_u _ _ _ _ b] at e
  rw [t, m38_u _ _ _ _ a, e]
theorem m39_u (pu : PureF) (x q : List Nat) (l : Int) (h : pu 37 [Sl.v 1 (sl 0 (nI x))] = some (.tuple ⟨[I l, Sl.v 1 (sl 0 (nI q))]⟩)) : m39_ pu 1000000 (sl 0 (nI x)) = oo (pu 33 [Sl.v 1 (sl 0 (nI q))]) none fun v => oo (toSl 1 v) none fun s => l39_3 pu 1000000 1000000 (sl 0 (nI q)) (sl 0 (nI q)) s := by
  unfold m39_
  rw [h]
  simp only [oo_some, vTup_mk, ll_cons', ll_nil', toI_mk, toSl_mk]
theorem p39 (n : Nat) {p : List Nat} (hp : okP 21 p = true) : puN (n + 9) 39 [sv p] = some (ringV (iter (levT 60 p) p)) := by
  have hq := iter_ok (levT 60 p) hp
  have hr := lev_ret 60 p (seen_ok hp).2.2.1
  have a := p37 n hp
  have b := p37 n hq
  have e := Pringb n hq hr
  rw [lev_0 hr, iter_0] at b
  have t : ∀ x, puN (n + 9) 39 [sv x] = m39_ (puN (n + 8)) 1000000 (sl 0 (nI x)) := fun x => by rw [sv_eq]; kernel_rfl
  simp only [sv_eq] at a b
  rw [t, m39_u _ _ _ _ b] at e
  rw [t, m39_u _ _ _ _ a, e]
theorem p24 (n : Nat) (q : List Nat) (hl : q.length ≤ 100) : puN (n + 1) 24 [sv q, sv q] = some (.bool true) := by
  have l24 : ∀ (l : List Int), l.length ≤ 100 → ∀ (f i : Nat), l.length - i < f → i ≤ l.length → l24_1 (puN n) 1000000 f (sl 0 l) (sl 0 l) (Int.ofNat i) = some (.bool true) := by
    intro l hl f
    induction f with
    | zero => intro i h; omega
    | succ f ih =>
      intro i hf hi
      show b24_1 (puN n) 1000000 (l24_1 (puN n) 1000000 f) _ _ _ = _
      unfold b24_1
      rw [sl_n]
      by_cases hlt : i < l.length
      · rw [lt_true hlt]
        simp only [bb_true, toN_mk, oo_some, sl_n, sl_cs, blt_eq, hlt, decide_true, an_eq, Bool.true_and, nthL_eq, Nat.mul_one, getI l i hlt, toI_mk, neqr, bb_false, wrapS i (by omega)]
        exact ih (i + 1) (by omega) (by omega)
      · rw [lt_false hlt]; rfl
  rw [sv_eq]
  refine Eq.trans (b := m24_ (puN n) 1000000 (sl 0 (nI q)) (sl 0 (nI q))) (by kernel_rfl) ?_
  unfold m24_
  rw [sl_n, neqr, bb_false]
  exact l24 (nI q) (by rw [nI_len]; exact hl) 1000000 0 (by rw [nI_len]; omega) (by omega)
noncomputable def LLs (L : List (List Nat)) : Sl := ⟨L.length, 0, L.map sv⟩
theorem l9 (n : Nat) (L : List (List Nat)) (hL : L.length ≤ 50) (hr : ∀ r ∈ L, r.length ≤ 50) : ∀ (f i : Nat), L.length - i < f → i ≤ L.length → l9_1 (puN (n + 1)) 1000000 f (LLs L) (LLs L) (Int.ofNat i) = some (.bool true) := by
  intro f
  induction f with
  | zero => intro i h; omega
  | succ f ih =>
    intro i hf hi
    show b9_1 (puN (n + 1)) 1000000 (l9_1 (puN (n + 1)) 1000000 f) _ _ _ = _
    unfold b9_1
    rw [show (LLs L).n = L.length from rfl]
    by_cases hlt : i < L.length
    · have gx : (LLs L).cs[i]? = some (Sl.v 1 (sl 0 (nI L[i]))) := by
        show (L.map sv)[i]? = _
        rw [List.getElem?_map, List.getElem?_eq_getElem hlt, Option.map_some, sv_eq]
      have e := p24 n L[i] (by have := hr _ (List.getElem_mem hlt); omega)
      rw [sv_eq] at e
      rw [lt_true hlt]
      simp only [bb_true, toN_mk, oo_some, blt_eq, hlt, decide_true, an_eq, Bool.true_and, nthL_eq, Nat.mul_one, gx, toSl_mk, show (LLs L).n = L.length from rfl]
      rw [e, oo_some, vBool_mk, oo_some, show nt true = false from rfl, bb_false, wrapS i (by omega)]
      exact ih (i + 1) (by omega) (by omega)
    · rw [lt_false hlt]; rfl
theorem p9 (n : Nat) {p : List Nat} (hp : okP 21 p = true) (hr : ret p = true) : puN (n + 2) 9 [ringV p, ringV p] = some (.bool true) := by
  obtain ⟨h1, h2⟩ := an_inv (Plen hp hr)
  have h1 := Nat.le_of_ble_eq_true h1
  rw [len_eq] at h1
  rw [allL_eq, List.all_eq_true] at h2
  have : ringV p = Sl.v 1 (LLs (ringT p)) := by unfold ringV LLs; rw [len_eq, mapL_eq]
  rw [this]
  refine Eq.trans (b := m9_ (puN (n + 1)) 1000000 (LLs (ringT p)) (LLs (ringT p))) (by kernel_rfl) ?_
  unfold m9_
  rw [neqr, bb_false]
  exact l9 n (ringT p) h1 (fun r hr => by have := Nat.le_of_ble_eq_true (h2 r hr); rwa [len_eq] at this) 1000000 0 (by omega) (by omega)
noncomputable def two (v : Value) (e : Int) : Option Value := some (.tuple ⟨[v, I e]⟩)
section
variable (n : Nat) {p : List Nat} (hp : okP 21 p = true)
include hp
theorem p10 (e : puN (n + 9) 26 [sv p] = some (I 0)) : puN (n + 10) 10 [sv p] = two (.bool (ret p)) 0 := by
  have e1 := P27 (n + 3) hp
  have e2 := P34 (n + 3) hp
  rw [sv_eq] at e e1 ⊢
  unfold cv at e1 e2
  refine Eq.trans (b := m10_ (puN (n + 9)) 1000000 (sl 0 (nI p))) (by kernel_rfl) ?_
  unfold m10_
  rw [e, oo_some, toI_mk, oo_some, show nt (ieq (0 : Int) 0) = false from rfl, bb_false, e1, oo_some, vAgg_mk, oo_some, cv6, bb_true, e2, oo_some, vBool_mk, oo_some, cv4, bb_true]; rfl
theorem p11 (e : puN (n + 9) 29 [sv p] = some (I 0)) : puN (n + 10) 11 [sv p] = two (.bool (ret p)) 0 := by
  have e2 := p35 (n + 2) hp
  rw [sv_eq] at e e2 ⊢
  refine Eq.trans (b := m11_ (puN (n + 9)) 1000000 (sl 0 (nI p))) (by kernel_rfl) ?_
  unfold m11_
  rw [e, oo_some, toI_mk, oo_some, show nt (ieq (0 : Int) 0) = false from rfl, bb_false, e2, oo_some, vBool_mk, oo_some]; rfl
theorem p12 (e : puN (n + 9) 26 [sv p] = some (I 0)) : puN (n + 10) 12 [sv p] = two (I (Int.ofNat (levT 60 p))) 0 := by
  have e1 := P27 (n + 3) hp
  have e2 := p36 (n + 2) hp
  rw [sv_eq] at e e1 ⊢
  unfold unt2 cv at e2
  unfold cv at e1
  refine Eq.trans (b := m12_ (puN (n + 9)) 1000000 (sl 0 (nI p))) (by kernel_rfl) ?_
  unfold m12_
  rw [e, oo_some, toI_mk, oo_some, show nt (ieq (0 : Int) 0) = false from rfl, bb_false, e1, oo_some, vAgg_mk, oo_some, cv6, bb_true, e2]
  simp only [oo_some, vTup_mk, ll_cons', ll_nil', toI_mk, vAgg_mk]
  rw [cv6, bb_true, cv4, bb_true, cv7, bb_true, cv8, bb_true]; rfl
theorem p13 (e : puN (n + 9) 29 [sv p] = some (I 0)) : puN (n + 10) 13 [sv p] = two (I (Int.ofNat (levT 60 p))) 0 := by
  have e2 := p37 (n + 1) hp
  simp only [sv_eq] at e e2 ⊢
  refine Eq.trans (b := m13_ (puN (n + 9)) 1000000 (sl 0 (nI p))) (by kernel_rfl) ?_
  unfold m13_
  rw [e, oo_some, toI_mk, oo_some, show nt (ieq (0 : Int) 0) = false from rfl, bb_false, e2]
  simp only [oo_some, vTup_mk, ll_cons', ll_nil', toI_mk, toSl_mk]; rfl
theorem p14 (e : puN (n + 9) 26 [sv p] = some (I 0)) : puN (n + 10) 14 [sv p] = two (ringV (iter (levT 60 p) p)) 0 := by
  have e1 := P27 (n + 3) hp
  have e2 := p38 n hp
  rw [sv_eq] at e e1 ⊢
  unfold cv at e1 e2
  unfold ringV at e2
  refine Eq.trans (b := m14_ (puN (n + 9)) 1000000 (sl 0 (nI p))) (by kernel_rfl) ?_
  unfold m14_
  rw [e, oo_some, toI_mk, oo_some, show nt (ieq (0 : Int) 0) = false from rfl, bb_false, e1, oo_some, vAgg_mk, oo_some, cv6, bb_true, e2, oo_some, toSl_mk, oo_some, cv4, bb_true]; rfl
theorem p15 (e : puN (n + 9) 29 [sv p] = some (I 0)) : puN (n + 10) 15 [sv p] = two (ringV (iter (levT 60 p) p)) 0 := by
  have e2 := p39 n hp
  rw [sv_eq] at e e2 ⊢
  unfold ringV at e2
  refine Eq.trans (b := m15_ (puN (n + 9)) 1000000 (sl 0 (nI p))) (by kernel_rfl) ?_
  unfold m15_
  rw [e, oo_some, toI_mk, oo_some, show nt (ieq (0 : Int) 0) = false from rfl, bb_false, e2, oo_some, toSl_mk, oo_some]; rfl
end
section
variable (n : Nat) (s : Sl) (c : Int) (hc : c ≠ 0)
include hc
theorem q10 (e : puN (n + 9) 26 [Sl.v 1 s] = some (I c)) : puN (n + 10) 10 [Sl.v 1 s] = two (.bool false) c := by
  refine Eq.trans (b := m10_ (puN (n + 9)) 1000000 s) (by kernel_rfl) ?_
  unfold m10_
  rw [e, oo_some, toI_mk, oo_some, ne_t hc, bb_true]; rfl
theorem q11 (e : puN (n + 9) 29 [Sl.v 1 s] = some (I c)) : puN (n + 10) 11 [Sl.v 1 s] = two (.bool false) c := by
  refine Eq.trans (b := m11_ (puN (n + 9)) 1000000 s) (by kernel_rfl) ?_
  unfold m11_
  rw [e, oo_some, toI_mk, oo_some, ne_t hc, bb_true]; rfl
theorem q12 (e : puN (n + 9) 26 [Sl.v 1 s] = some (I c)) : puN (n + 10) 12 [Sl.v 1 s] = two (I (Int.ofNat 0)) c := by
  refine Eq.trans (b := m12_ (puN (n + 9)) 1000000 s) (by kernel_rfl) ?_
  unfold m12_
  rw [e, oo_some, toI_mk, oo_some, ne_t hc, bb_true]; rfl
theorem q13 (e : puN (n + 9) 29 [Sl.v 1 s] = some (I c)) : puN (n + 10) 13 [Sl.v 1 s] = two (I (Int.ofNat 0)) c := by
  refine Eq.trans (b := m13_ (puN (n + 9)) 1000000 s) (by kernel_rfl) ?_
  unfold m13_
  rw [e, oo_some, toI_mk, oo_some, ne_t hc, bb_true]; rfl
theorem q14 (e : puN (n + 9) 26 [Sl.v 1 s] = some (I c)) : puN (n + 10) 14 [Sl.v 1 s] = two (Sl.v 1 ⟨0, 2, []⟩) c := by
  refine Eq.trans (b := m14_ (puN (n + 9)) 1000000 s) (by kernel_rfl) ?_
  unfold m14_
  rw [e, oo_some, toI_mk, oo_some, ne_t hc, bb_true]; rfl
theorem q15 (e : puN (n + 9) 29 [Sl.v 1 s] = some (I c)) : puN (n + 10) 15 [Sl.v 1 s] = two (Sl.v 1 ⟨0, 2, []⟩) c := by
  refine Eq.trans (b := m15_ (puN (n + 9)) 1000000 s) (by kernel_rfl) ?_
  unfold m15_
  rw [e, oo_some, toI_mk, oo_some, ne_t hc, bb_true]; rfl
end
section
variable (pu : PureF) (b : Sl) (e6 : pu 6 [] = some (.bool true))
include e6
theorem m4_big (e5 : pu 5 [Sl.v 1 b] = some (.bool true)) : m4_ pu 1000000 b = some (.bool true) := by
  unfold m4_
  rw [e5, oo_some, vBool_mk, oo_some, bb_true, e6]; rfl
theorem m4_p (e5 : pu 5 [Sl.v 1 b] = some (.bool false)) {r : Bool} {l c : Int} {s : Sl} (e10 : pu 10 [Sl.v 1 b] = two (.bool r) c) (e11 : pu 11 [Sl.v 1 b] = two (.bool r) c) (e12 : pu 12 [Sl.v 1 b] = two (I l) c) (e13 : pu 13 [Sl.v 1 b] = two (I l) c)
    (e14 : pu 14 [Sl.v 1 b] = two (Sl.v 1 s) c) (e15 : pu 15 [Sl.v 1 b] = two (Sl.v 1 s) c) (e9 : pu 9 [Sl.v 1 s, Sl.v 1 s] = some (.bool true)) : m4_ pu 1000000 b = some (.bool true) := by
  have hb : bq true (bq r r) = true := by cases r <;> rfl
  unfold two at e10 e11 e12 e13 e14 e15
  unfold m4_
  rw [e5, oo_some, vBool_mk, oo_some, bb_false, e10]
  simp -implicitDefEqProofs only [oo_some, vTup_mk, ll_cons', ll_nil', vBool_mk, toI_mk]
  rw [e11]
  simp -implicitDefEqProofs only [oo_some, vTup_mk, ll_cons', ll_nil', vBool_mk, toI_mk]
  rw [e12]
  simp -implicitDefEqProofs only [oo_some, vTup_mk, ll_cons', ll_nil', toI_mk]
  rw [e13]
  simp -implicitDefEqProofs only [oo_some, vTup_mk, ll_cons', ll_nil', toI_mk]
  rw [e14]
  simp -implicitDefEqProofs only [oo_some, vTup_mk, ll_cons', ll_nil', toSl_mk, toI_mk]
  rw [e15]
  simp -implicitDefEqProofs only [oo_some, vTup_mk, ll_cons', ll_nil', toSl_mk, toI_mk]
  simp -implicitDefEqProofs only [hb, bb_true, ieqr, e9, e6, oo_some, vBool_mk, m4_0]
end
noncomputable def puW : PureF := fun g args => bb (Nat.beq g 6) (ll args (some (.bool true)) fun _ _ => none) (puN 30 g args)
theorem puW_n (g : FuncId) (args : List Value) (h : Nat.beq g 6 = false) : puW g args = puN 30 g args := by
  unfold puW; rw [h, bb_false]
theorem puW_6 : puW 6 [] = some (.bool true) := rfl
theorem puW_g (g : FuncId) (h : Nat.beq g 6 = false) : puW g = puN 30 g := by funext a; exact puW_n g a h
theorem puW_w : puW 6 = fun args => ll args (some (.bool true)) fun _ _ => none := rfl
theorem nil9 : puN 30 9 [Sl.v 1 ⟨0, 2, []⟩, Sl.v 1 ⟨0, 2, []⟩] = some (.bool true) := by kernel_rfl
theorem pReturns (l : List Int) : m4_ puW 1000000 (sl 0 l) = some (.bool true) := by
  have e5 := p5 29 0 l
  rw [show (29 + 1 : Nat) = 30 from rfl, ← puW_n 5 _ rfl] at e5
  by_cases hb : 60 < l.length
  · rw [decide_eq_true hb] at e5
    exact m4_big puW (sl 0 l) puW_6 e5
  · rw [decide_eq_false hb] at e5
    have hl : l.length ≤ 60 := by omega
    have a14 : puN 29 26 [Sl.v 1 (sl 0 l)] = some (I (chk l)) := p26 27 0 l hl
    have a15 : puN 29 29 [Sl.v 1 (sl 0 l)] = some (I (chk l)) := p29 27 0 l hl
    have w10 := puW_n 10 [Sl.v 1 (sl 0 l)] rfl
    have w11 := puW_n 11 [Sl.v 1 (sl 0 l)] rfl
    have w12 := puW_n 12 [Sl.v 1 (sl 0 l)] rfl
    have w13 := puW_n 13 [Sl.v 1 (sl 0 l)] rfl
    have w14 := puW_n 14 [Sl.v 1 (sl 0 l)] rfl
    have w15 := puW_n 15 [Sl.v 1 (sl 0 l)] rfl
    by_cases hc : chk l = 0
    · obtain ⟨p, rfl, hp⟩ := ok_of hc
      have hq := iter_ok (levT 60 p) hp
      have hr := lev_ret 60 p (seen_ok hp).2.2.1
      rw [hc, ← sv_eq] at a14 a15
      have x10 := p10 20 hp a14
      have x11 := p11 20 hp a15
      have x12 := p12 20 hp a14
      have x13 := p13 20 hp a15
      have x14 := p14 20 hp a14
      have x15 := p15 20 hp a15
      have x9 := (puW_n 9 [ringV (iter (levT 60 p) p), ringV (iter (levT 60 p) p)] rfl).trans (p9 28 hq hr)
      rw [sv_eq] at x10 x11 x12 x13 x14 x15
      exact m4_p puW _ puW_6 e5 (w10.trans x10) (w11.trans x11) (w12.trans x12) (w13.trans x13) (w14.trans x14) (w15.trans x15) x9
    · exact m4_p puW _ puW_6 e5 (w10.trans (q10 20 _ _ hc a14)) (w11.trans (q11 20 _ _ hc a15)) (w12.trans (q12 20 _ _ hc a14)) (w13.trans (q13 20 _ _ hc a15)) (w14.trans (q14 20 _ _ hc a14)) (w15.trans (q15 20 _ _ hc a15)) ((puW_n 9 _ rfl).trans nil9)
noncomputable def mLaw (args : List Value) : Option Value := m4 puW 1000000 args
theorem mLaw_ok (l : List Int) : mLaw [Sl.v 1 (sl 0 l)] = some (Value.bool true) :=
  Eq.trans (b := m4_ puW 1000000 (sl 0 l)) (by kernel_rfl) (pReturns l)
end Go.HpQM
