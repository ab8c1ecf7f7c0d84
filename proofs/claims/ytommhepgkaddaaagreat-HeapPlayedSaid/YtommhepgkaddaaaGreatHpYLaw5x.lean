/- Made from wip. -/
import Derived.Test.YtommhepgkaddaaaGreatHpYRun1
import Derived.Test.YtommhepgkaddaaaGreatHpYRun2
import Derived.Test.YtommhepgkaddaaaGreatHpYRun3
import Derived.Test.YtommhepgkaddaaaGreatHpYRun4
import Derived.Test.YtommhepgkaddaaaGreatHpYRun5
import Derived.Test.YtommhepgkaddaaaGreatHpYRun6
import Derived.Test.YtommhepgkaddaaaGreatHpYRun7
import Derived.Test.YtommhepgkaddaaaGreatHpYRun8
import Derived.Test.YtommhepgkaddaaaGreatHpYRun9
import Derived.Test.YtommhepgkaddaaaGreatHpYLaw2x

set_option maxRecDepth 100000
namespace Go.HpYM
open Go Go.Sp Go.HpY Go.HpT
theorem map_at {α:Type} {f g:List Nat→α} {l:List (List Nat)} (h:mapL f l = mapL g l) {p:List Nat} (hp:p ∈ l):f p = g p:=by
 rw [mapL_eq,mapL_eq] at h
 exact List.map_inj_left.1 h p hp
theorem all_at {f:List Nat→Bool} {l:List (List Nat)} (h:allL f l = true) {p:List Nat} (hp:p ∈ l):f p = true:=by
 rw [allL_eq,List.all_eq_true] at h
 exact h p hp
theorem in_pts {p:List Nat} (h:okP 21 p = true):∃ k,1≤k∧k≤21∧sumL p = k∧p ∈ pts k k k:=by
 obtain ⟨h1,h2⟩:=an_inv (show an (Nat.ble 1 (sumL p)) (an (Nat.ble (sumL p) 21) (isPt p (sumL p) (sumL p))) = true from h)
 obtain ⟨h2,h3⟩:=an_inv h2
 exact ⟨sumL p,Nat.le_of_ble_eq_true h1,Nat.le_of_ble_eq_true h2,rfl,mem_pts p _ _ _ (Nat.le_refl _) h3⟩
theorem ret_in : ∀ {l : List (List Nat)} {p : List Nat}, p ∈ l → ret p = true → p ∈ (List.rec (motive := fun _ => List (List Nat)) [] (fun p _ ih => bb (ret p) (p :: ih) ih) l : List (List Nat))
 | a :: l, p, h, hr => by
  show p ∈ bb (ret a) (a :: _) _
  rcases List.mem_cons.1 h with rfl | h
  ·rw [hr,bb_true];exact List.mem_cons_self
  ·cases ret a with
   | true=>rw [bb_true];exact List.mem_cons_of_mem _ (ret_in h hr)
   | false=>rw [bb_false];exact ret_in h hr
theorem in_retP {p:List Nat} {k:Nat} (h:p ∈ pts k k k) (hr:ret p = true):p ∈ retP k:=ret_in h hr
theorem P19 (n:Nat) {p:List Nat} (h:okP 21 p = true):puN (n + 6) 19 [sv p] = some (cv p):=by
 obtain ⟨k,h1,h2,hs,hm⟩:=in_pts h
 clear hs
 match k,h1,h2,hm with
 | 1,_,_,hm=>exact map_at (f:=fun p=>puN (n + 6) 19 [sv p]) (g:=fun p=>some (cv p)) (e19_1 n) hm
 | 2,_,_,hm=>exact map_at (f:=fun p=>puN (n + 6) 19 [sv p]) (g:=fun p=>some (cv p)) (e19_2 n) hm
 | 3,_,_,hm=>exact map_at (f:=fun p=>puN (n + 6) 19 [sv p]) (g:=fun p=>some (cv p)) (e19_3 n) hm
 | 4,_,_,hm=>exact map_at (f:=fun p=>puN (n + 6) 19 [sv p]) (g:=fun p=>some (cv p)) (e19_4 n) hm
 | 5,_,_,hm=>exact map_at (f:=fun p=>puN (n + 6) 19 [sv p]) (g:=fun p=>some (cv p)) (e19_5 n) hm
 | 6,_,_,hm=>exact map_at (f:=fun p=>puN (n + 6) 19 [sv p]) (g:=fun p=>some (cv p)) (e19_6 n) hm
 | 7,_,_,hm=>exact map_at (f:=fun p=>puN (n + 6) 19 [sv p]) (g:=fun p=>some (cv p)) (e19_7 n) hm
 | 8,_,_,hm=>exact map_at (f:=fun p=>puN (n + 6) 19 [sv p]) (g:=fun p=>some (cv p)) (e19_8 n) hm
 | 9,_,_,hm=>exact map_at (f:=fun p=>puN (n + 6) 19 [sv p]) (g:=fun p=>some (cv p)) (e19_9 n) hm
 | 10,_,_,hm=>exact map_at (f:=fun p=>puN (n + 6) 19 [sv p]) (g:=fun p=>some (cv p)) (e19_10 n) hm
 | 11,_,_,hm=>exact map_at (f:=fun p=>puN (n + 6) 19 [sv p]) (g:=fun p=>some (cv p)) (e19_11 n) hm
 | 12,_,_,hm=>exact map_at (f:=fun p=>puN (n + 6) 19 [sv p]) (g:=fun p=>some (cv p)) (e19_12 n) hm
 | 13,_,_,hm=>exact map_at (f:=fun p=>puN (n + 6) 19 [sv p]) (g:=fun p=>some (cv p)) (e19_13 n) hm
 | 14,_,_,hm=>exact map_at (f:=fun p=>puN (n + 6) 19 [sv p]) (g:=fun p=>some (cv p)) (e19_14 n) hm
 | 15,_,_,hm=>exact map_at (f:=fun p=>puN (n + 6) 19 [sv p]) (g:=fun p=>some (cv p)) (e19_15 n) hm
 | 16,_,_,hm=>exact map_at (f:=fun p=>puN (n + 6) 19 [sv p]) (g:=fun p=>some (cv p)) (e19_16 n) hm
 | 17,_,_,hm=>exact map_at (f:=fun p=>puN (n + 6) 19 [sv p]) (g:=fun p=>some (cv p)) (e19_17 n) hm
 | 18,_,_,hm=>exact map_at (f:=fun p=>puN (n + 6) 19 [sv p]) (g:=fun p=>some (cv p)) (e19_18 n) hm
 | 19,_,_,hm=>exact map_at (f:=fun p=>puN (n + 6) 19 [sv p]) (g:=fun p=>some (cv p)) (e19_19 n) hm
 | 20,_,_,hm=>exact map_at (f:=fun p=>puN (n + 6) 19 [sv p]) (g:=fun p=>some (cv p)) (e19_20 n) hm
 | 21,_,_,hm=>exact map_at (f:=fun p=>puN (n + 6) 19 [sv p]) (g:=fun p=>some (cv p)) (e19_21 n) hm
 | k + 22,_,h2,_=>omega
theorem P20 (n:Nat) {p:List Nat} (h:okP 21 p = true):puN (n + 6) 20 [cv p] = some (cv (rnd p)):=by
 obtain ⟨k,h1,h2,hs,hm⟩:=in_pts h
 clear hs
 match k,h1,h2,hm with
 | 1,_,_,hm=>exact map_at (f:=fun p=>puN (n + 6) 20 [cv p]) (g:=fun p=>some (cv (rnd p))) (e20_1 n) hm
 | 2,_,_,hm=>exact map_at (f:=fun p=>puN (n + 6) 20 [cv p]) (g:=fun p=>some (cv (rnd p))) (e20_2 n) hm
 | 3,_,_,hm=>exact map_at (f:=fun p=>puN (n + 6) 20 [cv p]) (g:=fun p=>some (cv (rnd p))) (e20_3 n) hm
 | 4,_,_,hm=>exact map_at (f:=fun p=>puN (n + 6) 20 [cv p]) (g:=fun p=>some (cv (rnd p))) (e20_4 n) hm
 | 5,_,_,hm=>exact map_at (f:=fun p=>puN (n + 6) 20 [cv p]) (g:=fun p=>some (cv (rnd p))) (e20_5 n) hm
 | 6,_,_,hm=>exact map_at (f:=fun p=>puN (n + 6) 20 [cv p]) (g:=fun p=>some (cv (rnd p))) (e20_6 n) hm
 | 7,_,_,hm=>exact map_at (f:=fun p=>puN (n + 6) 20 [cv p]) (g:=fun p=>some (cv (rnd p))) (e20_7 n) hm
 | 8,_,_,hm=>exact map_at (f:=fun p=>puN (n + 6) 20 [cv p]) (g:=fun p=>some (cv (rnd p))) (e20_8 n) hm
 | 9,_,_,hm=>exact map_at (f:=fun p=>puN (n + 6) 20 [cv p]) (g:=fun p=>some (cv (rnd p))) (e20_9 n) hm
 | 10,_,_,hm=>exact map_at (f:=fun p=>puN (n + 6) 20 [cv p]) (g:=fun p=>some (cv (rnd p))) (e20_10 n) hm
 | 11,_,_,hm=>exact map_at (f:=fun p=>puN (n + 6) 20 [cv p]) (g:=fun p=>some (cv (rnd p))) (e20_11 n) hm
 | 12,_,_,hm=>exact map_at (f:=fun p=>puN (n + 6) 20 [cv p]) (g:=fun p=>some (cv (rnd p))) (e20_12 n) hm
 | 13,_,_,hm=>exact map_at (f:=fun p=>puN (n + 6) 20 [cv p]) (g:=fun p=>some (cv (rnd p))) (e20_13 n) hm
 | 14,_,_,hm=>exact map_at (f:=fun p=>puN (n + 6) 20 [cv p]) (g:=fun p=>some (cv (rnd p))) (e20_14 n) hm
 | 15,_,_,hm=>exact map_at (f:=fun p=>puN (n + 6) 20 [cv p]) (g:=fun p=>some (cv (rnd p))) (e20_15 n) hm
 | 16,_,_,hm=>exact map_at (f:=fun p=>puN (n + 6) 20 [cv p]) (g:=fun p=>some (cv (rnd p))) (e20_16 n) hm
 | 17,_,_,hm=>exact map_at (f:=fun p=>puN (n + 6) 20 [cv p]) (g:=fun p=>some (cv (rnd p))) (e20_17 n) hm
 | 18,_,_,hm=>exact map_at (f:=fun p=>puN (n + 6) 20 [cv p]) (g:=fun p=>some (cv (rnd p))) (e20_18 n) hm
 | 19,_,_,hm=>exact map_at (f:=fun p=>puN (n + 6) 20 [cv p]) (g:=fun p=>some (cv (rnd p))) (e20_19 n) hm
 | 20,_,_,hm=>exact map_at (f:=fun p=>puN (n + 6) 20 [cv p]) (g:=fun p=>some (cv (rnd p))) (e20_20 n) hm
 | 21,_,_,hm=>exact map_at (f:=fun p=>puN (n + 6) 20 [cv p]) (g:=fun p=>some (cv (rnd p))) (e20_21 n) hm
 | k + 22,_,h2,_=>omega
theorem P21 (n:Nat) {p:List Nat} (h:okP 21 p = true):puN (n + 6) 21 [cv p] = some (sv p):=by
 obtain ⟨k,h1,h2,hs,hm⟩:=in_pts h
 clear hs
 match k,h1,h2,hm with
 | 1,_,_,hm=>exact map_at (f:=fun p=>puN (n + 6) 21 [cv p]) (g:=fun p=>some (sv p)) (e21_1 n) hm
 | 2,_,_,hm=>exact map_at (f:=fun p=>puN (n + 6) 21 [cv p]) (g:=fun p=>some (sv p)) (e21_2 n) hm
 | 3,_,_,hm=>exact map_at (f:=fun p=>puN (n + 6) 21 [cv p]) (g:=fun p=>some (sv p)) (e21_3 n) hm
 | 4,_,_,hm=>exact map_at (f:=fun p=>puN (n + 6) 21 [cv p]) (g:=fun p=>some (sv p)) (e21_4 n) hm
 | 5,_,_,hm=>exact map_at (f:=fun p=>puN (n + 6) 21 [cv p]) (g:=fun p=>some (sv p)) (e21_5 n) hm
 | 6,_,_,hm=>exact map_at (f:=fun p=>puN (n + 6) 21 [cv p]) (g:=fun p=>some (sv p)) (e21_6 n) hm
 | 7,_,_,hm=>exact map_at (f:=fun p=>puN (n + 6) 21 [cv p]) (g:=fun p=>some (sv p)) (e21_7 n) hm
 | 8,_,_,hm=>exact map_at (f:=fun p=>puN (n + 6) 21 [cv p]) (g:=fun p=>some (sv p)) (e21_8 n) hm
 | 9,_,_,hm=>exact map_at (f:=fun p=>puN (n + 6) 21 [cv p]) (g:=fun p=>some (sv p)) (e21_9 n) hm
 | 10,_,_,hm=>exact map_at (f:=fun p=>puN (n + 6) 21 [cv p]) (g:=fun p=>some (sv p)) (e21_10 n) hm
 | 11,_,_,hm=>exact map_at (f:=fun p=>puN (n + 6) 21 [cv p]) (g:=fun p=>some (sv p)) (e21_11 n) hm
 | 12,_,_,hm=>exact map_at (f:=fun p=>puN (n + 6) 21 [cv p]) (g:=fun p=>some (sv p)) (e21_12 n) hm
 | 13,_,_,hm=>exact map_at (f:=fun p=>puN (n + 6) 21 [cv p]) (g:=fun p=>some (sv p)) (e21_13 n) hm
 | 14,_,_,hm=>exact map_at (f:=fun p=>puN (n + 6) 21 [cv p]) (g:=fun p=>some (sv p)) (e21_14 n) hm
 | 15,_,_,hm=>exact map_at (f:=fun p=>puN (n + 6) 21 [cv p]) (g:=fun p=>some (sv p)) (e21_15 n) hm
 | 16,_,_,hm=>exact map_at (f:=fun p=>puN (n + 6) 21 [cv p]) (g:=fun p=>some (sv p)) (e21_16 n) hm
 | 17,_,_,hm=>exact map_at (f:=fun p=>puN (n + 6) 21 [cv p]) (g:=fun p=>some (sv p)) (e21_17 n) hm
 | 18,_,_,hm=>exact map_at (f:=fun p=>puN (n + 6) 21 [cv p]) (g:=fun p=>some (sv p)) (e21_18 n) hm
 | 19,_,_,hm=>exact map_at (f:=fun p=>puN (n + 6) 21 [cv p]) (g:=fun p=>some (sv p)) (e21_19 n) hm
 | 20,_,_,hm=>exact map_at (f:=fun p=>puN (n + 6) 21 [cv p]) (g:=fun p=>some (sv p)) (e21_20 n) hm
 | 21,_,_,hm=>exact map_at (f:=fun p=>puN (n + 6) 21 [cv p]) (g:=fun p=>some (sv p)) (e21_21 n) hm
 | k + 22,_,h2,_=>omega
theorem P23 (n:Nat) {p:List Nat} (h:okP 21 p = true):puN (n + 6) 23 [cv p] = some (.bool (ret p)):=by
 obtain ⟨k,h1,h2,hs,hm⟩:=in_pts h
 clear hs
 match k,h1,h2,hm with
 | 1,_,_,hm=>exact map_at (f:=fun p=>puN (n + 6) 23 [cv p]) (g:=fun p=>some (.bool (ret p))) (e23_1 n) hm
 | 2,_,_,hm=>exact map_at (f:=fun p=>puN (n + 6) 23 [cv p]) (g:=fun p=>some (.bool (ret p))) (e23_2 n) hm
 | 3,_,_,hm=>exact map_at (f:=fun p=>puN (n + 6) 23 [cv p]) (g:=fun p=>some (.bool (ret p))) (e23_3 n) hm
 | 4,_,_,hm=>exact map_at (f:=fun p=>puN (n + 6) 23 [cv p]) (g:=fun p=>some (.bool (ret p))) (e23_4 n) hm
 | 5,_,_,hm=>exact map_at (f:=fun p=>puN (n + 6) 23 [cv p]) (g:=fun p=>some (.bool (ret p))) (e23_5 n) hm
 | 6,_,_,hm=>exact map_at (f:=fun p=>puN (n + 6) 23 [cv p]) (g:=fun p=>some (.bool (ret p))) (e23_6 n) hm
 | 7,_,_,hm=>exact map_at (f:=fun p=>puN (n + 6) 23 [cv p]) (g:=fun p=>some (.bool (ret p))) (e23_7 n) hm
 | 8,_,_,hm=>exact map_at (f:=fun p=>puN (n + 6) 23 [cv p]) (g:=fun p=>some (.bool (ret p))) (e23_8 n) hm
 | 9,_,_,hm=>exact map_at (f:=fun p=>puN (n + 6) 23 [cv p]) (g:=fun p=>some (.bool (ret p))) (e23_9 n) hm
 | 10,_,_,hm=>exact map_at (f:=fun p=>puN (n + 6) 23 [cv p]) (g:=fun p=>some (.bool (ret p))) (e23_10 n) hm
 | 11,_,_,hm=>exact map_at (f:=fun p=>puN (n + 6) 23 [cv p]) (g:=fun p=>some (.bool (ret p))) (e23_11 n) hm
 | 12,_,_,hm=>exact map_at (f:=fun p=>puN (n + 6) 23 [cv p]) (g:=fun p=>some (.bool (ret p))) (e23_12 n) hm
 | 13,_,_,hm=>exact map_at (f:=fun p=>puN (n + 6) 23 [cv p]) (g:=fun p=>some (.bool (ret p))) (e23_13 n) hm
 | 14,_,_,hm=>exact map_at (f:=fun p=>puN (n + 6) 23 [cv p]) (g:=fun p=>some (.bool (ret p))) (e23_14 n) hm
 | 15,_,_,hm=>exact map_at (f:=fun p=>puN (n + 6) 23 [cv p]) (g:=fun p=>some (.bool (ret p))) (e23_15 n) hm
 | 16,_,_,hm=>exact map_at (f:=fun p=>puN (n + 6) 23 [cv p]) (g:=fun p=>some (.bool (ret p))) (e23_16 n) hm
 | 17,_,_,hm=>exact map_at (f:=fun p=>puN (n + 6) 23 [cv p]) (g:=fun p=>some (.bool (ret p))) (e23_17 n) hm
 | 18,_,_,hm=>exact map_at (f:=fun p=>puN (n + 6) 23 [cv p]) (g:=fun p=>some (.bool (ret p))) (e23_18 n) hm
 | 19,_,_,hm=>exact map_at (f:=fun p=>puN (n + 6) 23 [cv p]) (g:=fun p=>some (.bool (ret p))) (e23_19 n) hm
 | 20,_,_,hm=>exact map_at (f:=fun p=>puN (n + 6) 23 [cv p]) (g:=fun p=>some (.bool (ret p))) (e23_20 n) hm
 | 21,_,_,hm=>exact map_at (f:=fun p=>puN (n + 6) 23 [cv p]) (g:=fun p=>some (.bool (ret p))) (e23_21 n) hm
 | k + 22,_,h2,_=>omega
theorem P25 (n:Nat) {p:List Nat} (h:okP 21 p = true):puN (n + 6) 25 [cv p] = some (.int .i64 (.ofNat (sumL p))):=by
 obtain ⟨k,h1,h2,hs,hm⟩:=in_pts h
 clear hs
 match k,h1,h2,hm with
 | 1,_,_,hm=>exact map_at (f:=fun p=>puN (n + 6) 25 [cv p]) (g:=fun p=>some (.int .i64 (.ofNat (sumL p)))) (e25_1 n) hm
 | 2,_,_,hm=>exact map_at (f:=fun p=>puN (n + 6) 25 [cv p]) (g:=fun p=>some (.int .i64 (.ofNat (sumL p)))) (e25_2 n) hm
 | 3,_,_,hm=>exact map_at (f:=fun p=>puN (n + 6) 25 [cv p]) (g:=fun p=>some (.int .i64 (.ofNat (sumL p)))) (e25_3 n) hm
 | 4,_,_,hm=>exact map_at (f:=fun p=>puN (n + 6) 25 [cv p]) (g:=fun p=>some (.int .i64 (.ofNat (sumL p)))) (e25_4 n) hm
 | 5,_,_,hm=>exact map_at (f:=fun p=>puN (n + 6) 25 [cv p]) (g:=fun p=>some (.int .i64 (.ofNat (sumL p)))) (e25_5 n) hm
 | 6,_,_,hm=>exact map_at (f:=fun p=>puN (n + 6) 25 [cv p]) (g:=fun p=>some (.int .i64 (.ofNat (sumL p)))) (e25_6 n) hm
 | 7,_,_,hm=>exact map_at (f:=fun p=>puN (n + 6) 25 [cv p]) (g:=fun p=>some (.int .i64 (.ofNat (sumL p)))) (e25_7 n) hm
 | 8,_,_,hm=>exact map_at (f:=fun p=>puN (n + 6) 25 [cv p]) (g:=fun p=>some (.int .i64 (.ofNat (sumL p)))) (e25_8 n) hm
 | 9,_,_,hm=>exact map_at (f:=fun p=>puN (n + 6) 25 [cv p]) (g:=fun p=>some (.int .i64 (.ofNat (sumL p)))) (e25_9 n) hm
 | 10,_,_,hm=>exact map_at (f:=fun p=>puN (n + 6) 25 [cv p]) (g:=fun p=>some (.int .i64 (.ofNat (sumL p)))) (e25_10 n) hm
 | 11,_,_,hm=>exact map_at (f:=fun p=>puN (n + 6) 25 [cv p]) (g:=fun p=>some (.int .i64 (.ofNat (sumL p)))) (e25_11 n) hm
 | 12,_,_,hm=>exact map_at (f:=fun p=>puN (n + 6) 25 [cv p]) (g:=fun p=>some (.int .i64 (.ofNat (sumL p)))) (e25_12 n) hm
 | 13,_,_,hm=>exact map_at (f:=fun p=>puN (n + 6) 25 [cv p]) (g:=fun p=>some (.int .i64 (.ofNat (sumL p)))) (e25_13 n) hm
 | 14,_,_,hm=>exact map_at (f:=fun p=>puN (n + 6) 25 [cv p]) (g:=fun p=>some (.int .i64 (.ofNat (sumL p)))) (e25_14 n) hm
 | 15,_,_,hm=>exact map_at (f:=fun p=>puN (n + 6) 25 [cv p]) (g:=fun p=>some (.int .i64 (.ofNat (sumL p)))) (e25_15 n) hm
 | 16,_,_,hm=>exact map_at (f:=fun p=>puN (n + 6) 25 [cv p]) (g:=fun p=>some (.int .i64 (.ofNat (sumL p)))) (e25_16 n) hm
 | 17,_,_,hm=>exact map_at (f:=fun p=>puN (n + 6) 25 [cv p]) (g:=fun p=>some (.int .i64 (.ofNat (sumL p)))) (e25_17 n) hm
 | 18,_,_,hm=>exact map_at (f:=fun p=>puN (n + 6) 25 [cv p]) (g:=fun p=>some (.int .i64 (.ofNat (sumL p)))) (e25_18 n) hm
 | 19,_,_,hm=>exact map_at (f:=fun p=>puN (n + 6) 25 [cv p]) (g:=fun p=>some (.int .i64 (.ofNat (sumL p)))) (e25_19 n) hm
 | 20,_,_,hm=>exact map_at (f:=fun p=>puN (n + 6) 25 [cv p]) (g:=fun p=>some (.int .i64 (.ofNat (sumL p)))) (e25_20 n) hm
 | 21,_,_,hm=>exact map_at (f:=fun p=>puN (n + 6) 25 [cv p]) (g:=fun p=>some (.int .i64 (.ofNat (sumL p)))) (e25_21 n) hm
 | k + 22,_,h2,_=>omega
theorem Pseen {p:List Nat} (h:okP 21 p = true):seen p = true:=by
 obtain ⟨k,h1,h2,hs,hm⟩:=in_pts h
 clear hs
 match k,h1,h2,hm with
 | 1,_,_,hm=>exact all_at seen_1 hm
 | 2,_,_,hm=>exact all_at seen_2 hm
 | 3,_,_,hm=>exact all_at seen_3 hm
 | 4,_,_,hm=>exact all_at seen_4 hm
 | 5,_,_,hm=>exact all_at seen_5 hm
 | 6,_,_,hm=>exact all_at seen_6 hm
 | 7,_,_,hm=>exact all_at seen_7 hm
 | 8,_,_,hm=>exact all_at seen_8 hm
 | 9,_,_,hm=>exact all_at seen_9 hm
 | 10,_,_,hm=>exact all_at seen_10 hm
 | 11,_,_,hm=>exact all_at seen_11 hm
 | 12,_,_,hm=>exact all_at seen_12 hm
 | 13,_,_,hm=>exact all_at seen_13 hm
 | 14,_,_,hm=>exact all_at seen_14 hm
 | 15,_,_,hm=>exact all_at seen_15 hm
 | 16,_,_,hm=>exact all_at seen_16 hm
 | 17,_,_,hm=>exact all_at seen_17 hm
 | 18,_,_,hm=>exact all_at seen_18 hm
 | 19,_,_,hm=>exact all_at seen_19 hm
 | 20,_,_,hm=>exact all_at seen_20 hm
 | 21,_,_,hm=>exact all_at seen_21 hm
 | k + 22,_,h2,_=>omega
theorem Pringa (n:Nat) {p:List Nat} (h:okP 21 p = true) (hr:ret p = true):puN (n + 9) 27 [cv p] = some (ringV p):=by
 obtain ⟨k,h1,h2,hs,hm⟩:=in_pts h
 clear hs
 match k,h1,h2,hm with
 | 1,_,_,hm=>exact map_at (f:=fun p=>puN (n + 9) 27 [cv p]) (g:=fun p=>some (ringV p)) (ringa_1 n) (in_retP hm hr)
 | 2,_,_,hm=>exact map_at (f:=fun p=>puN (n + 9) 27 [cv p]) (g:=fun p=>some (ringV p)) (ringa_2 n) (in_retP hm hr)
 | 3,_,_,hm=>exact map_at (f:=fun p=>puN (n + 9) 27 [cv p]) (g:=fun p=>some (ringV p)) (ringa_3 n) (in_retP hm hr)
 | 4,_,_,hm=>exact map_at (f:=fun p=>puN (n + 9) 27 [cv p]) (g:=fun p=>some (ringV p)) (ringa_4 n) (in_retP hm hr)
 | 5,_,_,hm=>exact map_at (f:=fun p=>puN (n + 9) 27 [cv p]) (g:=fun p=>some (ringV p)) (ringa_5 n) (in_retP hm hr)
 | 6,_,_,hm=>exact map_at (f:=fun p=>puN (n + 9) 27 [cv p]) (g:=fun p=>some (ringV p)) (ringa_6 n) (in_retP hm hr)
 | 7,_,_,hm=>exact map_at (f:=fun p=>puN (n + 9) 27 [cv p]) (g:=fun p=>some (ringV p)) (ringa_7 n) (in_retP hm hr)
 | 8,_,_,hm=>exact map_at (f:=fun p=>puN (n + 9) 27 [cv p]) (g:=fun p=>some (ringV p)) (ringa_8 n) (in_retP hm hr)
 | 9,_,_,hm=>exact map_at (f:=fun p=>puN (n + 9) 27 [cv p]) (g:=fun p=>some (ringV p)) (ringa_9 n) (in_retP hm hr)
 | 10,_,_,hm=>exact map_at (f:=fun p=>puN (n + 9) 27 [cv p]) (g:=fun p=>some (ringV p)) (ringa_10 n) (in_retP hm hr)
 | 11,_,_,hm=>exact map_at (f:=fun p=>puN (n + 9) 27 [cv p]) (g:=fun p=>some (ringV p)) (ringa_11 n) (in_retP hm hr)
 | 12,_,_,hm=>exact map_at (f:=fun p=>puN (n + 9) 27 [cv p]) (g:=fun p=>some (ringV p)) (ringa_12 n) (in_retP hm hr)
 | 13,_,_,hm=>exact map_at (f:=fun p=>puN (n + 9) 27 [cv p]) (g:=fun p=>some (ringV p)) (ringa_13 n) (in_retP hm hr)
 | 14,_,_,hm=>exact map_at (f:=fun p=>puN (n + 9) 27 [cv p]) (g:=fun p=>some (ringV p)) (ringa_14 n) (in_retP hm hr)
 | 15,_,_,hm=>exact map_at (f:=fun p=>puN (n + 9) 27 [cv p]) (g:=fun p=>some (ringV p)) (ringa_15 n) (in_retP hm hr)
 | 16,_,_,hm=>exact map_at (f:=fun p=>puN (n + 9) 27 [cv p]) (g:=fun p=>some (ringV p)) (ringa_16 n) (in_retP hm hr)
 | 17,_,_,hm=>exact map_at (f:=fun p=>puN (n + 9) 27 [cv p]) (g:=fun p=>some (ringV p)) (ringa_17 n) (in_retP hm hr)
 | 18,_,_,hm=>exact map_at (f:=fun p=>puN (n + 9) 27 [cv p]) (g:=fun p=>some (ringV p)) (ringa_18 n) (in_retP hm hr)
 | 19,_,_,hm=>exact map_at (f:=fun p=>puN (n + 9) 27 [cv p]) (g:=fun p=>some (ringV p)) (ringa_19 n) (in_retP hm hr)
 | 20,_,_,hm=>exact map_at (f:=fun p=>puN (n + 9) 27 [cv p]) (g:=fun p=>some (ringV p)) (ringa_20 n) (in_retP hm hr)
 | 21,_,_,hm=>exact map_at (f:=fun p=>puN (n + 9) 27 [cv p]) (g:=fun p=>some (ringV p)) (ringa_21 n) (in_retP hm hr)
 | k + 22,_,h2,_=>omega
theorem PseenR {p:List Nat} (h:okP 21 p = true) (hr:ret p = true):seenR p = true:=by
 obtain ⟨k,h1,h2,hs,hm⟩:=in_pts h
 clear hs
 match k,h1,h2,hm with
 | 1,_,_,hm=>exact all_at seer_1 (in_retP hm hr)
 | 2,_,_,hm=>exact all_at seer_2 (in_retP hm hr)
 | 3,_,_,hm=>exact all_at seer_3 (in_retP hm hr)
 | 4,_,_,hm=>exact all_at seer_4 (in_retP hm hr)
 | 5,_,_,hm=>exact all_at seer_5 (in_retP hm hr)
 | 6,_,_,hm=>exact all_at seer_6 (in_retP hm hr)
 | 7,_,_,hm=>exact all_at seer_7 (in_retP hm hr)
 | 8,_,_,hm=>exact all_at seer_8 (in_retP hm hr)
 | 9,_,_,hm=>exact all_at seer_9 (in_retP hm hr)
 | 10,_,_,hm=>exact all_at seer_10 (in_retP hm hr)
 | 11,_,_,hm=>exact all_at seer_11 (in_retP hm hr)
 | 12,_,_,hm=>exact all_at seer_12 (in_retP hm hr)
 | 13,_,_,hm=>exact all_at seer_13 (in_retP hm hr)
 | 14,_,_,hm=>exact all_at seer_14 (in_retP hm hr)
 | 15,_,_,hm=>exact all_at seer_15 (in_retP hm hr)
 | 16,_,_,hm=>exact all_at seer_16 (in_retP hm hr)
 | 17,_,_,hm=>exact all_at seer_17 (in_retP hm hr)
 | 18,_,_,hm=>exact all_at seer_18 (in_retP hm hr)
 | 19,_,_,hm=>exact all_at seer_19 (in_retP hm hr)
 | 20,_,_,hm=>exact all_at seer_20 (in_retP hm hr)
 | 21,_,_,hm=>exact all_at seer_21 (in_retP hm hr)
 | k + 22,_,h2,_=>omega
end Go.HpYM
set_option maxRecDepth 100000
namespace Go.HpYM
open Go.Sp Go.HpY Go.HpT
theorem iL_eq (p:List Nat):iL p = (nI p).map I:=by
 unfold iL nI;rw [mapL_eq,List.map_map];rfl
theorem sv_eq (p:List Nat):sv p = Sl.v 1 (sl 0 (nI p)):=by
 unfold sv sl;rw [iL_eq,len_eq,nI_len]
theorem ne_t {x:Int} (h:x ≠ 0):nt (ieq x 0) = true:=by simp [ieq_eq,h]
theorem eqP_eq : ∀ (a b : List Nat), eqP a b = true → a = b
 | [], b, h => by
  have h:nilL b = true:=h
  cases b with
  | nil=>rfl
  | cons x r=>cases h
 | x :: a, b, h => by
  have h:ll b false (fun y r=>an (Nat.beq x y) (eqP a r)) = true:=h
  cases b with
  | nil=>cases h
  | cons y r =>
   obtain ⟨h1,h2⟩:=an_inv (show an (Nat.beq x y) (eqP a r) = true from h)
   rw [Nat.eq_of_beq_eq_true h1,eqP_eq a r h2]
theorem seen_ok {p:List Nat} (h:okP 21 p = true):okP 21 (rnd p) = true∧sumL (rnd p) = sumL p∧comes 60 p = true∧(ret p = true→ret (rnd p) = true∧iter (stair (sumL p) + 1) p = p):=by
 obtain ⟨h1,h2⟩:=an_inv (show an (okP 21 (rnd p)) (an (Nat.beq (sumL (rnd p)) (sumL p)) (an (comes 60 p) (bb (ret p) (an (ret (rnd p)) (eqP (iter (stair (sumL p) + 1) p) p)) true))) = true from Pseen h)
 obtain ⟨h2,h3⟩:=an_inv h2
 obtain ⟨h3,h4⟩:=an_inv h3
 refine ⟨h1,Nat.eq_of_beq_eq_true h2,h3,fun hr=>?_⟩
 rw [hr,bb_true] at h4
 obtain ⟨h4,h5⟩:=an_inv h4
 exact ⟨h4,eqP_eq _ _ h5⟩
theorem iter_s (n:Nat) (p:List Nat):iter (n + 1) p = iter n (rnd p):=rfl
theorem iter_0 (p:List Nat):iter 0 p = p:=rfl
theorem iter_add : ∀ (a b : Nat) (p : List Nat), iter (a + b) p = iter b (iter a p)
 | 0,b,p=>by rw [Nat.zero_add,iter_0]
 | a + 1,b,p=>by rw [show a + 1 + b = (a + b) + 1 by omega,iter_s,iter_s,iter_add a b]
theorem iter_r (n:Nat) (p:List Nat):iter (n + 1) p = rnd (iter n p):=iter_add n 1 p
theorem iter_ok : ∀ (n : Nat) {p : List Nat}, okP 21 p = true → okP 21 (iter n p) = true
 | 0,p,h=>h
 | n + 1,p,h=>by rw [iter_s];exact iter_ok n (seen_ok h).1
theorem iter_ret : ∀ (n : Nat) {p : List Nat}, okP 21 p = true → ret p = true → ret (iter n p) = true
 | 0,p,_,h=>h
 | n + 1,p,h,hr=>by rw [iter_s];exact iter_ret n (seen_ok h).1 ((seen_ok h).2.2.2 hr).1
theorem iter_mul {j : Nat} {p : List Nat} (h : iter j p = p) : ∀ k : Nat, iter (k * j) p = p
 | 0=>by rw [Nat.zero_mul,iter_0]
 | k + 1=>by rw [Nat.succ_mul,iter_add,iter_mul h k,h]
theorem iter_mod {c:Nat} {p:List Nat} (h:iter c p = p) (z:Nat):iter (z % c) p = iter z p:=by
 conv=>rhs;rw [←Nat.div_add_mod z c,iter_add,Nat.mul_comm,iter_mul h]
theorem comes_ex : ∀ (f : Nat) {p : List Nat}, comes f p = true → ∃ m, ret (iter m p) = true
 | 0,p,h=>⟨0,h⟩
 | f + 1, p, h => by
  have h:bb (ret p) true (comes f (rnd p)) = true:=h
  cases hr:ret p with
  | true=>exact ⟨0,hr⟩
  | false =>
   rw [hr,bb_false] at h
   obtain ⟨m,hm⟩:=comes_ex f h
   exact ⟨m + 1,hm⟩
theorem no_back {p:List Nat} (h:okP 21 p = true) (hr:ret p = false) (j:Nat) (hj:1≤j):iter j p ≠ p:=fun e=>by
 obtain ⟨m,hm⟩:=comes_ex 60 (seen_ok h).2.2.1
 have h1:=iter_mul e m
 have h2:m * j = m + (m * j - m):=by
  have:=Nat.mul_le_mul_left m hj
  omega
 rw [h2,iter_add] at h1
 have h3:=iter_ret (m * j - m) (iter_ok m h) hm
 rw [h1,hr] at h3;cases h3
theorem len_isPt : ∀ (p : List Nat) (left most : Nat), isPt p left most = true → p.length ≤ left
 | [],_,_,_=>Nat.zero_le _
 | a :: p, left, most, h => by
  obtain ⟨h1,h2⟩:=an_inv (show an (Nat.ble 1 a) (an (Nat.ble a most) (an (Nat.ble a left) (isPt p (left - a) a))) = true from h)
  obtain ⟨_,h3⟩:=an_inv h2
  obtain ⟨h3,h4⟩:=an_inv h3
  have:=len_isPt p _ _ h4
  have:=Nat.le_of_ble_eq_true h1
  have:=Nat.le_of_ble_eq_true h3
  rw [List.length_cons];omega
theorem ok_sum {p:List Nat} (h:okP 21 p = true):1≤sumL p∧sumL p≤21:=by
 obtain ⟨h1,h2⟩:=an_inv (show an (Nat.ble 1 (sumL p)) (an (Nat.ble (sumL p) 21) (isPt p (sumL p) (sumL p))) = true from h)
 exact ⟨Nat.le_of_ble_eq_true h1,Nat.le_of_ble_eq_true (an_inv h2).1⟩
theorem ok_len {p:List Nat} (h:okP 21 p = true):p.length≤21:=by
 obtain ⟨h1,h2⟩:=an_inv (show an (Nat.ble 1 (sumL p)) (an (Nat.ble (sumL p) 21) (isPt p (sumL p) (sumL p))) = true from h)
 obtain ⟨h2,h3⟩:=an_inv h2
 exact Nat.le_trans (len_isPt p _ _ h3) (Nat.le_of_ble_eq_true h2)
theorem mem_rng : ∀ (n m : Nat), m < n → m ∈ rngT n
 | n + 1, m, h => by
  show m ∈ appL (rngT n) [n]
  rw [appL_eq,List.mem_append]
  by_cases e:m = n
  ·right;simp [e]
  ·left;exact mem_rng n m (by omega)
theorem P24 (n m:Nat) (h:m≤21):puN (n + 6) 24 [I (Int.ofNat m)] = some (.tuple ⟨[I (Int.ofNat (stair m)),I (Int.ofNat (left m))]⟩):=by
 have e:=stair_all n
 rw [mapL_eq,mapL_eq] at e
 exact List.map_inj_left.1 e m (mem_rng 22 m (by omega))
theorem stair_all6:allL (fun k=>Nat.ble (stair k) 6) (rngT 22) = true:=by kernel_rfl
theorem stair_le (m:Nat) (h:m≤21):stair m≤6:=by
 have e:=stair_all6
 rw [allL_eq,List.all_eq_true] at e
 exact Nat.le_of_ble_eq_true (e m (mem_rng 22 m (by omega)))
theorem wrapZ (z:Nat) (h:z≤1000000000) (h1:1≤z):wrapF .i64 (Int.sub (Int.ofNat z) 1) = Int.ofNat (z - 1):=by
 have e:Int.sub (Int.ofNat z) 1 = Int.ofNat (z - 1):=by show (z:Int) - 1 = ((z - 1:Nat):Int);omega
 rw [e]
 exact wrapI _ (by simp only [Int.ofNat_eq_natCast];omega) (by simp only [Int.ofNat_eq_natCast];omega)
noncomputable def fin (p:List Nat):Option Value:=some (.tuple ⟨[sv p,I 0]⟩)
theorem cv1 (p:List Nat):allL closed1 (cvl p) = true:=by kernel_rfl
theorem cv2 (p:List Nat):setL (cvl p) 0 zA46 = cvl p:=by kernel_rfl
theorem cv3 (p:List Nat):takeL 22 (dropL 0 (cvl p)) = cvl p:=by kernel_rfl
theorem cv4 (p:List Nat):allL closed2 [.agg ⟨cvl p⟩] = true:=by kernel_rfl
theorem cv5 (p:List Nat):Nat.ble (0 + 22) (len (cvl p)) = true:=by kernel_rfl
theorem cv6 (p:List Nat):an (Nat.beq (len (cvl p)) 22) (allL closed1 (cvl p)) = true:=by kernel_rfl
theorem cv7 (p:List Nat):Nat.beq (len (cvl p)) 22 = true:=by kernel_rfl
theorem cv8 (p:List Nat):an (Nat.ble (0 + len (cvl p)) (len zA46)) (allL scalarB (cvl p)) = true:=by kernel_rfl
theorem cv9 (p q:List Nat):setL (cvl q) 0 (cvl p) = cvl q:=by kernel_rfl
theorem cv10 (p q:List Nat):an (Nat.ble (0 + len (cvl q)) (len (cvl p))) (allL scalarB (cvl q)) = true:=by kernel_rfl
theorem svE (p:List Nat):Sl.mk (sl 0 (nI p)).n 0 (takeL ((sl 0 (nI p)).n * 1) (dropL 0 (sl 0 (nI p)).cs)) = sl 0 (nI p):=by
 have t:=takeI (nI p)
 rw [sl_n,sl_cs,t];rfl
theorem svW (p:List Nat):an (Nat.ble (0 + (sl 0 (nI p)).n * 1) (len (sl 0 (nI p)).cs)) (allL closed1 (takeL ((sl 0 (nI p)).n * 1) (dropL 0 (sl 0 (nI p)).cs))) = true:=wholeI (nI p)
theorem svC (p:List Nat):allL closed1 (sl 0 (nI p)).cs = true:=clI (nI p)
noncomputable def nilE (e:Int):Option Value:=some (.tuple ⟨[Sl.v 1 ⟨0,2,[]⟩,I e]⟩)
theorem p5 (n:Nat) {p:List Nat} (hp:okP 21 p = true) (e18:puN (n + 6) 18 [sv p] = some (I 0)):puN (n + 7) 5 [sv p] = fin (rnd p):=by
 have e1:=P19 n hp
 have e2:=P20 n hp
 have e3:=P21 n (seen_ok hp).1
 rw [sv_eq] at e18 e1 e3 ⊢
 unfold cv at e1 e2 e3
 refine Eq.trans (b:=m5_ (puN (n + 6)) 1000000 (sl 0 (nI p))) (by kernel_rfl) ?_
 unfold m5_
 rw [e18,oo_some,toI_mk,oo_some,show nt (ieq (0:Int) 0) = false from rfl,bb_false,e1,oo_some,vAgg_mk,oo_some,cv6,bb_true,e2,oo_some,vAgg_mk,oo_some,cv6,bb_true,cv4,bb_true,e3,oo_some,toSl_mk,oo_some,cv4,bb_true,svC,bb_true,svW,bb_true,svE]
 unfold fin;rw [sv_eq]
theorem m9_2p (n z:Nat) (hz:z≤1000000000) (h1:1≤z) {p:List Nat} (hp:okP 21 p = true) (ih:Int→List Value→Option Value):m9_2 (puN (n + 8)) 1000000 ih (Int.ofNat z) (cvl p) = ih (Int.ofNat (z - 1)) (cvl (rnd p)):=by
 have e:=P20 (n + 2) hp
 unfold cv at e
 unfold m9_2
 rw [cv5,bb_true,cv3,e,oo_some,vAgg_mk,oo_some,cv6,bb_true,cv4,bb_true,cv7,bb_true,cv10,bb_true,cv9,cv1,bb_true,wrapZ z hz h1]
theorem m9_0p (n:Nat) {p:List Nat} (hp:okP 21 p = true):m9_0 (puN (n + 8)) 1000000 (cvl p) = fin p:=by
 have e:=P21 (n + 2) hp
 rw [sv_eq] at e
 unfold cv at e
 unfold m9_0
 rw [cv5,bb_true,cv3,e,oo_some,toSl_mk,oo_some,cv4,bb_true,svC,bb_true,svW,bb_true,svE]
 unfold fin;rw [sv_eq]
theorem b9p (n f z : Nat) (hz : z ≤ 1000000000) {p : List Nat} (hp : okP 21 p = true) : l9_1 (puN (n + 8)) 1000000 (f + 1) (Int.ofNat z) (cvl p) =
 if z = 0 then fin p else l9_1 (puN (n + 8)) 1000000 f (Int.ofNat (if ret p then (z - 1) % (stair (sumL p) + 1) else z - 1)) (cvl (rnd p)):=by
 show b9_1 (puN (n + 8)) 1000000 (l9_1 (puN (n + 8)) 1000000 f) _ _ = _
 unfold b9_1
 rw [cv1,bb_true]
 by_cases h0:z = 0
 ·subst h0
  rw [if_pos rfl,show ilt 0 (Int.ofNat 0) = false from rfl,bb_false]
  exact m9_0p n hp
 ·have e1 := P23 (n + 2) hp
  unfold cv at e1
  rw [if_neg h0,show ilt 0 (Int.ofNat z) = true from lt_true (a:=0) (by omega),bb_true,cv5,bb_true,cv3,e1,oo_some,vBool_mk,oo_some,cv4,bb_true]
  cases hr:ret p with
  | false =>
   rw [bb_false,m9_2p n z hz (by omega) hp];rfl
  | true =>
   have hs:=(ok_sum hp).2
   have e2:=P25 (n + 2) hp
   have e3:=P24 (n + 2) (sumL p) hs
   have hk:=stair_le (sumL p) hs
   unfold cv at e2
   have ea:wrapF .i64 (Int.add (Int.ofNat (stair (sumL p))) 1) = Int.ofNat (stair (sumL p) + 1):=wrapS _ (by omega)
   have hne:nt (ieq (Int.ofNat (stair (sumL p) + 1)) 0) = true:=ne_t (by simp only [Int.ofNat_eq_natCast];omega)
   have hmod:Int.tmod (Int.ofNat (z - 1)) (Int.ofNat (stair (sumL p) + 1)) = Int.ofNat ((z - 1) % (stair (sumL p) + 1)):=(Int.ofNat_tmod _ _).symm
   have hlt:(z - 1) % (stair (sumL p) + 1) < stair (sumL p) + 1:=Nat.mod_lt _ (by omega)
   rw [bb_true,e2]
   simp only [oo_some,toI_mk]
   rw [bb_true,e3]
   simp only [oo_some,vTup_mk,ll_cons',ll_nil',toI_mk]
   rw [ea,hne,bb_true,wrapZ z hz (by omega),hmod,wrapS _ (by omega),m9_2p n _ (by omega) (by omega) hp,Nat.add_sub_cancel];rfl
theorem l9r (n:Nat):∀ (f z:Nat) (p:List Nat),okP 21 p = true→ret p = true→z≤stair (sumL p) + 1→z < f→l9_1 (puN (n + 8)) 1000000 f (Int.ofNat z) (cvl p) = fin (iter z p):=by
 intro f
 induction f with
 | zero=>intro z p _ _ _ h;omega
 | succ f ih =>
  intro z p hp hr hz hf
  have hk:=stair_le (sumL p) (ok_sum hp).2
  obtain ⟨s1,s2,_,s4⟩:=seen_ok hp
  rw [b9p n f z (by omega) hp]
  by_cases h0:z = 0
  ·subst h0;rw [if_pos rfl,iter_0]
  ·have hm : (z - 1) % (stair (sumL p) + 1) = z - 1 := Nat.mod_eq_of_lt (by omega)
   rw [if_neg h0,hr,if_pos rfl,hm,ih (z - 1) (rnd p) s1 (s4 hr).1 (by rw [s2];omega) (by omega)]
   conv=>rhs;rw [show z = (z - 1) + 1 by omega,iter_s]
theorem l9 (n:Nat):∀ (f m z:Nat) (p:List Nat),m + 30 < f→z≤1000000000→okP 21 p = true→comes m p = true→l9_1 (puN (n + 8)) 1000000 f (Int.ofNat z) (cvl p) = fin (iter z p):=by
 intro f
 induction f with
 | zero=>intro m z p h;omega
 | succ f ih =>
  intro m z p hf hz hp hc
  have hk:=stair_le (sumL p) (ok_sum hp).2
  obtain ⟨s1,s2,_,s4⟩:=seen_ok hp
  rw [b9p n f z hz hp]
  by_cases h0:z = 0
  ·subst h0;rw [if_pos rfl,iter_0]
  ·rw [if_neg h0]
   cases hr:ret p with
   | true =>
    have hlt:(z - 1) % (stair (sumL p) + 1) < stair (sumL p) + 1:=Nat.mod_lt _ (by omega)
    obtain ⟨r1,r2⟩:=s4 hr
    have r3:=((seen_ok s1).2.2.2 r1).2
    rw [s2] at r3
    rw [if_pos rfl,l9r n f _ (rnd p) s1 r1 (by rw [s2];omega) (by omega),iter_mod r3]
    conv=>rhs;rw [show z = (z - 1) + 1 by omega,iter_s]
   | false =>
    cases m with
    | zero=>rw [show comes 0 p = ret p from rfl,hr] at hc;cases hc
    | succ m =>
     have hc:bb (ret p) true (comes m (rnd p)) = true:=hc
     rw [hr,bb_false] at hc
     rw [if_neg (by simp),ih m (z - 1) (rnd p) (by omega) (by omega) s1 hc]
     conv=>rhs;rw [show z = (z - 1) + 1 by omega,iter_s]
noncomputable def aft (p:List Nat) (z:Int):Option Value:=@ite _ (0≤z∧z≤1000000000) (Classical.propDecidable _) (fin (iter z.toNat p)) (nilE 1)
theorem rng_d (z:Int):(decide (0≤z) && decide (z≤1000000000)) = true↔(0≤z∧z≤1000000000):=by
 rw [Bool.and_eq_true,decide_eq_true_eq,decide_eq_true_eq]
theorem p9 (n:Nat) {p:List Nat} (hp:okP 21 p = true) (z:Int) (e18:puN (n + 8) 18 [sv p] = some (I 0)):puN (n + 9) 9 [sv p,I z] = aft p z:=by
 have q:=p22 (n + 7) 0 z 1000000000
 have e1:=P19 (n + 2) hp
 rw [sv_eq] at e18 e1 ⊢
 unfold cv at e1
 refine Eq.trans (b:=m9_ (puN (n + 8)) 1000000 (sl 0 (nI p)) z) (by kernel_rfl) ?_
 unfold m9_ aft
 rw [e18,oo_some,toI_mk,oo_some,show nt (ieq (0:Int) 0) = false from rfl,bb_false,q,oo_some,vBool_mk,oo_some]
 by_cases h:0≤z∧z≤1000000000
 ·have hz : z = Int.ofNat z.toNat := by simp only [Int.ofNat_eq_natCast]; omega
  rw [(rng_d z).2 h,if_pos h,show nt true = false from rfl,bb_false,e1,oo_some,vAgg_mk,oo_some,cv6,bb_true,cv7,bb_true,cv8,bb_true,cv2,cv1,bb_true]
  have:=l9 n 1000000 60 z.toNat p (by omega) (by omega) hp (seen_ok hp).2.2.1
  rw [←hz] at this
  exact this
 ·have : (decide (0 ≤ z) && decide (z ≤ 1000000000)) = false := by rw [← Bool.not_eq_true, rng_d]; exact h
  rw [this,if_neg h,show nt false = true from rfl,bb_true];rfl
theorem zc:allL closed1 zA46 = true:=by kernel_rfl
theorem cv11 (z:Int) (p:List Nat):closedV (.tuple ⟨[.int .i64 z,.agg ⟨cvl p⟩]⟩) = true:=by kernel_rfl
theorem lev_s (m:Nat) (q:List Nat):levT (m + 1) q = bb (ret q) 0 (levT m (rnd q) + 1):=rfl
theorem lev_ret : ∀ (m : Nat) (q : List Nat), comes m q = true → ret (iter (levT m q) q) = true
 | 0,q,h=>h
 | m + 1, q, h => by
  have h:bb (ret q) true (comes m (rnd q)) = true:=h
  rw [lev_s]
  cases hr:ret q with
  | true=>rw [bb_true,iter_0];exact hr
  | false =>
   rw [hr,bb_false] at h
   rw [bb_false,iter_s]
   exact lev_ret m (rnd q) h
theorem lev_0 {q:List Nat} (hr:ret q = true):levT 60 q = 0:=by rw [lev_s,hr,bb_true]
noncomputable def unt2 (z:Nat) (q:List Nat):Option Value:=some (.tuple ⟨[I (Int.ofNat z),cv q]⟩)
theorem b26p (n f z:Nat) (hz:z < 1000) {q:List Nat} (hq:okP 21 q = true):l26_0 (puN (n + 6)) 1000000 (f + 1) (Int.ofNat z) (cvl q) zA46 = bb (ret q) (unt2 z q) (l26_0 (puN (n + 6)) 1000000 f (Int.ofNat (z + 1)) (cvl (rnd q)) zA46):=by
 have e1:=P23 n hq
 have e2:=P20 n hq
 unfold cv at e1 e2
 show b26_0 (puN (n + 6)) 1000000 (l26_0 (puN (n + 6)) 1000000 f) _ _ _ = _
 unfold b26_0
 rw [cv1,bb_true,zc,bb_true,cv5,bb_true,cv3,e1,oo_some,vBool_mk,oo_some,cv4,bb_true]
 cases ret q with
 | true =>
  rw [show nt true = false from rfl,bb_false,bb_true,bb_true,cv7,bb_true,cv8,bb_true,cv2,cv1,bb_true,cv5,bb_true,cv3,cv11,bb_true];rfl
 | false =>
  rw [show nt false = true from rfl,bb_true,bb_false,bb_true,e2,oo_some,vAgg_mk,oo_some,cv6,bb_true,bb_true,cv7,bb_true,cv10,bb_true,cv9,cv1,bb_true,wrapS z (by omega)]
theorem l26 (n:Nat):∀ (f m z:Nat) (q:List Nat),m < f→okP 21 q = true→comes m q = true→z + m≤900→l26_0 (puN (n + 6)) 1000000 f (Int.ofNat z) (cvl q) zA46 = unt2 (z + levT m q) (iter (levT m q) q):=by
 intro f
 induction f with
 | zero=>intro m z q h;omega
 | succ f ih =>
  intro m z q hf hq hc hz
  rw [b26p n f z (by omega) hq]
  cases m with
  | zero =>
   have hr:ret q = true:=hc
   rw [hr,bb_true];rfl
  | succ m =>
   have hc:bb (ret q) true (comes m (rnd q)) = true:=hc
   rw [lev_s]
   cases hr:ret q with
   | true=>rw [bb_true,bb_true,iter_0,Nat.add_zero]
   | false =>
    rw [hr,bb_false] at hc
    rw [bb_false,bb_false,ih m (z + 1) (rnd q) (by omega) (seen_ok hq).1 hc (by omega),iter_s,show z + 1 + levT m (rnd q) = z + (levT m (rnd q) + 1) by omega]
theorem p26 (n:Nat) {p:List Nat} (hp:okP 21 p = true):puN (n + 7) 26 [cv p] = unt2 (levT 60 p) (iter (levT 60 p) p):=by
 have e1:=P23 n hp
 have e2:=P20 n hp
 have hc:bb (ret p) true (comes 59 (rnd p)) = true:=(seen_ok hp).2.2.1
 unfold cv at e1 e2
 refine Eq.trans (b:=m26_ (puN (n + 6)) 1000000 (cvl p)) (by kernel_rfl) ?_
 unfold m26_
 rw [cv1,bb_true,zc,bb_true,cv5,bb_true,cv3,e1,oo_some,vBool_mk,oo_some,cv4,bb_true,lev_s]
 cases hr:ret p with
 | true =>
  rw [show nt true = false from rfl,bb_false,bb_true,bb_true,cv7,bb_true,cv8,bb_true,cv2,cv1,bb_true,cv5,bb_true,cv3,cv11,bb_true];rfl
 | false =>
  rw [hr,bb_false] at hc
  rw [show nt false = true from rfl,bb_true,bb_false,bb_true,e2,oo_some,vAgg_mk,oo_some,cv6,bb_true,bb_true,cv7,bb_true,cv10,bb_true,cv9,cv1,bb_true]
  have:=l26 n 1000000 59 1 (rnd p) (by omega) (seen_ok hp).1 hc (by omega)
  rw [iter_s,show levT 59 (rnd p) + 1 = 1 + levT 59 (rnd p) by omega]
  exact this
theorem m27_u (pu:PureF) (x q:List Nat) (l:Int) (h:pu 26 [.agg ⟨cvl x⟩] = some (.tuple ⟨[I l,.agg ⟨cvl q⟩]⟩)):m27_ pu 1000000 (cvl x) = l27_1 pu 1000000 1000000 0 0 (0:Int) (0:Int) (cvl q) ([]:List Value) (cvl q):=by
 unfold m27_
 rw [cv1,bb_true,cv5,bb_true,cv3,h]
 simp only [oo_some,vTup_mk,ll_cons',ll_nil',toI_mk,vAgg_mk]
 rw [cv6,bb_true,cv4,bb_true,cv7,bb_true,cv8,bb_true,cv2,cv1,bb_true,cv5,bb_true,cv3,cv7,bb_true,cv8,bb_true,cv2,cv1,bb_true]
theorem p27 (n:Nat) {p:List Nat} (hp:okP 21 p = true):puN (n + 9) 27 [cv p] = some (ringV (iter (levT 60 p) p)):=by
 have hq:=iter_ok (levT 60 p) hp
 have hr:=lev_ret 60 p (seen_ok hp).2.2.1
 have a:=p26 (n + 1) hp
 have b:=p26 (n + 1) hq
 have e:=Pringa n hq hr
 rw [lev_0 hr,iter_0] at b
 unfold unt2 cv at a b
 have t:∀ x,puN (n + 9) 27 [cv x] = m27_ (puN (n + 8)) 1000000 (cvl x):=fun x=>by kernel_rfl
 rw [t,m27_u _ _ _ _ b] at e
 rw [t,m27_u _ _ _ _ a,e]
end Go.HpYM
set_option maxRecDepth 100000
namespace Go.HpYM
open Go.Sp Go.HpY Go.HpT Go.HtM Go.HyM

theorem l6g (pu : PureF) (a b : List Nat) (hl : a.length = b.length) (h100 : a.length ≤ 100) : ∀ (f i : Nat), a.length - i < f → i ≤ a.length → a.take i = b.take i →
 l6_1 pu 1000000 f (sl 0 (nI a)) (sl 0 (nI b)) (Int.ofNat i) = some (.bool (decide (a = b))):=by
 intro f
 induction f with
 | zero=>intro i h;omega
 | succ f ih =>
  intro i hf hi ht
  show b6_1 pu 1000000 (l6_1 pu 1000000 f) _ _ _ = _
  unfold b6_1
  rw [sl_n,nI_len]
  by_cases hlt:i < a.length
  ·have hlb : i < b.length := by omega
   rw [lt_true hlt]
   simp only [bb_true,toN_mk,oo_some,sl_n,sl_cs,nI_len,blt_eq,hlt,hlb,decide_true,an_eq,Bool.true_and,nthL_eq,Nat.mul_one,getN a i hlt,getN b i hlb,toI_mk]
   by_cases e:a[i] = b[i]
   ·rw [e, neqr, bb_false, wrapS i (by omega)]
    exact ih (i + 1) (by omega) (by omega) (by rw [List.take_succ_eq_append_getElem hlt,List.take_succ_eq_append_getElem hlb,ht,e])
   ·have q : nt (ieq (Int.ofNat a[i]) (Int.ofNat b[i])) = true := by
     have:ieq (Int.ofNat a[i]) (Int.ofNat b[i]) = false:=by rw [ieq_eq];simp only [Int.ofNat_eq_natCast];exact decide_eq_false (by omega)
     rw [this];rfl
    have hne:a ≠ b:=fun g=>e (by subst g;rfl)
    rw [q,bb_true,decide_eq_false hne]
  ·have : i = a.length := by omega
   subst this
   rw [List.take_length,hl,List.take_length] at ht
   rw [lt_false hlt,bb_false,decide_eq_true ht];rfl
theorem p6g (n:Nat) (a b:List Nat) (h100:a.length≤100):puN (n + 1) 6 [sv a,sv b] = some (.bool (decide (a = b))):=by
 rw [sv_eq,sv_eq]
 refine Eq.trans (b:=m6_ (puN n) 1000000 (sl 0 (nI a)) (sl 0 (nI b))) (by kernel_rfl) ?_
 unfold m6_
 rw [sl_n,sl_n,nI_len,nI_len]
 by_cases hl:a.length = b.length
 ·rw [hl, neqr, bb_false]
  exact l6g (puN n) a b hl h100 1000000 0 (by omega) (by omega) rfl
 ·have q : nt (ieq (Int.ofNat a.length) (Int.ofNat b.length)) = true := by
   have:ieq (Int.ofNat a.length) (Int.ofNat b.length) = false:=by rw [ieq_eq];simp only [Int.ofNat_eq_natCast];exact decide_eq_false (by omega)
   rw [this];rfl
  have hne:a ≠ b:=fun g=>hl (by rw [g])
  rw [q,bb_true,decide_eq_false hne]

theorem m7_0p (n:Nat) (P:List Nat) (c:Nat) (hc:2≤c) (hn:P ≠ []) (hl:P.length≤100):∃ r:List Nat,r.Perm P∧r.Pairwise (fun a b=>b≤a)∧m7_0 (puN (n + 1)) 1000000 P.length c ((nI P).map I) = some (S 0 (nI r)):=by
 obtain ⟨r,hr,hp,hd⟩:=sort_rev P
 refine ⟨r,hp,hd,?_⟩
 have h0:0 < P.length:=List.length_pos_iff.2 hn
 have hz:(srtZ (nI P)).length = P.length:=by rw [(srtZ_perm _).length_eq,nI_len]
 have hrl:(nI r).length = P.length:=by rw [nI_len,hp.length_eq]
 have wh:wholeC 0 1 P.length P.length = true:=by
  unfold wholeC
  simp;omega
 have q:=p10170 n (srtZ (nI P)) (by omega) (by omega) c
 rw [hz,hr] at q
 have w:=wholeI (nI r)
 have t:=takeI (nI r)
 rw [hrl] at w t
 have hb:Nat.ble 2 c = true:=by rw [ble_eq];exact decide_eq_true hc
 unfold m7_0
 rw [mapO_I,oo_some,len_eq,List.length_map,nI_len,wh,bb_true,mapI64,show (srtZ (nI P)).map I64 = (srtZ (nI P)).map I from rfl,clI,bb_true,hb,show orr true (nilL ((srtZ (nI P)).map I)) = true from rfl,bb_true,bb_true,q]
 simp only [oo_some,vTup_mk,ll_cons',ll_nil',vAgg_mk,show isNoV (.tuple ⟨[]⟩) = true from rfl,bb_true,clI]
 rw [w,bb_true,t]
 unfold S sl
 rw [hrl]
theorem l7 (pu : PureF) (p : List Nat) (hp : ∀ a ∈ p, a ≤ 100) (hl : p.length ≤ 100) : ∀ (f i : Nat) (P : List Nat), p.length - i < f → i ≤ p.length → P.length ≤ i + 1 →
 l7_1 pu 1000000 f P.length (2 * P.length) (sl 0 (nI p)) (Int.ofNat p.length) (Int.ofNat i) ((nI P).map I) =
  m7_0 pu 1000000 (P ++ ((p.drop i).filter fun h=>decide (1 < h)).map fun h=>h - 1).length (2 * (P ++ ((p.drop i).filter fun h=>decide (1 < h)).map fun h=>h - 1).length) ((nI (P ++ ((p.drop i).filter fun h=>decide (1 < h)).map fun h=>h - 1)).map I):=by
 intro f
 induction f with
 | zero=>intro i P h;omega
 | succ f ih =>
  intro i P hf hi hP
  show b7_1 pu 1000000 (l7_1 pu 1000000 f) _ _ _ _ _ _ = _
  unfold b7_1 m7_2
  rw [clI,bb_true]
  by_cases hlt:i < p.length
  ·have hx := hp _ (List.getElem_mem hlt)
   rw [lt_true hlt,List.drop_eq_getElem_cons hlt]
   simp only [bb_true,toN_mk,oo_some,sl_n,sl_cs,nI_len,blt_eq,hlt,decide_true,an_eq,Bool.true_and,nthL_eq,Nat.mul_one,getN p i hlt,toI_mk]
   by_cases c:1 < p[i]
   ·have g1 := growG 1 8 P.length 1 ((nI P).map I) (roomyB (by omega) (by omega)) (by omega) (by rw [List.length_map, nI_len, Nat.mul_one])
    have step:=ih (i + 1) (P ++ [p[i] - 1]) (by omega) (by omega) (by simp;omega)
    rw [List.length_append,List.length_singleton] at step
    rw [show ilt 1 (Int.ofNat p[i]) = true from lt_true (a:=1) c,bb_true,wrapZ p[i] (by omega) (by omega),g1,bb_true,snocN,clI,bb_true,bb_true,wrapS i (by omega),List.filter_cons_of_pos (by simpa using c),List.map_cons]
    refine Eq.trans step ?_
    rw [List.append_assoc];rfl
   ·rw [show ilt 1 (Int.ofNat p[i]) = false from lt_false (a := 1) c, bb_false, wrapS i (by omega), List.filter_cons_of_neg (by simpa using c)]
    exact ih (i + 1) P (by omega) (by omega) (by omega)
  ·have : i = p.length := by omega
   subst this
   rw [lt_false hlt,bb_false,List.drop_length,List.filter_nil,List.map_nil,List.append_nil]
theorem p7 (n:Nat) {p:List Nat} (hp:okP 21 p = true):puN (n + 2) 7 [sv p] = some (sv (rnd p)):=by
 have H:=hp_ok hp
 have hl:=ok_len hp
 have hle:∀ a ∈ p,a≤100:=fun a ha=>by have:=H.le a ha;omega
 have q:=l7 (puN (n + 1)) p hle (by omega) 1000000 0 [p.length] (by omega) (by omega) (by simp)
 rw [List.drop_zero] at q
 have hfl:=List.length_filter_le (fun h=>decide (1 < h)) p
 obtain ⟨r,r1,r2,r3⟩:=m7_0p n ([p.length] ++ (p.filter fun h=>decide (1 < h)).map fun h=>h - 1) (2 * ([p.length] ++ (p.filter fun h=>decide (1 < h)).map fun h=>h - 1).length) (by simp only [List.length_append,List.length_singleton];omega) (by simp) (by simp;omega)
 have e:=rnd_of (seen_ok hp).1 r1 r2
 rw [r3,e] at q
 rw [sv_eq,sv_eq]
 refine Eq.trans (b:=m7_ (puN (n + 1)) 1000000 (sl 0 (nI p))) (by kernel_rfl) ?_
 unfold m7_
 rw [sl_n,nI_len]
 exact q
section
variable (pu:PureF) (h6:∀ a b:List Nat,a.length≤100→pu 6 [sv a,sv b] = some (.bool (decide (a = b)))) (h7:∀ p,okP 21 p = true→pu 7 [sv p] = some (sv (rnd p)))
include h6 h7
theorem l12f {p:List Nat} (hp:okP 21 p = true) (hr:ret p = false):∀ (f i:Nat),200 - i < f→i≤200→l12_1 pu 1000000 f (sl 0 (nI p)) (sl 0 (nI (iter (i + 1) p))) (Int.ofNat i) = some (.bool false):=by
 intro f
 induction f with
 | zero=>intro i h;omega
 | succ f ih =>
  intro i hf hi
  show b12_1 pu 1000000 (l12_1 pu 1000000 f) _ _ _ = _
  unfold b12_1
  by_cases hlt:i < 200
  ·have hq := iter_ok (i + 1) hp
   have e1:=h6 (iter (i + 1) p) p (by have:=ok_len hq;omega)
   have e2:=h7 _ hq
   rw [←iter_r] at e2
   rw [decide_eq_false (no_back hp hr (i + 1) (by omega))] at e1
   simp only [sv_eq] at e1 e2
   rw [show ilt (Int.ofNat i) 200 = true from lt_true hlt,bb_true,e1,oo_some,vBool_mk,oo_some,bb_false,e2,oo_some,toSl_mk,oo_some,wrapS i (by omega)]
   exact ih (i + 1) (by omega) (by omega)
  ·have : i = 200 := by omega
   subst this;rfl
theorem l12t {p:List Nat} (hp:okP 21 p = true) {k:Nat} (hk:iter k p = p) (h200:k≤200):∀ (f i:Nat),200 - i < f→i < k→l12_1 pu 1000000 f (sl 0 (nI p)) (sl 0 (nI (iter (i + 1) p))) (Int.ofNat i) = some (.bool true):=by
 intro f
 induction f with
 | zero=>intro i h;omega
 | succ f ih =>
  intro i hf hi
  show b12_1 pu 1000000 (l12_1 pu 1000000 f) _ _ _ = _
  unfold b12_1
  have hq:=iter_ok (i + 1) hp
  have e1:=h6 (iter (i + 1) p) p (by have:=ok_len hq;omega)
  have e2:=h7 _ hq
  rw [←iter_r] at e2
  simp only [sv_eq] at e1 e2
  rw [show ilt (Int.ofNat i) 200 = true from lt_true (show i < 200 by omega),bb_true,e1,oo_some,vBool_mk,oo_some]
  by_cases hc:iter (i + 1) p = p
  ·rw [decide_eq_true hc,bb_true]
  ·rw [decide_eq_false hc, bb_false, e2, oo_some, toSl_mk, oo_some, wrapS i (by omega)]
   refine ih (i + 1) (by omega) ?_
   have:i + 1 ≠ k:=fun e=>hc (by rw [e];exact hk)
   omega
end
structure Ring (p:List Nat):Prop where
 len:(ringT p).length = perT p
 one:1≤perT p
 few:perT p≤7
 least:leastT (perT p) p p = firstT p
 ok:okP 21 (firstT p) = true
 back:iter (perT p) (firstT p) = firstT p
 per:iter (perT p) p = p
theorem ring_ok {p:List Nat} (hp:okP 21 p = true) (hr:ret p = true):Ring p:=by
 obtain ⟨h1,h⟩:=an_inv (show an (Nat.beq (len (ringT p)) (perT p)) (an (Nat.ble 1 (perT p)) (an (Nat.ble (perT p) 7) (an (eqP (leastT (perT p) p p) (firstT p)) (an (okP 21 (firstT p)) (an (eqP (iter (perT p) (firstT p)) (firstT p)) (eqP (iter (perT p) p) p)))))) = true from PseenR hp hr)
 obtain ⟨h2,h⟩:=an_inv h
 obtain ⟨h3,h⟩:=an_inv h
 obtain ⟨h4,h⟩:=an_inv h
 obtain ⟨h5,h⟩:=an_inv h
 obtain ⟨h6,h7⟩:=an_inv h
 have h1:=Nat.eq_of_beq_eq_true h1
 rw [len_eq] at h1
 exact ⟨h1,Nat.le_of_ble_eq_true h2,Nat.le_of_ble_eq_true h3,eqP_eq _ _ h4,h5,eqP_eq _ _ h6,eqP_eq _ _ h7⟩
theorem p12 (n:Nat) {p:List Nat} (hp:okP 21 p = true):puN (n + 3) 12 [sv p] = some (.bool (ret p)):=by
 have e:=p7 n hp
 have a6:∀ a b:List Nat,a.length≤100→puN (n + 2) 6 [sv a,sv b] = some (.bool (decide (a = b))):=fun a b h=>p6g (n + 1) a b h
 have a7:∀ p,okP 21 p = true→puN (n + 2) 7 [sv p] = some (sv (rnd p)):=fun p h=>p7 n h
 simp only [sv_eq p,sv_eq (rnd p)] at e ⊢
 refine Eq.trans (b:=m12_ (puN (n + 2)) 1000000 (sl 0 (nI p))) (by kernel_rfl) ?_
 unfold m12_
 rw [e,oo_some,toSl_mk,oo_some]
 cases hr:ret p with
 | false=>exact l12f _ a6 a7 hp hr 1000000 0 (by omega) (by omega)
 | true =>
  have R:=ring_ok hp hr
  exact l12t _ a6 a7 hp R.per (by have:=R.few;omega) 1000000 0 (by omega) (by have:=R.one;omega)
theorem p28 (n:Nat) (x y:Int):puN (n + 2) 28 [I x,I y] = some (I (bb (ilt x y) (-1) (bb (ilt y x) 1 0))):=by
 refine Eq.trans (b:=m28_ (puN (n + 1)) 1000000 x y) (by kernel_rfl) ?_
 have e:∀ z:Int,puN (n + 1) 43 [I z] = some (.bool false):=fun z=>by
  refine Eq.trans (b:=m43_ (puN n) 1000000 z) (by kernel_rfl) ?_
  unfold m43_;rw [neqr]
 unfold m28_
 rw [e,e,oo_some,vBool_mk,oo_some,oo_some,vBool_mk,oo_some,bb_false,bb_false]
 cases ilt x y with
 | true=>rfl
 | false=>cases ilt y x <;> rfl
theorem l13 (n:Nat) (a b:List Nat) (ha:a.length≤100):∀ (f i:Nat),a.length - i < f→i≤a.length→i≤b.length→∃ c:Int,l13_1 (puN (n + 2)) 1000000 f (sl 0 (nI a)) (sl 0 (nI b)) (sl 0 (nI a)) (Int.ofNat a.length) (Int.ofNat i) = some (I c)∧(ltL (a.drop i) (b.drop i) = true→c < 0)∧(ltL (a.drop i) (b.drop i) = false→¬ c < 0):=by
 intro f
 induction f with
 | zero=>intro i h;omega
 | succ f ih =>
  intro i hf hi hib
  have e1:l13_1 (puN (n + 2)) 1000000 (f + 1) (sl 0 (nI a)) (sl 0 (nI b)) (sl 0 (nI a)) (Int.ofNat a.length) (Int.ofNat i) = b13_1 (puN (n + 2)) 1000000 (l13_1 (puN (n + 2)) 1000000 f) (sl 0 (nI a)) (sl 0 (nI b)) (sl 0 (nI a)) (Int.ofNat a.length) (Int.ofNat i):=rfl
  rw [e1]
  unfold b13_1
  by_cases hlt:i < a.length
  ·rw [lt_true hlt, List.drop_eq_getElem_cons hlt]
   simp only [bb_true,toN_mk,oo_some,sl_n,sl_cs,nI_len,blt_eq,hlt,decide_true,an_eq,Bool.true_and,nthL_eq,Nat.mul_one,getN a i hlt,toI_mk]
   by_cases hb:i < b.length
   ·have q := p28 n (Int.ofNat a[i]) (Int.ofNat b[i])
    rw [lt_true hb,show nt true = false from rfl,bb_false,decide_eq_true hb,show (true && true) = true from rfl,bb_true,getN b i hb]
    simp only [oo_some,toI_mk]
    rw [q,oo_some,toI_mk,oo_some,List.drop_eq_getElem_cons hb]
    show ∃ c,_∧(bb (Nat.blt a[i] b[i]) true (bb (Nat.beq a[i] b[i]) (ltL (a.drop (i + 1)) (b.drop (i + 1))) false) = true→_)∧(bb (Nat.blt a[i] b[i]) true (bb (Nat.beq a[i] b[i]) (ltL (a.drop (i + 1)) (b.drop (i + 1))) false) = false→_)
    by_cases c1:a[i] < b[i]
    ·rw [lt_true c1, bb_true, blt_eq, decide_eq_true c1, bb_true]
     exact ⟨-1,rfl,fun _=>by decide,fun g=>by cases g⟩
    ·rw [lt_false c1, bb_false, blt_eq, decide_eq_false c1, bb_false]
     by_cases c2:b[i] < a[i]
     ·have hne : Nat.beq a[i] b[i] = false := by
       cases hh:Nat.beq a[i] b[i] with
       | false=>rfl
       | true=>have:=Nat.eq_of_beq_eq_true hh;omega
      rw [lt_true c2,bb_true,hne,bb_false]
      exact ⟨1,rfl,(fun g=>by cases g),fun _=>by decide⟩
     ·have he : a[i] = b[i] := by omega
      rw [lt_false c2,bb_false,show nt (ieq (0:Int) 0) = false from rfl,bb_false,wrapS i (by omega),he,Nat.beq_refl,bb_true]
      exact ih (i + 1) (by omega) (by omega) (by omega)
   ·rw [lt_false hb, show nt false = true from rfl, bb_true, show List.drop i b = [] from List.drop_of_length_le (by omega)]
    exact ⟨1,rfl,(fun g=>by cases g),fun _=>by decide⟩
  ·have : i = a.length := by omega
   subst this
   rw [lt_false hlt,bb_false,List.drop_length]
   unfold m13_0
   rw [sl_n,sl_n,nI_len,nI_len]
   by_cases hb:a.length < b.length
   ·rw [lt_true hb, bb_true, List.drop_eq_getElem_cons hb]
    exact ⟨-1,rfl,fun _=>by decide,fun g=>by cases g⟩
   ·rw [lt_false hb, bb_false, List.drop_of_length_le (by omega)]
    exact ⟨0,rfl,(fun g=>by cases g),fun _=>by decide⟩
theorem p13 (n:Nat) (a b:List Nat) (ha:a.length≤100):∃ c:Int,puN (n + 3) 13 [sv a,sv b] = some (I c)∧ilt c 0 = ltL a b:=by
 obtain ⟨c,h1,h2,h3⟩:=l13 n a b ha 1000000 0 (by omega) (by omega) (by omega)
 rw [List.drop_zero,List.drop_zero] at h2 h3
 refine ⟨c,?_,?_⟩
 ·rw [sv_eq, sv_eq]
  refine Eq.trans (b:=m13_ (puN (n + 2)) 1000000 (sl 0 (nI a)) (sl 0 (nI b))) (by kernel_rfl) ?_
  unfold m13_
  rw [sl_n,nI_len]
  exact h1
 ·cases hh : ltL a b with
  | true=>rw [ilt_eq];exact decide_eq_true (h2 hh)
  | false=>rw [ilt_eq];exact decide_eq_false (h3 hh)
end Go.HpYM
set_option maxRecDepth 100000
namespace Go.HpYM
open Go.Sp Go.HpY Go.HpT Go.HtM Go.HyM

noncomputable def two (v:Value) (e:Int):Option Value:=some (.tuple ⟨[v,I e]⟩)
noncomputable def LLs (L:List (List Nat)):Sl:=⟨L.length,0,L.map sv⟩
theorem ringV_eq (q:List Nat):ringV q = Sl.v 1 (LLs (ringT q)):=by unfold ringV LLs;rw [len_eq,mapL_eq]
theorem p10 (n:Nat) {p:List Nat} (hp:okP 21 p = true) (e:puN (n + 9) 18 [sv p] = some (I 0)):puN (n + 10) 10 [sv p] = two (I (Int.ofNat (levT 60 p))) 0:=by
 have e1:=P19 (n + 3) hp
 have e2:=p26 (n + 2) hp
 rw [sv_eq] at e e1 ⊢
 unfold unt2 cv at e2
 unfold cv at e1
 refine Eq.trans (b:=m10_ (puN (n + 9)) 1000000 (sl 0 (nI p))) (by kernel_rfl) ?_
 unfold m10_
 rw [e,oo_some,toI_mk,oo_some,show nt (ieq (0:Int) 0) = false from rfl,bb_false,e1,oo_some,vAgg_mk,oo_some,cv6,bb_true,e2]
 simp only [oo_some,vTup_mk,ll_cons',ll_nil',toI_mk,vAgg_mk]
 rw [cv6,bb_true,cv4,bb_true,cv7,bb_true,cv8,bb_true];rfl
theorem p11 (n:Nat) {p:List Nat} (hp:okP 21 p = true) (e:puN (n + 9) 18 [sv p] = some (I 0)):puN (n + 10) 11 [sv p] = two (ringV (iter (levT 60 p) p)) 0:=by
 have e1:=P19 (n + 3) hp
 have e2:=p27 n hp
 rw [sv_eq] at e e1 ⊢
 unfold cv at e1 e2
 unfold ringV at e2
 refine Eq.trans (b:=m11_ (puN (n + 9)) 1000000 (sl 0 (nI p))) (by kernel_rfl) ?_
 unfold m11_
 rw [e,oo_some,toI_mk,oo_some,show nt (ieq (0:Int) 0) = false from rfl,bb_false,e1,oo_some,vAgg_mk,oo_some,cv6,bb_true,e2,oo_some,toSl_mk,oo_some,cv4,bb_true];rfl
structure PW (pu:PureF):Prop where
 h5:∀ p,okP 21 p = true→pu 5 [sv p] = fin (rnd p)
 h6:∀ a b:List Nat,a.length≤100→pu 6 [sv a,sv b] = some (.bool (decide (a = b)))
 h7:∀ p,okP 21 p = true→pu 7 [sv p] = some (sv (rnd p))
 h8:∀ p,okP 21 p = true→pu 8 [sv p] = some (I (Int.ofNat p.sum))
 h9:∀ p,okP 21 p = true→∀ z:Nat,z≤1000→pu 9 [sv p,I (Int.ofNat z)] = fin (iter z p)
 h10:∀ p,okP 21 p = true→pu 10 [sv p] = two (I (Int.ofNat (levT 60 p))) 0
 h11:∀ p,okP 21 p = true→pu 11 [sv p] = two (ringV (iter (levT 60 p) p)) 0
 h12:∀ p,okP 21 p = true→pu 12 [sv p] = some (.bool (ret p))
 h13:∀ a b:List Nat,a.length≤100→∃ c:Int,pu 13 [sv a,sv b] = some (I c)∧ilt c 0 = ltL a b
 h14:pu 14 [] = some (.bool true)
theorem orb_s (n:Nat) (q:List Nat):orbT (n + 1) q = q :: orbT n (rnd q):=rfl
theorem orb_get : ∀ (n : Nat) (q : List Nat) (i : Nat), i < n → (orbT n q)[i]? = some (iter i q)
 | 0,_,i,h=>by omega
 | n + 1,q,0,_=>rfl
 | n + 1,q,i + 1,h=>by rw [orb_s,List.getElem?_cons_succ,orb_get n (rnd q) i (by omega)];rfl
theorem least_s (n:Nat) (q b:List Nat):leastT (n + 1) q b = leastT n (rnd q) (bb (ltL (rnd q) b) (rnd q) b):=rfl
theorem lev_min : ∀ (m i : Nat) (q : List Nat), i < levT m q → ret (iter i q) = false
 | 0,i,q,h=>by cases h
 | m + 1, i, q, h => by
  rw [lev_s] at h
  cases hr:ret q with
  | true=>rw [hr,bb_true] at h;omega
  | false =>
   rw [hr,bb_false] at h
   cases i with
   | zero=>exact hr
   | succ i=>rw [iter_s];exact lev_min m i (rnd q) (by omega)
theorem lev_up : ∀ (m : Nat) (q : List Nat), comes m q = true → levT (m + 1) q = levT m q
 | 0, q, h => by
  have h:ret q = true:=h
  rw [lev_s,h,bb_true];rfl
 | m + 1, q, h => by
  have h:bb (ret q) true (comes m (rnd q)) = true:=h
  rw [lev_s (m + 1) q,lev_s m q]
  cases hr:ret q with
  | true=>rw [bb_true,bb_true]
  | false =>
   rw [hr,bb_false] at h
   rw [bb_false,bb_false,lev_up m (rnd q) h]
theorem lev_le : ∀ (m : Nat) (q : List Nat), levT m q ≤ m
 | 0,_=>Nat.le_refl _
 | m + 1, q => by
  rw [lev_s]
  cases ret q with
  | true=>rw [bb_true];omega
  | false=>rw [bb_false];have:=lev_le m (rnd q);omega
theorem lev_rnd {p:List Nat} (hp:okP 21 p = true):levT 60 (rnd p) = levT 60 p - 1:=by
 obtain ⟨s1,_,s3,s4⟩:=seen_ok hp
 cases hr:ret p with
 | true=>rw [lev_0 hr,lev_0 (s4 hr).1]
 | false =>
  have hc:bb (ret p) true (comes 59 (rnd p)) = true:=s3
  rw [hr,bb_false] at hc
  rw [lev_up 59 (rnd p) hc,lev_s 59 p,hr,bb_false];rfl
section
variable {pu:PureF} (W:PW pu)
include W
theorem m3_7p {q:List Nat} (R:Ring q):m3_7 pu 1000000 (LLs (ringT q)) (sl 0 (nI (firstT q))) = some (.bool true):=by
 have hl:=ok_len R.ok
 have e:=W.h6 (firstT q) (firstT q) (by omega)
 rw [decide_eq_true rfl,sv_eq] at e
 have h0:0 < (LLs (ringT q)).n:=by show 0 < (ringT q).length;rw [R.len];exact R.one
 have gx:(LLs (ringT q)).cs[0]? = some (Sl.v 1 (sl 0 (nI (firstT q)))):=by
  show ((ringT q).map sv)[0]? = _
  rw [List.getElem?_map]
  unfold ringT
  rw [orb_get _ _ 0 R.one,iter_0,Option.map_some,sv_eq]
 unfold m3_7
 simp only [blt_eq,h0,decide_true,an_eq,Bool.true_and,bb_true,nthL_eq,Nat.zero_mul,gx,oo_some,toSl_mk]
 rw [e,oo_some,vBool_mk,oo_some,bb_true,W.h14,oo_some,vBool_mk,oo_some]
 rfl
theorem l3_9p {q:List Nat} (R:Ring q):∀ (f i:Nat),perT q - i < f→i≤perT q→l3_9 pu 1000000 f (LLs (ringT q)) (sl 0 (nI (iter i (firstT q)))) (LLs (ringT q)) (Int.ofNat (perT q)) (Int.ofNat i) = some (.bool true):=by
 have h7:=R.few
 intro f
 induction f with
 | zero=>intro i h;omega
 | succ f ih =>
  intro i hf hi
  show b3_9 pu 1000000 (l3_9 pu 1000000 f) _ _ _ _ _ = _
  unfold b3_9
  by_cases hlt:i < perT q
  ·have hq := iter_ok i R.ok
   have e1:=W.h6 (iter i (firstT q)) (iter i (firstT q)) (by have:=ok_len hq;omega)
   have e2:=W.h7 _ hq
   rw [decide_eq_true rfl] at e1
   rw [←iter_r] at e2
   simp only [sv_eq] at e1 e2
   have hn:i < (LLs (ringT q)).n:=by show i < (ringT q).length;rw [R.len];exact hlt
   have gx:(LLs (ringT q)).cs[i]? = some (Sl.v 1 (sl 0 (nI (iter i (firstT q))))):=by
    show ((ringT q).map sv)[i]? = _
    rw [List.getElem?_map]
    unfold ringT
    rw [orb_get _ _ i hlt,Option.map_some,sv_eq]
   rw [lt_true hlt]
   simp only [bb_true,toN_mk,oo_some,blt_eq,hn,decide_true,an_eq,Bool.true_and,nthL_eq,Nat.mul_one,gx,toSl_mk]
   rw [e1,oo_some,vBool_mk,oo_some,show nt true = false from rfl,bb_false,e2,oo_some,toSl_mk,oo_some,wrapS i (by omega)]
   exact ih (i + 1) (by omega) (by omega)
  ·have : i = perT q := by omega
   subst this
   rw [lt_false hlt,bb_false,R.back]
   exact m3_7p W R
theorem l3_10p (r:Sl) (k:Nat) (hk:k≤100):∀ (f i:Nat) (now best:List Nat),k - i < f→i≤k→okP 21 now = true→l3_10 pu 1000000 f (sl 0 (nI now)) r (sl 0 (nI best)) (Int.ofNat k) (Int.ofNat i) = m3_6 pu 1000000 r (sl 0 (nI (leastT (k - i) now best))):=by
 intro f
 induction f with
 | zero=>intro i now best h;omega
 | succ f ih =>
  intro i now best hf hi hn
  show b3_10 pu 1000000 (l3_10 pu 1000000 f) _ _ _ _ _ = _
  unfold b3_10 m3_11
  by_cases hlt:i < k
  ·have hq := (seen_ok hn).1
   have e1:=W.h7 _ hn
   obtain ⟨c,e2,e3⟩:=W.h13 (rnd now) best (by have:=ok_len hq;omega)
   simp only [sv_eq] at e1 e2
   rw [lt_true hlt,bb_true,e1,oo_some,toSl_mk,oo_some,e2,oo_some,toI_mk,oo_some,e3,wrapS i (by omega),show k - i = (k - (i + 1)) + 1 by omega,least_s]
   cases ltL (rnd now) best with
   | true=>rw [bb_true,bb_true];exact ih (i + 1) _ _ (by omega) (by omega) hq
   | false=>rw [bb_false,bb_false];exact ih (i + 1) _ _ (by omega) (by omega) hq
  ·have : i = k := by omega
   subst this
   rw [lt_false hlt,bb_false,Nat.sub_self];rfl
theorem m3_5p {q:List Nat} (hq:okP 21 q = true) (hr:ret q = true):m3_5 pu 1000000 (sl 0 (nI q)) (LLs (ringT q)) = some (.bool true):=by
 have R:=ring_ok hq hr
 have e:=W.h12 q hq
 rw [hr,sv_eq] at e
 have h7:=R.few
 unfold m3_5
 rw [e,oo_some,vBool_mk,oo_some,show nt true = false from rfl,bb_false,show (LLs (ringT q)).n = perT q from R.len]
 refine Eq.trans (l3_10p W (LLs (ringT q)) (perT q) (by omega) 1000000 0 q q (by omega) (by omega) hq) ?_
 rw [Nat.sub_zero,R.least]
 unfold m3_6
 rw [show (LLs (ringT q)).n = perT q from R.len]
 exact l3_9p W R 1000000 0 (by omega) (by omega)
theorem l3_12p {p:List Nat} (hp:okP 21 p = true):∀ (f i:Nat),levT 60 p - i < f→i≤levT 60 p→l3_12 pu 1000000 f (sl 0 (nI (iter i p))) (Int.ofNat (levT 60 p)) (LLs (ringT (iter (levT 60 p) p))) (Int.ofNat i) = some (.bool true):=by
 have h60:=lev_le 60 p
 intro f
 induction f with
 | zero=>intro i h;omega
 | succ f ih =>
  intro i hf hi
  show b3_12 pu 1000000 (l3_12 pu 1000000 f) _ _ _ _ = _
  unfold b3_12
  have hq:=iter_ok i hp
  by_cases hlt:i < levT 60 p
  ·have e1 := W.h12 _ hq
   have e2:=W.h7 _ hq
   rw [lev_min 60 i p hlt] at e1
   rw [←iter_r] at e2
   simp only [sv_eq] at e1 e2
   rw [lt_true hlt,bb_true,e1,oo_some,vBool_mk,oo_some,bb_false,e2,oo_some,toSl_mk,oo_some,wrapS i (by omega)]
   exact ih (i + 1) (by omega) (by omega)
  ·have : i = levT 60 p := by omega
   rw [lt_false hlt,bb_false]
   rw [this] at hq ⊢
   exact m3_5p W hq (lev_ret 60 p (seen_ok hp).2.2.1)
theorem m3_3p {p:List Nat} (hp:okP 21 p = true):m3_3 pu 1000000 (sl 0 (nI p)) (sl 0 (nI (rnd p))) false = some (.bool true):=by
 have hr:=(seen_ok hp).1
 have e1:=W.h10 p hp
 have e2:=W.h10 _ hr
 have e3:=W.h11 p hp
 have h60:=lev_le 60 p
 have hq:=iter_ok (levT 60 p) hp
 have R:=ring_ok hq (lev_ret 60 p (seen_ok hp).2.2.1)
 have h7:=R.few
 have h1:=R.one
 have hl:(LLs (ringT (iter (levT 60 p) p))).n = perT (iter (levT 60 p) p):=R.len
 rw [lev_rnd hp] at e2
 rw [ringV_eq] at e3
 simp only [sv_eq] at e1 e2 e3
 unfold two at e1 e2 e3
 have i1:ilt (Int.ofNat (levT 60 p)) 0 = false:=by rw [ilt_eq];simp only [Int.ofNat_eq_natCast];exact decide_eq_false (by omega)
 have i2:ilt 100 (Int.ofNat (levT 60 p)) = false:=by rw [ilt_eq];simp only [Int.ofNat_eq_natCast];exact decide_eq_false (by omega)
 have i3:ieq (Int.ofNat (perT (iter (levT 60 p) p))) 0 = false:=by rw [ieq_eq];simp only [Int.ofNat_eq_natCast];exact decide_eq_false (by omega)
 have i4:ilt 21 (Int.ofNat (perT (iter (levT 60 p) p))) = false:=by rw [ilt_eq];simp only [Int.ofNat_eq_natCast];exact decide_eq_false (by omega)
 have i5:bb (ilt (0:Int) (wrapF .i64 (Int.sub (Int.ofNat (levT 60 p)) 1))) (wrapF .i64 (Int.sub (Int.ofNat (levT 60 p)) 1)) 0 = Int.ofNat (levT 60 p - 1):=by
  by_cases h0:levT 60 p = 0
  ·rw [h0]
   have:wrapF .i64 (Int.sub (Int.ofNat 0) 1) = -1:=by
    rw [show Int.sub (Int.ofNat 0) 1 = -1 from rfl]
    exact wrapI (-1) (by decide) (by decide)
   rw [this];rfl
  ·rw [wrapZ _ (by omega) (by omega)]
   by_cases h2:0 < levT 60 p - 1
   ·rw [show ilt 0 (Int.ofNat (levT 60 p - 1)) = true from lt_true h2,bb_true]
   ·rw [show ilt 0 (Int.ofNat (levT 60 p - 1)) = false from lt_false h2,bb_false,show levT 60 p - 1 = 0 by omega];rfl
 unfold m3_3
 rw [bb_false,e1]
 simp -implicitDefEqProofs only [oo_some,vTup_mk,ll_cons',ll_nil',toI_mk]
 rw [e2]
 simp -implicitDefEqProofs only [oo_some,vTup_mk,ll_cons',ll_nil',toI_mk]
 rw [e3]
 simp -implicitDefEqProofs only [oo_some,vTup_mk,ll_cons',ll_nil',toI_mk,toSl_mk]
 rw [show nt (ieq (0:Int) 0) = false from rfl,bb_false,bb_false,bb_false,i1,bb_false,i2,bb_false,hl,i3,bb_false,i4,bb_false,i5,neqr]
 unfold m3_4
 rw [bb_false]
 exact l3_12p W hp 1000000 0 (by omega) (by omega)
theorem m3_2p {p:List Nat} (hp:okP 21 p = true) (x y:Nat) (hx:x≤300) (hy:y≤300):m3_2 pu 1000000 (sl 0 (nI p)) (sl 0 (nI (rnd p))) (Int.ofNat x) (Int.ofNat y) (sl 0 (nI (iter x p))) false = some (.bool true):=by
 have hq:=iter_ok x hp
 have e1:=W.h9 _ hq y (by omega)
 have e2:=W.h9 p hp (x + y) (by omega)
 have e3:=W.h6 (iter y (iter x p)) (iter y (iter x p)) (by have:=ok_len (iter_ok y hq);omega)
 rw [decide_eq_true rfl] at e3
 rw [iter_add] at e2
 unfold fin at e1 e2
 simp only [sv_eq] at e1 e2 e3
 have ea:wrapF .i64 (Int.add (Int.ofNat x) (Int.ofNat y)) = Int.ofNat (x + y):=by
  have:Int.add (Int.ofNat x) (Int.ofNat y) = Int.ofNat (x + y):=by show (x:Int) + (y:Int) = ((x + y:Nat):Int);omega
  rw [this];exact wrapI _ (by simp only [Int.ofNat_eq_natCast];omega) (by simp only [Int.ofNat_eq_natCast];omega)
 unfold m3_2
 rw [bb_false,e1]
 simp -implicitDefEqProofs only [oo_some,vTup_mk,ll_cons',ll_nil',toI_mk,toSl_mk]
 rw [ea,e2]
 simp -implicitDefEqProofs only [oo_some,vTup_mk,ll_cons',ll_nil',toI_mk,toSl_mk]
 rw [show nt (ieq (0:Int) 0) = false from rfl,bb_false,bb_false,e3,oo_some,vBool_mk,oo_some,show nt true = false from rfl]
 exact m3_3p W hp
theorem m3_1p {p:List Nat} (hp:okP 21 p = true) (x y:Nat) (hx:x≤300) (hy:y≤300):m3_1 pu 1000000 (sl 0 (nI p)) (sl 0 (nI (rnd p))) (Int.ofNat x) (Int.ofNat y) (sl 0 (nI (iter x p))) = some (.bool true):=by
 have hq:=iter_ok x hp
 have e1:=W.h9 p hp x (by omega)
 have e3:=W.h6 (iter x p) (iter x p) (by have:=ok_len hq;omega)
 rw [decide_eq_true rfl] at e3
 unfold fin at e1
 simp only [sv_eq] at e1 e3
 unfold m3_1
 rw [e1]
 simp -implicitDefEqProofs only [oo_some,vTup_mk,ll_cons',ll_nil',toI_mk,toSl_mk]
 rw [show nt (ieq (0:Int) 0) = false from rfl,bb_false,e3,oo_some,vBool_mk,oo_some,show nt true = false from rfl]
 exact m3_2p W hp x y hx hy
theorem l3_13p {p:List Nat} (hp:okP 21 p = true) (x y:Nat) (hx:x≤300) (hy:y≤300):∀ (f i:Nat),x - i < f→i≤x→l3_13 pu 1000000 f (sl 0 (nI p)) (sl 0 (nI (rnd p))) (Int.ofNat x) (Int.ofNat y) (sl 0 (nI (iter i p))) (Int.ofNat x) (Int.ofNat i) = some (.bool true):=by
 intro f
 induction f with
 | zero=>intro i h;omega
 | succ f ih =>
  intro i hf hi
  show b3_13 pu 1000000 (l3_13 pu 1000000 f) _ _ _ _ _ _ _ = _
  unfold b3_13
  by_cases hlt:i < x
  ·have e2 := W.h7 _ (iter_ok i hp)
   rw [←iter_r] at e2
   simp only [sv_eq] at e2
   rw [lt_true hlt,bb_true,e2,oo_some,toSl_mk,oo_some,wrapS i (by omega)]
   exact ih (i + 1) (by omega) (by omega)
  ·have : i = x := by omega
   subst this
   rw [lt_false hlt,bb_false]
   exact m3_1p W hp i y hx hy
theorem m3_p (b:Sl) {p:List Nat} (hp:okP 21 p = true) (e4:pu 4 [b.v 1,I 21] = some (sv p)) (x y:Nat) (hx:x < 65536) (hy:y < 65536):m3_ pu 1000000 b (Int.ofNat x) (Int.ofNat y) = some (.bool true):=by
 have hr:=(seen_ok hp).1
 have e5:=W.h5 p hp
 have e7:=W.h7 p hp
 have e6:=W.h6 (rnd p) (rnd p) (by have:=ok_len hr;omega)
 have e8:=W.h8 p hp
 have e8':=W.h8 _ hr
 have hs:(rnd p).sum = p.sum:=by rw [←sumL_eq,←sumL_eq];exact (seen_ok hp).2.1
 rw [hs] at e8'
 rw [decide_eq_true rfl] at e6
 unfold fin at e5
 simp only [sv_eq] at e4 e5 e6 e7 e8 e8'
 have wx:wrapF .i64 (Int.ofNat x) = Int.ofNat x:=wrapI _ (by simp only [Int.ofNat_eq_natCast];omega) (by simp only [Int.ofNat_eq_natCast];omega)
 have wy:wrapF .i64 (Int.ofNat y) = Int.ofNat y:=wrapI _ (by simp only [Int.ofNat_eq_natCast];omega) (by simp only [Int.ofNat_eq_natCast];omega)
 have tx:Int.tmod (Int.ofNat x) 300 = Int.ofNat (x % 300):=(Int.ofNat_tmod x 300).symm
 have ty:Int.tmod (Int.ofNat y) 300 = Int.ofNat (y % 300):=(Int.ofNat_tmod y 300).symm
 have lx:x % 300 < 300:=Nat.mod_lt _ (by decide)
 have ly:y % 300 < 300:=Nat.mod_lt _ (by decide)
 unfold m3_
 rw [e4,oo_some,toSl_mk,oo_some,e5]
 simp -implicitDefEqProofs only [oo_some,vTup_mk,ll_cons',ll_nil',toI_mk,toSl_mk]
 rw [show nt (ieq (0:Int) 0) = false from rfl,bb_false,e7,oo_some,toSl_mk,oo_some,e6,oo_some,vBool_mk,oo_some,show nt true = false from rfl,bb_false,e8',oo_some,toI_mk,oo_some,e8,oo_some,toI_mk,oo_some,neqr]
 unfold m3_0
 rw [bb_false,wx,wy,tx,ty]
 exact l3_13p W hp (x % 300) (y % 300) (by omega) (by omega) 1000000 0 (by omega) (by omega)
end
noncomputable def puW:PureF:=fun g args=>bb (Nat.beq g 14) (ll args (some (.bool true)) fun _ _=>none) (puN 30 g args)
theorem puW_n (g:FuncId) (args:List Value) (h:Nat.beq g 14 = false):puW g args = puN 30 g args:=by
 unfold puW;rw [h,bb_false]
theorem puW_14:puW 14 [] = some (.bool true):=rfl
theorem puW_g (g:FuncId) (h:Nat.beq g 14 = false):puW g = puN 30 g:=by funext a;exact puW_n g a h
theorem puW_w:puW 14 = fun args=>ll args (some (.bool true)) fun _ _=>none:=rfl
theorem chk18 (n:Nat) {p:List Nat} (hp:okP 21 p = true):puN (n + 2) 18 [sv p] = some (I 0):=by
 rw [sv_eq];exact p18 n 0 p (hp_ok hp)
theorem pw:PW puW where
 h5:=fun p hp=>(puW_n 5 _ rfl).trans (p5 23 hp (chk18 27 hp))
 h6:=fun a b h=>(puW_n 6 _ rfl).trans (p6g 29 a b h)
 h7:=fun p hp=>(puW_n 7 _ rfl).trans (p7 28 hp)
 h8:=fun p hp=>by
  have H:=hp_ok hp
  have e:=p8 29 0 p (by have:=H.len;omega) (by have:=H.sum;omega)
  rw [puW_n 8 _ rfl,sv_eq];exact e
 h9:=fun p hp z hz=>by
  have e:=p9 21 hp (Int.ofNat z) (chk18 27 hp)
  unfold aft at e
  rw [if_pos (by simp only [Int.ofNat_eq_natCast];omega),show (Int.ofNat z).toNat = z from rfl] at e
  exact (puW_n 9 _ rfl).trans e
 h10:=fun p hp=>(puW_n 10 _ rfl).trans (p10 20 hp (chk18 27 hp))
 h11:=fun p hp=>(puW_n 11 _ rfl).trans (p11 20 hp (chk18 27 hp))
 h12:=fun p hp=>(puW_n 12 _ rfl).trans (p12 27 hp)
 h13:=fun a b h=>by
  obtain ⟨c,e1,e2⟩:=p13 27 a b h
  exact ⟨c,(puW_n 13 _ rfl).trans e1,e2⟩
 h14:=puW_14
theorem pPlayed (b:List Int) (hb:∀ x ∈ b,0≤x∧x < 256) (x y:Nat) (hx:x < 65536) (hy:y < 65536):m3_ puW 1000000 ⟨b.length,0,b.map (Value.int .u8)⟩ (Int.ofNat x) (Int.ofNat y) = some (.bool true):=by
 obtain ⟨l,hl,e⟩:=p4 28 0 b hb
 have e4:puW 4 [Sl.v 1 ⟨b.length,0,b.map (Value.int .u8)⟩,I 21] = some (sv l):=by
  rw [puW_n 4 _ rfl,sv_eq];exact e
 exact m3_p pw _ (ok_hp hl) e4 x y hx hy
noncomputable def mLaw (args:List Value):Option Value:=m3 puW 1000000 args
theorem mLaw_ok (b:List Int) (hb:∀ x ∈ b,0≤x∧x < 256) (x y:Int) (hx:0≤x∧x < 65536) (hy:0≤y∧y < 65536):mLaw [Sl.v 1 ⟨b.length,0,b.map (Value.int .u8)⟩,.int .u16 x,.int .u16 y] = some (Value.bool true):=by
 obtain ⟨x',rfl⟩:∃ x':Nat,x = Int.ofNat x':=⟨x.toNat,by simp only [Int.ofNat_eq_natCast];omega⟩
 obtain ⟨y',rfl⟩:∃ y':Nat,y = Int.ofNat y':=⟨y.toNat,by simp only [Int.ofNat_eq_natCast];omega⟩
 simp only [Int.ofNat_eq_natCast] at hx hy
 exact Eq.trans (b:=m3_ puW 1000000 ⟨b.length,0,b.map (Value.int .u8)⟩ (Int.ofNat x') (Int.ofNat y')) (by kernel_rfl) (pPlayed b hb x' y' (by omega) (by omega))
end Go.HpYM
