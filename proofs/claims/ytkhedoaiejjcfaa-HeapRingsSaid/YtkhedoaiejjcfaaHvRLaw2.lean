/- Made from wip. -/
import Derived.Test.YtkhedoaiejjcfaaHvRSamex
import Derived.Test.YtkhedoaiejjcfaaHvRRun0
import Derived.Test.YtkhedoaiejjcfaaHvRRun1
import Derived.Test.YtkhedoaiejjcfaaHvRRun2
import Derived.Test.YtkhedoaiejjcfaaHvRRun3
import Derived.Test.YtkhedoaiejjcfaaHvRRun4
import Derived.Test.YtkhedoaiejjcfaaHvRRun5
import Derived.Test.YtkhedoaiejjcfaaHvRRun6
import Derived.Test.YtkhedoaiejjcfaaHvRRun7
import Derived.Test.YtkhedoaiejjcfaaHvRRun8
import Derived.Test.YtkhedoaiejjcfaaHvRRun9
import Derived.Test.YtkhedoaiejjcfaaHvRRun10

set_option maxRecDepth 100000
set_option maxHeartbeats 0
namespace Go.HvRM
open Go Go.Sp Go.HvR Go.HpT
theorem map_at {α:Type} {f g:List Nat→α} {l:List (List Nat)} (h:mapL f l = mapL g l) {p:List Nat} (hp:p ∈ l):f p = g p:=by
 rw [mapL_eq,mapL_eq] at h
 exact List.map_inj_left.1 h p hp
theorem all_at {f:List Nat→Bool} {l:List (List Nat)} (h:allL f l = true) {p:List Nat} (hp:p ∈ l):f p = true:=by
 rw [allL_eq,List.all_eq_true] at h
 exact h p hp
theorem in_pts {p:List Nat} (h:okP 14 p = true):∃ k,1≤k∧k≤14∧sumL p = k∧p ∈ pts k k k:=by
 obtain ⟨h1,h2⟩:=an_inv (show an (Nat.ble 1 (sumL p)) (an (Nat.ble (sumL p) 14) (isPt p (sumL p) (sumL p))) = true from h)
 obtain ⟨h2,h3⟩:=an_inv h2
 exact ⟨sumL p,Nat.le_of_ble_eq_true h1,Nat.le_of_ble_eq_true h2,rfl,mem_pts p _ _ _ (Nat.le_refl _) h3⟩
theorem ok_down {p:List Nat} (h:okP 21 p = true) (hs:sumL p≤14):okP 14 p = true:=by
 obtain ⟨h1,h2⟩:=an_inv (show an (Nat.ble 1 (sumL p)) (an (Nat.ble (sumL p) 21) (isPt p (sumL p) (sumL p))) = true from h)
 obtain ⟨_,h3⟩:=an_inv h2
 show an (Nat.ble 1 (sumL p)) (an (Nat.ble (sumL p) 14) (isPt p (sumL p) (sumL p))) = true
 rw [h1,h3,Nat.ble_eq_true_of_le hs];rfl
theorem ok_sum21 {p:List Nat} (h:okP 21 p = true):sumL p≤21:=by
 obtain ⟨_,h2⟩:=an_inv (show an (Nat.ble 1 (sumL p)) (an (Nat.ble (sumL p) 21) (isPt p (sumL p) (sumL p))) = true from h)
 exact Nat.le_of_ble_eq_true (an_inv h2).1
theorem P24 {p:List Nat} (h:okP 14 p = true):pu0 24 [sv p] = some (cv p):=by
 obtain ⟨k,h1,h2,hs,hm⟩:=in_pts h
 clear hs
 match k,h1,h2,hm with
 | 1,_,_,hm=>exact map_at (f:=fun p=>pu0 24 [sv p]) (g:=fun p=>some (cv p)) e24_1 hm
 | 2,_,_,hm=>exact map_at (f:=fun p=>pu0 24 [sv p]) (g:=fun p=>some (cv p)) e24_2 hm
 | 3,_,_,hm=>exact map_at (f:=fun p=>pu0 24 [sv p]) (g:=fun p=>some (cv p)) e24_3 hm
 | 4,_,_,hm=>exact map_at (f:=fun p=>pu0 24 [sv p]) (g:=fun p=>some (cv p)) e24_4 hm
 | 5,_,_,hm=>exact map_at (f:=fun p=>pu0 24 [sv p]) (g:=fun p=>some (cv p)) e24_5 hm
 | 6,_,_,hm=>exact map_at (f:=fun p=>pu0 24 [sv p]) (g:=fun p=>some (cv p)) e24_6 hm
 | 7,_,_,hm=>exact map_at (f:=fun p=>pu0 24 [sv p]) (g:=fun p=>some (cv p)) e24_7 hm
 | 8,_,_,hm=>exact map_at (f:=fun p=>pu0 24 [sv p]) (g:=fun p=>some (cv p)) e24_8 hm
 | 9,_,_,hm=>exact map_at (f:=fun p=>pu0 24 [sv p]) (g:=fun p=>some (cv p)) e24_9 hm
 | 10,_,_,hm=>exact map_at (f:=fun p=>pu0 24 [sv p]) (g:=fun p=>some (cv p)) e24_10 hm
 | 11,_,_,hm=>exact map_at (f:=fun p=>pu0 24 [sv p]) (g:=fun p=>some (cv p)) e24_11 hm
 | 12,_,_,hm=>exact map_at (f:=fun p=>pu0 24 [sv p]) (g:=fun p=>some (cv p)) e24_12 hm
 | 13,_,_,hm=>exact map_at (f:=fun p=>pu0 24 [sv p]) (g:=fun p=>some (cv p)) e24_13 hm
 | 14,_,_,hm=>exact map_at (f:=fun p=>pu0 24 [sv p]) (g:=fun p=>some (cv p)) e24_14 hm
 | k + 15,_,h2,_=>omega
theorem P57 {p:List Nat} (h:okP 14 p = true):pu0 57 [sv p] = some (sv (rnd p)):=by
 obtain ⟨k,h1,h2,hs,hm⟩:=in_pts h
 clear hs
 match k,h1,h2,hm with
 | 1,_,_,hm=>exact map_at (f:=fun p=>pu0 57 [sv p]) (g:=fun p=>some (sv (rnd p))) e57_1 hm
 | 2,_,_,hm=>exact map_at (f:=fun p=>pu0 57 [sv p]) (g:=fun p=>some (sv (rnd p))) e57_2 hm
 | 3,_,_,hm=>exact map_at (f:=fun p=>pu0 57 [sv p]) (g:=fun p=>some (sv (rnd p))) e57_3 hm
 | 4,_,_,hm=>exact map_at (f:=fun p=>pu0 57 [sv p]) (g:=fun p=>some (sv (rnd p))) e57_4 hm
 | 5,_,_,hm=>exact map_at (f:=fun p=>pu0 57 [sv p]) (g:=fun p=>some (sv (rnd p))) e57_5 hm
 | 6,_,_,hm=>exact map_at (f:=fun p=>pu0 57 [sv p]) (g:=fun p=>some (sv (rnd p))) e57_6 hm
 | 7,_,_,hm=>exact map_at (f:=fun p=>pu0 57 [sv p]) (g:=fun p=>some (sv (rnd p))) e57_7 hm
 | 8,_,_,hm=>exact map_at (f:=fun p=>pu0 57 [sv p]) (g:=fun p=>some (sv (rnd p))) e57_8 hm
 | 9,_,_,hm=>exact map_at (f:=fun p=>pu0 57 [sv p]) (g:=fun p=>some (sv (rnd p))) e57_9 hm
 | 10,_,_,hm=>exact map_at (f:=fun p=>pu0 57 [sv p]) (g:=fun p=>some (sv (rnd p))) e57_10 hm
 | 11,_,_,hm=>exact map_at (f:=fun p=>pu0 57 [sv p]) (g:=fun p=>some (sv (rnd p))) e57_11 hm
 | 12,_,_,hm=>exact map_at (f:=fun p=>pu0 57 [sv p]) (g:=fun p=>some (sv (rnd p))) e57_12 hm
 | 13,_,_,hm=>exact map_at (f:=fun p=>pu0 57 [sv p]) (g:=fun p=>some (sv (rnd p))) e57_13 hm
 | 14,_,_,hm=>exact map_at (f:=fun p=>pu0 57 [sv p]) (g:=fun p=>some (sv (rnd p))) e57_14 hm
 | k + 15,_,h2,_=>omega
theorem P44 {p:List Nat} (h:okP 14 p = true):m44 puA 1000000 [sv p] = some (.bool (ret p)):=by
 obtain ⟨k,h1,h2,hs,hm⟩:=in_pts h
 clear hs
 match k,h1,h2,hm with
 | 1,_,_,hm=>exact map_at (f:=fun p=>m44 puA 1000000 [sv p]) (g:=fun p=>some (.bool (ret p))) e44_1 hm
 | 2,_,_,hm=>exact map_at (f:=fun p=>m44 puA 1000000 [sv p]) (g:=fun p=>some (.bool (ret p))) e44_2 hm
 | 3,_,_,hm=>exact map_at (f:=fun p=>m44 puA 1000000 [sv p]) (g:=fun p=>some (.bool (ret p))) e44_3 hm
 | 4,_,_,hm=>exact map_at (f:=fun p=>m44 puA 1000000 [sv p]) (g:=fun p=>some (.bool (ret p))) e44_4 hm
 | 5,_,_,hm=>exact map_at (f:=fun p=>m44 puA 1000000 [sv p]) (g:=fun p=>some (.bool (ret p))) e44_5 hm
 | 6,_,_,hm=>exact map_at (f:=fun p=>m44 puA 1000000 [sv p]) (g:=fun p=>some (.bool (ret p))) e44_6 hm
 | 7,_,_,hm=>exact map_at (f:=fun p=>m44 puA 1000000 [sv p]) (g:=fun p=>some (.bool (ret p))) e44_7 hm
 | 8,_,_,hm=>exact map_at (f:=fun p=>m44 puA 1000000 [sv p]) (g:=fun p=>some (.bool (ret p))) e44_8 hm
 | 9,_,_,hm=>exact map_at (f:=fun p=>m44 puA 1000000 [sv p]) (g:=fun p=>some (.bool (ret p))) e44_9 hm
 | 10,_,_,hm=>exact map_at (f:=fun p=>m44 puA 1000000 [sv p]) (g:=fun p=>some (.bool (ret p))) e44_10 hm
 | 11,_,_,hm=>exact map_at (f:=fun p=>m44 puA 1000000 [sv p]) (g:=fun p=>some (.bool (ret p))) e44_11 hm
 | 12,_,_,hm=>exact map_at (f:=fun p=>m44 puA 1000000 [sv p]) (g:=fun p=>some (.bool (ret p))) e44_12 hm
 | 13,_,_,hm=>exact map_at (f:=fun p=>m44 puA 1000000 [sv p]) (g:=fun p=>some (.bool (ret p))) e44_13 hm
 | 14,_,_,hm=>exact map_at (f:=fun p=>m44 puA 1000000 [sv p]) (g:=fun p=>some (.bool (ret p))) e44_14 hm
 | k + 15,_,h2,_=>omega
theorem P56 {p:List Nat} (h:okP 14 p = true):m56 puB 1000000 [sv p] = some (untS p):=by
 obtain ⟨k,h1,h2,hs,hm⟩:=in_pts h
 clear hs
 match k,h1,h2,hm with
 | 1,_,_,hm=>exact map_at (f:=fun p=>m56 puB 1000000 [sv p]) (g:=fun p=>some (untS p)) e56_1 hm
 | 2,_,_,hm=>exact map_at (f:=fun p=>m56 puB 1000000 [sv p]) (g:=fun p=>some (untS p)) e56_2 hm
 | 3,_,_,hm=>exact map_at (f:=fun p=>m56 puB 1000000 [sv p]) (g:=fun p=>some (untS p)) e56_3 hm
 | 4,_,_,hm=>exact map_at (f:=fun p=>m56 puB 1000000 [sv p]) (g:=fun p=>some (untS p)) e56_4 hm
 | 5,_,_,hm=>exact map_at (f:=fun p=>m56 puB 1000000 [sv p]) (g:=fun p=>some (untS p)) e56_5 hm
 | 6,_,_,hm=>exact map_at (f:=fun p=>m56 puB 1000000 [sv p]) (g:=fun p=>some (untS p)) e56_6 hm
 | 7,_,_,hm=>exact map_at (f:=fun p=>m56 puB 1000000 [sv p]) (g:=fun p=>some (untS p)) e56_7 hm
 | 8,_,_,hm=>exact map_at (f:=fun p=>m56 puB 1000000 [sv p]) (g:=fun p=>some (untS p)) e56_8 hm
 | 9,_,_,hm=>exact map_at (f:=fun p=>m56 puB 1000000 [sv p]) (g:=fun p=>some (untS p)) e56_9 hm
 | 10,_,_,hm=>exact map_at (f:=fun p=>m56 puB 1000000 [sv p]) (g:=fun p=>some (untS p)) e56_10 hm
 | 11,_,_,hm=>exact map_at (f:=fun p=>m56 puB 1000000 [sv p]) (g:=fun p=>some (untS p)) e56_11 hm
 | 12,_,_,hm=>exact map_at (f:=fun p=>m56 puB 1000000 [sv p]) (g:=fun p=>some (untS p)) e56_12 hm
 | 13,_,_,hm=>exact map_at (f:=fun p=>m56 puB 1000000 [sv p]) (g:=fun p=>some (untS p)) e56_13 hm
 | 14,_,_,hm=>exact map_at (f:=fun p=>m56 puB 1000000 [sv p]) (g:=fun p=>some (untS p)) e56_14 hm
 | k + 15,_,h2,_=>omega
theorem P28 {p:List Nat} (h:okP 14 p = true):m28 puC 1000000 [sv p] = some (Sl.v 1 (rSl (ringOf p))):=by
 obtain ⟨k,h1,h2,hs,hm⟩:=in_pts h
 clear hs
 match k,h1,h2,hm with
 | 1,_,_,hm=>exact map_at (f:=fun p=>m28 puC 1000000 [sv p]) (g:=fun p=>some (Sl.v 1 (rSl (ringOf p)))) e28_1 hm
 | 2,_,_,hm=>exact map_at (f:=fun p=>m28 puC 1000000 [sv p]) (g:=fun p=>some (Sl.v 1 (rSl (ringOf p)))) e28_2 hm
 | 3,_,_,hm=>exact map_at (f:=fun p=>m28 puC 1000000 [sv p]) (g:=fun p=>some (Sl.v 1 (rSl (ringOf p)))) e28_3 hm
 | 4,_,_,hm=>exact map_at (f:=fun p=>m28 puC 1000000 [sv p]) (g:=fun p=>some (Sl.v 1 (rSl (ringOf p)))) e28_4 hm
 | 5,_,_,hm=>exact map_at (f:=fun p=>m28 puC 1000000 [sv p]) (g:=fun p=>some (Sl.v 1 (rSl (ringOf p)))) e28_5 hm
 | 6,_,_,hm=>exact map_at (f:=fun p=>m28 puC 1000000 [sv p]) (g:=fun p=>some (Sl.v 1 (rSl (ringOf p)))) e28_6 hm
 | 7,_,_,hm=>exact map_at (f:=fun p=>m28 puC 1000000 [sv p]) (g:=fun p=>some (Sl.v 1 (rSl (ringOf p)))) e28_7 hm
 | 8,_,_,hm=>exact map_at (f:=fun p=>m28 puC 1000000 [sv p]) (g:=fun p=>some (Sl.v 1 (rSl (ringOf p)))) e28_8 hm
 | 9,_,_,hm=>exact map_at (f:=fun p=>m28 puC 1000000 [sv p]) (g:=fun p=>some (Sl.v 1 (rSl (ringOf p)))) e28_9 hm
 | 10,_,_,hm=>exact map_at (f:=fun p=>m28 puC 1000000 [sv p]) (g:=fun p=>some (Sl.v 1 (rSl (ringOf p)))) e28_10 hm
 | 11,_,_,hm=>exact map_at (f:=fun p=>m28 puC 1000000 [sv p]) (g:=fun p=>some (Sl.v 1 (rSl (ringOf p)))) e28_11 hm
 | 12,_,_,hm=>exact map_at (f:=fun p=>m28 puC 1000000 [sv p]) (g:=fun p=>some (Sl.v 1 (rSl (ringOf p)))) e28_12 hm
 | 13,_,_,hm=>exact map_at (f:=fun p=>m28 puC 1000000 [sv p]) (g:=fun p=>some (Sl.v 1 (rSl (ringOf p)))) e28_13 hm
 | 14,_,_,hm=>exact map_at (f:=fun p=>m28 puC 1000000 [sv p]) (g:=fun p=>some (Sl.v 1 (rSl (ringOf p)))) e28_14 hm
 | k + 15,_,h2,_=>omega
theorem P7 {p:List Nat} (h:okP 14 p = true):m7 puD 1000000 [sv p] = some (cntAt (sumL p) (ringIx p)):=by
 obtain ⟨k,h1,h2,hs,hm⟩:=in_pts h
 clear hs
 match k,h1,h2,hm with
 | 1,_,_,hm=>exact map_at (f:=fun p=>m7 puD 1000000 [sv p]) (g:=fun p=>some (cntAt (sumL p) (ringIx p))) e7_1 hm
 | 2,_,_,hm=>exact map_at (f:=fun p=>m7 puD 1000000 [sv p]) (g:=fun p=>some (cntAt (sumL p) (ringIx p))) e7_2 hm
 | 3,_,_,hm=>exact map_at (f:=fun p=>m7 puD 1000000 [sv p]) (g:=fun p=>some (cntAt (sumL p) (ringIx p))) e7_3 hm
 | 4,_,_,hm=>exact map_at (f:=fun p=>m7 puD 1000000 [sv p]) (g:=fun p=>some (cntAt (sumL p) (ringIx p))) e7_4 hm
 | 5,_,_,hm=>exact map_at (f:=fun p=>m7 puD 1000000 [sv p]) (g:=fun p=>some (cntAt (sumL p) (ringIx p))) e7_5 hm
 | 6,_,_,hm=>exact map_at (f:=fun p=>m7 puD 1000000 [sv p]) (g:=fun p=>some (cntAt (sumL p) (ringIx p))) e7_6 hm
 | 7,_,_,hm=>exact map_at (f:=fun p=>m7 puD 1000000 [sv p]) (g:=fun p=>some (cntAt (sumL p) (ringIx p))) e7_7 hm
 | 8,_,_,hm=>exact map_at (f:=fun p=>m7 puD 1000000 [sv p]) (g:=fun p=>some (cntAt (sumL p) (ringIx p))) e7_8 hm
 | 9,_,_,hm=>exact map_at (f:=fun p=>m7 puD 1000000 [sv p]) (g:=fun p=>some (cntAt (sumL p) (ringIx p))) e7_9 hm
 | 10,_,_,hm=>exact map_at (f:=fun p=>m7 puD 1000000 [sv p]) (g:=fun p=>some (cntAt (sumL p) (ringIx p))) e7_10 hm
 | 11,_,_,hm=>exact map_at (f:=fun p=>m7 puD 1000000 [sv p]) (g:=fun p=>some (cntAt (sumL p) (ringIx p))) e7_11 hm
 | 12,_,_,hm=>exact map_at (f:=fun p=>m7 puD 1000000 [sv p]) (g:=fun p=>some (cntAt (sumL p) (ringIx p))) e7_12 hm
 | 13,_,_,hm=>exact map_at (f:=fun p=>m7 puD 1000000 [sv p]) (g:=fun p=>some (cntAt (sumL p) (ringIx p))) e7_13 hm
 | 14,_,_,hm=>exact map_at (f:=fun p=>m7 puD 1000000 [sv p]) (g:=fun p=>some (cntAt (sumL p) (ringIx p))) e7_14 hm
 | k + 15,_,h2,_=>omega
theorem P47 {p:List Nat} (h:okP 14 p = true):pu0 47 [cv p] = some (.bool (ret p)):=by
 obtain ⟨k,h1,h2,hs,hm⟩:=in_pts h
 clear hs
 match k,h1,h2,hm with
 | 1,_,_,hm=>exact map_at (f:=fun p=>pu0 47 [cv p]) (g:=fun p=>some (.bool (ret p))) e47_1 hm
 | 2,_,_,hm=>exact map_at (f:=fun p=>pu0 47 [cv p]) (g:=fun p=>some (.bool (ret p))) e47_2 hm
 | 3,_,_,hm=>exact map_at (f:=fun p=>pu0 47 [cv p]) (g:=fun p=>some (.bool (ret p))) e47_3 hm
 | 4,_,_,hm=>exact map_at (f:=fun p=>pu0 47 [cv p]) (g:=fun p=>some (.bool (ret p))) e47_4 hm
 | 5,_,_,hm=>exact map_at (f:=fun p=>pu0 47 [cv p]) (g:=fun p=>some (.bool (ret p))) e47_5 hm
 | 6,_,_,hm=>exact map_at (f:=fun p=>pu0 47 [cv p]) (g:=fun p=>some (.bool (ret p))) e47_6 hm
 | 7,_,_,hm=>exact map_at (f:=fun p=>pu0 47 [cv p]) (g:=fun p=>some (.bool (ret p))) e47_7 hm
 | 8,_,_,hm=>exact map_at (f:=fun p=>pu0 47 [cv p]) (g:=fun p=>some (.bool (ret p))) e47_8 hm
 | 9,_,_,hm=>exact map_at (f:=fun p=>pu0 47 [cv p]) (g:=fun p=>some (.bool (ret p))) e47_9 hm
 | 10,_,_,hm=>exact map_at (f:=fun p=>pu0 47 [cv p]) (g:=fun p=>some (.bool (ret p))) e47_10 hm
 | 11,_,_,hm=>exact map_at (f:=fun p=>pu0 47 [cv p]) (g:=fun p=>some (.bool (ret p))) e47_11 hm
 | 12,_,_,hm=>exact map_at (f:=fun p=>pu0 47 [cv p]) (g:=fun p=>some (.bool (ret p))) e47_12 hm
 | 13,_,_,hm=>exact map_at (f:=fun p=>pu0 47 [cv p]) (g:=fun p=>some (.bool (ret p))) e47_13 hm
 | 14,_,_,hm=>exact map_at (f:=fun p=>pu0 47 [cv p]) (g:=fun p=>some (.bool (ret p))) e47_14 hm
 | k + 15,_,h2,_=>omega
theorem P45 {p:List Nat} (h:okP 14 p = true):pu0 45 [cv p] = some (cv (rnd p)):=by
 obtain ⟨k,h1,h2,hs,hm⟩:=in_pts h
 clear hs
 match k,h1,h2,hm with
 | 1,_,_,hm=>exact map_at (f:=fun p=>pu0 45 [cv p]) (g:=fun p=>some (cv (rnd p))) e45_1 hm
 | 2,_,_,hm=>exact map_at (f:=fun p=>pu0 45 [cv p]) (g:=fun p=>some (cv (rnd p))) e45_2 hm
 | 3,_,_,hm=>exact map_at (f:=fun p=>pu0 45 [cv p]) (g:=fun p=>some (cv (rnd p))) e45_3 hm
 | 4,_,_,hm=>exact map_at (f:=fun p=>pu0 45 [cv p]) (g:=fun p=>some (cv (rnd p))) e45_4 hm
 | 5,_,_,hm=>exact map_at (f:=fun p=>pu0 45 [cv p]) (g:=fun p=>some (cv (rnd p))) e45_5 hm
 | 6,_,_,hm=>exact map_at (f:=fun p=>pu0 45 [cv p]) (g:=fun p=>some (cv (rnd p))) e45_6 hm
 | 7,_,_,hm=>exact map_at (f:=fun p=>pu0 45 [cv p]) (g:=fun p=>some (cv (rnd p))) e45_7 hm
 | 8,_,_,hm=>exact map_at (f:=fun p=>pu0 45 [cv p]) (g:=fun p=>some (cv (rnd p))) e45_8 hm
 | 9,_,_,hm=>exact map_at (f:=fun p=>pu0 45 [cv p]) (g:=fun p=>some (cv (rnd p))) e45_9 hm
 | 10,_,_,hm=>exact map_at (f:=fun p=>pu0 45 [cv p]) (g:=fun p=>some (cv (rnd p))) e45_10 hm
 | 11,_,_,hm=>exact map_at (f:=fun p=>pu0 45 [cv p]) (g:=fun p=>some (cv (rnd p))) e45_11 hm
 | 12,_,_,hm=>exact map_at (f:=fun p=>pu0 45 [cv p]) (g:=fun p=>some (cv (rnd p))) e45_12 hm
 | 13,_,_,hm=>exact map_at (f:=fun p=>pu0 45 [cv p]) (g:=fun p=>some (cv (rnd p))) e45_13 hm
 | 14,_,_,hm=>exact map_at (f:=fun p=>pu0 45 [cv p]) (g:=fun p=>some (cv (rnd p))) e45_14 hm
 | k + 15,_,h2,_=>omega
theorem P49 {p:List Nat} (h:okP 14 p = true):m49 puV 1000000 [cv p] = some (untV p):=by
 obtain ⟨k,h1,h2,hs,hm⟩:=in_pts h
 clear hs
 match k,h1,h2,hm with
 | 1,_,_,hm=>exact map_at (f:=fun p=>m49 puV 1000000 [cv p]) (g:=fun p=>some (untV p)) e49_1 hm
 | 2,_,_,hm=>exact map_at (f:=fun p=>m49 puV 1000000 [cv p]) (g:=fun p=>some (untV p)) e49_2 hm
 | 3,_,_,hm=>exact map_at (f:=fun p=>m49 puV 1000000 [cv p]) (g:=fun p=>some (untV p)) e49_3 hm
 | 4,_,_,hm=>exact map_at (f:=fun p=>m49 puV 1000000 [cv p]) (g:=fun p=>some (untV p)) e49_4 hm
 | 5,_,_,hm=>exact map_at (f:=fun p=>m49 puV 1000000 [cv p]) (g:=fun p=>some (untV p)) e49_5 hm
 | 6,_,_,hm=>exact map_at (f:=fun p=>m49 puV 1000000 [cv p]) (g:=fun p=>some (untV p)) e49_6 hm
 | 7,_,_,hm=>exact map_at (f:=fun p=>m49 puV 1000000 [cv p]) (g:=fun p=>some (untV p)) e49_7 hm
 | 8,_,_,hm=>exact map_at (f:=fun p=>m49 puV 1000000 [cv p]) (g:=fun p=>some (untV p)) e49_8 hm
 | 9,_,_,hm=>exact map_at (f:=fun p=>m49 puV 1000000 [cv p]) (g:=fun p=>some (untV p)) e49_9 hm
 | 10,_,_,hm=>exact map_at (f:=fun p=>m49 puV 1000000 [cv p]) (g:=fun p=>some (untV p)) e49_10 hm
 | 11,_,_,hm=>exact map_at (f:=fun p=>m49 puV 1000000 [cv p]) (g:=fun p=>some (untV p)) e49_11 hm
 | 12,_,_,hm=>exact map_at (f:=fun p=>m49 puV 1000000 [cv p]) (g:=fun p=>some (untV p)) e49_12 hm
 | 13,_,_,hm=>exact map_at (f:=fun p=>m49 puV 1000000 [cv p]) (g:=fun p=>some (untV p)) e49_13 hm
 | 14,_,_,hm=>exact map_at (f:=fun p=>m49 puV 1000000 [cv p]) (g:=fun p=>some (untV p)) e49_14 hm
 | k + 15,_,h2,_=>omega
theorem P25 {p:List Nat} (h:okP 14 p = true):deepR 0 2 (evU 25 [cv p]) = some (Sl.v 1 (rSl (ringOf p))):=by
 obtain ⟨k,h1,h2,hs,hm⟩:=in_pts h
 clear hs
 match k,h1,h2,hm with
 | 1,_,_,hm=>exact map_at (f:=fun p=>deepR 0 2 (evU 25 [cv p])) (g:=fun p=>some (Sl.v 1 (rSl (ringOf p)))) e25_1 hm
 | 2,_,_,hm=>exact map_at (f:=fun p=>deepR 0 2 (evU 25 [cv p])) (g:=fun p=>some (Sl.v 1 (rSl (ringOf p)))) e25_2 hm
 | 3,_,_,hm=>exact map_at (f:=fun p=>deepR 0 2 (evU 25 [cv p])) (g:=fun p=>some (Sl.v 1 (rSl (ringOf p)))) e25_3 hm
 | 4,_,_,hm=>exact map_at (f:=fun p=>deepR 0 2 (evU 25 [cv p])) (g:=fun p=>some (Sl.v 1 (rSl (ringOf p)))) e25_4 hm
 | 5,_,_,hm=>exact map_at (f:=fun p=>deepR 0 2 (evU 25 [cv p])) (g:=fun p=>some (Sl.v 1 (rSl (ringOf p)))) e25_5 hm
 | 6,_,_,hm=>exact map_at (f:=fun p=>deepR 0 2 (evU 25 [cv p])) (g:=fun p=>some (Sl.v 1 (rSl (ringOf p)))) e25_6 hm
 | 7,_,_,hm=>exact map_at (f:=fun p=>deepR 0 2 (evU 25 [cv p])) (g:=fun p=>some (Sl.v 1 (rSl (ringOf p)))) e25_7 hm
 | 8,_,_,hm=>exact map_at (f:=fun p=>deepR 0 2 (evU 25 [cv p])) (g:=fun p=>some (Sl.v 1 (rSl (ringOf p)))) e25_8 hm
 | 9,_,_,hm=>exact map_at (f:=fun p=>deepR 0 2 (evU 25 [cv p])) (g:=fun p=>some (Sl.v 1 (rSl (ringOf p)))) e25_9 hm
 | 10,_,_,hm=>exact map_at (f:=fun p=>deepR 0 2 (evU 25 [cv p])) (g:=fun p=>some (Sl.v 1 (rSl (ringOf p)))) e25_10 hm
 | 11,_,_,hm=>exact map_at (f:=fun p=>deepR 0 2 (evU 25 [cv p])) (g:=fun p=>some (Sl.v 1 (rSl (ringOf p)))) e25_11 hm
 | 12,_,_,hm=>exact map_at (f:=fun p=>deepR 0 2 (evU 25 [cv p])) (g:=fun p=>some (Sl.v 1 (rSl (ringOf p)))) e25_12 hm
 | 13,_,_,hm=>exact map_at (f:=fun p=>deepR 0 2 (evU 25 [cv p])) (g:=fun p=>some (Sl.v 1 (rSl (ringOf p)))) e25_13 hm
 | 14,_,_,hm=>exact map_at (f:=fun p=>deepR 0 2 (evU 25 [cv p])) (g:=fun p=>some (Sl.v 1 (rSl (ringOf p)))) e25_14 hm
 | k + 15,_,h2,_=>omega
theorem P26 {p:List Nat} (h:okP 14 p = true):bb (nilL (aheadT p)) (valR (evB 26 [cv p])) (deepR 0 2 (evB 26 [cv p])) = some (aR p):=by
 obtain ⟨k,h1,h2,hs,hm⟩:=in_pts h
 clear hs
 match k,h1,h2,hm with
 | 1,_,_,hm=>exact map_at (f:=fun p=>bb (nilL (aheadT p)) (valR (evB 26 [cv p])) (deepR 0 2 (evB 26 [cv p]))) (g:=fun p=>some (aR p)) e26_1 hm
 | 2,_,_,hm=>exact map_at (f:=fun p=>bb (nilL (aheadT p)) (valR (evB 26 [cv p])) (deepR 0 2 (evB 26 [cv p]))) (g:=fun p=>some (aR p)) e26_2 hm
 | 3,_,_,hm=>exact map_at (f:=fun p=>bb (nilL (aheadT p)) (valR (evB 26 [cv p])) (deepR 0 2 (evB 26 [cv p]))) (g:=fun p=>some (aR p)) e26_3 hm
 | 4,_,_,hm=>exact map_at (f:=fun p=>bb (nilL (aheadT p)) (valR (evB 26 [cv p])) (deepR 0 2 (evB 26 [cv p]))) (g:=fun p=>some (aR p)) e26_4 hm
 | 5,_,_,hm=>exact map_at (f:=fun p=>bb (nilL (aheadT p)) (valR (evB 26 [cv p])) (deepR 0 2 (evB 26 [cv p]))) (g:=fun p=>some (aR p)) e26_5 hm
 | 6,_,_,hm=>exact map_at (f:=fun p=>bb (nilL (aheadT p)) (valR (evB 26 [cv p])) (deepR 0 2 (evB 26 [cv p]))) (g:=fun p=>some (aR p)) e26_6 hm
 | 7,_,_,hm=>exact map_at (f:=fun p=>bb (nilL (aheadT p)) (valR (evB 26 [cv p])) (deepR 0 2 (evB 26 [cv p]))) (g:=fun p=>some (aR p)) e26_7 hm
 | 8,_,_,hm=>exact map_at (f:=fun p=>bb (nilL (aheadT p)) (valR (evB 26 [cv p])) (deepR 0 2 (evB 26 [cv p]))) (g:=fun p=>some (aR p)) e26_8 hm
 | 9,_,_,hm=>exact map_at (f:=fun p=>bb (nilL (aheadT p)) (valR (evB 26 [cv p])) (deepR 0 2 (evB 26 [cv p]))) (g:=fun p=>some (aR p)) e26_9 hm
 | 10,_,_,hm=>exact map_at (f:=fun p=>bb (nilL (aheadT p)) (valR (evB 26 [cv p])) (deepR 0 2 (evB 26 [cv p]))) (g:=fun p=>some (aR p)) e26_10 hm
 | 11,_,_,hm=>exact map_at (f:=fun p=>bb (nilL (aheadT p)) (valR (evB 26 [cv p])) (deepR 0 2 (evB 26 [cv p]))) (g:=fun p=>some (aR p)) e26_11 hm
 | 12,_,_,hm=>exact map_at (f:=fun p=>bb (nilL (aheadT p)) (valR (evB 26 [cv p])) (deepR 0 2 (evB 26 [cv p]))) (g:=fun p=>some (aR p)) e26_12 hm
 | 13,_,_,hm=>exact map_at (f:=fun p=>bb (nilL (aheadT p)) (valR (evB 26 [cv p])) (deepR 0 2 (evB 26 [cv p]))) (g:=fun p=>some (aR p)) e26_13 hm
 | 14,_,_,hm=>exact map_at (f:=fun p=>bb (nilL (aheadT p)) (valR (evB 26 [cv p])) (deepR 0 2 (evB 26 [cv p]))) (g:=fun p=>some (aR p)) e26_14 hm
 | k + 15,_,h2,_=>omega
theorem decOk {p:List Nat} (h:okP 14 p = true):onC [cv p] (fun q=>some q) = some p:=by
 obtain ⟨k,h1,h2,hs,hm⟩:=in_pts h
 clear hs
 match k,h1,h2,hm with
 | 1,_,_,hm=>exact map_at (f:=fun p=>onC [cv p] fun q=>some q) (g:=fun p=>some p) dec_1 hm
 | 2,_,_,hm=>exact map_at (f:=fun p=>onC [cv p] fun q=>some q) (g:=fun p=>some p) dec_2 hm
 | 3,_,_,hm=>exact map_at (f:=fun p=>onC [cv p] fun q=>some q) (g:=fun p=>some p) dec_3 hm
 | 4,_,_,hm=>exact map_at (f:=fun p=>onC [cv p] fun q=>some q) (g:=fun p=>some p) dec_4 hm
 | 5,_,_,hm=>exact map_at (f:=fun p=>onC [cv p] fun q=>some q) (g:=fun p=>some p) dec_5 hm
 | 6,_,_,hm=>exact map_at (f:=fun p=>onC [cv p] fun q=>some q) (g:=fun p=>some p) dec_6 hm
 | 7,_,_,hm=>exact map_at (f:=fun p=>onC [cv p] fun q=>some q) (g:=fun p=>some p) dec_7 hm
 | 8,_,_,hm=>exact map_at (f:=fun p=>onC [cv p] fun q=>some q) (g:=fun p=>some p) dec_8 hm
 | 9,_,_,hm=>exact map_at (f:=fun p=>onC [cv p] fun q=>some q) (g:=fun p=>some p) dec_9 hm
 | 10,_,_,hm=>exact map_at (f:=fun p=>onC [cv p] fun q=>some q) (g:=fun p=>some p) dec_10 hm
 | 11,_,_,hm=>exact map_at (f:=fun p=>onC [cv p] fun q=>some q) (g:=fun p=>some p) dec_11 hm
 | 12,_,_,hm=>exact map_at (f:=fun p=>onC [cv p] fun q=>some q) (g:=fun p=>some p) dec_12 hm
 | 13,_,_,hm=>exact map_at (f:=fun p=>onC [cv p] fun q=>some q) (g:=fun p=>some p) dec_13 hm
 | 14,_,_,hm=>exact map_at (f:=fun p=>onC [cv p] fun q=>some q) (g:=fun p=>some p) dec_14 hm
 | k + 15,_,h2,_=>omega
theorem onC_to {β:Type} {p:List Nat} {k:List Nat→Option β} (h:okP 14 p = true):onC [cv p] k = k p:=by
 have e:oo (decC (cvl p)) none (fun q=>bb (an (okP 14 q) (valsEq (cvl p) (cvl q))) (some q) none) = some p:=decOk h
 show oo (decC (cvl p)) none (fun q=>bb (an (okP 14 q) (valsEq (cvl p) (cvl q))) (k q) none) = k p
 obtain ⟨q,h1,h2⟩:=oo_inv e
 obtain ⟨hc,h3⟩:=bb_inv h2
 injection h3 with h3;subst h3
 rw [h1,oo_some,hc,bb_true]
theorem onC_inv {β:Type} {args:List Value} {k:List Nat→Option β} {v:β} (h:onC args k = some v):∃ p,args = [cv p]∧okP 14 p = true∧k p = some v:=by
 replace h:=ll_uncons h;obtain ⟨a,r,rfl,h⟩:=h
 replace h:=ll_end h;obtain ⟨rfl,h⟩:=h
 obtain ⟨cs,hs,h1⟩:=oo_inv h
 obtain ⟨p,hp,h2⟩:=oo_inv h1
 obtain ⟨hc,h3⟩:=bb_inv h2
 obtain ⟨c1,c2⟩:=an_inv hc
 refine ⟨p,?_,c1,h3⟩
 rw [vAgg_some hs,valsEq_eq c2];rfl
theorem onP_inv {β:Type} {args:List Value} {k:List Nat→Option β} {v:β} (h:onP args k = some v):∃ p,args = [sv p]∧okP 14 p = true∧k p = some v:=by
 replace h:=ll_uncons h;obtain ⟨a,r,rfl,h⟩:=h
 replace h:=ll_end h;obtain ⟨rfl,h⟩:=h
 obtain ⟨s,hs,h1⟩:=oo_inv h
 obtain ⟨p,hp,h2⟩:=oo_inv h1
 obtain ⟨hc,h3⟩:=bb_inv h2
 obtain ⟨c1,hc⟩:=an_inv hc
 obtain ⟨c2,hc⟩:=an_inv hc
 obtain ⟨c3,c4⟩:=an_inv hc
 refine ⟨p,?_,c1,h3⟩
 rw [toSl_some hs]
 obtain ⟨n,fl,cs⟩:=s
 have e1:n = len p:=Nat.eq_of_beq_eq_true c2
 have e2:fl = 0:=Nat.eq_of_beq_eq_true c3
 have e3:cs = iL p:=valsEq_eq c4
 subst e1;subst e2;subst e3;rfl
theorem P6 {p:List Nat} (h:okP 14 p = true):rest6 (rSl (ringOf p)) = some (cntAt (sumL p) (ringIx p)):=by
 obtain ⟨k,h1,h2,hs,hm⟩:=in_pts h
 unfold ringOf
 rw [hs]
 clear hs
 match k,h1,h2,hm with
 | 1, _, _, hm =>
  have hi:=Nat.le_of_ble_eq_true (all_at (f:=fun p=>Nat.blt (ringIx p) 1) rix_1 hm)
  generalize ringIx p = i at hi
  match i,hi with
  | 0,_=>exact c6_1_0
  | i + 1,hi=>omega
 | 2, _, _, hm =>
  have hi:=Nat.le_of_ble_eq_true (all_at (f:=fun p=>Nat.blt (ringIx p) 1) rix_2 hm)
  generalize ringIx p = i at hi
  match i,hi with
  | 0,_=>exact c6_2_0
  | i + 1,hi=>omega
 | 3, _, _, hm =>
  have hi:=Nat.le_of_ble_eq_true (all_at (f:=fun p=>Nat.blt (ringIx p) 1) rix_3 hm)
  generalize ringIx p = i at hi
  match i,hi with
  | 0,_=>exact c6_3_0
  | i + 1,hi=>omega
 | 4, _, _, hm =>
  have hi:=Nat.le_of_ble_eq_true (all_at (f:=fun p=>Nat.blt (ringIx p) 1) rix_4 hm)
  generalize ringIx p = i at hi
  match i,hi with
  | 0,_=>exact c6_4_0
  | i + 1,hi=>omega
 | 5, _, _, hm =>
  have hi:=Nat.le_of_ble_eq_true (all_at (f:=fun p=>Nat.blt (ringIx p) 1) rix_5 hm)
  generalize ringIx p = i at hi
  match i,hi with
  | 0,_=>exact c6_5_0
  | i + 1,hi=>omega
 | 6, _, _, hm =>
  have hi:=Nat.le_of_ble_eq_true (all_at (f:=fun p=>Nat.blt (ringIx p) 1) rix_6 hm)
  generalize ringIx p = i at hi
  match i,hi with
  | 0,_=>exact c6_6_0
  | i + 1,hi=>omega
 | 7, _, _, hm =>
  have hi:=Nat.le_of_ble_eq_true (all_at (f:=fun p=>Nat.blt (ringIx p) 1) rix_7 hm)
  generalize ringIx p = i at hi
  match i,hi with
  | 0,_=>exact c6_7_0
  | i + 1,hi=>omega
 | 8, _, _, hm =>
  have hi:=Nat.le_of_ble_eq_true (all_at (f:=fun p=>Nat.blt (ringIx p) 2) rix_8 hm)
  generalize ringIx p = i at hi
  match i,hi with
  | 0,_=>exact c6_8_0
  | 1,_=>exact c6_8_1
  | i + 2,hi=>omega
 | 9, _, _, hm =>
  have hi:=Nat.le_of_ble_eq_true (all_at (f:=fun p=>Nat.blt (ringIx p) 1) rix_9 hm)
  generalize ringIx p = i at hi
  match i,hi with
  | 0,_=>exact c6_9_0
  | i + 1,hi=>omega
 | 10, _, _, hm =>
  have hi:=Nat.le_of_ble_eq_true (all_at (f:=fun p=>Nat.blt (ringIx p) 1) rix_10 hm)
  generalize ringIx p = i at hi
  match i,hi with
  | 0,_=>exact c6_10_0
  | i + 1,hi=>omega
 | 11, _, _, hm =>
  have hi:=Nat.le_of_ble_eq_true (all_at (f:=fun p=>Nat.blt (ringIx p) 1) rix_11 hm)
  generalize ringIx p = i at hi
  match i,hi with
  | 0,_=>exact c6_11_0
  | i + 1,hi=>omega
 | 12, _, _, hm =>
  have hi:=Nat.le_of_ble_eq_true (all_at (f:=fun p=>Nat.blt (ringIx p) 2) rix_12 hm)
  generalize ringIx p = i at hi
  match i,hi with
  | 0,_=>exact c6_12_0
  | 1,_=>exact c6_12_1
  | i + 2,hi=>omega
 | 13, _, _, hm =>
  have hi:=Nat.le_of_ble_eq_true (all_at (f:=fun p=>Nat.blt (ringIx p) 2) rix_13 hm)
  generalize ringIx p = i at hi
  match i,hi with
  | 0,_=>exact c6_13_0
  | 1,_=>exact c6_13_1
  | i + 2,hi=>omega
 | 14, _, _, hm =>
  have hi:=Nat.le_of_ble_eq_true (all_at (f:=fun p=>Nat.blt (ringIx p) 1) rix_14 hm)
  generalize ringIx p = i at hi
  match i,hi with
  | 0,_=>exact c6_14_0
  | i + 1,hi=>omega
 | k + 15,_,h2,_=>omega
theorem len_isPt : ∀ (p : List Nat) (left most : Nat), isPt p left most = true → p.length ≤ left
 | [],_,_,_=>Nat.zero_le _
 | a :: p, left, most, h => by
  obtain ⟨h1,h2⟩:=an_inv (show an (Nat.ble 1 a) (an (Nat.ble a most) (an (Nat.ble a left) (isPt p (left - a) a))) = true from h)
  obtain ⟨_,h3⟩:=an_inv h2
  obtain ⟨h3,h4⟩:=an_inv h3
  have:=len_isPt p _ _ h4
  have:=Nat.le_of_ble_eq_true h1
  have:=Nat.le_of_ble_eq_true h3
  rw [List.length_cons];omega
theorem puY_g (g:FuncId) (h1:Nat.beq g 26 = false) (h2:Nat.beq g 25 = false):puY g = puN 60 g:=by unfold puY;rw [h1,h2,bb_false,bb_false]
theorem puD_g (g:FuncId) (h1:Nat.beq g 28 = false) (h2:Nat.beq g 29 = false) (h3:Nat.beq g 44 = false):puD g = puN 60 g:=by unfold puD;rw [h1,h2,h3,bb_false,bb_false,bb_false]
theorem chk23 {p:List Nat} (h:okP 14 p = true) (e:chk (nI p) = 0):puY 23 [Sl.v 1 (slOf p)] = some (Value.int .i64 0):=by
 obtain ⟨k,_,hk,hs,_⟩:=in_pts h
 have hl:(nI p).length≤60:=by
  rw [nI_len]
  obtain ⟨_,h2⟩:=an_inv (show an (Nat.ble 1 (sumL p)) (an (Nat.ble (sumL p) 14) (isPt p (sumL p) (sumL p))) = true from h)
  have:=len_isPt p _ _ (an_inv h2).2
  omega
 have q:=HvRM.p23 58 0 (nI p) hl
 rw [e] at q
 have:Sl.v 1 (slOf p) = Sl.v 1 (sl 0 (nI p)):=sv_eq p
 rw [puY_g 23 rfl rfl,this];exact q
theorem m6ok {p:List Nat} (h:okP 14 p = true) (e:chk (nI p) = 0):m6_ puY 1000000 (slOf p) = some (cntAt (sumL p) (ringIx p)):=by
 have e24:puY 24 [Sl.v 1 (slOf p)] = some (cv p):=by rw [puY_g 24 rfl rfl];exact P24 h
 have e25:puY 25 [cv p] = some (Sl.v 1 (rSl (ringOf p))):=by
  show onC [cv p] _ = _
  exact onC_to h
 rw [m6_rest p (chk23 h e) e24,e25,oo_some,toSl_mk,oo_some]
 exact P6 h
section
variable (pu:PureF)
theorem m6e (s:Sl) (c:Int) (hc:c ≠ 0) (h:pu 23 [Sl.v 1 s] = some (I c)):m6_ pu 1000000 s = some (.tuple ⟨[I 0,I c]⟩):=by
 unfold m6_
 rw [h,oo_some,toI_mk,oo_some,ne_t hc,bb_true]
theorem m7e (s:Sl) (c:Int) (hc:c ≠ 0) (h:pu 27 [Sl.v 1 s] = some (I c)):m7_ pu 1000000 s = some (.tuple ⟨[I 0,I c]⟩):=by
 unfold m7_
 rw [h,oo_some,toI_mk,oo_some,ne_t hc,bb_true]
theorem m3_2p (s : Sl) (z a e e2 : Int) (r : Sl) (h6 : pu 6 [Sl.v 1 s] = some (.tuple ⟨[I a, I e]⟩)) (h7 : pu 7 [Sl.v 1 s] = some (.tuple ⟨[I a, I e]⟩)) (h8 : pu 8 [I z] = some (.tuple ⟨[Sl.v 1 r, I e2]⟩)) (h9 : pu 9 [I z] = some (.tuple ⟨[Sl.v 1 r, I e2]⟩))
 (h3:m3_3 pu 1000000 r r false = some (.bool true)):m3_2 pu 1000000 s z false = some (.bool true):=by
 unfold m3_2
 rw [bb_false,h6]
 simp -implicitDefEqProofs only [oo_some,vTup_mk,ll_cons',ll_nil',toI_mk]
 rw [h7]
 simp -implicitDefEqProofs only [oo_some,vTup_mk,ll_cons',ll_nil',toI_mk]
 rw [h8]
 simp -implicitDefEqProofs only [oo_some,vTup_mk,ll_cons',ll_nil',toI_mk,toSl_mk]
 rw [h9]
 simp -implicitDefEqProofs only [oo_some,vTup_mk,ll_cons',ll_nil',toI_mk,toSl_mk]
 rw [neqr,neqr,neqr,neqr,bb_false,bb_false,bb_false]
 exact h3
theorem m3_2t (h5:pu 5 [] = some (.bool true)) (s:Sl) (z:Int):m3_2 pu 1000000 s z true = some (.bool true):=by
 unfold m3_2
 rw [bb_true,h5,oo_some,vBool_mk,oo_some]
theorem m3_1p (h5:pu 5 [] = some (.bool true)) (s:Sl) (z n:Int) (h:(14 < n∧n≤21)∨m3_2 pu 1000000 s z false = some (.bool true)):m3_1 pu 1000000 s z n = some (.bool true):=by
 unfold m3_1
 by_cases c1:14 < n
 ·rw [show ilt 14 n = true by rw [ilt_eq]; exact decide_eq_true c1, bb_true]
  by_cases c2:21 < n
  ·rw [show ilt 21 n = true by rw [ilt_eq]; exact decide_eq_true c2]
   rcases h with h | h
   ·omega
   ·exact h
  ·rw [show ilt 21 n = false by rw [ilt_eq]; exact decide_eq_false c2]
   exact m3_2t pu h5 s z
 ·rw [show ilt 14 n = false by rw [ilt_eq]; exact decide_eq_false c1, bb_false]
  rcases h with h | h
  ·omega
  ·exact h
noncomputable def clamp (x:Int):Int:=bb (ilt (30:Int) (bb (ilt x (0:Int)) (0:Int) x)) (30:Int) (bb (ilt x (0:Int)) (0:Int) x)
theorem clamp_b (x:Int):0≤clamp x∧clamp x≤30:=by
 unfold clamp
 rw [ilt_eq x 0]
 by_cases c:x < 0
 ·rw [decide_eq_true c,bb_true,show ilt 30 0 = false from rfl,bb_false];omega
 ·rw [decide_eq_false c, bb_false, ilt_eq]
  by_cases d:30 < x
  ·rw [decide_eq_true d,bb_true];omega
  ·rw [decide_eq_false d,bb_false];omega
theorem clamp_in (x:Int) (h:1≤x∧x≤21):clamp x = x:=by
 unfold clamp
 rw [ilt_eq x 0,decide_eq_false (by omega),bb_false,ilt_eq,decide_eq_false (by omega),bb_false]
noncomputable def cs : List Int → Int
 | []=>0
 | x :: t=>clamp x + cs t
theorem cs_in : ∀ l : List Int, (∀ x ∈ l, 1 ≤ x ∧ x ≤ 21) → cs l = l.sum
 | [],_=>rfl
 | x :: t, h => by
  show clamp x + cs t = _
  rw [clamp_in x (h x (by simp)),cs_in t (fun y hy=>h y (by simp [hy])),List.sum_cons]
theorem l3_6p (l:List Int) (hl:l.length≤60) (z:Int):∀ (f i:Nat) (a:Int),l.length - i < f→i≤l.length→0≤a→a≤30 * i→l3_6 pu 1000000 f (sl 0 l) z a (Int.ofNat i) = m3_1 pu 1000000 (sl 0 l) z (a + cs (l.drop i)):=by
 intro f
 induction f with
 | zero=>intro i a h;omega
 | succ f ih =>
  intro i a hf hi h0 h1
  show b3_6 pu 1000000 (l3_6 pu 1000000 f) _ _ _ _ = _
  unfold b3_6
  rw [sl_n]
  by_cases hlt:i < l.length
  ·have hc := clamp_b l[i]
   rw [lt_true hlt,List.drop_eq_getElem_cons hlt]
   simp only [bb_true,toN_mk,oo_some,sl_n,sl_cs,blt_eq,hlt,decide_true,an_eq,Bool.true_and,nthL_eq,Nat.mul_one,getI l i hlt,toI_mk]
   have e:wrapF .i64 (Int.add a (clamp l[i])) = a + clamp l[i]:=by
    show wrapF .i64 (a + clamp l[i]) = _
    exact wrapN (by omega) (by omega)
   have:=ih (i + 1) (a + clamp l[i]) (by omega) (by omega) (by omega) (by omega)
   show l3_6 pu 1000000 f (sl 0 l) z (wrapF .i64 (Int.add a (clamp l[i]))) (wrapF .i64 (Int.add (Int.ofNat i) 1)) = _
   rw [e,wrapS i (by omega),this]
   show _ = m3_1 pu 1000000 (sl 0 l) z (a + (clamp l[i] + cs (l.drop (i + 1))))
   rw [Int.add_assoc]
  ·have : i = l.length := by omega
   subst this
   rw [lt_false hlt,bb_false,List.drop_length]
   show _ = m3_1 pu 1000000 (sl 0 l) z (a + 0)
   rw [Int.add_zero]
theorem m3_p (h5 : pu 5 [] = some (.bool true)) (l : List Int) (z : Int) (h4 : pu 4 [Sl.v 1 (sl 0 l)] = some (.bool (decide (60 < l.length))))
 (h:l.length≤60→(z≤14∨21 < z)→(14 < cs l∧cs l≤21)∨m3_2 pu 1000000 (sl 0 l) z false = some (.bool true)):m3_ pu 1000000 (sl 0 l) z = some (.bool true):=by
 have t0:m3_0 pu 1000000 (sl 0 l) z true = some (.bool true):=by
  unfold m3_0;rw [bb_true,h5,oo_some,vBool_mk,oo_some]
 unfold m3_
 rw [h4,oo_some,vBool_mk,oo_some]
 by_cases hb:60 < l.length
 ·rw [decide_eq_true hb,bb_true];exact t0
 ·rw [decide_eq_false hb, bb_false]
  have f0:(z≤14∨21 < z)→m3_0 pu 1000000 (sl 0 l) z false = some (.bool true):=fun hz=>by
   unfold m3_0
   rw [bb_false]
   have:=l3_6p pu l (by omega) z 1000000 0 0 (by omega) (by omega) (by omega) (by omega)
   rw [List.drop_zero,Int.zero_add] at this
   exact this.trans (m3_1p pu h5 _ _ _ (h (by omega) hz))
  by_cases c1:14 < z
  ·rw [show ilt 14 z = true by rw [ilt_eq]; exact decide_eq_true c1, bb_true]
   by_cases c2:21 < z
   ·rw [show ilt 21 z = true by rw [ilt_eq]; exact decide_eq_true c2]
    exact f0 (.inr c2)
   ·rw [show ilt 21 z = false by rw [ilt_eq]; exact decide_eq_false c2]
    exact t0
  ·rw [show ilt 14 z = false by rw [ilt_eq]; exact decide_eq_false c1, bb_false]
   exact f0 (.inl (by omega))
end
def RG (z:Int):Prop:=∃ (r:Sl) (e2:Int),puW 8 [I z] = some (.tuple ⟨[Sl.v 1 r,I e2]⟩)∧puW 9 [I z] = some (.tuple ⟨[Sl.v 1 r,I e2]⟩)∧m3_3 puW 1000000 r r false = some (.bool true)
theorem k7 (a:List Value):puW 7 a = m7 puD 1000000 a:=by kernel_rfl
theorem k6 (a:List Value):puW 6 a = m6 puY 1000000 a:=by kernel_rfl
theorem k9 (z:Int):puW 9 [I z] = m9 puD 1000000 [I z]:=by kernel_rfl
theorem k8 (z:Int):puW 8 [I z] = or8 [I z]:=by kernel_rfl
theorem rg (z:Int) (r:Sl) (e2:Int) (h8:or8 [I z] = some (.tuple ⟨[Sl.v 1 r,I e2]⟩)) (h9:m9 puD 1000000 [I z] = some (.tuple ⟨[Sl.v 1 r,I e2]⟩)) (h3:m3_3 puW 1000000 r r false = some (.bool true)):RG z:=⟨r,e2,(k8 z).trans h8,(k9 z).trans h9,h3⟩
theorem rg_0:RG (.ofNat 0):=rg _ ⟨0,2,[]⟩ 1 (by kernel_rfl) e9_0 law_0
theorem rg_b (m:Nat):RG (.ofNat (m + 22)):=rg _ ⟨0,2,[]⟩ 1 (by kernel_rfl) (e9_b m) law_0
theorem rg_n (m:Nat):RG (.negSucc m):=rg _ ⟨0,2,[]⟩ 1 (by kernel_rfl) (e9_n m) law_0
theorem rg_1:RG (.ofNat 1):=rg _ rsV1 0 (by kernel_rfl) e9_1 law_1
theorem rg_2:RG (.ofNat 2):=rg _ rsV2 0 (by kernel_rfl) e9_2 law_2
theorem rg_3:RG (.ofNat 3):=rg _ rsV3 0 (by kernel_rfl) e9_3 law_3
theorem rg_4:RG (.ofNat 4):=rg _ rsV4 0 (by kernel_rfl) e9_4 law_4
theorem rg_5:RG (.ofNat 5):=rg _ rsV5 0 (by kernel_rfl) e9_5 law_5
theorem rg_6:RG (.ofNat 6):=rg _ rsV6 0 (by kernel_rfl) e9_6 law_6
theorem rg_7:RG (.ofNat 7):=rg _ rsV7 0 (by kernel_rfl) e9_7 law_7
theorem rg_8:RG (.ofNat 8):=rg _ rsV8 0 (by kernel_rfl) e9_8 law_8
theorem rg_9:RG (.ofNat 9):=rg _ rsV9 0 (by kernel_rfl) e9_9 law_9
theorem rg_10:RG (.ofNat 10):=rg _ rsV10 0 (by kernel_rfl) e9_10 law_10
theorem rg_11:RG (.ofNat 11):=rg _ rsV11 0 (by kernel_rfl) e9_11 law_11
theorem rg_12:RG (.ofNat 12):=rg _ rsV12 0 (by kernel_rfl) e9_12 law_12
theorem rg_13:RG (.ofNat 13):=rg _ rsV13 0 (by kernel_rfl) e9_13 law_13
theorem rg_14:RG (.ofNat 14):=rg _ rsV14 0 (by kernel_rfl) e9_14 law_14
theorem ringsN (n:Nat) (hz:n≤14∨21 < n):RG (.ofNat n):=by
 match n,hz with
 | 0,_=>exact rg_0
 | 1,_=>exact rg_1
 | 2,_=>exact rg_2
 | 3,_=>exact rg_3
 | 4,_=>exact rg_4
 | 5,_=>exact rg_5
 | 6,_=>exact rg_6
 | 7,_=>exact rg_7
 | 8,_=>exact rg_8
 | 9,_=>exact rg_9
 | 10,_=>exact rg_10
 | 11,_=>exact rg_11
 | 12,_=>exact rg_12
 | 13,_=>exact rg_13
 | 14,_=>exact rg_14
 | 15,hz=>exact absurd hz (by omega)
 | 16,hz=>exact absurd hz (by omega)
 | 17,hz=>exact absurd hz (by omega)
 | 18,hz=>exact absurd hz (by omega)
 | 19,hz=>exact absurd hz (by omega)
 | 20,hz=>exact absurd hz (by omega)
 | 21,hz=>exact absurd hz (by omega)
 | m + 22,_=>exact rg_b m
theorem rings (z:Int) (hz:z≤14∨21 < z):RG z:=by
 cases z with
 | ofNat n=>exact ringsN n (by simp only [Int.ofNat_eq_natCast] at hz;omega)
 | negSucc m=>exact rg_n m
theorem puW_5:puW 5 [] = some (.bool true):=by kernel_rfl
theorem pRings (l:List Int) (z:Int):m3_ puW 1000000 (sl 0 l) z = some (.bool true):=by
 refine m3_p puW puW_5 l z (by rw [puW_g 4 rfl rfl rfl rfl rfl];exact HvRM.p4 59 0 l) fun hl hz=>?_
 obtain ⟨r,e2,h8,h9,h3⟩:=rings z hz
 have q23:puY 23 [Sl.v 1 (sl 0 l)] = some (I (chk l)):=by rw [puY_g 23 rfl rfl];exact HvRM.p23 58 0 l hl
 have q27:puD 27 [Sl.v 1 (sl 0 l)] = some (I (chk l)):=by rw [puD_g 27 rfl rfl rfl];exact HvRM.p27 58 0 l hl
 by_cases hc:chk l = 0
 ·obtain ⟨p, rfl, hp⟩ := ok_of hc
  have hcs:cs (nI p) = Int.ofNat (sumL p):=by
   rw [cs_in _ (fun x hx=>?_),sum_nI]
   have hz:nI p ≠ []:=fun e=>by rw [e] at hx;cases hx
   unfold chk at hc
   rw [ifp_f (by intro e;exact hz (List.length_eq_zero_iff.1 e))] at hc
   by_cases hs:sc 21 (nI p) = 0
   ·exact sc_pos _ _ hs x hx
   ·rw [ifp_f hs] at hc;exact absurd hc hs
  by_cases h14:sumL p≤14
  ·right
   have h:=ok_down hp h14
   have e:sl 0 (nI p) = slOf p:=by unfold sl slOf;rw [iL_eq,len_eq,nI_len]
   have e6:puW 6 [Sl.v 1 (slOf p)] = some (cntAt (sumL p) (ringIx p)):=(k6 _).trans (Eq.trans (b:=m6_ puY 1000000 (slOf p)) (by kernel_rfl) (m6ok h hc))
   have e7:puW 7 [Sl.v 1 (slOf p)] = some (cntAt (sumL p) (ringIx p)):=(k7 _).trans (P7 h)
   rw [e]
   exact m3_2p puW (slOf p) z _ _ e2 r e6 e7 h8 h9 h3
  ·left
   have:=ok_sum21 hp
   rw [hcs];simp only [Int.ofNat_eq_natCast];omega
 ·right
  have e6:puW 6 [Sl.v 1 (sl 0 l)] = some (.tuple ⟨[I 0,I (chk l)]⟩):=(k6 _).trans (Eq.trans (b:=m6_ puY 1000000 (sl 0 l)) (by kernel_rfl) (m6e puY _ _ hc q23))
  have e7:puW 7 [Sl.v 1 (sl 0 l)] = some (.tuple ⟨[I 0,I (chk l)]⟩):=(k7 _).trans (Eq.trans (b:=m7_ puD 1000000 (sl 0 l)) (by kernel_rfl) (m7e puD _ _ hc q27))
  exact m3_2p puW _ z _ _ e2 r e6 e7 h8 h9 h3
noncomputable def mLaw (args:List Value):Option Value:=m3 puW 1000000 args
theorem mLaw_ok (l:List Int) (z:Int):mLaw [Sl.v 1 (sl 0 l),I z] = some (Value.bool true):=
 Eq.trans (b:=m3_ puW 1000000 (sl 0 l) z) (by kernel_rfl) (pRings l z)
end Go.HvRM
