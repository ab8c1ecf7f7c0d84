/- slices.Repeat of one number, as a promise that closed runs give. -/
import Derived.Test.YthcmfnmmgejnaaaSpObjSx
import Derived.Test.YthcmfnmmgejnaaaHpQCode
import Derived.KernelRfl

set_option maxRecDepth 100000
namespace Go.Sp
theorem Weak.cap (id off sz ln m : Nat) : Weak (.slice (some ⟨id, off, some sz⟩) ln (2 * m + 1)) (.slice (some ⟨id, off, some sz⟩) ln (2 * m)) := fun R u h => by
  have e1 : (2 * m + 1) / 2 = m := by omega
  have e2 : 2 * m / 2 = m := by omega
  cases h with
  | sl h h1 h2 h3 h4 =>
    rw [e1] at h1 h2
    exact .sl h (by rw [e2]; exact h1) (by rw [e2]; exact h2) (fun h => by omega) h4
  | slE h => exact .slE (by omega)
  | slN h => exact .slN (by omega)
end Go.Sp
namespace Go.HpQM
open Go.Sp Go.HpQ
noncomputable section
def orc62 (args : List Value) : Option Value :=
  ll args none fun a r => ll r none fun b r => ll r (oo (toSl 1 a) none fun s => oo (toI .i64 b) none fun z => oo (toN z) none fun k => ll s.cs none fun x r => ll r (oo (toI .i64 x) none fun y => bb (an (Nat.beq s.n 1) (Nat.ble k 21))
    (some (Sl.v 1 ⟨k, 0, zeroRow [.int .i64 y] k⟩)) none) fun _ _ => none) fun _ _ => none
def orc60 (args : List Value) : Option Value :=
  ll args none fun a r => ll r (oo (toSl 1 a) none fun s => ll s.cs none fun x r => ll r none fun y r => ll r (oo (toSl 1 x) none fun u => oo (toSl 1 y) none fun v => oo (mapO (toSl 1) u.cs) none fun us => oo (mapO (toSl 1) v.cs) none fun vs =>
    bb (an (Nat.beq s.n 2) (an (Nat.beq s.fl 0) (an (Nat.beq u.fl 0) (an (Nat.beq v.fl 0) (an (Nat.beq u.n (len us)) (an (Nat.beq v.n (len vs)) (an (Nat.ble 1 (len us)) (Nat.ble (len us + len vs) 7))))))))
      (some (Sl.v 1 ⟨len us + len vs, 0, appL u.cs v.cs⟩)) none) fun _ _ => none) fun _ _ => none
def orc6 (_ : List Value) : Option Value := none
end
end Go.HpQM
set_option maxRecDepth 100000
set_option maxHeartbeats 20000000
set_option linter.unusedVariables false
namespace Go.HpQM
open Go.Sp Go.HpQ
noncomputable section
def tabs : List (List Value) := []
def plist : List Nat := [4, 5, 6, 9, 10, 11, 12, 13, 14, 15, 24, 26, 27, 29, 32, 33, 34, 35, 36, 37, 38, 39, 40, 42, 43, 44, 53, 57, 59, 61, 66, 81]
def isP : FuncId → Bool := fun g => memN g plist
def inl (pu : PureF) : CallF := fun g args H => bb (Nat.beq g 41) (liveF tabs 1 (pu 41) args H) (bb (Nat.beq g 62) (giveF tabs 1 (pu 62) args H) (bb (Nat.beq g 60) (giveF tabs 1 (pu 60) args H) (none)))
def zA48 : List Value := [(.int .i64 (0 : Int)), (.int .i64 (0 : Int)), (.int .i64 (0 : Int)), (.int .i64 (0 : Int)), (.int .i64 (0 : Int)), (.int .i64 (0 : Int)), (.int .i64 (0 : Int)), (.int .i64 (0 : Int)), (.int .i64 (0 : Int)), (.int .i64 (0 : Int)), (.int .i64 (0 : Int)), (.int .i64 (0 : Int)), (.int .i64 (0 : Int)), (.int .i64 (0 : Int)), (.int .i64 (0 : Int)), (.int .i64 (0 : Int)), (.int .i64 (0 : Int)), (.int .i64 (0 : Int)), (.int .i64 (0 : Int)), (.int .i64 (0 : Int)), (.int .i64 (0 : Int)), (.int .i64 (0 : Int))]
end
end Go.HpQM
set_option maxRecDepth 100000
set_option maxHeartbeats 20000000
set_option linter.unusedVariables false
namespace Go.HpQM
open Go.Sp Go.HpQ
noncomputable section
def m4_0 (pu : PureF) (n : Nat) (b0 : Bool) : Option Value :=
  (some (.bool b0))
def m4_ (pu : PureF) (n : Nat) (s1 : Sl) : Option Value :=
  (oo (pu 5 [(Sl.v 1 s1)]) none fun v7 => (oo (vBool v7) none fun b9 => (bb b9 (oo (pu 6 []) none fun v16 => (oo (vBool v16) none fun b18 => (some (.bool b18)))) (oo (pu 10 [(Sl.v 1 s1)]) none fun v30 => (oo (vTup v30) none fun l32 => (ll l32 none fun v34 l32 => (ll l32 none fun v35 l32 => (ll l32 (oo (vBool v34) none fun b36 => (oo (toI .i64 v35) none fun x38 => (oo (pu 11 [(Sl.v 1 s1)]) none fun v50 => (oo (vTup v50) none fun l52 => (ll l52 none fun v54 l52 => (ll l52 none fun v55 l52 => (ll l52 (oo (vBool v54) none fun b56 => (oo (toI .i64 v55) none fun x58 => (oo (pu 12 [(Sl.v 1 s1)]) none fun v70 => (oo (vTup v70) none fun l72 => (ll l72 none fun v74 l72 => (ll l72 none fun v75 l72 => (ll l72 (oo (toI .i64 v74) none fun x76 => (oo (toI .i64 v75) none fun x78 => (oo (pu 13 [(Sl.v 1 s1)]) none fun v90 => (oo (vTup v90) none fun l92 => (ll l92 none fun v94 l92 => (ll l92 none fun v95 l92 => (ll l92 (oo (toI .i64 v94) none fun x96 => (oo (toI .i64 v95) none fun x98 => (oo (pu 14 [(Sl.v 1 s1)]) none fun v0 => (oo (vTup v0) none fun l0 => (ll l0 none fun v1 l0 => (ll l0 none fun v2 l0 => (ll l0 (oo (toSl 1 v1) none fun s0 => (oo (toI .i64 v2) none fun x0 => (oo (pu 15 [(Sl.v 1 s1)]) none fun v3 => (oo (vTup v3) none fun l1 => (ll l1 none fun v4 l1 => (ll l1 none fun v5 l1 => (ll l1 (oo (toSl 1 v4) none fun s2 => (oo (toI .i64 v5) none fun x1 => (bb (bq true (bq b36 b56)) (bb (ieq x38 x58) (bb (ieq x76 x96) (bb (ieq x78 x98) (oo (pu 9 [(Sl.v 1 s0), (Sl.v 1 s2)]) none fun v6 => (oo (vBool v6) none fun b0 => (bb b0 (bb (ieq x0 x1) (oo (pu 6 []) none fun v8 => (oo (vBool v8) none fun b1 => (m4_0 pu n b1))) (m4_0 pu n false)) (m4_0 pu n false)))) (m4_0 pu n false)) (m4_0 pu n false)) (m4_0 pu n false)) (m4_0 pu n false)))) fun _ _ => none))))))) fun _ _ => none))))))) fun _ _ => none))))))) fun _ _ => none))))))) fun _ _ => none))))))) fun _ _ => none))))))))
def m4 (pu : PureF) (n : Nat) (args : List Value) : Option Value :=
  (ll args none fun a0 args => (ll args (oo (toSl 1 a0) none fun s1 => (m4_ pu n s1)) fun _ _ => none))
theorem w4_0 (pu : PureF) (n : Nat) (b0 : Bool) {v : Value} (hm : m4_0 pu n b0 = some v) : Run tt (callP tabs isP pu (inl pu)) 0 .ret (fr 79 [(2, (zB b0))]) (hp 0 []) (Fin tt 0 [.tmp 2] v) := by
  unfold m4_0 at hm
  refine .ret ?_
  exact fin_ret (zB b0) (by kernel_rfl) (by kernel_rfl) hm
theorem r4 {call : CallF} (pu : PureF) (n : Nat) (hcall : call = callP tabs isP pu (inl pu)) {args : List Value} {v : Value} (hm : m4 pu n args = some v) (_ : ∀ x ∈ args, closed2 x = true) : args.length ≤ 79 ∧ Run tt call 0 c4_21 (Fr.made 79 args) (pureHeap tabs) (Fin tt 0 [.tmp 2] v) := by
  subst hcall
  unfold m4 at hm
  replace hm := ll_uncons hm; obtain ⟨a0, args_0, rfl, hm⟩ := hm
  replace hm := ll_end hm; obtain ⟨rfl, hm⟩ := hm
  replace hm := inv_toSl hm; obtain ⟨s1, rfl, hm⟩ := hm
  unfold m4_ at hm
  refine ⟨by simp, ?_⟩
  refine .same (F' := (fr 79 [(0, (Sl.v 1 s1))])) (H' := (hp 0 [])) (by kernel_rfl) (by kernel_rfl) ?_
  refine .then ?_
  refine .rK ?_
  refine .ghs (fr 79 [(0, (Sl.v 1 s1))]) (hp 0 []) (.k0 [] [] [0]) ?_
  refine .then ?_
  refine .then ?_
  replace hm := oo_inv hm; obtain ⟨v7, h8, hm⟩ := hm
  replace hm := inv_vBool hm; obtain ⟨b9, rfl, hm⟩ := hm
  refine .reg (eC 1 ((oo (pu 5 [(Sl.v 1 s1)]) none fun v => some (v, (hp 0 [])))) (call_eq h8) (eE)) ?_
  refine .ghs (fr 79 [(0, (Sl.v 1 s1)), (16, (zB b9))]) (hp 0 []) (.k0 [] [] [0, 16]) ?_
  replace hm := bb_cases hm; rcases hm with ⟨h11, hm⟩ | ⟨h11, hm⟩
  · refine .ifT b9 (by kernel_rfl) h11 ?_
    refine .then ?_
    replace hm := oo_inv hm; obtain ⟨v16, h17, hm⟩ := hm
    replace hm := inv_vBool hm; obtain ⟨b18, rfl, hm⟩ := hm
    refine .reg (eD ((oo (pu 6 []) none fun v => some (v, (hp 0 [])))) (call_eq h17) (eE)) ?_
    refine .ghs (fr 79 [(2, (zB b18))]) (hp 0 []) (.k0 [] [] [2]) ?_
    refine .ret ?_
    exact fin_ret (zB b18) (by kernel_rfl) (by kernel_rfl) hm
  · refine .ifF b9 (by kernel_rfl) h11 ?_
    refine .skip ?_
    refine .ghs (fr 79 [(0, (Sl.v 1 s1))]) (hp 0 []) (.k0 [] [] [0]) ?_
    refine .then ?_
    replace hm := oo_inv hm; obtain ⟨v30, h31, hm⟩ := hm
    replace hm := inv_vTup hm; obtain ⟨l32, rfl, hm⟩ := hm
    replace hm := ll_uncons hm; obtain ⟨v34, l32_0, rfl, hm⟩ := hm
    replace hm := ll_uncons hm; obtain ⟨v35, l32_1, rfl, hm⟩ := hm
    replace hm := ll_end hm; obtain ⟨rfl, hm⟩ := hm
    replace hm := inv_vBool hm; obtain ⟨b36, rfl, hm⟩ := hm
    replace hm := inv_toI hm; obtain ⟨x38, rfl, hm⟩ := hm
    refine .reg (eC 1 ((oo (pu 10 [(Sl.v 1 s1)]) none fun v => some (v, (hp 0 [])))) (call_eq h31) (eE)) ?_
    refine .ghs (fr 79 [(0, (Sl.v 1 s1)), (3, (zB b36)), (4, (zI x38))]) (hp 0 []) (.k0 [] [] [0, 3, 4]) ?_
    refine .then ?_
    replace hm := oo_inv hm; obtain ⟨v50, h51, hm⟩ := hm
    replace hm := inv_vTup hm; obtain ⟨l52, rfl, hm⟩ := hm
    replace hm := ll_uncons hm; obtain ⟨v54, l52_0, rfl, hm⟩ := hm
    replace hm := ll_uncons hm; obtain ⟨v55, l52_1, rfl, hm⟩ := hm
    replace hm := ll_end hm; obtain ⟨rfl, hm⟩ := hm
    replace hm := inv_vBool hm; obtain ⟨b56, rfl, hm⟩ := hm
    replace hm := inv_toI hm; obtain ⟨x58, rfl, hm⟩ := hm
    refine .reg (eC 1 ((oo (pu 11 [(Sl.v 1 s1)]) none fun v => some (v, (hp 0 [])))) (call_eq h51) (eE)) ?_
    refine .ghs (fr 79 [(0, (Sl.v 1 s1)), (3, (zB b36)), (4, (zI x38)), (5, (zB b56)), (6, (zI x58))]) (hp 0 []) (.k0 [] [] [0, 3, 4, 5, 6]) ?_
    refine .then ?_
    replace hm := oo_inv hm; obtain ⟨v70, h71, hm⟩ := hm
    replace hm := inv_vTup hm; obtain ⟨l72, rfl, hm⟩ := hm
    replace hm := ll_uncons hm; obtain ⟨v74, l72_0, rfl, hm⟩ := hm
    replace hm := ll_uncons hm; obtain ⟨v75, l72_1, rfl, hm⟩ := hm
    replace hm := ll_end hm; obtain ⟨rfl, hm⟩ := hm
    replace hm := inv_toI hm; obtain ⟨x76, rfl, hm⟩ := hm
    replace hm := inv_toI hm; obtain ⟨x78, rfl, hm⟩ := hm
    refine .reg (eC 1 ((oo (pu 12 [(Sl.v 1 s1)]) none fun v => some (v, (hp 0 [])))) (call_eq h71) (eE)) ?_
    refine .ghs (fr 79 [(0, (Sl.v 1 s1)), (3, (zB b36)), (4, (zI x38)), (5, (zB b56)), (6, (zI x58)), (7, (zI x76)), (8, (zI x78))]) (hp 0 []) (.k0 [] [] [0, 3, 4, 5, 6, 7, 8]) ?_
    refine .then ?_
    replace hm := oo_inv hm; obtain ⟨v90, h91, hm⟩ := hm
    replace hm := inv_vTup hm; obtain ⟨l92, rfl, hm⟩ := hm
    replace hm := ll_uncons hm; obtain ⟨v94, l92_0, rfl, hm⟩ := hm
    replace hm := ll_uncons hm; obtain ⟨v95, l92_1, rfl, hm⟩ := hm
    replace hm := ll_end hm; obtain ⟨rfl, hm⟩ := hm
    replace hm := inv_toI hm; obtain ⟨x96, rfl, hm⟩ := hm
    replace hm := inv_toI hm; obtain ⟨x98, rfl, hm⟩ := hm
    refine .reg (eC 1 ((oo (pu 13 [(Sl.v 1 s1)]) none fun v => some (v, (hp 0 [])))) (call_eq h91) (eE)) ?_
    refine .ghs (fr 79 [(0, (Sl.v 1 s1)), (3, (zB b36)), (4, (zI x38)), (5, (zB b56)), (6, (zI x58)), (7, (zI x76)), (8, (zI x78)), (9, (zI x96)), (10, (zI x98))]) (hp 0 []) (.k0 [] [] [0, 3, 4, 5, 6, 7, 8, 9, 10]) ?_
    refine .then ?_
    replace hm := oo_inv hm; obtain ⟨v0, h0, hm⟩ := hm
    replace hm := inv_vTup hm; obtain ⟨l0, rfl, hm⟩ := hm
    replace hm := ll_uncons hm; obtain ⟨v1, l112_0, rfl, hm⟩ := hm
    replace hm := ll_uncons hm; obtain ⟨v2, l112_1, rfl, hm⟩ := hm
    replace hm := ll_end hm; obtain ⟨rfl, hm⟩ := hm
    replace hm := inv_toSl hm; obtain ⟨s0, rfl, hm⟩ := hm
    replace hm := inv_toI hm; obtain ⟨x0, rfl, hm⟩ := hm
    refine .reg (eC 1 ((oo (pu 14 [(Sl.v 1 s1)]) none fun v => some (v, (hp 0 [])))) (call_eq h0) (eE)) ?_
    refine .ghs (fr 79 [(0, (Sl.v 1 s1)), (3, (zB b36)), (4, (zI x38)), (5, (zB b56)), (6, (zI x58)), (7, (zI x76)), (8, (zI x78)), (9, (zI x96)), (10, (zI x98)), (11, (Sl.v 1 s0)), (12, (zI x0))]) (hp 0 []) (.k0 [] [] [0, 3, 4, 5, 6, 7, 8, 9, 10, 11, 12]) ?_
    refine .then ?_
    replace hm := oo_inv hm; obtain ⟨v3, h1, hm⟩ := hm
    replace hm := inv_vTup hm; obtain ⟨l1, rfl, hm⟩ := hm
    replace hm := ll_uncons hm; obtain ⟨v4, l132_0, rfl, hm⟩ := hm
    replace hm := ll_uncons hm; obtain ⟨v5, l132_1, rfl, hm⟩ := hm
    replace hm := ll_end hm; obtain ⟨rfl, hm⟩ := hm
    replace hm := inv_toSl hm; obtain ⟨s2, rfl, hm⟩ := hm
    replace hm := inv_toI hm; obtain ⟨x1, rfl, hm⟩ := hm
    refine .reg (eC 1 ((oo (pu 15 [(Sl.v 1 s1)]) none fun v => some (v, (hp 0 [])))) (call_eq h1) (eE)) ?_
    refine .ghs (fr 79 [(3, (zB b36)), (4, (zI x38)), (5, (zB b56)), (6, (zI x58)), (7, (zI x76)), (8, (zI x78)), (9, (zI x96)), (10, (zI x98)), (11, (Sl.v 1 s0)), (12, (zI x0)), (13, (Sl.v 1 s2)), (14, (zI x1))]) (hp 0 []) (.k0 [] [] [3, 4, 5, 6, 7, 8, 9, 10, 11, 12, 13, 14]) ?_
    refine .join (v := v) (fun y : Bool => ((fr 79 [(2, (zB y))]), (hp 0 []))) (fun y => m4_0 pu n y) ?_ ?_
    · rintro b0 hm
      exact w4_0 pu n b0 hm
    · replace hm := bb_cases hm; rcases hm with ⟨h2, hm⟩ | ⟨h2, hm⟩
      · replace hm := bb_cases hm; rcases hm with ⟨h3, hm⟩ | ⟨h3, hm⟩
        · replace hm := bb_cases hm; rcases hm with ⟨h4, hm⟩ | ⟨h4, hm⟩
          · replace hm := bb_cases hm; rcases hm with ⟨h5, hm⟩ | ⟨h5, hm⟩
            · replace hm := oo_inv hm; obtain ⟨v6, h6, hm⟩ := hm
              replace hm := inv_vBool hm; obtain ⟨b1, rfl, hm⟩ := hm
              replace hm := bb_cases hm; rcases hm with ⟨h7, hm⟩ | ⟨h7, hm⟩
              · replace hm := bb_cases hm; rcases hm with ⟨h9, hm⟩ | ⟨h9, hm⟩
                · replace hm := oo_inv hm; obtain ⟨v8, h10, hm⟩ := hm
                  replace hm := inv_vBool hm; obtain ⟨b2, rfl, hm⟩ := hm
                  refine .reg (eN 12 (Fr.puts (fr 79 [(3, (zB b36)), (4, (zI x38)), (5, (zB b56)), (6, (zI x58)), (7, (zI x76)), (8, (zI x78)), (9, (zI x96)), (10, (zI x98)), (11, (Sl.v 1 s0)), (12, (zI x0)), (13, (Sl.v 1 s2)), (14, (zI x1))]) [(48, (zB b36)), (49, (zB b56)), (50, (zB true)), (51, (zB true)), (52, (zI x38)), (53, (zI x58)), (54, (zB true)), (55, (zB true)), (56, (zB true)), (57, (zI x76)), (58, (zI x96)), (59, (zB true))]) (hp 0 []) (eC 2 (some ((zB (bq true (bq b36 b56))), (hp 0 []))) (show _ = some ((zB true), _) from (by rw [h2])) (eC 3 (some ((zB (ieq x38 x58)), (hp 0 []))) (show _ = some ((zB true), _) from (by rw [h3])) (eC 4 (some ((zB (ieq x76 x96)), (hp 0 []))) (show _ = some ((zB true), _) from (by rw [h4])) (by kernel_rfl)))) (eC 4 (some ((zB (ieq x78 x98)), (hp 0 []))) (show _ = some ((zB true), _) from (by rw [h5])) (eC 4 ((oo (pu 9 [(Sl.v 1 s0), (Sl.v 1 s2)]) none fun v => some (v, (hp 0 [])))) (show _ = some ((zB true), _) from (by have hz : (oo (pu 9 [(Sl.v 1 s0), (Sl.v 1 s2)]) none fun v => some (v, (hp 0 []))) = some ((zB b1), (hp 0 [])) := (call_eq h6); rw [h7] at hz; exact hz)) (eC 4 (some ((zB (ieq x0 x1)), (hp 0 []))) (show _ = some ((zB true), _) from (by rw [h9])) (eC 2 ((oo (pu 6 []) none fun v => some (v, (hp 0 [])))) (call_eq h10) (eE)))))) ?_
                  exact ⟨b2, hm, (.k0 [] [] [2])⟩
                · refine .reg (eN 12 (Fr.puts (fr 79 [(3, (zB b36)), (4, (zI x38)), (5, (zB b56)), (6, (zI x58)), (7, (zI x76)), (8, (zI x78)), (9, (zI x96)), (10, (zI x98)), (11, (Sl.v 1 s0)), (12, (zI x0)), (13, (Sl.v 1 s2)), (14, (zI x1))]) [(48, (zB b36)), (49, (zB b56)), (50, (zB true)), (51, (zB true)), (52, (zI x38)), (53, (zI x58)), (54, (zB true)), (55, (zB true)), (56, (zB true)), (57, (zI x76)), (58, (zI x96)), (59, (zB true))]) (hp 0 []) (eC 2 (some ((zB (bq true (bq b36 b56))), (hp 0 []))) (show _ = some ((zB true), _) from (by rw [h2])) (eC 3 (some ((zB (ieq x38 x58)), (hp 0 []))) (show _ = some ((zB true), _) from (by rw [h3])) (eC 4 (some ((zB (ieq x76 x96)), (hp 0 []))) (show _ = some ((zB true), _) from (by rw [h4])) (by kernel_rfl)))) (eC 4 (some ((zB (ieq x78 x98)), (hp 0 []))) (show _ = some ((zB true), _) from (by rw [h5])) (eC 4 ((oo (pu 9 [(Sl.v 1 s0), (Sl.v 1 s2)]) none fun v => some (v, (hp 0 [])))) (show _ = some ((zB true), _) from (by have hz : (oo (pu 9 [(Sl.v 1 s0), (Sl.v 1 s2)]) none fun v => some (v, (hp 0 []))) = some ((zB b1), (hp 0 [])) := (call_eq h6); rw [h7] at hz; exact hz)) (eC 4 (some ((zB (ieq x0 x1)), (hp 0 []))) (show _ = some ((zB false), _) from (by rw [h9])) (eE))))) ?_
                  exact ⟨false, hm, (.k0 [] [] [2])⟩
              · refine .reg (eC 2 (some ((zB (bq true (bq b36 b56))), (hp 0 []))) (show _ = some ((zB true), _) from (by rw [h2])) (eC 3 (some ((zB (ieq x38 x58)), (hp 0 []))) (show _ = some ((zB true), _) from (by rw [h3])) (eC 4 (some ((zB (ieq x76 x96)), (hp 0 []))) (show _ = some ((zB true), _) from (by rw [h4])) (eC 4 (some ((zB (ieq x78 x98)), (hp 0 []))) (show _ = some ((zB true), _) from (by rw [h5])) (eC 4 ((oo (pu 9 [(Sl.v 1 s0), (Sl.v 1 s2)]) none fun v => some (v, (hp 0 [])))) (show _ = some ((zB false), _) from (by have hz : (oo (pu 9 [(Sl.v 1 s0), (Sl.v 1 s2)]) none fun v => some (v, (hp 0 []))) = some ((zB b1), (hp 0 [])) := (call_eq h6); rw [h7] at hz; exact hz)) (eE)))))) ?_
                exact ⟨false, hm, (.k0 [] [] [2])⟩
            · refine .reg (eC 2 (some ((zB (bq true (bq b36 b56))), (hp 0 []))) (show _ = some ((zB true), _) from (by rw [h2])) (eC 3 (some ((zB (ieq x38 x58)), (hp 0 []))) (show _ = some ((zB true), _) from (by rw [h3])) (eC 4 (some ((zB (ieq x76 x96)), (hp 0 []))) (show _ = some ((zB true), _) from (by rw [h4])) (eC 4 (some ((zB (ieq x78 x98)), (hp 0 []))) (show _ = some ((zB false), _) from (by rw [h5])) (eE))))) ?_
              exact ⟨false, hm, (.k0 [] [] [2])⟩
          · refine .reg (eC 2 (some ((zB (bq true (bq b36 b56))), (hp 0 []))) (show _ = some ((zB true), _) from (by rw [h2])) (eC 3 (some ((zB (ieq x38 x58)), (hp 0 []))) (show _ = some ((zB true), _) from (by rw [h3])) (eC 4 (some ((zB (ieq x76 x96)), (hp 0 []))) (show _ = some ((zB false), _) from (by rw [h4])) (eE)))) ?_
            exact ⟨false, hm, (.k0 [] [] [2])⟩
        · refine .reg (eC 2 (some ((zB (bq true (bq b36 b56))), (hp 0 []))) (show _ = some ((zB true), _) from (by rw [h2])) (eC 3 (some ((zB (ieq x38 x58)), (hp 0 []))) (show _ = some ((zB false), _) from (by rw [h3])) (eE))) ?_
          exact ⟨false, hm, (.k0 [] [] [2])⟩
      · refine .reg (eC 2 (some ((zB (bq true (bq b36 b56))), (hp 0 []))) (show _ = some ((zB false), _) from (by rw [h2])) (eE)) ?_
        exact ⟨false, hm, (.k0 [] [] [2])⟩

def m5_ (pu : PureF) (n : Nat) (s0 : Sl) : Option Value :=
  (some (.bool (ilt (60 : Int) (Int.ofNat (Sl.n s0)))))
def m5 (pu : PureF) (n : Nat) (args : List Value) : Option Value :=
  (ll args none fun a0 args => (ll args (oo (toSl 1 a0) none fun s0 => (m5_ pu n s0)) fun _ _ => none))
theorem r5 {call : CallF} (pu : PureF) (n : Nat) (hcall : call = callP tabs isP pu (inl pu)) {args : List Value} {v : Value} (hm : m5 pu n args = some v) (_ : ∀ x ∈ args, closed2 x = true) : args.length ≤ 6 ∧ Run tt call 0 c5_3 (Fr.made 6 args) (pureHeap tabs) (Fin tt 0 [.tmp 2] v) := by
  subst hcall
  unfold m5 at hm
  replace hm := ll_uncons hm; obtain ⟨a0, args_0, rfl, hm⟩ := hm
  replace hm := ll_end hm; obtain ⟨rfl, hm⟩ := hm
  replace hm := inv_toSl hm; obtain ⟨s0, rfl, hm⟩ := hm
  unfold m5_ at hm
  refine ⟨by simp, ?_⟩
  refine .same (F' := (fr 6 [(0, (Sl.v 1 s0))])) (H' := (hp 0 [])) (by kernel_rfl) (by kernel_rfl) ?_
  refine .then ?_
  refine .rK ?_
  refine .ghs (fr 6 [(0, (Sl.v 1 s0))]) (hp 0 []) (.k0 [] [] [0]) ?_
  refine .then ?_
  refine .rK ?_
  refine .ghs (fr 6 [(2, (zB (ilt (60 : Int) (Int.ofNat (Sl.n s0)))))]) (hp 0 []) (.k0 [] [] [2]) ?_
  refine .ret ?_
  exact fin_ret (zB (ilt (60 : Int) (Int.ofNat (Sl.n s0)))) (by kernel_rfl) (by kernel_rfl) hm
def m9_0 (pu : PureF) (n : Nat) : Option Value :=
  (some (.bool true))
def b9_1 (pu : PureF) (n : Nat) (ih0 : Sl → Sl → Int → Option Value) (s0 : Sl) (s1 : Sl) (z0 : Int) : Option Value :=
  (bb (ilt z0 (Int.ofNat (Sl.n s0))) (oo (toN z0) none fun k1 => (bb (an (Nat.blt k1 (Sl.n s0)) true) (oo (nthL (Sl.cs s0) (k1 * 1)) none fun v0 => (oo (toSl 1 v0) none fun s2 => (bb (an (Nat.blt k1 (Sl.n s1)) true) (oo (nthL (Sl.cs s1) (k1 * 1)) none fun v1 => (oo (toSl 1 v1) none fun s3 => (oo (pu 24 [(Sl.v 1 s2), (Sl.v 1 s3)]) none fun v2 => (oo (vBool v2) none fun b0 => (bb (nt b0) (some (.bool false)) (ih0 s0 s1 (wrapF .i64 (Int.add (Int.ofNat k1) (1 : Int))))))))) none))) none)) (m9_0 pu n))
def l9_1 (pu : PureF) (n : Nat) (w : Nat) : Sl → Sl → Int → Option Value :=
  Nat.rec (motive := fun _ => Sl → Sl → Int → Option Value) (fun _ _ _ => none) (fun _ ih0 => b9_1 pu n ih0) w
def m9_ (pu : PureF) (n : Nat) (s0 : Sl) (s1 : Sl) : Option Value :=
  (bb (nt (ieq (Int.ofNat (Sl.n s0)) (Int.ofNat (Sl.n s1)))) (some (.bool false)) (l9_1 pu n n s0 s1 (0 : Int)))
def m9 (pu : PureF) (n : Nat) (args : List Value) : Option Value :=
  (ll args none fun a0 args => (ll args none fun a1 args => (ll args (oo (toSl 1 a0) none fun s0 => (oo (toSl 1 a1) none fun s1 => (m9_ pu n s0 s1))) fun _ _ => none)))
theorem w9_0 (pu : PureF) (n : Nat) {v : Value} (hm : m9_0 pu n = some v) : Run tt (callP tabs isP pu (inl pu)) 0 c9_23 (fr 27 []) (hp 0 []) (Fin tt 0 [.tmp 4] v) := by
  unfold m9_0 at hm
  refine .then ?_
  refine .rK ?_
  refine .ghs (fr 27 [(4, (zB true))]) (hp 0 []) (.k0 [] [] [4]) ?_
  refine .ret ?_
  exact fin_ret (zB true) (by kernel_rfl) (by kernel_rfl) hm
theorem r9 {call : CallF} (pu : PureF) (n : Nat) (hcall : call = callP tabs isP pu (inl pu)) {args : List Value} {v : Value} (hm : m9 pu n args = some v) (_ : ∀ x ∈ args, closed2 x = true) : args.length ≤ 27 ∧ Run tt call 0 c9_26 (Fr.made 27 args) (pureHeap tabs) (Fin tt 0 [.tmp 4] v) := by
  subst hcall
  unfold m9 at hm
  replace hm := ll_uncons hm; obtain ⟨a0, args_0, rfl, hm⟩ := hm
  replace hm := ll_uncons hm; obtain ⟨a1, args_1, rfl, hm⟩ := hm
  replace hm := ll_end hm; obtain ⟨rfl, hm⟩ := hm
  replace hm := inv_toSl hm; obtain ⟨s0, rfl, hm⟩ := hm
  replace hm := inv_toSl hm; obtain ⟨s1, rfl, hm⟩ := hm
  unfold m9_ at hm
  refine ⟨by simp, ?_⟩
  refine .same (F' := (fr 27 [(0, (Sl.v 1 s0)), (1, (Sl.v 1 s1))])) (H' := (hp 0 [])) (by kernel_rfl) (by kernel_rfl) ?_
  refine .then ?_
  refine .rK ?_
  refine .ghs (fr 27 [(0, (Sl.v 1 s0)), (1, (Sl.v 1 s1))]) (hp 0 []) (.k0 [] [] [0, 1]) ?_
  refine .then ?_
  refine .then ?_
  refine .rK ?_
  refine .ghs (fr 27 [(0, (Sl.v 1 s0)), (1, (Sl.v 1 s1)), (10, (zB (nt (ieq (Int.ofNat (Sl.n s0)) (Int.ofNat (Sl.n s1))))))]) (hp 0 []) (.k0 [] [] [0, 1, 10]) ?_
  replace hm := bb_cases hm; rcases hm with ⟨h0, hm⟩ | ⟨h0, hm⟩
  · refine .ifT (nt (ieq (Int.ofNat (Sl.n s0)) (Int.ofNat (Sl.n s1)))) (by kernel_rfl) h0 ?_
    refine .then ?_
    refine .rK ?_
    refine .ghs (fr 27 [(4, (zB false))]) (hp 0 []) (.k0 [] [] [4]) ?_
    refine .ret ?_
    exact fin_ret (zB false) (by kernel_rfl) (by kernel_rfl) hm
  · refine .ifF (nt (ieq (Int.ofNat (Sl.n s0)) (Int.ofNat (Sl.n s1)))) (by kernel_rfl) h0 ?_
    refine .skip ?_
    refine .ghs (fr 27 [(0, (Sl.v 1 s0)), (1, (Sl.v 1 s1))]) (hp 0 []) (.k0 [] [] [0, 1]) ?_
    refine .join (v := v) (fun y : Unit => ((fr 27 []), (hp 0 []))) (fun y => m9_0 pu n) ?_ ?_
    · rintro _ hm
      exact w9_0 pu n hm
    · refine .then ?_
      refine .rK ?_
      refine .ghs (fr 27 [(0, (Sl.v 1 s0)), (1, (Sl.v 1 s1)), (5, (zI (0 : Int)))]) (hp 0 []) (.k0 [] [] [0, 1, 5]) ?_
      refine .block ?_
      refine .loopM (v := v) (fun y : Sl × Sl × Int => ((fr 27 [(0, (Sl.v 1 y.1)), (1, (Sl.v 1 y.2.1)), (5, (zI y.2.2))]), (hp 0 []))) (fun w y => l9_1 pu n w y.1 y.2.1 y.2.2) n ⟨(s0, s1, (0 : Int)), hm, (.k0 [] [] [0, 1, 5])⟩ (fun _ => rfl) ?_
      rintro w0 ⟨s2, s3, z0⟩ hm
      replace hm : b9_1 pu n (l9_1 pu n w0) s2 s3 z0 = some v := hm
      unfold b9_1 at hm
      refine .then ?_
      refine .then ?_
      refine .rK ?_
      refine .ghs (fr 27 [(0, (Sl.v 1 s2)), (1, (Sl.v 1 s3)), (5, (zI z0)), (14, (zB (ilt z0 (Int.ofNat (Sl.n s2)))))]) (hp 0 []) (.k0 [] [] [0, 1, 5, 14]) ?_
      replace hm := bb_cases hm; rcases hm with ⟨h1, hm⟩ | ⟨h1, hm⟩
      · refine .ifT (ilt z0 (Int.ofNat (Sl.n s2))) (by kernel_rfl) h1 ?_
        refine .skip ?_
        refine .ghs (fr 27 [(0, (Sl.v 1 s2)), (1, (Sl.v 1 s3)), (5, (zI z0))]) (hp 0 []) (.k0 [] [] [0, 1, 5]) ?_
        refine .then ?_
        refine .block ?_
        refine .then ?_
        replace hm := oo_inv hm; obtain ⟨k1, h2, hm⟩ := hm
        obtain rfl := toN_some h2
        replace hm := bb_inv hm; obtain ⟨h3, hm⟩ := hm
        replace hm := oo_inv hm; obtain ⟨v0, h4, hm⟩ := hm
        replace hm := inv_toSl hm; obtain ⟨s4, rfl, hm⟩ := hm
        replace hm := bb_inv hm; obtain ⟨h5, hm⟩ := hm
        replace hm := oo_inv hm; obtain ⟨v1, h6, hm⟩ := hm
        replace hm := inv_toSl hm; obtain ⟨s5, rfl, hm⟩ := hm
        replace hm := oo_inv hm; obtain ⟨v2, h7, hm⟩ := hm
        replace hm := inv_vBool hm; obtain ⟨b0, rfl, hm⟩ := hm
        refine .reg (eC 2 (keep (hp 0 []) (bb (an (Nat.blt k1 (Sl.n s2)) true) (some (fpV (k1 * 1) (Sl.cs s2))) none)) (keep_bb h3) (eD (keep (hp 0 []) (nthL (Sl.cs s2) (k1 * 1))) (keep_eq h4) (eC 2 (keep (hp 0 []) (bb (an (Nat.blt k1 (Sl.n s3)) true) (some (fpV (k1 * 1) (Sl.cs s3))) none)) (keep_bb h5) (eD (keep (hp 0 []) (nthL (Sl.cs s3) (k1 * 1))) (keep_eq h6) (eD ((oo (pu 24 [(Sl.v 1 s4), (Sl.v 1 s5)]) none fun v => some (v, (hp 0 [])))) (call_eq h7) (eE)))))) ?_
        refine .ghs (fr 27 [(0, (Sl.v 1 s2)), (1, (Sl.v 1 s3)), (5, (zI (Int.ofNat k1))), (26, (zB (nt b0)))]) (hp 0 []) (.k0 [] [] [0, 1, 5, 26]) ?_
        replace hm := bb_cases hm; rcases hm with ⟨h8, hm⟩ | ⟨h8, hm⟩
        · refine .ifT (nt b0) (by kernel_rfl) h8 ?_
          refine .then ?_
          refine .rK ?_
          refine .ghs (fr 27 [(4, (zB false))]) (hp 0 []) (.k0 [] [] [4]) ?_
          refine .ret ?_
          exact fin_ret (zB false) (by kernel_rfl) (by kernel_rfl) hm
        · refine .ifF (nt b0) (by kernel_rfl) h8 ?_
          refine .skip ?_
          refine .ghs (fr 27 [(0, (Sl.v 1 s2)), (1, (Sl.v 1 s3)), (5, (zI (Int.ofNat k1)))]) (hp 0 []) (.k0 [] [] [0, 1, 5]) ?_
          refine .rK ?_
          exact ⟨(s2, s3, (wrapF .i64 (Int.add (Int.ofNat k1) (1 : Int)))), hm, (.k0 [] [] [0, 1, 5])⟩
      · refine .ifF (ilt z0 (Int.ofNat (Sl.n s2))) (by kernel_rfl) h1 ?_
        refine .exit ?_
        exact ⟨(), hm, (.k0 [] [] [])⟩

def m10_ (pu : PureF) (n : Nat) (s0 : Sl) : Option Value :=
  (oo (pu 26 [(Sl.v 1 s0)]) none fun v0 => (oo (toI .i64 v0) none fun x0 => (bb (nt (ieq x0 (0 : Int))) (some (.tuple ⟨[(.bool false), (.int .i64 x0)]⟩)) (oo (pu 27 [(Sl.v 1 s0)]) none fun v1 => (oo (vAgg v1) none fun q0 => (bb (an (Nat.beq (len q0) 22) (allL closed1 q0)) (oo (pu 34 [(.agg ⟨q0⟩)]) none fun v2 => (oo (vBool v2) none fun b0 => (bb (allL closed2 [(.agg ⟨q0⟩)]) (some (.tuple ⟨[(.bool b0), (.int .i64 (0 : Int))]⟩)) none))) none))))))
def m10 (pu : PureF) (n : Nat) (args : List Value) : Option Value :=
  (ll args none fun a0 args => (ll args (oo (toSl 1 a0) none fun s0 => (m10_ pu n s0)) fun _ _ => none))
theorem r10 {call : CallF} (pu : PureF) (n : Nat) (hcall : call = callP tabs isP pu (inl pu)) {args : List Value} {v : Value} (hm : m10 pu n args = some v) (_ : ∀ x ∈ args, closed2 x = true) : args.length ≤ 13 ∧ Run tt call 0 c10_11 (Fr.made 13 args) (pureHeap tabs) (Fin tt 0 [.tmp 2, .tmp 3] v) := by
  subst hcall
  unfold m10 at hm
  replace hm := ll_uncons hm; obtain ⟨a0, args_0, rfl, hm⟩ := hm
  replace hm := ll_end hm; obtain ⟨rfl, hm⟩ := hm
  replace hm := inv_toSl hm; obtain ⟨s0, rfl, hm⟩ := hm
  unfold m10_ at hm
  refine ⟨by simp, ?_⟩
  refine .same (F' := (fr 13 [(0, (Sl.v 1 s0))])) (H' := (hp 0 [])) (by kernel_rfl) (by kernel_rfl) ?_
  refine .then ?_
  refine .rK ?_
  refine .ghs (fr 13 [(0, (Sl.v 1 s0))]) (hp 0 []) (.k0 [] [] [0]) ?_
  refine .then ?_
  refine .then ?_
  replace hm := oo_inv hm; obtain ⟨v0, h0, hm⟩ := hm
  replace hm := inv_toI hm; obtain ⟨x0, rfl, hm⟩ := hm
  refine .reg (eC 1 ((oo (pu 26 [(Sl.v 1 s0)]) none fun v => some (v, (hp 0 [])))) (call_eq h0) (eE)) ?_
  refine .ghs (fr 13 [(0, (Sl.v 1 s0)), (4, (zI x0))]) (hp 0 []) (.k0 [] [] [0, 4]) ?_
  refine .then ?_
  refine .rK ?_
  refine .ghs (fr 13 [(0, (Sl.v 1 s0)), (4, (zI x0)), (8, (zB (nt (ieq x0 (0 : Int)))))]) (hp 0 []) (.k0 [] [] [0, 4, 8]) ?_
  replace hm := bb_cases hm; rcases hm with ⟨h1, hm⟩ | ⟨h1, hm⟩
  · refine .ifT (nt (ieq x0 (0 : Int))) (by kernel_rfl) h1 ?_
    refine .then ?_
    refine .rK ?_
    refine .ghs (fr 13 [(2, (zB false)), (3, (zI x0))]) (hp 0 []) (.k0 [] [] [2, 3]) ?_
    refine .ret ?_
    exact fin_ret (.tuple ⟨[(zB false), (zI x0)]⟩) (by kernel_rfl) (by kernel_rfl) hm
  · refine .ifF (nt (ieq x0 (0 : Int))) (by kernel_rfl) h1 ?_
    refine .skip ?_
    refine .ghs (fr 13 [(0, (Sl.v 1 s0))]) (hp 0 []) (.k0 [] [] [0]) ?_
    refine .then ?_
    replace hm := oo_inv hm; obtain ⟨v1, h2, hm⟩ := hm
    replace hm := inv_vAgg hm; obtain ⟨q0, rfl, hm⟩ := hm
    replace hm := bb_inv hm; obtain ⟨h3, hm⟩ := hm
    replace hm := oo_inv hm; obtain ⟨v2, h4, hm⟩ := hm
    replace hm := inv_vBool hm; obtain ⟨b0, rfl, hm⟩ := hm
    replace hm := bb_inv hm; obtain ⟨h5, hm⟩ := hm
    refine .reg (eC 1 ((oo (pu 27 [(Sl.v 1 s0)]) none fun v => some (v, (hp 0 [])))) (call_eq h2) (eD (bb (allL closed2 [(.agg ⟨q0⟩)]) (oo (pu 34 [(.agg ⟨q0⟩)]) none fun v => some (v, (hp 0 []))) (oo (mapO (purify (hp 0 [])) [(.agg ⟨q0⟩)]) none fun l1 => oo (pu 34 l1) none fun v => bb (plainT v) (some (v, (hp 0 []))) none)) (callc_eq h5 h4) (eE))) ?_
    refine .ghs (fr 13 [(2, (zB b0)), (3, (zI (0 : Int)))]) (hp 0 []) (.k0 [] [] [2, 3]) ?_
    refine .ret ?_
    exact fin_ret (.tuple ⟨[(zB b0), (zI (0 : Int))]⟩) (by kernel_rfl) (by kernel_rfl) hm

def m11_ (pu : PureF) (n : Nat) (s0 : Sl) : Option Value :=
  (oo (pu 29 [(Sl.v 1 s0)]) none fun v0 => (oo (toI .i64 v0) none fun x0 => (bb (nt (ieq x0 (0 : Int))) (some (.tuple ⟨[(.bool false), (.int .i64 x0)]⟩)) (oo (pu 35 [(Sl.v 1 s0)]) none fun v1 => (oo (vBool v1) none fun b0 => (some (.tuple ⟨[(.bool b0), (.int .i64 (0 : Int))]⟩)))))))
def m11 (pu : PureF) (n : Nat) (args : List Value) : Option Value :=
  (ll args none fun a0 args => (ll args (oo (toSl 1 a0) none fun s0 => (m11_ pu n s0)) fun _ _ => none))
theorem r11 {call : CallF} (pu : PureF) (n : Nat) (hcall : call = callP tabs isP pu (inl pu)) {args : List Value} {v : Value} (hm : m11 pu n args = some v) (_ : ∀ x ∈ args, closed2 x = true) : args.length ≤ 12 ∧ Run tt call 0 c11_11 (Fr.made 12 args) (pureHeap tabs) (Fin tt 0 [.tmp 2, .tmp 3] v) := by
  subst hcall
  unfold m11 at hm
  replace hm := ll_uncons hm; obtain ⟨a0, args_0, rfl, hm⟩ := hm
  replace hm := ll_end hm; obtain ⟨rfl, hm⟩ := hm
  replace hm := inv_toSl hm; obtain ⟨s0, rfl, hm⟩ := hm
  unfold m11_ at hm
  refine ⟨by simp, ?_⟩
  refine .same (F' := (fr 12 [(0, (Sl.v 1 s0))])) (H' := (hp 0 [])) (by kernel_rfl) (by kernel_rfl) ?_
  refine .then ?_
  refine .rK ?_
  refine .ghs (fr 12 [(0, (Sl.v 1 s0))]) (hp 0 []) (.k0 [] [] [0]) ?_
  refine .then ?_
  replace hm := oo_inv hm; obtain ⟨v0, h0, hm⟩ := hm
  replace hm := inv_toI hm; obtain ⟨x0, rfl, hm⟩ := hm
  refine .reg (eC 1 ((oo (pu 29 [(Sl.v 1 s0)]) none fun v => some (v, (hp 0 [])))) (call_eq h0) (eE)) ?_
  refine .ghs (fr 12 [(0, (Sl.v 1 s0)), (4, (zI x0))]) (hp 0 []) (.k0 [] [] [0, 4]) ?_
  refine .then ?_
  refine .then ?_
  refine .rK ?_
  refine .ghs (fr 12 [(0, (Sl.v 1 s0)), (4, (zI x0)), (8, (zB (nt (ieq x0 (0 : Int)))))]) (hp 0 []) (.k0 [] [] [0, 4, 8]) ?_
  replace hm := bb_cases hm; rcases hm with ⟨h1, hm⟩ | ⟨h1, hm⟩
  · refine .ifT (nt (ieq x0 (0 : Int))) (by kernel_rfl) h1 ?_
    refine .then ?_
    refine .rK ?_
    refine .ghs (fr 12 [(2, (zB false)), (3, (zI x0))]) (hp 0 []) (.k0 [] [] [2, 3]) ?_
    refine .ret ?_
    exact fin_ret (.tuple ⟨[(zB false), (zI x0)]⟩) (by kernel_rfl) (by kernel_rfl) hm
  · refine .ifF (nt (ieq x0 (0 : Int))) (by kernel_rfl) h1 ?_
    refine .skip ?_
    refine .ghs (fr 12 [(0, (Sl.v 1 s0))]) (hp 0 []) (.k0 [] [] [0]) ?_
    refine .then ?_
    replace hm := oo_inv hm; obtain ⟨v1, h2, hm⟩ := hm
    replace hm := inv_vBool hm; obtain ⟨b0, rfl, hm⟩ := hm
    refine .reg (eC 1 ((oo (pu 35 [(Sl.v 1 s0)]) none fun v => some (v, (hp 0 [])))) (call_eq h2) (eE)) ?_
    refine .ghs (fr 12 [(2, (zB b0)), (3, (zI (0 : Int)))]) (hp 0 []) (.k0 [] [] [2, 3]) ?_
    refine .ret ?_
    exact fin_ret (.tuple ⟨[(zB b0), (zI (0 : Int))]⟩) (by kernel_rfl) (by kernel_rfl) hm

def m12_ (pu : PureF) (n : Nat) (s0 : Sl) : Option Value :=
  (oo (pu 26 [(Sl.v 1 s0)]) none fun v0 => (oo (toI .i64 v0) none fun x0 => (bb (nt (ieq x0 (0 : Int))) (some (.tuple ⟨[(.int .i64 (0 : Int)), (.int .i64 x0)]⟩)) (oo (pu 27 [(Sl.v 1 s0)]) none fun v1 => (oo (vAgg v1) none fun q0 => (bb (an (Nat.beq (len q0) 22) (allL closed1 q0)) (oo (pu 36 [(.agg ⟨q0⟩)]) none fun v2 => (oo (vTup v2) none fun l0 => (ll l0 none fun v3 l0 => (ll l0 none fun v4 l0 => (ll l0 (oo (toI .i64 v3) none fun x1 => (oo (vAgg v4) none fun q1 => (bb (an (Nat.beq (len q1) 22) (allL closed1 q1)) (bb (allL closed2 [(.agg ⟨q0⟩)]) (bb (Nat.beq (len q1) 22) (bb (an (Nat.ble (0 + len q1) (len zA48)) (allL scalarB q1)) (some (.tuple ⟨[(.int .i64 x1), (.int .i64 (0 : Int))]⟩)) none) none) none) none))) fun _ _ => none))))) none))))))
def m12 (pu : PureF) (n : Nat) (args : List Value) : Option Value :=
  (ll args none fun a0 args => (ll args (oo (toSl 1 a0) none fun s0 => (m12_ pu n s0)) fun _ _ => none))
theorem r12 {call : CallF} (pu : PureF) (n : Nat) (hcall : call = callP tabs isP pu (inl pu)) {args : List Value} {v : Value} (hm : m12 pu n args = some v) (_ : ∀ x ∈ args, closed2 x = true) : args.length ≤ 19 ∧ Run tt call 0 c12_13 (Fr.made 19 args) (pureHeap tabs) (Fin tt 0 [.tmp 2, .tmp 3] v) := by
  subst hcall
  unfold m12 at hm
  replace hm := ll_uncons hm; obtain ⟨a0, args_0, rfl, hm⟩ := hm
  replace hm := ll_end hm; obtain ⟨rfl, hm⟩ := hm
  replace hm := inv_toSl hm; obtain ⟨s0, rfl, hm⟩ := hm
  unfold m12_ at hm
  refine ⟨by simp, ?_⟩
  refine .same (F' := (fr 19 [(0, (Sl.v 1 s0))])) (H' := (hp 0 [])) (by kernel_rfl) (by kernel_rfl) ?_
  refine .then ?_
  refine .rK ?_
  refine .ghs (fr 19 [(0, (Sl.v 1 s0))]) (hp 0 []) (.k0 [] [] [0]) ?_
  refine .then ?_
  refine .then ?_
  replace hm := oo_inv hm; obtain ⟨v0, h0, hm⟩ := hm
  replace hm := inv_toI hm; obtain ⟨x0, rfl, hm⟩ := hm
  refine .reg (eC 1 ((oo (pu 26 [(Sl.v 1 s0)]) none fun v => some (v, (hp 0 [])))) (call_eq h0) (eE)) ?_
  refine .ghs (fr 19 [(0, (Sl.v 1 s0)), (4, (zI x0))]) (hp 0 []) (.k0 [] [] [0, 4]) ?_
  refine .then ?_
  refine .rK ?_
  refine .ghs (fr 19 [(0, (Sl.v 1 s0)), (4, (zI x0)), (10, (zB (nt (ieq x0 (0 : Int)))))]) (hp 0 []) (.k0 [] [] [0, 4, 10]) ?_
  replace hm := bb_cases hm; rcases hm with ⟨h1, hm⟩ | ⟨h1, hm⟩
  · refine .ifT (nt (ieq x0 (0 : Int))) (by kernel_rfl) h1 ?_
    refine .then ?_
    refine .rK ?_
    refine .ghs (fr 19 [(2, (zI (0 : Int))), (3, (zI x0))]) (hp 0 []) (.k0 [] [] [2, 3]) ?_
    refine .ret ?_
    exact fin_ret (.tuple ⟨[(zI (0 : Int)), (zI x0)]⟩) (by kernel_rfl) (by kernel_rfl) hm
  · refine .ifF (nt (ieq x0 (0 : Int))) (by kernel_rfl) h1 ?_
    refine .skip ?_
    refine .ghs (fr 19 [(0, (Sl.v 1 s0))]) (hp 0 []) (.k0 [] [] [0]) ?_
    refine .then ?_
    replace hm := oo_inv hm; obtain ⟨v1, h2, hm⟩ := hm
    replace hm := inv_vAgg hm; obtain ⟨q0, rfl, hm⟩ := hm
    replace hm := bb_inv hm; obtain ⟨h3, hm⟩ := hm
    replace hm := oo_inv hm; obtain ⟨v2, h4, hm⟩ := hm
    replace hm := inv_vTup hm; obtain ⟨l0, rfl, hm⟩ := hm
    replace hm := ll_uncons hm; obtain ⟨v3, l365_0, rfl, hm⟩ := hm
    replace hm := ll_uncons hm; obtain ⟨v4, l365_1, rfl, hm⟩ := hm
    replace hm := ll_end hm; obtain ⟨rfl, hm⟩ := hm
    replace hm := inv_toI hm; obtain ⟨x1, rfl, hm⟩ := hm
    replace hm := inv_vAgg hm; obtain ⟨q1, rfl, hm⟩ := hm
    replace hm := bb_inv hm; obtain ⟨h5, hm⟩ := hm
    replace hm := bb_inv hm; obtain ⟨h6, hm⟩ := hm
    replace hm := bb_inv hm; obtain ⟨h7, hm⟩ := hm
    replace hm := bb_inv hm; obtain ⟨h8, hm⟩ := hm
    refine .reg (eC 1 ((oo (pu 27 [(Sl.v 1 s0)]) none fun v => some (v, (hp 0 [])))) (call_eq h2) (eD (bb (allL closed2 [(.agg ⟨q0⟩)]) (oo (pu 36 [(.agg ⟨q0⟩)]) none fun v => some (v, (hp 0 []))) (oo (mapO (purify (hp 0 [])) [(.agg ⟨q0⟩)]) none fun l1 => oo (pu 36 l1) none fun v => bb (plainT v) (some (v, (hp 0 []))) none)) (callc_eq h6 h4) (eC 5 (done (bb (Nat.beq (len q1) 22) (bb (an (Nat.ble (0 + len q1) (len zA48)) (allL scalarB q1)) (some (hp 1 [(oC (setL q1 0 zA48))])) none) none) undef) (done_bb2 h7 h8) (eE)))) ?_
    refine .ghs (fr 19 [(5, (zI x1))]) (hp 0 []) (.k0 [] [] [5]) ?_
    refine .then ?_
    refine .rK ?_
    refine .ghs (fr 19 [(2, (zI x1)), (3, (zI (0 : Int)))]) (hp 0 []) (.k0 [] [] [2, 3]) ?_
    refine .ret ?_
    exact fin_ret (.tuple ⟨[(zI x1), (zI (0 : Int))]⟩) (by kernel_rfl) (by kernel_rfl) hm

def m13_ (pu : PureF) (n : Nat) (s0 : Sl) : Option Value :=
  (oo (pu 29 [(Sl.v 1 s0)]) none fun v0 => (oo (toI .i64 v0) none fun x0 => (bb (nt (ieq x0 (0 : Int))) (some (.tuple ⟨[(.int .i64 (0 : Int)), (.int .i64 x0)]⟩)) (oo (pu 37 [(Sl.v 1 s0)]) none fun v1 => (oo (vTup v1) none fun l0 => (ll l0 none fun v2 l0 => (ll l0 none fun v3 l0 => (ll l0 (oo (toI .i64 v2) none fun x1 => (oo (toSl 1 v3) none fun s1 => (some (.tuple ⟨[(.int .i64 x1), (.int .i64 (0 : Int))]⟩)))) fun _ _ => none))))))))
def m13 (pu : PureF) (n : Nat) (args : List Value) : Option Value :=
  (ll args none fun a0 args => (ll args (oo (toSl 1 a0) none fun s0 => (m13_ pu n s0)) fun _ _ => none))
theorem r13 {call : CallF} (pu : PureF) (n : Nat) (hcall : call = callP tabs isP pu (inl pu)) {args : List Value} {v : Value} (hm : m13 pu n args = some v) (_ : ∀ x ∈ args, closed2 x = true) : args.length ≤ 18 ∧ Run tt call 0 c13_13 (Fr.made 18 args) (pureHeap tabs) (Fin tt 0 [.tmp 2, .tmp 3] v) := by
  subst hcall
  unfold m13 at hm
  replace hm := ll_uncons hm; obtain ⟨a0, args_0, rfl, hm⟩ := hm
  replace hm := ll_end hm; obtain ⟨rfl, hm⟩ := hm
  replace hm := inv_toSl hm; obtain ⟨s0, rfl, hm⟩ := hm
  unfold m13_ at hm
  refine ⟨by simp, ?_⟩
  refine .same (F' := (fr 18 [(0, (Sl.v 1 s0))])) (H' := (hp 0 [])) (by kernel_rfl) (by kernel_rfl) ?_
  refine .then ?_
  refine .rK ?_
  refine .ghs (fr 18 [(0, (Sl.v 1 s0))]) (hp 0 []) (.k0 [] [] [0]) ?_
  refine .then ?_
  replace hm := oo_inv hm; obtain ⟨v0, h0, hm⟩ := hm
  replace hm := inv_toI hm; obtain ⟨x0, rfl, hm⟩ := hm
  refine .reg (eC 1 ((oo (pu 29 [(Sl.v 1 s0)]) none fun v => some (v, (hp 0 [])))) (call_eq h0) (eE)) ?_
  refine .ghs (fr 18 [(0, (Sl.v 1 s0)), (4, (zI x0))]) (hp 0 []) (.k0 [] [] [0, 4]) ?_
  refine .then ?_
  refine .then ?_
  refine .rK ?_
  refine .ghs (fr 18 [(0, (Sl.v 1 s0)), (4, (zI x0)), (10, (zB (nt (ieq x0 (0 : Int)))))]) (hp 0 []) (.k0 [] [] [0, 4, 10]) ?_
  replace hm := bb_cases hm; rcases hm with ⟨h1, hm⟩ | ⟨h1, hm⟩
  · refine .ifT (nt (ieq x0 (0 : Int))) (by kernel_rfl) h1 ?_
    refine .then ?_
    refine .rK ?_
    refine .ghs (fr 18 [(2, (zI (0 : Int))), (3, (zI x0))]) (hp 0 []) (.k0 [] [] [2, 3]) ?_
    refine .ret ?_
    exact fin_ret (.tuple ⟨[(zI (0 : Int)), (zI x0)]⟩) (by kernel_rfl) (by kernel_rfl) hm
  · refine .ifF (nt (ieq x0 (0 : Int))) (by kernel_rfl) h1 ?_
    refine .skip ?_
    refine .ghs (fr 18 [(0, (Sl.v 1 s0))]) (hp 0 []) (.k0 [] [] [0]) ?_
    refine .then ?_
    replace hm := oo_inv hm; obtain ⟨v1, h2, hm⟩ := hm
    replace hm := inv_vTup hm; obtain ⟨l0, rfl, hm⟩ := hm
    replace hm := ll_uncons hm; obtain ⟨v2, l400_0, rfl, hm⟩ := hm
    replace hm := ll_uncons hm; obtain ⟨v3, l400_1, rfl, hm⟩ := hm
    replace hm := ll_end hm; obtain ⟨rfl, hm⟩ := hm
    replace hm := inv_toI hm; obtain ⟨x1, rfl, hm⟩ := hm
    replace hm := inv_toSl hm; obtain ⟨s1, rfl, hm⟩ := hm
    refine .reg (eC 1 ((oo (pu 37 [(Sl.v 1 s0)]) none fun v => some (v, (hp 0 [])))) (call_eq h2) (eE)) ?_
    refine .ghs (fr 18 [(5, (zI x1))]) (hp 0 []) (.k0 [] [] [5]) ?_
    refine .then ?_
    refine .rK ?_
    refine .ghs (fr 18 [(2, (zI x1)), (3, (zI (0 : Int)))]) (hp 0 []) (.k0 [] [] [2, 3]) ?_
    refine .ret ?_
    exact fin_ret (.tuple ⟨[(zI x1), (zI (0 : Int))]⟩) (by kernel_rfl) (by kernel_rfl) hm

def m14_ (pu : PureF) (n : Nat) (s0 : Sl) : Option Value :=
  (oo (pu 26 [(Sl.v 1 s0)]) none fun v0 => (oo (toI .i64 v0) none fun x0 => (bb (nt (ieq x0 (0 : Int))) (some (.tuple ⟨[(Sl.v 1 (Sl.mk 0 2 [])), (.int .i64 x0)]⟩)) (oo (pu 27 [(Sl.v 1 s0)]) none fun v1 => (oo (vAgg v1) none fun q0 => (bb (an (Nat.beq (len q0) 22) (allL closed1 q0)) (oo (pu 38 [(.agg ⟨q0⟩)]) none fun v2 => (oo (toSl 1 v2) none fun s1 => (bb (allL closed2 [(.agg ⟨q0⟩)]) (some (.tuple ⟨[(Sl.v 1 s1), (.int .i64 (0 : Int))]⟩)) none))) none))))))
def m14 (pu : PureF) (n : Nat) (args : List Value) : Option Value :=
  (ll args none fun a0 args => (ll args (oo (toSl 1 a0) none fun s0 => (m14_ pu n s0)) fun _ _ => none))
theorem r14 {call : CallF} (pu : PureF) (n : Nat) (hcall : call = callP tabs isP pu (inl pu)) {args : List Value} {v : Value} (hm : m14 pu n args = some v) (_ : ∀ x ∈ args, closed2 x = true) : args.length ≤ 13 ∧ Run tt call 0 c14_11 (Fr.made 13 args) (pureHeap tabs) (Fin tt 0 [.tmp 2, .tmp 3] v) := by
  subst hcall
  unfold m14 at hm
  replace hm := ll_uncons hm; obtain ⟨a0, args_0, rfl, hm⟩ := hm
  replace hm := ll_end hm; obtain ⟨rfl, hm⟩ := hm
  replace hm := inv_toSl hm; obtain ⟨s0, rfl, hm⟩ := hm
  unfold m14_ at hm
  refine ⟨by simp, ?_⟩
  refine .same (F' := (fr 13 [(0, (Sl.v 1 s0))])) (H' := (hp 0 [])) (by kernel_rfl) (by kernel_rfl) ?_
  refine .then ?_
  refine .rK ?_
  refine .ghs (fr 13 [(0, (Sl.v 1 s0))]) (hp 0 []) (.k0 [] [] [0]) ?_
  refine .then ?_
  refine .then ?_
  replace hm := oo_inv hm; obtain ⟨v0, h0, hm⟩ := hm
  replace hm := inv_toI hm; obtain ⟨x0, rfl, hm⟩ := hm
  refine .reg (eC 1 ((oo (pu 26 [(Sl.v 1 s0)]) none fun v => some (v, (hp 0 [])))) (call_eq h0) (eE)) ?_
  refine .ghs (fr 13 [(0, (Sl.v 1 s0)), (4, (zI x0))]) (hp 0 []) (.k0 [] [] [0, 4]) ?_
  refine .then ?_
  refine .rK ?_
  refine .ghs (fr 13 [(0, (Sl.v 1 s0)), (4, (zI x0)), (8, (zB (nt (ieq x0 (0 : Int)))))]) (hp 0 []) (.k0 [] [] [0, 4, 8]) ?_
  replace hm := bb_cases hm; rcases hm with ⟨h1, hm⟩ | ⟨h1, hm⟩
  · refine .ifT (nt (ieq x0 (0 : Int))) (by kernel_rfl) h1 ?_
    refine .then ?_
    refine .rK ?_
    refine .ghs (fr 13 [(2, (.slice none 0 0)), (3, (zI x0))]) (hp 0 []) (.k0 [] [] [2, 3]) ?_
    refine .ghs (Fr.puts (fr 13 [(2, (.slice none 0 0)), (3, (zI x0))]) [(2, (Sl.v 1 (Sl.mk 0 2 [])))]) (hp 0 []) (.freeze 0 2 1 (by kernel_rfl) (by kernel_rfl) (GhS.id _ _)) ?_
    refine .ret ?_
    exact fin_ret (.tuple ⟨[(Sl.v 1 (Sl.mk 0 2 [])), (zI x0)]⟩) (by kernel_rfl) (by kernel_rfl) hm
  · refine .ifF (nt (ieq x0 (0 : Int))) (by kernel_rfl) h1 ?_
    refine .skip ?_
    refine .ghs (fr 13 [(0, (Sl.v 1 s0))]) (hp 0 []) (.k0 [] [] [0]) ?_
    refine .then ?_
    replace hm := oo_inv hm; obtain ⟨v1, h2, hm⟩ := hm
    replace hm := inv_vAgg hm; obtain ⟨q0, rfl, hm⟩ := hm
    replace hm := bb_inv hm; obtain ⟨h3, hm⟩ := hm
    replace hm := oo_inv hm; obtain ⟨v2, h4, hm⟩ := hm
    replace hm := inv_toSl hm; obtain ⟨s1, rfl, hm⟩ := hm
    replace hm := bb_inv hm; obtain ⟨h5, hm⟩ := hm
    refine .reg (eC 1 ((oo (pu 27 [(Sl.v 1 s0)]) none fun v => some (v, (hp 0 [])))) (call_eq h2) (eD (bb (allL closed2 [(.agg ⟨q0⟩)]) (oo (pu 38 [(.agg ⟨q0⟩)]) none fun v => some (v, (hp 0 []))) (oo (mapO (purify (hp 0 [])) [(.agg ⟨q0⟩)]) none fun l1 => oo (pu 38 l1) none fun v => bb (plainT v) (some (v, (hp 0 []))) none)) (callc_eq h5 h4) (eE))) ?_
    refine .ghs (fr 13 [(2, (Sl.v 1 s1)), (3, (zI (0 : Int)))]) (hp 0 []) (.k0 [] [] [2, 3]) ?_
    refine .ret ?_
    exact fin_ret (.tuple ⟨[(Sl.v 1 s1), (zI (0 : Int))]⟩) (by kernel_rfl) (by kernel_rfl) hm

def m15_ (pu : PureF) (n : Nat) (s0 : Sl) : Option Value :=
  (oo (pu 29 [(Sl.v 1 s0)]) none fun v0 => (oo (toI .i64 v0) none fun x0 => (bb (nt (ieq x0 (0 : Int))) (some (.tuple ⟨[(Sl.v 1 (Sl.mk 0 2 [])), (.int .i64 x0)]⟩)) (oo (pu 39 [(Sl.v 1 s0)]) none fun v1 => (oo (toSl 1 v1) none fun s1 => (some (.tuple ⟨[(Sl.v 1 s1), (.int .i64 (0 : Int))]⟩)))))))
def m15 (pu : PureF) (n : Nat) (args : List Value) : Option Value :=
  (ll args none fun a0 args => (ll args (oo (toSl 1 a0) none fun s0 => (m15_ pu n s0)) fun _ _ => none))
theorem r15 {call : CallF} (pu : PureF) (n : Nat) (hcall : call = callP tabs isP pu (inl pu)) {args : List Value} {v : Value} (hm : m15 pu n args = some v) (_ : ∀ x ∈ args, closed2 x = true) : args.length ≤ 12 ∧ Run tt call 0 c15_11 (Fr.made 12 args) (pureHeap tabs) (Fin tt 0 [.tmp 2, .tmp 3] v) := by
  subst hcall
  unfold m15 at hm
  replace hm := ll_uncons hm; obtain ⟨a0, args_0, rfl, hm⟩ := hm
  replace hm := ll_end hm; obtain ⟨rfl, hm⟩ := hm
  replace hm := inv_toSl hm; obtain ⟨s0, rfl, hm⟩ := hm
  unfold m15_ at hm
  refine ⟨by simp, ?_⟩
  refine .same (F' := (fr 12 [(0, (Sl.v 1 s0))])) (H' := (hp 0 [])) (by kernel_rfl) (by kernel_rfl) ?_
  refine .then ?_
  refine .rK ?_
  refine .ghs (fr 12 [(0, (Sl.v 1 s0))]) (hp 0 []) (.k0 [] [] [0]) ?_
  refine .then ?_
  replace hm := oo_inv hm; obtain ⟨v0, h0, hm⟩ := hm
  replace hm := inv_toI hm; obtain ⟨x0, rfl, hm⟩ := hm
  refine .reg (eC 1 ((oo (pu 29 [(Sl.v 1 s0)]) none fun v => some (v, (hp 0 [])))) (call_eq h0) (eE)) ?_
  refine .ghs (fr 12 [(0, (Sl.v 1 s0)), (4, (zI x0))]) (hp 0 []) (.k0 [] [] [0, 4]) ?_
  refine .then ?_
  refine .then ?_
  refine .rK ?_
  refine .ghs (fr 12 [(0, (Sl.v 1 s0)), (4, (zI x0)), (8, (zB (nt (ieq x0 (0 : Int)))))]) (hp 0 []) (.k0 [] [] [0, 4, 8]) ?_
  replace hm := bb_cases hm; rcases hm with ⟨h1, hm⟩ | ⟨h1, hm⟩
  · refine .ifT (nt (ieq x0 (0 : Int))) (by kernel_rfl) h1 ?_
    refine .then ?_
    refine .rK ?_
    refine .ghs (fr 12 [(2, (.slice none 0 0)), (3, (zI x0))]) (hp 0 []) (.k0 [] [] [2, 3]) ?_
    refine .ghs (Fr.puts (fr 12 [(2, (.slice none 0 0)), (3, (zI x0))]) [(2, (Sl.v 1 (Sl.mk 0 2 [])))]) (hp 0 []) (.freeze 0 2 1 (by kernel_rfl) (by kernel_rfl) (GhS.id _ _)) ?_
    refine .ret ?_
    exact fin_ret (.tuple ⟨[(Sl.v 1 (Sl.mk 0 2 [])), (zI x0)]⟩) (by kernel_rfl) (by kernel_rfl) hm
  · refine .ifF (nt (ieq x0 (0 : Int))) (by kernel_rfl) h1 ?_
    refine .skip ?_
    refine .ghs (fr 12 [(0, (Sl.v 1 s0))]) (hp 0 []) (.k0 [] [] [0]) ?_
    refine .then ?_
    replace hm := oo_inv hm; obtain ⟨v1, h2, hm⟩ := hm
    replace hm := inv_toSl hm; obtain ⟨s1, rfl, hm⟩ := hm
    refine .reg (eC 1 ((oo (pu 39 [(Sl.v 1 s0)]) none fun v => some (v, (hp 0 [])))) (call_eq h2) (eE)) ?_
    refine .ghs (fr 12 [(2, (Sl.v 1 s1)), (3, (zI (0 : Int)))]) (hp 0 []) (.k0 [] [] [2, 3]) ?_
    refine .ret ?_
    exact fin_ret (.tuple ⟨[(Sl.v 1 s1), (zI (0 : Int))]⟩) (by kernel_rfl) (by kernel_rfl) hm
def m24_0 (pu : PureF) (n : Nat) : Option Value :=
  (some (.bool true))
def b24_1 (pu : PureF) (n : Nat) (ih0 : Sl → Sl → Int → Option Value) (s0 : Sl) (s1 : Sl) (z0 : Int) : Option Value :=
  (bb (ilt z0 (Int.ofNat (Sl.n s0))) (oo (toN z0) none fun k1 => (bb (an (Nat.blt k1 (Sl.n s0)) true) (oo (nthL (Sl.cs s0) (k1 * 1)) none fun v0 => (oo (toI .i64 v0) none fun x0 => (bb (an (Nat.blt k1 (Sl.n s1)) true) (oo (nthL (Sl.cs s1) (k1 * 1)) none fun v1 => (oo (toI .i64 v1) none fun x1 => (bb (nt (ieq x0 x1)) (some (.bool false)) (ih0 s0 s1 (wrapF .i64 (Int.add (Int.ofNat k1) (1 : Int))))))) none))) none)) (m24_0 pu n))
def l24_1 (pu : PureF) (n : Nat) (w : Nat) : Sl → Sl → Int → Option Value :=
  Nat.rec (motive := fun _ => Sl → Sl → Int → Option Value) (fun _ _ _ => none) (fun _ ih0 => b24_1 pu n ih0) w
def m24_ (pu : PureF) (n : Nat) (s0 : Sl) (s1 : Sl) : Option Value :=
  (bb (nt (ieq (Int.ofNat (Sl.n s0)) (Int.ofNat (Sl.n s1)))) (some (.bool false)) (l24_1 pu n n s0 s1 (0 : Int)))
def m24 (pu : PureF) (n : Nat) (args : List Value) : Option Value :=
  (ll args none fun a0 args => (ll args none fun a1 args => (ll args (oo (toSl 1 a0) none fun s0 => (oo (toSl 1 a1) none fun s1 => (m24_ pu n s0 s1))) fun _ _ => none)))
theorem w24_0 (pu : PureF) (n : Nat) {v : Value} (hm : m24_0 pu n = some v) : Run tt (callP tabs isP pu (inl pu)) 0 c24_23 (fr 26 []) (hp 0 []) (Fin tt 0 [.tmp 4] v) := by
  unfold m24_0 at hm
  refine .then ?_
  refine .rK ?_
  refine .ghs (fr 26 [(4, (zB true))]) (hp 0 []) (.k0 [] [] [4]) ?_
  refine .ret ?_
  exact fin_ret (zB true) (by kernel_rfl) (by kernel_rfl) hm
theorem r24 {call : CallF} (pu : PureF) (n : Nat) (hcall : call = callP tabs isP pu (inl pu)) {args : List Value} {v : Value} (hm : m24 pu n args = some v) (_ : ∀ x ∈ args, closed2 x = true) : args.length ≤ 26 ∧ Run tt call 0 c24_26 (Fr.made 26 args) (pureHeap tabs) (Fin tt 0 [.tmp 4] v) := by
  subst hcall
  unfold m24 at hm
  replace hm := ll_uncons hm; obtain ⟨a0, args_0, rfl, hm⟩ := hm
  replace hm := ll_uncons hm; obtain ⟨a1, args_1, rfl, hm⟩ := hm
  replace hm := ll_end hm; obtain ⟨rfl, hm⟩ := hm
  replace hm := inv_toSl hm; obtain ⟨s0, rfl, hm⟩ := hm
  replace hm := inv_toSl hm; obtain ⟨s1, rfl, hm⟩ := hm
  unfold m24_ at hm
  refine ⟨by simp, ?_⟩
  refine .same (F' := (fr 26 [(0, (Sl.v 1 s0)), (1, (Sl.v 1 s1))])) (H' := (hp 0 [])) (by kernel_rfl) (by kernel_rfl) ?_
  refine .then ?_
  refine .rK ?_
  refine .ghs (fr 26 [(0, (Sl.v 1 s0)), (1, (Sl.v 1 s1))]) (hp 0 []) (.k0 [] [] [0, 1]) ?_
  refine .then ?_
  refine .then ?_
  refine .rK ?_
  refine .ghs (fr 26 [(0, (Sl.v 1 s0)), (1, (Sl.v 1 s1)), (10, (zB (nt (ieq (Int.ofNat (Sl.n s0)) (Int.ofNat (Sl.n s1))))))]) (hp 0 []) (.k0 [] [] [0, 1, 10]) ?_
  replace hm := bb_cases hm; rcases hm with ⟨h0, hm⟩ | ⟨h0, hm⟩
  · refine .ifT (nt (ieq (Int.ofNat (Sl.n s0)) (Int.ofNat (Sl.n s1)))) (by kernel_rfl) h0 ?_
    refine .then ?_
    refine .rK ?_
    refine .ghs (fr 26 [(4, (zB false))]) (hp 0 []) (.k0 [] [] [4]) ?_
    refine .ret ?_
    exact fin_ret (zB false) (by kernel_rfl) (by kernel_rfl) hm
  · refine .ifF (nt (ieq (Int.ofNat (Sl.n s0)) (Int.ofNat (Sl.n s1)))) (by kernel_rfl) h0 ?_
    refine .skip ?_
    refine .ghs (fr 26 [(0, (Sl.v 1 s0)), (1, (Sl.v 1 s1))]) (hp 0 []) (.k0 [] [] [0, 1]) ?_
    refine .join (v := v) (fun y : Unit => ((fr 26 []), (hp 0 []))) (fun y => m24_0 pu n) ?_ ?_
    · rintro _ hm
      exact w24_0 pu n hm
    · refine .then ?_
      refine .rK ?_
      refine .ghs (fr 26 [(0, (Sl.v 1 s0)), (1, (Sl.v 1 s1)), (5, (zI (0 : Int)))]) (hp 0 []) (.k0 [] [] [0, 1, 5]) ?_
      refine .block ?_
      refine .loopM (v := v) (fun y : Sl × Sl × Int => ((fr 26 [(0, (Sl.v 1 y.1)), (1, (Sl.v 1 y.2.1)), (5, (zI y.2.2))]), (hp 0 []))) (fun w y => l24_1 pu n w y.1 y.2.1 y.2.2) n ⟨(s0, s1, (0 : Int)), hm, (.k0 [] [] [0, 1, 5])⟩ (fun _ => rfl) ?_
      rintro w0 ⟨s2, s3, z0⟩ hm
      replace hm : b24_1 pu n (l24_1 pu n w0) s2 s3 z0 = some v := hm
      unfold b24_1 at hm
      refine .then ?_
      refine .then ?_
      refine .rK ?_
      refine .ghs (fr 26 [(0, (Sl.v 1 s2)), (1, (Sl.v 1 s3)), (5, (zI z0)), (14, (zB (ilt z0 (Int.ofNat (Sl.n s2)))))]) (hp 0 []) (.k0 [] [] [0, 1, 5, 14]) ?_
      replace hm := bb_cases hm; rcases hm with ⟨h1, hm⟩ | ⟨h1, hm⟩
      · refine .ifT (ilt z0 (Int.ofNat (Sl.n s2))) (by kernel_rfl) h1 ?_
        refine .skip ?_
        refine .ghs (fr 26 [(0, (Sl.v 1 s2)), (1, (Sl.v 1 s3)), (5, (zI z0))]) (hp 0 []) (.k0 [] [] [0, 1, 5]) ?_
        refine .then ?_
        refine .block ?_
        refine .then ?_
        replace hm := oo_inv hm; obtain ⟨k1, h2, hm⟩ := hm
        obtain rfl := toN_some h2
        replace hm := bb_inv hm; obtain ⟨h3, hm⟩ := hm
        replace hm := oo_inv hm; obtain ⟨v0, h4, hm⟩ := hm
        replace hm := inv_toI hm; obtain ⟨x0, rfl, hm⟩ := hm
        replace hm := bb_inv hm; obtain ⟨h5, hm⟩ := hm
        replace hm := oo_inv hm; obtain ⟨v1, h6, hm⟩ := hm
        replace hm := inv_toI hm; obtain ⟨x1, rfl, hm⟩ := hm
        refine .reg (eC 2 (keep (hp 0 []) (bb (an (Nat.blt k1 (Sl.n s2)) true) (some (fpV (k1 * 1) (Sl.cs s2))) none)) (keep_bb h3) (eD (keep (hp 0 []) (nthL (Sl.cs s2) (k1 * 1))) (keep_eq h4) (eC 2 (keep (hp 0 []) (bb (an (Nat.blt k1 (Sl.n s3)) true) (some (fpV (k1 * 1) (Sl.cs s3))) none)) (keep_bb h5) (eD (keep (hp 0 []) (nthL (Sl.cs s3) (k1 * 1))) (keep_eq h6) (eE))))) ?_
        refine .ghs (fr 26 [(0, (Sl.v 1 s2)), (1, (Sl.v 1 s3)), (5, (zI (Int.ofNat k1))), (25, (zB (nt (ieq x0 x1))))]) (hp 0 []) (.k0 [] [] [0, 1, 5, 25]) ?_
        replace hm := bb_cases hm; rcases hm with ⟨h7, hm⟩ | ⟨h7, hm⟩
        · refine .ifT (nt (ieq x0 x1)) (by kernel_rfl) h7 ?_
          refine .then ?_
          refine .rK ?_
          refine .ghs (fr 26 [(4, (zB false))]) (hp 0 []) (.k0 [] [] [4]) ?_
          refine .ret ?_
          exact fin_ret (zB false) (by kernel_rfl) (by kernel_rfl) hm
        · refine .ifF (nt (ieq x0 x1)) (by kernel_rfl) h7 ?_
          refine .skip ?_
          refine .ghs (fr 26 [(0, (Sl.v 1 s2)), (1, (Sl.v 1 s3)), (5, (zI (Int.ofNat k1)))]) (hp 0 []) (.k0 [] [] [0, 1, 5]) ?_
          refine .rK ?_
          exact ⟨(s2, s3, (wrapF .i64 (Int.add (Int.ofNat k1) (1 : Int)))), hm, (.k0 [] [] [0, 1, 5])⟩
      · refine .ifF (ilt z0 (Int.ofNat (Sl.n s2))) (by kernel_rfl) h1 ?_
        refine .exit ?_
        exact ⟨(), hm, (.k0 [] [] [])⟩
def m26_0 (pu : PureF) (n : Nat) (z0 : Int) : Option Value :=
  (bb (ilt (21 : Int) z0) (some (.int .i64 (3 : Int))) (some (.int .i64 (0 : Int))))
def b26_1 (pu : PureF) (n : Nat) (ih0 : Int → Int → Sl → Int → Int → Option Value) (z0 : Int) (z1 : Int) (s0 : Sl) (z2 : Int) (z3 : Int) : Option Value :=
  (bb (ilt z3 z2) (oo (toN z3) none fun k1 => (bb (an (Nat.blt k1 (Sl.n s0)) true) (oo (nthL (Sl.cs s0) (k1 * 1)) none fun v0 => (oo (toI .i64 v0) none fun x0 => (oo (pu 42 [(.int .i64 (1 : Int)), (.int .i64 x0), (.int .i64 (21 : Int))]) none fun v1 => (oo (vBool v1) none fun b0 => (bb (nt b0) (some (.int .i64 (1 : Int))) (bb (ilt z1 x0) (some (.int .i64 (7 : Int))) (ih0 (bb (ilt (22 : Int) (wrapF .i64 (Int.add z0 x0))) (22 : Int) (wrapF .i64 (Int.add z0 x0))) x0 s0 z2 (wrapF .i64 (Int.add (Int.ofNat k1) (1 : Int)))))))))) none)) (m26_0 pu n z0))
def l26_1 (pu : PureF) (n : Nat) (w : Nat) : Int → Int → Sl → Int → Int → Option Value :=
  Nat.rec (motive := fun _ => Int → Int → Sl → Int → Int → Option Value) (fun _ _ _ _ _ => none) (fun _ ih0 => b26_1 pu n ih0) w
def m26_ (pu : PureF) (n : Nat) (s0 : Sl) : Option Value :=
  (bb (ieq (Int.ofNat (Sl.n s0)) (0 : Int)) (some (.int .i64 (4 : Int))) (l26_1 pu n n (0 : Int) (21 : Int) s0 (Int.ofNat (Sl.n s0)) (0 : Int)))
def m26 (pu : PureF) (n : Nat) (args : List Value) : Option Value :=
  (ll args none fun a0 args => (ll args (oo (toSl 1 a0) none fun s0 => (m26_ pu n s0)) fun _ _ => none))
theorem w26_0 (pu : PureF) (n : Nat) (z0 : Int) {v : Value} (hm : m26_0 pu n z0 = some v) : Run tt (callP tabs isP pu (inl pu)) 0 c26_42 (fr 32 [(3, (zI z0))]) (hp 0 []) (Fin tt 0 [.tmp 2] v) := by
  unfold m26_0 at hm
  refine .then ?_
  refine .then ?_
  refine .rK ?_
  refine .ghs (fr 32 [(31, (zB (ilt (21 : Int) z0)))]) (hp 0 []) (.k0 [] [] [31]) ?_
  replace hm := bb_cases hm; rcases hm with ⟨h0, hm⟩ | ⟨h0, hm⟩
  · refine .ifT (ilt (21 : Int) z0) (by kernel_rfl) h0 ?_
    refine .then ?_
    refine .rK ?_
    refine .ghs (fr 32 [(2, (zI (3 : Int)))]) (hp 0 []) (.k0 [] [] [2]) ?_
    refine .ret ?_
    exact fin_ret (zI (3 : Int)) (by kernel_rfl) (by kernel_rfl) hm
  · refine .ifF (ilt (21 : Int) z0) (by kernel_rfl) h0 ?_
    refine .skip ?_
    refine .ghs (fr 32 []) (hp 0 []) (.k0 [] [] []) ?_
    refine .then ?_
    refine .rK ?_
    refine .ghs (fr 32 [(2, (zI (0 : Int)))]) (hp 0 []) (.k0 [] [] [2]) ?_
    refine .ret ?_
    exact fin_ret (zI (0 : Int)) (by kernel_rfl) (by kernel_rfl) hm
theorem r26 {call : CallF} (pu : PureF) (n : Nat) (hcall : call = callP tabs isP pu (inl pu)) {args : List Value} {v : Value} (hm : m26 pu n args = some v) (_ : ∀ x ∈ args, closed2 x = true) : args.length ≤ 32 ∧ Run tt call 0 c26_46 (Fr.made 32 args) (pureHeap tabs) (Fin tt 0 [.tmp 2] v) := by
  subst hcall
  unfold m26 at hm
  replace hm := ll_uncons hm; obtain ⟨a0, args_0, rfl, hm⟩ := hm
  replace hm := ll_end hm; obtain ⟨rfl, hm⟩ := hm
  replace hm := inv_toSl hm; obtain ⟨s0, rfl, hm⟩ := hm
  unfold m26_ at hm
  refine ⟨by simp, ?_⟩
  refine .same (F' := (fr 32 [(0, (Sl.v 1 s0))])) (H' := (hp 0 [])) (by kernel_rfl) (by kernel_rfl) ?_
  refine .then ?_
  refine .rK ?_
  refine .ghs (fr 32 [(0, (Sl.v 1 s0))]) (hp 0 []) (.k0 [] [] [0]) ?_
  refine .then ?_
  refine .then ?_
  refine .rK ?_
  refine .ghs (fr 32 [(0, (Sl.v 1 s0)), (9, (zB (ieq (Int.ofNat (Sl.n s0)) (0 : Int))))]) (hp 0 []) (.k0 [] [] [0, 9]) ?_
  replace hm := bb_cases hm; rcases hm with ⟨h0, hm⟩ | ⟨h0, hm⟩
  · refine .ifT (ieq (Int.ofNat (Sl.n s0)) (0 : Int)) (by kernel_rfl) h0 ?_
    refine .then ?_
    refine .rK ?_
    refine .ghs (fr 32 [(2, (zI (4 : Int)))]) (hp 0 []) (.k0 [] [] [2]) ?_
    refine .ret ?_
    exact fin_ret (zI (4 : Int)) (by kernel_rfl) (by kernel_rfl) hm
  · refine .ifF (ieq (Int.ofNat (Sl.n s0)) (0 : Int)) (by kernel_rfl) h0 ?_
    refine .skip ?_
    refine .ghs (fr 32 [(0, (Sl.v 1 s0))]) (hp 0 []) (.k0 [] [] [0]) ?_
    refine .then ?_
    refine .rK ?_
    refine .ghs (fr 32 [(0, (Sl.v 1 s0)), (3, (zI (0 : Int))), (4, (zI (21 : Int)))]) (hp 0 []) (.k0 [] [] [0, 3, 4]) ?_
    refine .join (v := v) (fun y : Int => ((fr 32 [(3, (zI y))]), (hp 0 []))) (fun y => m26_0 pu n y) ?_ ?_
    · rintro z0 hm
      exact w26_0 pu n z0 hm
    · refine .then ?_
      refine .rK ?_
      refine .ghs (fr 32 [(3, (zI (0 : Int))), (4, (zI (21 : Int))), (10, (Sl.v 1 s0)), (11, (zI (Int.ofNat (Sl.n s0)))), (12, (zI (0 : Int)))]) (hp 0 []) (.k0 [] [] [3, 4, 10, 11, 12]) ?_
      refine .block ?_
      refine .loopM (v := v) (fun y : Int × Int × Sl × Int × Int => ((fr 32 [(3, (zI y.1)), (4, (zI y.2.1)), (10, (Sl.v 1 y.2.2.1)), (11, (zI y.2.2.2.1)), (12, (zI y.2.2.2.2))]), (hp 0 []))) (fun w y => l26_1 pu n w y.1 y.2.1 y.2.2.1 y.2.2.2.1 y.2.2.2.2) n ⟨((0 : Int), (21 : Int), s0, (Int.ofNat (Sl.n s0)), (0 : Int)), hm, (.k0 [] [] [3, 4, 10, 11, 12])⟩ (fun _ => rfl) ?_
      rintro w0 ⟨z1, z2, s1, z3, z4⟩ hm
      replace hm : b26_1 pu n (l26_1 pu n w0) z1 z2 s1 z3 z4 = some v := hm
      unfold b26_1 at hm
      refine .then ?_
      refine .rK ?_
      refine .ghs (fr 32 [(3, (zI z1)), (4, (zI z2)), (10, (Sl.v 1 s1)), (11, (zI z3)), (12, (zI z4)), (13, (zB (ilt z4 z3)))]) (hp 0 []) (.k0 [] [] [3, 4, 10, 11, 12, 13]) ?_
      refine .then ?_
      replace hm := bb_cases hm; rcases hm with ⟨h1, hm⟩ | ⟨h1, hm⟩
      · refine .ifT (ilt z4 z3) (by kernel_rfl) h1 ?_
        refine .skip ?_
        refine .ghs (fr 32 [(3, (zI z1)), (4, (zI z2)), (10, (Sl.v 1 s1)), (11, (zI z3)), (12, (zI z4))]) (hp 0 []) (.k0 [] [] [3, 4, 10, 11, 12]) ?_
        refine .then ?_
        refine .block ?_
        refine .then ?_
        replace hm := oo_inv hm; obtain ⟨k1, h2, hm⟩ := hm
        obtain rfl := toN_some h2
        replace hm := bb_inv hm; obtain ⟨h3, hm⟩ := hm
        replace hm := oo_inv hm; obtain ⟨v0, h4, hm⟩ := hm
        replace hm := inv_toI hm; obtain ⟨x0, rfl, hm⟩ := hm
        refine .reg (eD (keep (hp 0 []) (bb (an (Nat.blt k1 (Sl.n s1)) true) (some (fpV (k1 * 1) (Sl.cs s1))) none)) (keep_bb h3) (eD (keep (hp 0 []) (nthL (Sl.cs s1) (k1 * 1))) (keep_eq h4) (eE))) ?_
        refine .ghs (fr 32 [(3, (zI z1)), (4, (zI z2)), (6, (zI x0)), (10, (Sl.v 1 s1)), (11, (zI z3)), (12, (zI (Int.ofNat k1)))]) (hp 0 []) (.k0 [] [] [3, 4, 6, 10, 11, 12]) ?_
        refine .then ?_
        refine .block ?_
        refine .then ?_
        replace hm := oo_inv hm; obtain ⟨v1, h5, hm⟩ := hm
        replace hm := inv_vBool hm; obtain ⟨b0, rfl, hm⟩ := hm
        refine .reg (eC 1 ((oo (pu 42 [(zI (1 : Int)), (zI x0), (zI (21 : Int))]) none fun v => some (v, (hp 0 [])))) (call_eq h5) (eE)) ?_
        refine .ghs (fr 32 [(3, (zI z1)), (4, (zI z2)), (6, (zI x0)), (10, (Sl.v 1 s1)), (11, (zI z3)), (12, (zI (Int.ofNat k1))), (16, (zB (nt b0)))]) (hp 0 []) (.k0 [] [] [3, 4, 6, 10, 11, 12, 16]) ?_
        replace hm := bb_cases hm; rcases hm with ⟨h6, hm⟩ | ⟨h6, hm⟩
        · refine .ifT (nt b0) (by kernel_rfl) h6 ?_
          refine .then ?_
          refine .rK ?_
          refine .ghs (fr 32 [(2, (zI (1 : Int)))]) (hp 0 []) (.k0 [] [] [2]) ?_
          refine .ret ?_
          exact fin_ret (zI (1 : Int)) (by kernel_rfl) (by kernel_rfl) hm
        · refine .ifF (nt b0) (by kernel_rfl) h6 ?_
          refine .then ?_
          refine .rK ?_
          refine .ghs (fr 32 [(3, (zI z1)), (6, (zI x0)), (10, (Sl.v 1 s1)), (11, (zI z3)), (12, (zI (Int.ofNat k1))), (20, (zB (ilt z2 x0)))]) (hp 0 []) (.k0 [] [] [3, 6, 10, 11, 12, 20]) ?_
          replace hm := bb_cases hm; rcases hm with ⟨h7, hm⟩ | ⟨h7, hm⟩
          · refine .ifT (ilt z2 x0) (by kernel_rfl) h7 ?_
            refine .then ?_
            refine .rK ?_
            refine .ghs (fr 32 [(2, (zI (7 : Int)))]) (hp 0 []) (.k0 [] [] [2]) ?_
            refine .ret ?_
            exact fin_ret (zI (7 : Int)) (by kernel_rfl) (by kernel_rfl) hm
          · refine .ifF (ilt z2 x0) (by kernel_rfl) h7 ?_
            refine .skip ?_
            refine .ghs (fr 32 [(3, (zI z1)), (6, (zI x0)), (10, (Sl.v 1 s1)), (11, (zI z3)), (12, (zI (Int.ofNat k1)))]) (hp 0 []) (.k0 [] [] [3, 6, 10, 11, 12]) ?_
            refine .then ?_
            refine .rK ?_
            refine .ghs (fr 32 [(3, (zI z1)), (4, (zI x0)), (6, (zI x0)), (10, (Sl.v 1 s1)), (11, (zI z3)), (12, (zI (Int.ofNat k1)))]) (hp 0 []) (.k0 [] [] [3, 4, 6, 10, 11, 12]) ?_
            refine .rK ?_
            refine .ghs (fr 32 [(3, (zI (bb (ilt (22 : Int) (wrapF .i64 (Int.add z1 x0))) (22 : Int) (wrapF .i64 (Int.add z1 x0))))), (4, (zI x0)), (10, (Sl.v 1 s1)), (11, (zI z3)), (12, (zI (Int.ofNat k1)))]) (hp 0 []) (.k0 [] [] [3, 4, 10, 11, 12]) ?_
            refine .rK ?_
            exact ⟨((bb (ilt (22 : Int) (wrapF .i64 (Int.add z1 x0))) (22 : Int) (wrapF .i64 (Int.add z1 x0))), x0, s1, z3, (wrapF .i64 (Int.add (Int.ofNat k1) (1 : Int)))), hm, (.k0 [] [] [3, 4, 10, 11, 12])⟩
      · refine .ifF (ilt z4 z3) (by kernel_rfl) h1 ?_
        refine .exit ?_
        exact ⟨z1, hm, (.k0 [] [] [3])⟩
end
end Go.HpQM
